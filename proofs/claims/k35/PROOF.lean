import PyProof.Rows.All
import Wide.All
import OpenK.AllK
import Wide.FinOn
import KE.KStateDown
import Lean
import HandS.Conv
import HandS.Deep
import HandS.Defaults
import HandS.Dict
import HandS.EndBits
import HandS.ForMost
import HandS.Gcd
import HandS.HeadHook1
import HandS.HeadHook2
import HandS.HeadHook3
import HandS.HeadHook4
import HandS.IsInst
import HandS.Iter
import HandS.List
import HandS.More
import HandS.RaiseMore
import HandS.SetFor
import HandS.SetIn
import HandS.SortInts
import HandS.SortRule
import HandS.Star
import HandS.Style
import HandS.TupAny
import HandS.TupMul
import HandS.TupSets
import HandS.Zip
import KE.DataCmp
import KE.GoesEnum
import KE.GoesMore
import KE.KMathGC
import KE.KRevSl
import KE.SortCalls
import KE.SortData
import PyProof.ReprRoads
import HandS.Head0
import HandS.Head1
import HandS.Head2
import HandS.Head3
import HandS.HeadEnd
import PySem.Challenge.RW_facenumbers_k35_claims_of_m_sequences
set_option Elab.async false
set_option linter.all false
set_option maxRecDepth 100000
set_option maxHeartbeats 0
namespace PZ
open PySem PySem.Spec PyProof.Rows L2
/-! ### tables of up to 306 members -/
/-- within a round each place is come to -/
def Rnd (m : Nat) : Prop := ∀ i j : Nat, i ≤ m → j ≤ m → ∃ k, k ≤ m ∧ lcgI m i k = j
def orb (m : Nat) : Nat → Nat → List Nat
  | 0, _ => []
  | n + 1, x => x :: orb m n ((x * 5 + 1) % (m + 1))
theorem lcg_shift (m i : Nat) : ∀ k, lcgI m ((i * 5 + 1) % (m + 1)) k = lcgI m i (k + 1)
  | 0 => rfl
  | k + 1 => by
    show (lcgI m ((i * 5 + 1) % (m + 1)) k * 5 + 1) % (m + 1) = (lcgI m i (k + 1) * 5 + 1) % (m + 1)
    rw [lcg_shift m i k]
theorem orb_mem (m : Nat) : ∀ (n x j : Nat), j ∈ orb m n x → ∃ k, k < n ∧ lcgI m x k = j
  | 0, _, _, h => by cases h
  | n + 1, x, j, h => by
    rcases List.mem_cons.mp h with e | h
    · exact ⟨0, Nat.succ_pos _, e.symm⟩
    · obtain ⟨k, hk, e⟩ := orb_mem m n _ j h
      exact ⟨k + 1, Nat.succ_lt_succ hk, by rw [← lcg_shift]; exact e⟩
theorem orb_all : ((List.range 512).all fun j => (orb 511 512 0).contains j) = true := by decide +kernel
theorem orb_end : lcgN 511 512 = 0 := by decide +kernel
theorem lcgN_I (m : Nat) : ∀ k, lcgN m k = lcgI m 0 k
  | 0 => rfl
  | k + 1 => by
    show (lcgN m k * 5 + 1) % (m + 1) = (lcgI m 0 k * 5 + 1) % (m + 1)
    rw [lcgN_I m k]
theorem lcgN_per {m : Nat} (h : lcgN m (m + 1) = 0) : ∀ k, lcgN m (m + 1 + k) = lcgN m k
  | 0 => h
  | k + 1 => by
    show (lcgN m (m + 1 + k) * 5 + 1) % (m + 1) = (lcgN m k * 5 + 1) % (m + 1)
    rw [lcgN_per h k]
theorem rnd_of {m : Nat} (h : lcgN m (m + 1) = 0) (al : ∀ j, j ≤ m → ∃ b, b ≤ m ∧ lcgN m b = j) : Rnd m := by
  intro i j hi hj
  obtain ⟨a, ha, ea⟩ := al i hi
  obtain ⟨b, hb, eb⟩ := al j hj
  subst ea
  by_cases c : a ≤ b
  · refine ⟨b - a, by omega, ?_⟩
    have e : a + (b - a) = b := by omega
    rw [lcgN_add, e, eb]
  · refine ⟨m + 1 + b - a, by omega, ?_⟩
    have e : a + (m + 1 + b - a) = m + 1 + b := by omega
    rw [lcgN_add, e, lcgN_per h, eb]
theorem rnd_511 : Rnd 511 := rnd_of orb_end fun j hj => by
  have h := List.all_eq_true.mp orb_all j (List.mem_range.mpr (by omega))
  obtain ⟨k, hk, e⟩ := orb_mem 511 512 0 j (List.contains_iff_mem.mp h)
  exact ⟨k, by omega, by rw [lcgN_I]; exact e⟩
/-- the masks -/
def Msk (m : Nat) : Prop := m = 7 ∨ m = 31 ∨ m = 127 ∨ m = 511
theorem Msk.rnd {m : Nat} (h : Msk m) : Rnd m := by
  rcases h with e | e | e | e
  · subst e; exact fun i j hi hj => lcgI_all (.inl rfl) hi hj
  · subst e; exact fun i j hi hj => lcgI_all (.inr (.inl rfl)) hi hj
  · subst e; exact fun i j hi hj => lcgI_all (.inr (.inr rfl)) hi hj
  · subst e; exact rnd_511
theorem Msk.odd {m : Nat} (h : Msk m) : m % 2 = 1 := by rcases h with e | e | e | e <;> (subst e; rfl)
theorem way_in (m : Nat) (h : Int) (k : Nat) : way m h k ≤ m := by
  have b : SetTable.bits h % (m + 1) ≤ m := Nat.le_of_lt_succ (Nat.mod_lt _ (Nat.succ_pos m))
  have e := runEnd_bd b
  have q := nth_in (m := m) k (runAt m (SetTable.bits h % (m + 1)) (SetTable.bits h)) (show SetTable.bits h % (m + 1) + (SetTable.runEnd m (SetTable.bits h % (m + 1)) - SetTable.bits h % (m + 1)) ≤ m by omega)
  show (nth m (runAt m (SetTable.bits h % (m + 1)) (SetTable.bits h)) k).j ≤ m
  omega
theorem Rnd.run {m : Nat} (r : Rnd m) (h : Int) {j : Nat} (hj : j ≤ m) : ∃ n, n ≤ m + 12 ∧ runI m (SetTable.bits h) n = j := by
  obtain ⟨k, hk, e⟩ := r _ j (runI_le m (SetTable.bits h) 12) hj
  refine ⟨12 + k, by omega, ?_⟩
  rw [runI_tail (bits_lt h), e]
theorem Rnd.met {m : Nat} (r : Rnd m) (h : Int) {j : Nat} (hj : j ≤ m) : ∃ k, k < 10 * SetTable.turns m ∧ way m h k = j := by
  obtain ⟨n, hn, e⟩ := r.run h hj
  obtain ⟨k, hk, e2⟩ := run_nth m (SetTable.bits h) n
  refine ⟨k, ?_, ?_⟩
  · unfold SetTable.turns; omega
  · show (nth m (runAt m (SetTable.bits h % (m + 1)) (SetTable.bits h)) k).j = j
    rw [e2]; exact e
/-- a table in which all are found from their hashes -/
structure Tb (t : SetTable) (hs : List Int) : Prop where
  ris : Ris t.place.toList
  dm : t.dummies = #[]
  sz : t.place.size = hs.length
  ms : Msk t.mask
  bd : ∀ x ∈ t.place.toList, x ≤ t.mask
  from_ : ∀ (i : Nat) (h : Int) (j : Nat), hs[i]? = some h → t.place.toList[i]? = some j → ∃ k, way t.mask h k = j ∧ ∀ c, c < k → way t.mask h c ∈ t.place.toList
section
variable {t : SetTable} {hs : List Int}
theorem Tb.gap (T : Tb t hs) (hl : hs.length ≤ t.mask) (h : Int) : ∃ K, K < 10 * SetTable.turns t.mask ∧ way t.mask h K ∉ t.place.toList ∧ ∀ c, c < K → way t.mask h c ∈ t.place.toList := by
  obtain ⟨j, hj, hn⟩ := st_missing t.place.toList (t.mask + 1) (by rw [Array.length_toList, T.sz]; omega)
  obtain ⟨k, hk, e⟩ := T.ms.rnd.met h (show j ≤ t.mask by omega)
  obtain ⟨K, h1, h2, h3⟩ := st_least (p := fun k => way t.mask h k ∉ t.place.toList) k (fun z => hn (e ▸ z))
  exact ⟨K, by omega, h2, fun c hc => Classical.byContradiction fun z => h3 c hc z⟩
theorem Tb.ahead (T : Tb t hs) {h : Int} {K i j : Nat} (hK : way t.mask h K ∉ t.place.toList) (hi : hs[i]? = some h) (hj : t.place.toList[i]? = some j) : ∃ k, k < K ∧ way t.mask h k = j := by
  obtain ⟨k, e, b⟩ := T.from_ i h j hi hj
  refine ⟨k, Classical.byContradiction fun z => hK ?_, e⟩
  by_cases q : k = K
  · rw [← q, e]; exact List.mem_of_getElem? hj
  · exact b K (by omega)
theorem Tb.put1 (T : Tb t hs) {h : Int} {K : Nat} (hK : way t.mask h K ∉ t.place.toList) (hb : ∀ c, c < K → way t.mask h c ∈ t.place.toList) :
    ∃ p, p ≤ hs.length ∧ (t.put (way t.mask h K)).2 = p ∧ Tb (t.put (way t.mask h K)).1 (hs.take p ++ h :: hs.drop p) ∧ (t.put (way t.mask h K)).1.mask = t.mask ∧ (t.put (way t.mask h K)).1.plain = t.plain ∧ (t.put (way t.mask h K)).1.fill = hs.length + 1 := by
  have bl : ∀ c, c < K → way t.mask h c ∈ t.place.toList := hb
  have le := way_in t.mask h K
  generalize hw : way t.mask h K = j at hK le ⊢
  have c1 := (below_cut T.ris j).1
  have c2 : SetTable.below t.place j ≤ t.place.toList.length := by rw [Array.length_toList]; exact c1
  have c3 : SetTable.below t.place j ≤ hs.length := by rw [← T.sz]; exact c1
  have lz : t.place.toList.length = hs.length := by rw [Array.length_toList, T.sz]
  have pl := put_place t j
  have sz : (t.put j).1.place.size = hs.length + 1 := by rw [← Array.length_toList, pl, len_ins _ c2, lz]
  have mono : ∀ {x : Nat}, x ∈ t.place.toList → x ∈ (t.put j).1.place.toList := fun z => by rw [pl]; exact mem_ins.mpr (.inr z)
  refine ⟨SetTable.below t.place j, c3, rfl, ⟨ris_insert T.ris fun e => hK (List.mem_of_getElem? (by rw [Array.getElem?_toList]; exact e)), put_dm T.dm j, by rw [len_ins _ c3]; exact sz, T.ms, fun x hx => ?_, fun i h1 j1 e1 e2 => ?_⟩, rfl, rfl, ?_⟩
  · rw [pl] at hx
    rcases mem_ins.mp hx with e | e
    · rw [e]; exact le
    · exact T.bd x e
  · rw [tins_get hs c3] at e1
    rw [pl, tins_get _ c2] at e2
    show ∃ k, way t.mask h1 k = j1 ∧ ∀ c, c < k → way t.mask h1 c ∈ (t.put j).1.place.toList
    split at e1
    · rename_i q
      rw [if_pos q] at e2
      obtain ⟨k, a, b⟩ := T.from_ i h1 j1 e1 e2
      exact ⟨k, a, fun c hc => mono (b c hc)⟩
    · rename_i q
      rw [if_neg q] at e2
      split at e1
      · rename_i q2
        rw [if_pos q2] at e2
        cases e1
        cases e2
        exact ⟨K, hw, fun c hc => mono (bl c hc)⟩
      · rename_i q2
        rw [if_neg q2] at e2
        obtain ⟨k, a, b⟩ := T.from_ (i - 1) h1 j1 e1 e2
        exact ⟨k, a, fun c hc => mono (b c hc)⟩
  · show (t.put j).1.place.size + (t.put j).1.dummies.size = hs.length + 1
    rw [sz, put_dm T.dm j]; rfl
end
/-! ### laying anew -/
theorem Rnd.free {m : Nat} (r : Rnd m) (ow : Array (Option Nat)) (h : Int) {j : Nat} (hj : j ≤ m) (hf : oAt ow j = none) :
    ∃ K, SetTable.layClean.free m ow (SetTable.turns m) (SetTable.bits h % (m + 1)) (SetTable.bits h) = some (way m h K) ∧ oAt ow (way m h K) = none ∧ ∀ c, c < K → oAt ow (way m h c) ≠ none := by
  obtain ⟨n, hn, e⟩ := r.run h hj
  have at_ : way m h (off m (SetTable.bits h % (m + 1)) (SetTable.bits h) n) = j := by
    show (nth m (runAt m (SetTable.bits h % (m + 1)) (SetTable.bits h)) _).j = j
    rw [nth_off, itL_run]; exact e
  obtain ⟨K, k1, k2, k3⟩ := st_least (p := fun k => oAt ow (way m h k) = none) _ (show oAt ow (way m h (off m (SetTable.bits h % (m + 1)) (SetTable.bits h) n)) = none by rw [at_]; exact hf)
  refine ⟨K, free_spec m ow (SetTable.turns m) n _ _ K (by unfold SetTable.turns; omega) k1 (fun c hc => ?_) ?_, k2, k3⟩
  · have q : oAt ow (nth m (runAt m (SetTable.bits h % (m + 1)) (SetTable.bits h)) c).j ≠ none := k3 c hc
    cases z : oAt ow (nth m (runAt m (SetTable.bits h % (m + 1)) (SetTable.bits h)) c).j with
    | none => exact absurd z q
    | some _ => rfl
  · have q : oAt ow (nth m (runAt m (SetTable.bits h % (m + 1)) (SetTable.bits h)) K).j = none := k2
    rw [q]; rfl
theorem own_step {m : Nat} (r : Rnd m) {done : List Int} {ow : Array (Option Nat)} (W : Own m done ow) (hl : done.length ≤ m) (h : Int) :
    ∃ j, SetTable.layClean.free m ow (SetTable.turns m) (SetTable.bits h % (m + 1)) (SetTable.bits h) = some j ∧ Own m (done ++ [h]) (ow.setIfInBounds j (some done.length)) := by
  obtain ⟨ps, p1, p2⟩ := W.ps
  obtain ⟨j0, q1, q2⟩ := st_missing ps (m + 1) (by omega)
  have fr : oAt ow j0 = none := Classical.byContradiction fun z => q2 (p2 j0 (by omega) z)
  obtain ⟨K, e1, e2, e3⟩ := r.free ow h (show j0 ≤ m by omega) fr
  have b := way_in m h K
  generalize hj : way m h K = j at e1 e2 b
  have bs : j < ow.size := by rw [W.sz]; omega
  have here := oAt_set_self (some done.length) bs
  have there : ∀ i, i ≠ j → oAt (ow.setIfInBounds j (some done.length)) i = oAt ow i := fun i hi => oAt_set_ne _ hi
  have mono : ∀ i, oAt ow i ≠ none → oAt (ow.setIfInBounds j (some done.length)) i ≠ none := fun i hi => by
    by_cases c : i = j
    · rw [c, here]; exact fun z => nomatch z
    · rw [there i c]; exact hi
  refine ⟨j, e1, by rw [Array.size_setIfInBounds]; exact W.sz, fun i k hi e => ?_, fun k hk => ?_, j :: ps, by simp [p1], fun i hi e => ?_⟩
  · by_cases c : i = j
    · rw [c, here] at e
      cases e
      exact ⟨h, K, by rw [List.getElem?_append_right (Nat.le_refl _), Nat.sub_self]; rfl, hj.trans c.symm, fun c hc => mono _ (e3 c hc)⟩
    · rw [there i c] at e
      obtain ⟨h1, K1, a1, a2, a3⟩ := W.at_ i k hi e
      exact ⟨h1, K1, by rw [List.getElem?_append_left (List.getElem?_eq_some_iff.mp a1).1]; exact a1, a2, fun c hc => mono _ (a3 c hc)⟩
  · rw [List.length_append, List.length_singleton] at hk
    by_cases c : k = done.length
    · subst c; exact ⟨j, b, here⟩
    · obtain ⟨i, hi, e⟩ := W.all k (by omega)
      exact ⟨i, hi, by rw [there i (fun z => by rw [z, e2] at e; cases e)]; exact e⟩
  · by_cases c : i = j
    · rw [c]; exact List.mem_cons_self
    · rw [there i c] at e
      exact List.mem_cons_of_mem _ (p2 i hi e)
theorem own_fold {m : Nat} (r : Rnd m) : ∀ (more done : List Int) (ow : Array (Option Nat)), Own m done ow → done.length + more.length ≤ m →
    ∃ ow', more.foldl (stepF m) (some (ow, done.length)) = some (ow', (done ++ more).length) ∧ Own m (done ++ more) ow'
  | [], done, ow, W, _ => ⟨ow, by rw [List.append_nil]; rfl, by rw [List.append_nil]; exact W⟩
  | h :: more, done, ow, W, hl => by
    rw [List.length_cons] at hl
    obtain ⟨j, e, W1⟩ := own_step r W (by omega) h
    have l1 : (done ++ [h]).length = done.length + 1 := by simp
    obtain ⟨ow', f, W2⟩ := own_fold r more (done ++ [h]) _ W1 (by omega)
    have ap : (done ++ [h]) ++ more = done ++ h :: more := by simp
    rw [ap, l1] at f
    rw [ap] at W2
    exact ⟨ow', by rw [List.foldl_cons, stepF_some e]; exact f, W2⟩
theorem relaid1 (t : SetTable) {hs : Array Int} {wanted M : Nat} (hw : SetTable.sizeAbove wanted - 1 = M) (hM : Msk M) (hn : hs.size ≤ M) :
    ∃ t1 order, t.relaid hs wanted = some (t1, order) ∧ order.toList.Perm (List.range hs.size) ∧ Tb t1 (order.toList.map fun i => hs.getD i 0) ∧ t1.mask = M ∧ t1.plain = t.plain := by
  obtain ⟨ow, f, W⟩ := own_fold hM.rnd hs.toList [] _ (Own.init M) (by rw [Array.length_toList]; show 0 + hs.size ≤ M; omega)
  rw [List.nil_append] at f W
  have lay : SetTable.layClean M hs = some ow := by
    rw [layClean_eq]
    have f1 : hs.toList.foldl (stepF M) (some (Array.replicate (M + 1) none, 0)) = some (ow, hs.toList.length) := f
    rw [f1]; rfl
  have hr : t.relaid hs wanted = some (tabOf t M ow, ((liveOf M ow).map (·.2)).toArray) := by rw [relaid_eq, hw, lay]; rfl
  have both := ris_live (fun j => ow.getD j none) (List.range (M + 1)) (by unfold Ris; first | exact List.pairwise_lt_range | exact List.pairwise_lt_range _)
  have r1 : Ris ((liveOf M ow).map (·.1)) := both.1
  have r2 : ∀ x ∈ (liveOf M ow).map (·.1), x ∈ List.range (M + 1) := both.2
  have cnt : (liveOf M ow).length = hs.size := by
    obtain ⟨ps, p1, p2⟩ := W.ps
    have nd : ((liveOf M ow).map (·.1)).Nodup := List.Pairwise.imp (fun h => Nat.ne_of_lt h) r1
    have u := nat_nodup_len ((liveOf M ow).map (·.1)) ps nd fun x hx => by
      obtain ⟨⟨y, k⟩, hq, rfl⟩ := List.mem_map.mp hx
      obtain ⟨b1, b2⟩ := (mem_live W.sz).mp hq
      exact p2 y b1 (by rw [b2]; exact fun z => nomatch z)
    have v := nat_nodup_len (List.range hs.size) ((liveOf M ow).map (·.2)) List.nodup_range fun k hk => by
      obtain ⟨j, b1, b2⟩ := W.all k (by rw [Array.length_toList]; exact List.mem_range.mp hk)
      exact List.mem_map.mpr ⟨(j, k), (mem_live W.sz).mpr ⟨b1, b2⟩, rfl⟩
    rw [List.length_map, p1] at u
    rw [List.length_map, List.length_range] at v
    have hz : hs.toList.length = hs.size := rfl
    omega
  refine ⟨_, _, hr, perm_range hs.size _ (by simp [cnt]) fun k hk => ?_, ⟨r1, rfl, ?_, hM, fun x hx => ?_, fun i h j e1 e2 => ?_⟩, rfl, rfl⟩
  · obtain ⟨j, b1, b2⟩ := W.all k (by rw [Array.length_toList]; exact hk)
    exact List.mem_map.mpr ⟨(j, k), (mem_live W.sz).mpr ⟨b1, b2⟩, rfl⟩
  · show ((liveOf M ow).map (·.1)).toArray.size = _
    simp
  · have := List.mem_range.mp (r2 x hx)
    show x ≤ M
    omega
  · have e1 : (((liveOf M ow).map (·.2)).map fun i => hs.getD i 0)[i]? = some h := e1
    have e2 : ((liveOf M ow).map (·.1))[i]? = some j := e2
    rw [List.map_map, List.getElem?_map] at e1
    rw [List.getElem?_map] at e2
    cases q : (liveOf M ow)[i]? with
    | none => rw [q] at e2; cases e2
    | some z =>
      obtain ⟨y, k⟩ := z
      rw [q] at e1 e2
      have e2 : y = j := Option.some.inj e2
      have e1 : hs.getD k 0 = h := Option.some.inj e1
      subst e2
      obtain ⟨b1, b2⟩ := (mem_live W.sz).mp (List.mem_of_getElem? q)
      obtain ⟨h0, K, a1, a2, a3⟩ := W.at_ y k b1 b2
      have e0 : hs.getD k 0 = h0 := by rw [Array.getD_eq_getD_getElem?, ← Array.getElem?_toList, a1]; rfl
      have e3 : h0 = h := e0.symm.trans e1
      subst e3
      refine ⟨K, a2, fun c hc => ?_⟩
      show way M h0 c ∈ (liveOf M ow).map (·.1)
      cases z : oAt ow (way M h0 c) with
      | none => exact absurd z (a3 c hc)
      | some k2 => exact List.mem_map.mpr ⟨(_, k2), (mem_live W.sz).mpr ⟨way_in M h0 c, z⟩, rfl⟩
theorem size_308 : SetTable.sizeAbove (SetTable.grown 77) = 512 := by decide +kernel
end PZ

namespace PZ
open PySem PySem.Spec PyProof.Rows L2
/-- the hash of a tuple of ints -/
def th (k : List Int) : Int := reduceHash (Builtin.Tuple.tupleHashOf (k.map hashInt))
theorem th_eq (P : Program) (w : World) (k : List Int) : thash P w k = th k := rfl
def rws (L : List (Addr × List Int)) : List (Int × Value) := L.map fun p => (th p.2, Value.ref p.1)
theorem rws_eq (P : Program) (w : World) (L : List (Addr × List Int)) : rowsOf P w L = rws L := rfl
/-- the set at a, its members L -/
structure StZ (h : Heap) (a : Addr) (L : List (Addr × List Int)) (es : Array (Int × Value)) (ep : Nat) (t : SetTable) : Prop where
  ob : ∃ o, h.get? a = some o ∧ o.ExactSet ∧ o.data = .set es ep t
  rows : es.toList = rws L
  tab : Tb t (L.map fun p => th p.2)
  nd : (L.map (·.2)).Nodup
  plain : t.plain = true
  room : L.length * 5 < t.mask * 3
  few : L.length ≤ 306
theorem search_more (t : SetTable) (n : Nat) (p : SetTable.Probe) (h : p.dummy = none) : (nth t.mask p n).dummy = none := by
  induction n generalizing p with
  | zero => exact h
  | succ n ih => exact ih _ (by unfold adv; split <;> exact h)
section
variable {P : Program} {w : World} {A : Around} {E : Value → Shared → Prop} {s : Shared} {h h' : Heap} {a : Addr} {L : List (Addr × List Int)} {es : Array (Int × Value)} {ep : Nat} {t : SetTable}
theorem StZ.sz (R : StZ h a L es ep t) : es.size = L.length := by
  have q := congrArg List.length R.rows
  unfold rws at q
  rwa [Array.length_toList, List.length_map] at q
theorem StZ.pz (R : StZ h a L es ep t) : t.place.size = L.length := by have q := R.tab.sz; rwa [List.length_map] at q
theorem StZ.fits (R : StZ h a L es ep t) : t.fits es.size = true := by
  have h1 := R.pz
  have h2 := R.sz
  have h3 := R.room
  unfold SetTable.fits SetTable.fill
  rw [R.tab.dm, Bool.and_eq_true, beq_iff_eq, decide_eq_true_eq]
  refine ⟨by omega, ?_⟩
  show t.place.size + 0 ≤ t.mask
  omega
theorem StZ.at_ (R : StZ h a L es ep t) {i : Nat} {p : Addr × List Int} (e : L[i]? = some p) : es[i]? = some (th p.2, Value.ref p.1) := by
  rw [← Array.getElem?_toList, R.rows]
  unfold rws
  rw [List.getElem?_map, e]; rfl
theorem StZ.keep (R : StZ h a L es ep t) (k : ∀ o, h.get? a = some o → h'.get? a = some o) : StZ h' a L es ep t := by
  obtain ⟨o, e, r⟩ := R.ob
  exact ⟨⟨o, k o e, r⟩, R.rows, R.tab, R.nd, R.plain, R.room, R.few⟩
/-- the start of k's way -/
abbrev st0 (t : SetTable) (k : List Int) : SetTable.Probe := runAt t.mask (SetTable.bits (th k) % (t.mask + 1)) (SetTable.bits (th k))
theorem srch (R : StZ s.heap a L es ep t) (tu : ∀ p ∈ L, IsT P w s.heap p.2 p.1) {x : Addr} {k : List Int} (hx : IsT P w s.heap k x) (hu : A.units < cLine) (ad : Bool) {K : Nat} (hKf : K < 10 * SetTable.turns t.mask)
    (hK : way t.mask (th k) K ∉ t.place.toList) (hKb : ∀ c, c < K → way t.mask (th k) c ∈ t.place.toList) {Q : SetFound → Shared → Prop}
    (hin : ∀ i, k ∈ L.map (·.2) → Q (.there (if ad then none else some i)) s) (hout : k ∉ L.map (·.2) → Q (.free (way t.mask (th k) K) false) s) :
    ∀ (f c : Nat) (stand : Option SetTable.Probe), stand.getD (t.probeStart (th k)) = nth t.mask (st0 t k) c → c ≤ K → K < f + c →
      (∀ (i : Nat) p, L[i]? = some p → p.2 = k → ∃ d, c ≤ d ∧ d < K ∧ t.place.toList[i]? = some (way t.mask (th k) d)) →
      wpAny (model P w) A (setSearchFrom a (.ref x) (th k) ad f stand) Q E s := by
  intro f
  induction f with
  | zero => intro c stand _ h1 h2; omega
  | succ f ih =>
    intro c stand hs hc hf hr
    obtain ⟨o, ho, hex, hd⟩ := R.ob
    have J : ∀ q, (nth t.mask (nth t.mask (st0 t k) c) q).j = way t.mask (th k) (c + q) := fun q => congrArg SetTable.Probe.j (nth_add t.mask c _ q).symm
    have sp := go_spec t R.tab.ris R.tab.dm (fun i => (es[i]?.map (·.1)).getD 0) (th k) (10 * SetTable.turns t.mask) (K - c) (nth t.mask (st0 t k) c) (search_more t c _ rfl) (by omega)
      (fun q hq => by rw [J]; exact hKb _ (by omega)) (by rw [J, show c + (K - c) = K by omega]; exact hK)
    have hv : ∀ (i : Nat) p, L[i]? = some p → (fun i => (es[i]?.map (·.1)).getD 0) i = th p.2 := fun i p e => by
      show (es[i]?.map (·.1)).getD 0 = _
      rw [R.at_ e]; rfl
    rw [setSearchFrom_succ]
    refine wpAny_bind (wpAny_setState_of ho hd R.fits ?_)
    dsimp only
    refine wp_if_neg (by unfold SetTable.gaveWay; rw [R.tab.ms.odd]; decide) ?_
    try refine wpAny_bind (wpAny_pure ?_)
    rcases sp with ⟨q, i, hq, hi, hh, hno, hp⟩ | ⟨hno, hp⟩
    · have hp' : t.probe (fun i => (es[i]?.map (·.1)).getD 0) (th k) (stand.getD (t.probeStart (th k))) = some (.candidate (way t.mask (th k) (c + q)) i (nth t.mask (st0 t k) (c + (q + 1)))) := by
        rw [hs, ← J, nth_add t.mask c _ (q + 1)]
        exact hp
      rw [hp']
      dsimp only
      rw [J] at hi
      have hl : i < L.length := by
        have h1 := (List.getElem?_eq_some_iff.mp hi).1
        have h2 := R.pz
        rw [Array.length_toList] at h1
        omega
      obtain ⟨p, hpe⟩ : ∃ p, L[i]? = some p := ⟨_, List.getElem?_eq_getElem hl⟩
      have hm := List.mem_of_getElem? hpe
      have live := slot_live R.tab.ris hi
      have go : wpAny (model P w) A (searchRest a (.ref x) (th k) ad f es t (way t.mask (th k) (c + q)) i (nth t.mask (st0 t k) (c + (q + 1)))) Q E s := by
        unfold searchRest
        rw [R.at_ hpe]
        dsimp only
        refine wpAny_bind (wpAny_holding (wpAny_eqBool_tuple hu (tu p hm) hx ?_))
        refine wpAny_bind (wpAny_setState_of ho hd R.fits ?_)
        dsimp only
        have still : ∀ (b : Bool), (b = true → k ∈ L.map (·.2)) → (b = false → p.2 ≠ k) → (ad && b) = false → wpAny (model P w) A (do
            let some same := t.sameMemory t.moves t.mask | unsupported "set.changed-during-lookup:is-the-new-block-at-the-old-address"
            let still ← match (if same then t.slot (way t.mask (th k) (c + q)) else .empty) with
              | .live i' => match es[i']? with
                | some (_, y') => do pure (if ← isSame y' (Value.ref p.1) then some i' else none)
                | none => pure none
              | _ => pure none
            match still with
            | none => rule "set.search.anew"; setSearchFrom a (.ref x) (th k) ad f none
            | some i' => if b then return .there (some i') else setSearchFrom a (.ref x) (th k) ad f (some (nth t.mask (st0 t k) (c + (q + 1))))) Q E s := by
          intro b b1 b2 b3
          rw [sameMem]
          dsimp only
          simp only [if_true, live, R.at_ hpe]
          refine wpAny_bind (wpAny_isSame_ref_self (wpAny_bind (wpAny_pure ?_)))
          simp only [if_true]
          cases b with
          | true =>
            have ea : ad = false := by simpa using b3
            subst ea
            exact wp_if_pos rfl (wpAny_pure (hin i (b1 rfl)))
          | false =>
            refine wp_if_neg (by decide) ?_
            refine ih (c + (q + 1)) _ rfl (by omega) (by omega) fun i0 p0 e0 k0 => ?_
            obtain ⟨d, d1, d2, d3⟩ := hr i0 p0 e0 k0
            refine ⟨d, Classical.byContradiction fun z => ?_, d2, d3⟩
            by_cases y : d = c + q
            · subst y
              have l2 := slot_live R.tab.ris d3
              rw [live] at l2
              injection l2 with l2
              subst l2
              rw [hpe] at e0
              cases e0
              exact b2 rfl k0
            · exact hno (d - c) i0 (by omega) (by rw [J, show c + (d - c) = d by omega]; exact d3) ((hv i0 p0 e0).trans (congrArg th k0))
        by_cases kk : p.2 = k
        · cases ad with
          | true => exact wp_if_pos (by simp [kk]) (wpAny_pure (hin i (List.mem_map.mpr ⟨p, hm, kk⟩)))
          | false =>
            refine wp_if_neg (by simp) ?_
            try refine wpAny_bind (wpAny_pure ?_)
            have := still (decide (p.2 = k)) (fun _ => List.mem_map.mpr ⟨p, hm, kk⟩) (fun z => by simp at z; exact z) rfl
            exact this
        · refine wp_if_neg (by simp [kk]) ?_
          try refine wpAny_bind (wpAny_pure ?_)
          have := still (decide (p.2 = k)) (fun z => absurd (of_decide_eq_true z) kk) (fun _ => kk) (by simp [kk])
          exact this
      by_cases ld : t.led = true
      · refine wp_if_neg (by simp [ld]) ?_
        try refine wpAny_bind (wpAny_pure ?_)
        exact go
      · refine wp_if_pos (by simp [ld]) ?_
        refine wpAny_bind (seen_tup hx (fun y hy => ?_) ?_)
        · obtain ⟨e, he, rfl⟩ := List.mem_map.mp hy
          have m2 : e ∈ es.toList := by
            have he : e ∈ es ∧ e.1 = th k := by simpa using he
            simpa using he.1
          rw [R.rows] at m2
          obtain ⟨p2, hp2, rfl⟩ := List.mem_map.mp m2
          exact ⟨p2.2, p2.1, rfl, tu p2 hp2⟩
        · refine wp_if_neg (by decide) ?_
          try refine wpAny_bind (wpAny_pure ?_)
          exact go
    · have hp' : t.probe (fun i => (es[i]?.map (·.1)).getD 0) (th k) (stand.getD (t.probeStart (th k))) = some (.empty (way t.mask (th k) K) none) := by
        have e2 := J (K - c)
        rw [show c + (K - c) = K by omega] at e2
        rw [hs, ← e2]
        exact hp
      rw [hp']
      dsimp only
      refine wpAny_pure (hout fun hm => ?_)
      obtain ⟨p0, m0, k0⟩ := List.mem_map.mp hm
      obtain ⟨i0, l0, e0⟩ := List.getElem_of_mem m0
      have e0 : L[i0]? = some p0 := by rw [List.getElem?_eq_getElem l0, e0]
      obtain ⟨d, d1, d2, d3⟩ := hr i0 p0 e0 k0
      exact hno (d - c) i0 (by omega) (by rw [J, show c + (d - c) = d by omega]; exact d3) ((hv i0 p0 e0).trans (congrArg th k0))
theorem srch0 (R : StZ s.heap a L es ep t) (tu : ∀ p ∈ L, IsT P w s.heap p.2 p.1) {x : Addr} {k : List Int} (hx : IsT P w s.heap k x) (hu : A.units < cLine) (ad : Bool) {Q : SetFound → Shared → Prop}
    (hin : ∀ i, k ∈ L.map (·.2) → Q (.there (if ad then none else some i)) s)
    (hout : ∀ K, k ∉ L.map (·.2) → way t.mask (th k) K ∉ t.place.toList → (∀ c, c < K → way t.mask (th k) c ∈ t.place.toList) → Q (.free (way t.mask (th k) K) false) s) :
    wpAny (model P w) A (setSearch a (.ref x) (th k) ad) Q E s := by
  have h3 := R.room
  obtain ⟨K, k1, k2, k3⟩ := R.tab.gap (by rw [List.length_map]; omega) (th k)
  have big : K < 100000 := by
    have : 10 * SetTable.turns t.mask ≤ 6000 := by
      unfold SetTable.turns
      rcases R.tab.ms with e | e | e | e <;> omega
    omega
  unfold setSearch
  refine srch R tu hx hu ad k1 k2 k3 hin (fun z => hout K z k2 k3) 100000 0 none rfl (Nat.zero_le _) (by omega) fun i p e kk => ?_
  have e1 : (L.map fun p => th p.2)[i]? = some (th k) := by rw [List.getElem?_map, e, ← kk]; rfl
  have l1 : i < t.place.toList.length := by
    have h1 := (List.getElem?_eq_some_iff.mp e).1
    have h2 := R.pz
    rw [Array.length_toList]; omega
  have e2 := List.getElem?_eq_getElem l1
  obtain ⟨d, d1, d2⟩ := R.tab.ahead k2 e1 e2
  exact ⟨d, Nat.zero_le _, d1, by rw [e2, d2]⟩
end
end PZ

namespace PZ
open PySem PySem.Spec PyProof.Rows L2
section
variable {P : Program} {w : World} {A : Around} {E : Value → Shared → Prop} {s : Shared} {h h' : Heap} {a : Addr} {L : List (Addr × List Int)} {es : Array (Int × Value)} {ep : Nat} {t : SetTable}
theorem relay1 {o : Obj} (ho : s.heap.get? a = some o) (hex : o.ExactSet) (hd : o.data = .set es ep t) (hr : es.toList = rws L) (tb : Tb t (L.map fun p => th p.2)) (fl : L.length ≤ t.mask) (nd : (L.map (·.2)).Nodup) (pl : t.plain = true) (fw : L.length ≤ 306) {wanted M : Nat}
    (hw : SetTable.sizeAbove wanted - 1 = M) (hM : Msk M) (hz : SetTable.sizeAbove wanted ≤ 512) (hn : L.length * 5 < M * 3) {Q : Unit → Shared → Prop}
    (q : ∀ h' L' es' ep' t', Heap.SameBut a s.heap h' → StZ h' a L' es' ep' t' → L'.Perm L → Q () { s with heap := h' }) : wpAny (model P w) A (setRelay a wanted) Q E s := by
  have z1 : es.size = L.length := by
    have q := congrArg List.length hr
    unfold rws at q
    rwa [Array.length_toList, List.length_map] at q
  have z2 : t.place.size = L.length := by have q := tb.sz; rwa [List.length_map] at q
  have ft : t.fits es.size = true := by
    unfold SetTable.fits SetTable.fill
    rw [tb.dm, Bool.and_eq_true, beq_iff_eq, decide_eq_true_eq]
    refine ⟨by omega, ?_⟩
    show t.place.size + 0 ≤ t.mask
    omega
  obtain ⟨t1, od, e, pm, T, em, el⟩ := relaid1 t (hs := es.map (·.1)) hw hM (by rw [Array.size_map]; omega)
  rw [Array.size_map, z1] at pm
  obtain ⟨L2, r1, r2, r3⟩ := order_rows (P := P) (w := w) L es od hr pm
  have r1 : (od.filterMap (es[·]?)).toList = rws L2 := r1
  have T : Tb t1 (L2.map fun p => th p.2) := by
    have r3 : (L2.map fun p => th p.2) = od.toList.map fun i => (es.map (·.1)).getD i 0 := r3
    rw [r3]; exact T
  have z3 : (od.filterMap (es[·]?)).size = L.length := by
    have q := congrArg List.length r1
    unfold rws at q
    rwa [Array.length_toList, List.length_map, r2.length_eq] at q
  rw [setRelay_eq]
  refine wpAny_bind (wpAny_setState_of ho hd ft ?_)
  dsimp only
  refine wp_if_neg (by rw [sizeLine_eq]; omega) ?_
  try refine wpAny_bind (wpAny_pure ?_)
  rw [e]
  dsimp only
  refine wpAny_bind ?_
  refine wp_if_neg (by rw [z3, z1]; simp) ?_
  try refine wpAny_bind (wpAny_pure ?_)
  refine wpAny_pure ?_
  dsimp only
  refine wpAny_storeSet_of ho hd ?_ (by rw [z3, sizeLine_eq]; omega)
  have sb : Heap.SameBut a s.heap (s.heap.update a (Obj.putSet (od.filterMap (es[·]?)) t1)) := Heap.SameBut.update ..
  exact q _ L2 _ (ep + 1) t1 sb ⟨⟨_, store_at ho hd, ⟨hex.1, hex.2.1, hex.2.2⟩, rfl⟩, r1, T, (r2.map (·.2)).nodup_iff.mpr nd, by rw [el]; exact pl, by rw [r2.length_eq, em]; exact hn, by rw [r2.length_eq]; exact fw⟩ r2
theorem add1 (R : StZ s.heap a L es ep t) (tu : ∀ p ∈ L, IsT P w s.heap p.2 p.1) {x : Addr} {k : List Int} (hx : IsT P w s.heap k x) (hu : A.units < cLine) (hf : L.length < 306) {Q : Bool → Shared → Prop}
    (q : ∀ b h' L' es' ep' t', Heap.SameBut a s.heap h' → StZ h' a L' es' ep' t' → (k ∈ L.map (·.2) → L' = L) → (k ∉ L.map (·.2) → L'.Perm ((x, k) :: L)) → Q b { s with heap := h' }) :
    wpAny (model P w) A (setAddHashed a (.ref x) (th k)) Q E s := by
  obtain ⟨o, ho, hex, hd⟩ := R.ob
  have z1 := R.sz
  have rm := R.room
  unfold setAddHashed
  refine wpAny_holding ?_
  rw [show (100000 : Nat) = 99999 + 1 from rfl, setAddHashedIn_succ]
  refine wpAny_bind (wpAny_setState_of ho hd R.fits ?_)
  dsimp only
  refine wp_if_neg (by simp [byScan, Value.scannable]) ?_
  try refine wpAny_bind (wpAny_pure ?_)
  refine wpAny_bind (srch0 R tu hx hu true (fun i hm => ?_) fun K hm hK hb => ?_)
  · dsimp only
    exact wpAny_pure (q false s.heap L es ep t (Heap.SameBut.refl a s.heap) R (fun _ => rfl) fun z => absurd hm z)
  · dsimp only
    refine wpAny_bind (wpAny_setState_of ho hd R.fits ?_)
    dsimp only
    obtain ⟨p, p1, p2, p3, p4, p5, p6⟩ := R.tab.put1 hK hb
    rw [List.length_map] at p1 p6
    have plain1 : (t.put (way t.mask (th k) K)).1.plain = true := p5.trans R.plain
    generalize t.put (way t.mask (th k) K) = pt at p2 p3 p4 p5 p6 plain1 ⊢
    obtain ⟨t1, p'⟩ := pt
    dsimp only at p2 p3 p4 p5 p6 plain1 ⊢
    subst p2
    first
      | (refine wpAny_bind ?_; refine wp_if_pos plain1 ?_; refine hashBy_tup hx ?_)
      | refine wp_if_pos plain1 (wpAny_bind (hashBy_tup hx ?_))
    simp only [if_true]
    have rows1 : (SetTable.insertAt es p' (th k, Value.ref x)).toList = rws (L.take p' ++ (x, k) :: L.drop p') := by
      rw [SetTable.toList_insertAt, R.rows]
      unfold rws
      rw [List.map_append, List.map_cons, List.map_take, List.map_drop]
    have pm := put_perm L p' (x, k)
    have tb1 : Tb t1 ((L.take p' ++ (x, k) :: L.drop p').map fun p => th p.2) := by
      rw [List.map_append, List.map_cons, List.map_take, List.map_drop]; exact p3
    have nd1 : ((L.take p' ++ (x, k) :: L.drop p').map (·.2)).Nodup := (pm.map (·.2)).nodup_iff.mpr (by rw [List.map_cons]; exact List.nodup_cons.mpr ⟨hm, R.nd⟩)
    generalize SetTable.insertAt es p' (th k, Value.ref x) = es1 at rows1 ⊢
    generalize L.take p' ++ (x, k) :: L.drop p' = L1 at rows1 pm tb1 nd1
    have len1 : L1.length = L.length + 1 := pm.length_eq
    have z3 : es1.size = L.length + 1 := by
      have q := congrArg List.length rows1
      unfold rws at q
      rwa [Array.length_toList, List.length_map, len1] at q
    refine wpAny_bind (wpAny_storeSet_of ho hd ?_ (by rw [z3, sizeLine_eq]; omega))
    have sb : Heap.SameBut a s.heap (s.heap.update a (Obj.putSet es1 t1)) := Heap.SameBut.update ..
    have ho1 := store_at (es' := es1) (t' := t1) ho hd
    generalize s.heap.update a (Obj.putSet es1 t1) = h1 at sb ho1 ⊢
    by_cases hfu : t1.tooFull = true
    · have full : (L.length + 1) * 5 ≥ t1.mask * 3 := by
        have q := hfu
        unfold SetTable.tooFull at q
        rw [decide_eq_true_eq, p6] at q
        exact q
      first
        | (refine wpAny_bind ?_; refine wp_if_pos (by simp [hfu]) ?_)
        | (refine wp_if_pos (by simp [hfu]) ?_; refine wpAny_bind ?_)
      rw [z1]
      have cs : (t.mask = 7 ∧ L.length = 4) ∨ (t.mask = 31 ∧ L.length = 18) ∨ (t.mask = 127 ∧ L.length = 76) := by
        rcases R.tab.ms with e | e | e | e <;> (rw [p4, e] at full; rw [e] at rm; omega)
      have go : ∀ M, SetTable.sizeAbove (SetTable.grown (L.length + 1)) - 1 = M → Msk M → SetTable.sizeAbove (SetTable.grown (L.length + 1)) ≤ 512 → (L.length + 1) * 5 < M * 3 →
          wpAny (model P w) A (setRelay a (SetTable.grown (L.length + 1))) (fun _ s' => wpAny (model P w) A (pure true) Q E s') E { s with heap := h1 } := fun M g1 g2 g3 g4 =>
        relay1 (s := { s with heap := h1 }) ho1 ⟨hex.1, hex.2.1, hex.2.2⟩ rfl rows1 tb1 (by rw [len1, p4]; rcases cs with ⟨e, e2⟩ | ⟨e, e2⟩ | ⟨e, e2⟩ <;> omega) nd1 plain1 (by omega) g1 g2 g3 (by rw [len1]; exact g4)
          fun h2 L2 es2 ep2 t2 sb2 R2 pm2 => wpAny_pure (q true h2 L2 es2 ep2 t2 (sb.trans sb2) R2 (fun z => absurd z hm) fun _ => pm2.trans pm)
      rcases cs with ⟨_, e2⟩ | ⟨_, e2⟩ | ⟨_, e2⟩
      · exact go 31 (by rw [e2, size_20]) (.inr (.inl rfl)) (by rw [e2, size_20]; decide) (by omega)
      · exact go 127 (by rw [e2, size_76]) (.inr (.inr (.inl rfl))) (by rw [e2, size_76]; decide) (by omega)
      · exact go 511 (by rw [e2, size_308]) (.inr (.inr (.inr rfl))) (by rw [e2, size_308]; decide) (by omega)
    · have full : ¬ (L.length + 1) * 5 ≥ t1.mask * 3 := by
        have q := hfu
        unfold SetTable.tooFull at q
        rw [decide_eq_true_eq, p6] at q
        exact q
      first
        | refine wp_if_neg (by simp [hfu]) ?_
        | (refine wpAny_bind ?_; refine wp_if_neg (by simp [hfu]) ?_; refine wpAny_pure ?_)
      exact wpAny_pure (q true h1 L1 es1 (ep + 1) t1 sb ⟨⟨_, ho1, ⟨hex.1, hex.2.1, hex.2.2⟩, rfl⟩, rows1, tb1, nd1, plain1, by rw [len1]; omega, by omega⟩ (fun z => absurd z hm) fun _ => pm)
/-! ### set(xs) -/
abbrev fs0 (w : World) : Obj := { cls := .type "set", dict := none, data := .set #[] 0 (.fresh 0 0 (!w.params.followText "set-order")) }
theorem stz_new (ho : h.get? a = some (fs0 w)) : StZ h a [] #[] 0 (.fresh 0 0 (!w.params.followText "set-order")) :=
  ⟨⟨_, ho, ⟨rfl, rfl, rfl⟩, rfl⟩, rfl, ⟨List.Pairwise.nil, rfl, rfl, .inl rfl, (fun x hx => by cases hx), (fun i h j hi => by simp at hi)⟩, List.nodup_nil, rfl, (by show 0 * 5 < 7 * 3; decide), (by show 0 ≤ 306; decide)⟩
theorem upd_loop {I : Addr} {fp wr : List Addr} {G : Array GenState → Array GenState → Prop} {n : Nat} {Pv : Nat → Value → Prop} {St : Nat → Shared → Prop} {R : Result → Shared → Prop}
    (W : WalksS P w A.in1 I fp wr G n Pv St) (S : Addr) (hS : S ∉ fp) (ks : List (Addr × List Int)) (hn : n = ks.length) (fw : ks.length ≤ 306) (hv : ∀ i v, Pv i v → ∃ p, ks[i]? = some p ∧ v = .ref p.1)
    (h0 : Heap) (hk : ∀ p ∈ ks, IsT P w h0 p.2 p.1) (hS0 : h0.get? S = none) (hw0 : ∀ b ∈ wr, h0.get? b = none) (hu : A.in1.units < cLine) :
    ∀ (k i : Nat) (s : Shared), i + k = n → St i s → (∀ b o, h0.get? b = some o → s.heap.get? b = some o) → (∃ L es ep t, StZ s.heap S L es ep t ∧ Got ks i L) →
      (∀ s' L es ep t, Moved (S :: wr) G s s' → StZ s'.heap S L es ep t → Got ks n L → (∀ b o, h0.get? b = some o → s'.heap.get? b = some o) → R (.ok (.ret .none)) s') →
      codeAny (model P w) A (.builtin "set.update.loop" ⟨[.ref S, .ref I], []⟩) R s := by
  have nw : S ∉ wr := fun z => hS (W.sub _ z)
  have inc : ∀ b ∈ wr, b ∈ S :: wr := fun b hb => List.mem_cons_of_mem _ hb
  have kp : ∀ {s s' : Shared}, Moved wr G s s' → (∀ b o, h0.get? b = some o → s.heap.get? b = some o) → ∀ b o, h0.get? b = some o → s'.heap.get? b = some o := fun m k b o e =>
    m.heap b o (fun z => by rw [hw0 b z] at e; cases e) (k b o e)
  intro k
  induction k with
  | zero =>
    intro i s hi st hk0 ⟨L, es, ep, t, Z, g⟩ hR
    obtain rfl : i = n := by omega
    refine codeAny_builtin F.entry_set_update_loop ?_
    rw [Around.under_plainId F.plain_set_update_loop _]
    show wpAny _ A.in1 (pyNext (.ref I) >>= _) _ _ s
    refine wpAny_bind (W.done s _ _ st fun s' m => ?_)
    show wpAny _ A.in1 (ret Value.none) _ _ s'
    exact wpAny_pure (hR s' L es ep t (m.mono inc) (Z.keep fun o e => m.heap S o nw e) g (kp m hk0))
  | succ k ih =>
    intro i s hi st hk0 ⟨L, es, ep, t, Z, g⟩ hR
    refine codeAny_builtin F.entry_set_update_loop ?_
    rw [Around.under_plainId F.plain_set_update_loop _]
    show wpAny _ A.in1 (pyNext (.ref I) >>= _) _ _ s
    refine wpAny_bind (W.item i s _ _ (by omega) st fun v s' hP st' m => ?_)
    obtain ⟨p, hp, rfl⟩ := hv i v hP
    have k1 := kp m hk0
    have Z1 : StZ s'.heap S L es ep t := Z.keep fun o e => m.heap S o nw e
    have tu : ∀ q ∈ L, IsT P w s'.heap q.2 q.1 := fun q hq => isT_keep (hk q (List.mem_of_mem_take (g.sub q hq))) k1
    have hx : IsT P w s'.heap p.2 p.1 := isT_keep (hk p (List.mem_of_getElem? hp)) k1
    have hl : i < ks.length := (List.getElem?_eq_some_iff.mp hp).1
    show wpAny _ A.in1 (holding [Value.ref p.1] (setAdd S (.ref p.1)) >>= _) _ _ s'
    refine wpAny_bind (wpAny_holding ?_)
    unfold setAdd
    refine wpAny_holding ?_
    refine wpAny_bind (wpAny_pyHash_tuple hu hx ?_)
    refine add1 (s := { s' with toks := s'.toks + (p.2.length + 1) }) Z1 tu hx hu (by have := g.len; omega) fun b h' L' es' ep' t' sb Z2 c1 c2 => ?_
    have g2 : Got ks (i + 1) L' := by
      by_cases c : p.2 ∈ L.map (·.2)
      · rw [c1 c]; exact g.same hp c
      · exact g.more hp (c2 c)
    refine wpAny_pure ⟨plainId_quiet F.plain_set_update_loop _, ih (i + 1) _ (by omega) (W.frame _ s' _ _ st' (Nat.le_add_right _ _) fun b hb o e => ?_) (fun b o e => ?_) ⟨L', es', ep', t', Z2, g2⟩ fun s2 L2 es2 ep2 t2 m2 Z3 g3 k3 => ?_⟩
    · rw [sb.2 b (fun z : b = S => hS (by rw [← z]; exact hb))]; exact e
    · exact (sb.2 b (fun z => by rw [z, hS0] at e; cases e)).trans (k1 b o e)
    · refine hR s2 L2 es2 ep2 t2 (Moved.trans W.gtrans ((m.mono inc).then_heap (Nat.le_add_right _ _) fun b o hb e => ?_) m2) Z3 g3 k3
      rw [sb.2 b (fun z : b = S => hb (by rw [z]; exact List.mem_cons_self))]; exact e
end
end PZ

namespace PZ
open PySem PySem.Spec PyProof.Rows L2
section
variable {P : Program} {w : World} {A : Around} {E : Value → Shared → Prop} {s : Shared}

theorem call_setL {l : Addr} {items : Array Value} (ks : List (Addr × List Int)) {Q : Value → Shared → Prop} (hh : A.handled = none) (hl : Heap.IsList s.heap l items) (hi : items.toList = ks.map fun p => Value.ref p.1) (hk : ∀ p ∈ ks, IsT P w s.heap p.2 p.1) (fw : ks.length ≤ 306) (hu : A.units + 3 < cLine)
    (q : ∀ (h' : Heap) (tk : Nat) L es ep t, StZ h' s.heap.objs.size L es ep t → Got ks ks.length L → (∀ b o, s.heap.get? b = some o → h'.get? b = some o) → Q (.ref s.heap.objs.size) { s with heap := h', toks := tk }) :
    wpAny (model P w) A (call (.type "set") [.ref l]) Q E s := by
  have z1 : items.size = ks.length := by
    have q := congrArg List.length hi
    rwa [Array.length_toList, List.length_map] at q
  have S := F.called_set
  obtain ⟨c, tl, hm⟩ := S.mro
  have hmade := S.made
  have hsub := S.sub
  refine wpAny_call (codeAny_of_tree ?_)
  show wpAny _ _ (callAny (.type "set") _) _ _ _
  refine wpAny_pure ⟨Code.quiet_builtin _ (by decide +kernel), codeAny_builtin F.entry_type_call ?_⟩
  rw [Around.under_plain (weight_type_call_type "set" [.ref l] []) rfl]
  have n1 := S.notType
  have n2 := S.canCreate
  have n3 := F.typeCall_set_1 (.ref l)
  repeat any_goals (first | assumption | wp_step)
  refine codeAny_mono (code_set_led1 (.ref l) (E := E) (Q₁ := fun x s1 => x = .ref s.heap.objs.size ∧ s1 = { s with heap := s.heap.push (fs0 w) }) ⟨rfl, rfl⟩) fun r s1 hr => ?_
  cases r with
  | error e => exact hr
  | ok f1 =>
   cases f1 with
   | ret v1 =>
    obtain ⟨rfl, rfl⟩ := hr
    have at1 : (s.heap.push (fs0 w)).get? s.heap.objs.size = some (fs0 w) := Heap.get?_push_size _ rfl
    have ty1 : Shared.TypeIs { s with heap := s.heap.push (fs0 w) } (.ref s.heap.objs.size) "set" := ⟨_, at1, rfl⟩
    have n4 := S.init.lookup
    have n5 := S.init.bind (.ref s.heap.objs.size)
    repeat any_goals (first | assumption | wp_step)
    refine codeAny_mono (codeAny_call_builtin (R := wants (fun r s2 => r = .none ∧ ∃ h' tk L es ep t, s2 = { s with heap := h', toks := tk } ∧ StZ h' s.heap.objs.size L es ep t ∧ Got ks ks.length L ∧ (∀ b o, s.heap.get? b = some o → h'.get? b = some o)) E) S.init.plain F.entry_set_init (check_set_init_1 ty1 ?_)) fun r2 s2 hr2 => ?_
    · obtain ⟨ol, e1, e2, nl, e3⟩ := hl
      obtain ⟨oc, od, oda, osl⟩ := ol
      simp only at e2 e3
      subst e2
      subst e3
      have at2 : (s.heap.push (fs0 w)).get? l = some { cls := .type "list", dict := od, data := .seq items nl, slots := osl } := Heap.get?_push_of_some _ e1
      have n6 := F.sub_list_set
      have n7 := F.sub_list_frozenset
      have n8 : (Value.type "list" == Value.type "dict") = false := by decide
      have hl1 : Heap.IsList (s.heap.push (fs0 w)) l items := ⟨_, at2, rfl, nl, rfl⟩
      unfold Builtin.«set.__init__» noKeywords Builtin.Frozenset.updateFrom
      generalize hp : pyIter = pp
      wp_walk
      subst hp
      refine wpAny_pyIter_list hl1 ?_
      refine wpAny_bind (wpAny_runValue ?_)
      have lt : l < s.heap.objs.size := Heap.lt_size e1
      have sz1 : (s.heap.push (fs0 w)).objs.size = s.heap.objs.size + 1 := Heap.size_push ..
      have ne1 : l ≠ (s.heap.push (fs0 w)).objs.size := by rw [sz1]; exact Nat.ne_of_lt (Nat.lt_succ_of_lt lt)
      have out : s.heap.objs.size ∉ [(s.heap.push (fs0 w)).objs.size, l] := by
        rw [sz1]
        intro z
        rcases List.mem_cons.mp z with z | z
        · exact Nat.ne_of_lt (Nat.lt_succ_self _) z
        · exact Nat.ne_of_gt lt (List.mem_singleton.mp z)
      have nn : ∀ b, s.heap.objs.size ≤ b → s.heap.get? b = none := fun b hb => by
        cases q : s.heap.get? b with
        | none => rfl
        | some o => exact absurd (Nat.lt_of_lt_of_le (Heap.lt_size q) hb) (Nat.lt_irrefl _)
      have item : ∀ (i : Nat) (v : Value), items[i]? = some v → ∃ p, ks[i]? = some p ∧ v = .ref p.1 := fun i v hv => by
        have q : items.toList[i]? = some v := by rw [Array.getElem?_toList]; exact hv
        rw [hi, List.getElem?_map] at q
        cases e : ks[i]? with
        | none => rw [e] at q; cases q
        | some p => rw [e] at q; exact ⟨p, rfl, (Option.some.inj q).symm⟩
      refine upd_loop ((Walks.list (show A.in1.in1.in1.handled = none by simp [hh]) _ l ne1 items).toS) s.heap.objs.size out ks z1 fw item s.heap hk (nn _ (Nat.le_refl _)) (fun b hb => nn b (by
        rw [List.mem_singleton.mp hb, sz1]
        exact Nat.le_succ _)) hu items.size 0 _ (Nat.zero_add _) ⟨⟨_, Heap.get?_push_size _ rfl, rfl, rfl⟩, ?w0⟩ (fun b o e => Heap.get?_push_of_some _ (Heap.get?_push_of_some _ e)) ⟨[], #[], 0, _, stz_new (w := w) (Heap.get?_push_of_some _ at1), Got.zero ks⟩ ?w1
      case w0 => exact ⟨_, Heap.get?_push_of_some _ at2, rfl, nl, rfl⟩
      case w1 =>
        intro s' L es ep t m Z g k
        obtain ⟨h2, g2, d2, t2, o2⟩ := s'
        obtain rfl : g2 = s.gens := m.gens
        obtain rfl : d2 = s.drawn := m.drawn
        obtain rfl : o2 = s.os := m.os
        show wpAny _ _ _ _ _ _
        refine wpAny_pure ?_
        show wpAny _ _ (ret Value.none) _ _ _
        rw [z1] at g
        exact wpAny_pure ⟨rfl, h2, t2, L, es, ep, t, rfl, Z, g, k⟩
    · cases r2 with
      | error e => exact hr2
      | ok f2 =>
        cases f2 with
        | ret v2 =>
          obtain ⟨rfl, h2, t2, L, es, ep, t, rfl, Z, g, k⟩ := hr2
          repeat any_goals (first | assumption | wp_step)
          exact q _ _ _ _ _ _ Z g k
        | _ => exact hr2.elim
   | _ => exact hr.elim

theorem call_setT {l : Addr} {items : Array Value} (ks : List (Addr × List Int)) {Q : Value → Shared → Prop} (hh : A.handled = none) (hl : Heap.IsTuple s.heap l items) (hi : items.toList = ks.map fun p => Value.ref p.1) (hk : ∀ p ∈ ks, IsT P w s.heap p.2 p.1) (fw : ks.length ≤ 306) (hu : A.units + 3 < cLine)
    (q : ∀ (h' : Heap) (tk : Nat) L es ep t, StZ h' s.heap.objs.size L es ep t → Got ks ks.length L → (∀ b o, s.heap.get? b = some o → h'.get? b = some o) → Q (.ref s.heap.objs.size) { s with heap := h', toks := tk }) :
    wpAny (model P w) A (call (.type "set") [.ref l]) Q E s := by
  have z1 : items.size = ks.length := by
    have q := congrArg List.length hi
    rwa [Array.length_toList, List.length_map] at q
  have S := F.called_set
  obtain ⟨c, tl, hm⟩ := S.mro
  have hmade := S.made
  have hsub := S.sub
  refine wpAny_call (codeAny_of_tree ?_)
  show wpAny _ _ (callAny (.type "set") _) _ _ _
  refine wpAny_pure ⟨Code.quiet_builtin _ (by decide +kernel), codeAny_builtin F.entry_type_call ?_⟩
  rw [Around.under_plain (weight_type_call_type "set" [.ref l] []) rfl]
  have n1 := S.notType
  have n2 := S.canCreate
  have n3 := F.typeCall_set_1 (.ref l)
  repeat any_goals (first | assumption | wp_step)
  refine codeAny_mono (code_set_led1 (.ref l) (E := E) (Q₁ := fun x s1 => x = .ref s.heap.objs.size ∧ s1 = { s with heap := s.heap.push (fs0 w) }) ⟨rfl, rfl⟩) fun r s1 hr => ?_
  cases r with
  | error e => exact hr
  | ok f1 =>
   cases f1 with
   | ret v1 =>
    obtain ⟨rfl, rfl⟩ := hr
    have at1 : (s.heap.push (fs0 w)).get? s.heap.objs.size = some (fs0 w) := Heap.get?_push_size _ rfl
    have ty1 : Shared.TypeIs { s with heap := s.heap.push (fs0 w) } (.ref s.heap.objs.size) "set" := ⟨_, at1, rfl⟩
    have n4 := S.init.lookup
    have n5 := S.init.bind (.ref s.heap.objs.size)
    repeat any_goals (first | assumption | wp_step)
    refine codeAny_mono (codeAny_call_builtin (R := wants (fun r s2 => r = .none ∧ ∃ h' tk L es ep t, s2 = { s with heap := h', toks := tk } ∧ StZ h' s.heap.objs.size L es ep t ∧ Got ks ks.length L ∧ (∀ b o, s.heap.get? b = some o → h'.get? b = some o)) E) S.init.plain F.entry_set_init (check_set_init_1 ty1 ?_)) fun r2 s2 hr2 => ?_
    · obtain ⟨ol, e1, e2, nl, e3⟩ := hl
      obtain ⟨oc, od, oda, osl⟩ := ol
      simp only at e2 e3
      subst e2
      subst e3
      have at2 : (s.heap.push (fs0 w)).get? l = some { cls := .type "tuple", dict := od, data := .seq items nl, slots := osl } := Heap.get?_push_of_some _ e1
      have n6 := F.sub_tuple_set
      have n7 := F.sub_tuple_frozenset
      have n8 : (Value.type "tuple" == Value.type "dict") = false := by decide
      have hl1 : Heap.IsTuple (s.heap.push (fs0 w)) l items := ⟨_, at2, rfl, nl, rfl⟩
      unfold Builtin.«set.__init__» noKeywords Builtin.Frozenset.updateFrom
      generalize hp : pyIter = pp
      wp_walk
      subst hp
      refine wpAny_pyIter_tuple hl1 ?_
      refine wpAny_bind (wpAny_runValue ?_)
      have lt : l < s.heap.objs.size := Heap.lt_size e1
      have sz1 : (s.heap.push (fs0 w)).objs.size = s.heap.objs.size + 1 := Heap.size_push ..
      have ne1 : l ≠ (s.heap.push (fs0 w)).objs.size := by rw [sz1]; exact Nat.ne_of_lt (Nat.lt_succ_of_lt lt)
      have out : s.heap.objs.size ∉ [(s.heap.push (fs0 w)).objs.size, l] := by
        rw [sz1]
        intro z
        rcases List.mem_cons.mp z with z | z
        · exact Nat.ne_of_lt (Nat.lt_succ_self _) z
        · exact Nat.ne_of_gt lt (List.mem_singleton.mp z)
      have nn : ∀ b, s.heap.objs.size ≤ b → s.heap.get? b = none := fun b hb => by
        cases q : s.heap.get? b with
        | none => rfl
        | some o => exact absurd (Nat.lt_of_lt_of_le (Heap.lt_size q) hb) (Nat.lt_irrefl _)
      have item : ∀ (i : Nat) (v : Value), items[i]? = some v → ∃ p, ks[i]? = some p ∧ v = .ref p.1 := fun i v hv => by
        have q : items.toList[i]? = some v := by rw [Array.getElem?_toList]; exact hv
        rw [hi, List.getElem?_map] at q
        cases e : ks[i]? with
        | none => rw [e] at q; cases q
        | some p => rw [e] at q; exact ⟨p, rfl, (Option.some.inj q).symm⟩
      refine upd_loop ((Walks.tuple (show A.in1.in1.in1.handled = none by simp [hh]) _ l ne1 items).toS) s.heap.objs.size out ks z1 fw item s.heap hk (nn _ (Nat.le_refl _)) (fun b hb => nn b (by
        rw [List.mem_singleton.mp hb, sz1]
        exact Nat.le_succ _)) hu items.size 0 _ (Nat.zero_add _) ⟨⟨_, Heap.get?_push_size _ rfl, rfl, rfl⟩, ?w0⟩ (fun b o e => Heap.get?_push_of_some _ (Heap.get?_push_of_some _ e)) ⟨[], #[], 0, _, stz_new (w := w) (Heap.get?_push_of_some _ at1), Got.zero ks⟩ ?w1
      case w0 => exact ⟨_, Heap.get?_push_of_some _ at2, rfl, nl, rfl⟩
      case w1 =>
        intro s' L es ep t m Z g k
        obtain ⟨h2, g2, d2, t2, o2⟩ := s'
        obtain rfl : g2 = s.gens := m.gens
        obtain rfl : d2 = s.drawn := m.drawn
        obtain rfl : o2 = s.os := m.os
        show wpAny _ _ _ _ _ _
        refine wpAny_pure ?_
        show wpAny _ _ (ret Value.none) _ _ _
        rw [z1] at g
        exact wpAny_pure ⟨rfl, h2, t2, L, es, ep, t, rfl, Z, g, k⟩
    · cases r2 with
      | error e => exact hr2
      | ok f2 =>
        cases f2 with
        | ret v2 =>
          obtain ⟨rfl, h2, t2, L, es, ep, t, rfl, Z, g, k⟩ := hr2
          repeat any_goals (first | assumption | wp_step)
          exact q _ _ _ _ _ _ Z g k
        | _ => exact hr2.elim
   | _ => exact hr.elim

end
end PZ

namespace PZ
open PySem PySem.Spec PyProof.Rows L2
section
variable {P : Program} {w : World} {A : Around} {E : Value → Shared → Prop} {s : Shared} {a : Addr} {L : List (Addr × List Int)} {es : Array (Int × Value)} {ep : Nat} {t : SetTable}
theorem StZ.ty (R : StZ s.heap a L es ep t) : s.TypeIs (.ref a) "set" := by
  obtain ⟨o, e, x, _⟩ := R.ob
  exact ⟨o, e, x.1⟩
theorem has1 (R : StZ s.heap a L es ep t) (tu : ∀ p ∈ L, IsT P w s.heap p.2 p.1) {x : Addr} {k : List Int} (hx : IsT P w s.heap k x) (hu : A.units < cLine) {Q : Bool → Shared → Prop}
    (q : Q (decide (k ∈ L.map (·.2))) { s with toks := s.toks + (k.length + 1) }) : wpAny (model P w) A (setContains a (.ref x)) Q E s := by
  unfold setContains
  refine wpAny_holding ?_
  refine wpAny_bind (wpAny_pyHash_tuple hu hx ?_)
  refine wpAny_bind ?_
  obtain ⟨o, ho, hex, hd⟩ := R.ob
  unfold setFind
  rw [show (100000 : Nat) = 99999 + 1 from rfl]
  unfold setFindIn
  refine wpAny_bind (wpAny_setState_of (s := { s with toks := s.toks + (k.length + 1) }) ho hd R.fits ?_)
  dsimp only
  refine wp_if_neg (by simp [byScan, Value.scannable]) ?_
  try refine wpAny_bind (wpAny_pure ?_)
  refine wpAny_bind (srch0 (s := { s with toks := s.toks + (k.length + 1) }) R tu hx hu false (fun i hm => ?_) fun K hm _ _ => ?_)
  · dsimp only
    refine wpAny_pure (wpAny_pure ?_)
    rw [decide_eq_true hm] at q
    exact q
  · dsimp only
    refine wpAny_pure (wpAny_pure ?_)
    rw [decide_eq_false hm] at q
    exact q
theorem hasV (R : StZ s.heap a L es ep t) (tu : ∀ p ∈ L, IsT P w s.heap p.2 p.1) {x : Addr} {k : List Int} (hx : IsT P w s.heap k x) (hu : A.units + 2 < cLine) {Q : Bool → Shared → Prop}
    (q : Q (decide (k ∈ L.map (·.2))) { s with toks := s.toks + (k.length + 1) }) : wpAny (model P w) A (contains (.ref a) (.ref x)) Q E s := by
  unfold contains
  try with_reducible refine wpAny_holding ?_
  refine wpAny_bind (wpAny_specialOf R.ty F.slot_set_contains.lookup ?_)
  show wpAny _ _ (if (some (Value.builtin "set.__contains__") == some Value.none) = true then _ else _) _ E s
  rw [if_neg (by rw [beq_builtin_none]; exact Bool.false_ne_true)]
  refine wpAny_bind (wpAny_callSpecialUnlessNone?_slot (name := Str.ofString "__contains__") R.ty F.slot_set_contains (wpAny_call_entry F.slot_set_contains R.ty entry_set_contains ?_ (F.args_set_contains_2 _ _)))
  unfold Builtin.«frozenset.__contains__» Builtin.Frozenset.oneOther
  simp only [List.isEmpty_nil, bind_assoc]
  unfold Builtin.Frozenset.addrOf Builtin.Frozenset.withSetAsKey
  refine wpAny_bind (wpAny_pure ?_)
  try dsimp only
  refine wpAny_bind (wpAny_pure ?_)
  try dsimp only
  refine wpAny_bind (wpAny_tryCatch ?_)
  refine has1 R tu hx (by simp; omega) ?_
  show wpAny _ _ (ret (Value.bool (decide (k ∈ L.map (·.2))))) _ _ _
  exact wpAny_pure ⟨_, rfl, wpAny_truthy_bool q⟩
theorem inV (R : StZ s.heap a L es ep t) (tu : ∀ p ∈ L, IsT P w s.heap p.2 p.1) {x : Addr} {k : List Int} (hx : IsT P w s.heap k x) (hu : A.units + 2 < cLine) {Q : Value → Shared → Prop}
    (q : Q (.bool (decide (k ∈ L.map (·.2)))) { s with toks := s.toks + (k.length + 1) }) : wpAny (model P w) A (compareOp .In (.ref x) (.ref a)) Q E s := by
  show wpAny _ _ (do return .bool (← contains (.ref a) (.ref x))) Q E s
  exact wpAny_bind (hasV R tu hx hu (wpAny_pure q))
theorem notInV (R : StZ s.heap a L es ep t) (tu : ∀ p ∈ L, IsT P w s.heap p.2 p.1) {x : Addr} {k : List Int} (hx : IsT P w s.heap k x) (hu : A.units + 2 < cLine) {Q : Value → Shared → Prop}
    (q : Q (.bool (!decide (k ∈ L.map (·.2)))) { s with toks := s.toks + (k.length + 1) }) : wpAny (model P w) A (compareOp .NotIn (.ref x) (.ref a)) Q E s := by
  show wpAny _ _ (do return .bool (!(← contains (.ref a) (.ref x)))) Q E s
  exact wpAny_bind (hasV R tu hx hu (wpAny_pure q))
end
/-! ### over the layer -/
def StO (a : Addr) (L : List (Addr × List Int)) : HO := .ext fun h => ∃ es ep t, StZ h a L es ep t
theorem sto_new {P : Program} {w : World} {H : Hp} {h : Heap} {a : Addr} {L : List (Addr × List Int)} {es : Array (Int × Value)} {ep : Nat} {t : SetTable} (R : StZ h a L es ep t) : ObjOk P w H h a (StO a L) := by
  obtain ⟨o, e, _⟩ := R.ob
  refine ⟨⟨es, ep, t, R⟩, ⟨o, e⟩, fun h1 h2 p k => ?_⟩
  obtain ⟨es, ep, t, R⟩ := p
  exact ⟨es, ep, t, R.keep k⟩
section
variable {X : Cx}
theorem Inv.sto {pins : List (Addr × Obj)} {σ : L2.St} {H : Hp} {s : Shared} {a : Addr} {L : List (Addr × List Int)} (I : Inv X pins σ H s) (h : H a = some (StO a L)) : ∃ es ep t, StZ s.heap a L es ep t := (I.hok _ _ h).1
/-- set(xs), xs a list or a tuple of tuples of ints -/
def rSet (K : PySem.W.Frag) : List V → Hp → VK → Prop := fun xs H Q => ∃ (l : Addr) (ks : List (Addr × List Int)), xs = [V.ref l] ∧ (SqL K H l (ks.map fun p => V.ref p.1) ∨ SqT K H l (ks.map fun p => V.ref p.1)) ∧ (∀ p ∈ ks, SqT K H p.1 (p.2.map V.int)) ∧ ks.length ≤ 306 ∧
  ∀ a L, H a = none → (∀ p ∈ L, p ∈ ks) → (∀ p ∈ ks, p.2 ∈ L.map (·.2)) → (L.map (·.2)).Nodup → Q (.ref a) (upd H a (StO a L))
theorem cr_set (hc : X.calm = true) (hu : X.A.units + 64 < cLine) : CallR X (.type "set") (rSet X.K) := by
  intro pins s σ H xs us Q I r ⟨l, ks, ex, hl, hk, hf, q⟩
  subst ex
  rw [Vals.ref1 r]
  have hn : H s.heap.objs.size = none := I.hok.fresh (Nat.le_refl _)
  have fin : ∀ (h' : Heap) (tk : Nat) L es ep t, StZ h' s.heap.objs.size L es ep t → Got ks ks.length L → (∀ b o, s.heap.get? b = some o → h'.get? b = some o) → EP X pins σ Q (.ref s.heap.objs.size) { s with heap := h', toks := tk } := fun h' tk L es ep t R g k =>
    ⟨.ref s.heap.objs.size, upd H s.heap.objs.size (StO s.heap.objs.size L), I.laid (t' := tk) k (Nat.le_refl _) (sto_new R), rfl, q _ L hn (fun p hp => List.mem_of_mem_take (g.sub p hp)) (fun p hp => g.all p (by rw [List.take_length]; exact hp)) R.nd⟩
  rcases hl with hl | hl
  · obtain ⟨its, rv, pl, _⟩ := I.list hl
    exact call_setL (P := X.prog) (w := X.w) ks (I.ok.hd hc) pl.isList (by simpa using refs_of_vals rv) (fun p hp => I.isT (hk p hp)) hf (by omega) fin
  · obtain ⟨its, rv, ⟨o, ho, hcl, n, hd⟩, _⟩ := I.tuple hl
    exact call_setT (P := X.prog) (w := X.w) ks (I.ok.hd hc) ⟨o, ho, hcl, n, hd⟩ (by simpa using refs_of_vals rv) (fun p hp => I.isT (hk p hp)) hf (by omega) fin
/-- t in s -/
def rInSt (K : PySem.W.Frag) (f : Bool → Bool) : R2 := fun x y H Q => ∃ (b a : Addr) (L : List (Addr × List Int)) (k : List Int), x = .ref b ∧ y = .ref a ∧ H a = some (StO a L) ∧ (∀ p ∈ L, SqT K H p.1 (p.2.map V.int)) ∧ SqT K H b (k.map V.int) ∧ Q (.bl (f (decide (k ∈ L.map (·.2))))) H
theorem op_inSt (hu : X.A.units + 65 < cLine) : OpR X (compareOp .In) (rInSt X.K fun b => b) := by
  intro pins s σ H x y v u Q I rx ry ⟨b, a, L, k, ex, ey, hS, hL, hk, q⟩
  subst ex ey
  cases rx
  cases ry
  obtain ⟨es, ep, t, R⟩ := Inv.sto I hS
  exact inV R (fun p hp => I.isT (hL p hp)) (I.isT hk) (by omega) ⟨.bl _, H, I.tok _, rfl, q⟩
theorem op_notInSt (hu : X.A.units + 65 < cLine) : OpR X (compareOp .NotIn) (rInSt X.K fun b => !b) := by
  intro pins s σ H x y v u Q I rx ry ⟨b, a, L, k, ex, ey, hS, hL, hk, q⟩
  subst ex ey
  cases rx
  cases ry
  obtain ⟨es, ep, t, R⟩ := Inv.sto I hS
  exact notInV R (fun p hp => I.isT (hL p hp)) (I.isT hk) (by omega) ⟨.bl _, H, I.tok _, rfl, q⟩
/-- len(s) -/
def rLenSt : List V → Hp → VK → Prop := fun xs H Q => ∃ (a : Addr) (L : List (Addr × List Int)), xs = [V.ref a] ∧ H a = some (StO a L) ∧ Q (.int L.length) H
theorem cr_lenSt : CallR X (.builtin "len") rLenSt := by
  intro pins s σ H xs us Q I r ⟨a, L, ex, hS, q⟩
  subst ex
  rw [Vals.ref1 r]
  obtain ⟨es, ep, t, R⟩ := Inv.sto I hS
  obtain ⟨o, ho, hex, hd⟩ := R.ob
  have z := R.sz
  have f := R.few
  refine call_len_set ho hex hd R.fits (by omega) ⟨.int _, H, I.tok _, ⟨_, rfl⟩, ?_⟩
  rw [z]; exact q
end
end PZ

namespace PD
open PySem PySem.Spec PyProof.Rows L2

/-- plain data -/
inductive D where
  | non | bl (b : Bool) | int (i : Int) | str (x : Str) | tup (xs : List D) | lst (xs : List D) | fn (x : Str) | dct | ty (n : String) | scr (ns : List Int) | st (ks : List (List Int))
  deriving Inhabited

mutual
/-- the value v stands for the data d in the heap G -/
inductive Rp (K : PySem.W.Frag) (G : Hp) : V → D → Prop
  | non : Rp K G .non .non
  | bl (b : Bool) : Rp K G (.bl b) (.bl b)
  | int (i : Int) : Rp K G (.int i) (.int i)
  | str (x : Str) : Rp K G (.str x) (.str x)
  | fn (x : Str) : Rp K G (.ref (He.ga K x)) (.fn x)
  | dct {a : Addr} {kvs : List (Key × V)} : G a = some (.dK kvs) → Rp K G (.ref a) .dct
  | tup {a : Addr} {vs : List V} {ds : List D} : SqT K G a vs → RpL K G vs ds → Rp K G (.ref a) (.tup ds)
  | lst {a : Addr} {vs : List V} {ds : List D} : Rd G a (.lst vs) → RpL K G vs ds → Rp K G (.ref a) (.lst ds)
  | ty (n : String) : Rp K G (.ty n) (.ty n)
  | scr {a : Addr} {ns : List Int} : SqL K G a (ns.map V.int) → Rp K G (.ref a) (.scr ns)
  | st {a : Addr} {L : List (Addr × List Int)} {ks : List (List Int)} : G a = some (PZ.StO a L) → (∀ p ∈ L, SqT K G p.1 (p.2.map V.int)) → (L.map (·.2)).Nodup → (∀ k, k ∈ L.map (·.2) ↔ k ∈ ks) → Rp K G (.ref a) (.st ks)
inductive RpL (K : PySem.W.Frag) (G : Hp) : List V → List D → Prop
  | nil : RpL K G [] []
  | cons {v : V} {vs : List V} {d : D} {ds : List D} : Rp K G v d → RpL K G vs ds → RpL K G (v :: vs) (d :: ds)
end

theorem same_rd {H H' : Hp} {a : Addr} {o : HO} (e : Same H H') (h : Rd H a o) : Rd H' a o := by
  rcases h with h | ⟨u, h⟩
  · exact .inl (e _ _ h)
  · exact .inr ⟨u, e _ _ h⟩
theorem same_sqL {K : PySem.W.Frag} {H H' : Hp} {a : Addr} {xs : List V} (e : Same H H') (h : SqL K H a xs) : SqL K H' a xs := h.elim (fun q => .inl (same_rd e q)) .inr
theorem same_sqT {K : PySem.W.Frag} {H H' : Hp} {a : Addr} {xs : List V} (e : Same H H') (h : SqT K H a xs) : SqT K H' a xs := by
  rcases h with (h | ⟨o, h⟩) | h
  · exact .inl (.inl (e _ _ h))
  · exact .inl (.inr ⟨o, e _ _ h⟩)
  · exact .inr h

mutual
theorem Rp.mono {K : PySem.W.Frag} {G G' : Hp} (e : Same G G') : ∀ {v : V} {d : D}, Rp K G v d → Rp K G' v d
  | _, _, .non => .non
  | _, _, .bl b => .bl b
  | _, _, .int i => .int i
  | _, _, .str x => .str x
  | _, _, .fn a => .fn a
  | _, _, .dct h => .dct (e _ _ h)
  | _, _, .tup h r => .tup (same_sqT e h) (RpL.mono e r)
  | _, _, .lst h r => .lst (same_rd e h) (RpL.mono e r)
  | _, _, .ty n => .ty n
  | _, _, .scr h => .scr (same_sqL e h)
  | _, _, .st h t n m => .st (e _ _ h) (fun p hp => same_sqT e (t p hp)) n m
theorem RpL.mono {K : PySem.W.Frag} {G G' : Hp} (e : Same G G') : ∀ {vs : List V} {ds : List D}, RpL K G vs ds → RpL K G' vs ds
  | _, _, .nil => .nil
  | _, _, .cons h r => .cons (Rp.mono e h) (RpL.mono e r)
end
section
variable {K : PySem.W.Frag} {G G' H H' : Hp} {v : V} {vs ws : List V} {d : D} {ds es : List D}
theorem RpL.len : ∀ {vs : List V} {ds : List D}, RpL K G vs ds → vs.length = ds.length
  | _, _, .nil => rfl
  | _, _, .cons _ r => by rw [List.length_cons, List.length_cons, RpL.len r]
theorem RpL.app : ∀ {vs : List V} {ds : List D}, RpL K G vs ds → RpL K G ws es → RpL K G (vs ++ ws) (ds ++ es)
  | _, _, .nil, s => s
  | _, _, .cons h r, s => .cons h (RpL.app r s)
theorem RpL.get : ∀ {vs : List V} {ds : List D} {i : Nat} {d : D}, RpL K G vs ds → ds[i]? = some d → ∃ v, vs[i]? = some v ∧ Rp K G v d
  | _, _, _, _, .nil, e => by simp at e
  | _, _, 0, d, .cons h _, e => by
    have e : _ = d := Option.some.inj e
    subst e
    exact ⟨_, rfl, h⟩
  | _, _, i + 1, d, .cons _ r, e => RpL.get (i := i) r e
theorem RpL.getV : ∀ {vs : List V} {ds : List D} {i : Nat} {v : V}, RpL K G vs ds → vs[i]? = some v → ∃ d, ds[i]? = some d ∧ Rp K G v d
  | _, _, _, _, .nil, e => by simp at e
  | _, _, 0, d, .cons h _, e => by
    have e : _ = d := Option.some.inj e
    subst e
    exact ⟨_, rfl, h⟩
  | _, _, i + 1, d, .cons _ r, e => RpL.getV (i := i) r e
theorem RpL.take : ∀ {vs : List V} {ds : List D} (n : Nat), RpL K G vs ds → RpL K G (vs.take n) (ds.take n)
  | _, _, 0, _ => .nil
  | _, _, _ + 1, .nil => .nil
  | _, _, n + 1, .cons h r => .cons h (RpL.take n r)
theorem RpL.drop : ∀ {vs : List V} {ds : List D} (n : Nat), RpL K G vs ds → RpL K G (vs.drop n) (ds.drop n)
  | _, _, 0, r => r
  | _, _, _ + 1, .nil => .nil
  | _, _, n + 1, .cons _ r => RpL.drop n r
theorem RpL.set (h : Rp K G v d) : ∀ {vs : List V} {ds : List D} (n : Nat), RpL K G vs ds → RpL K G (vs.set n v) (ds.set n d)
  | _, _, _, .nil => .nil
  | _, _, 0, .cons _ r => .cons h r
  | _, _, n + 1, .cons q r => .cons q (RpL.set h n r)
theorem RpL.erase : ∀ {vs : List V} {ds : List D} (n : Nat), RpL K G vs ds → RpL K G (vs.eraseIdx n) (ds.eraseIdx n)
  | _, _, _, .nil => .nil
  | _, _, 0, .cons _ r => r
  | _, _, n + 1, .cons q r => .cons q (RpL.erase n r)
theorem RpL.rev (r : RpL K G vs ds) : RpL K G vs.reverse ds.reverse := by
  have go : ∀ {vs : List V} {ds : List D}, RpL K G vs ds → ∀ {ws es}, RpL K G ws es → RpL K G (vs.reverse ++ ws) (ds.reverse ++ es) := by
    intro vs ds r
    induction vs generalizing ds with
    | nil => cases r with | nil => intro ws es s; exact s
    | cons v vs ih =>
      cases r with
      | cons h r =>
        intro ws es s
        rw [List.reverse_cons, List.reverse_cons, List.append_assoc, List.append_assoc]
        exact ih r (.cons h s)
  have := go r RpL.nil
  simpa using this
theorem RpL.rep (r : RpL K G vs ds) : ∀ k : Nat, RpL K G (List.replicate k vs).flatten (List.replicate k ds).flatten
  | 0 => .nil
  | k + 1 => by
    rw [List.replicate_succ, List.replicate_succ, List.flatten_cons, List.flatten_cons]
    exact r.app (RpL.rep r k)
theorem RpL.one (h : Rp K G v d) : RpL K G [v] [d] := .cons h .nil
/-! inversions -/
theorem Rp.tupI (h : Rp K G v (.tup ds)) : ∃ a vs, v = .ref a ∧ SqT K G a vs ∧ RpL K G vs ds := by
  cases h with | tup h r => exact ⟨_, _, rfl, h, r⟩
theorem Rp.lstI (h : Rp K G v (.lst ds)) : ∃ a vs, v = .ref a ∧ Rd G a (.lst vs) ∧ RpL K G vs ds := by
  cases h with | lst h r => exact ⟨_, _, rfl, h, r⟩
theorem Rp.intI {i : Int} (h : Rp K G v (.int i)) : v = .int i := by cases h; rfl
theorem Rp.blI {b : Bool} (h : Rp K G v (.bl b)) : v = .bl b := by cases h; rfl
theorem Rp.strI {x : Str} (h : Rp K G v (.str x)) : v = .str x := by cases h; rfl
theorem Rp.nonI (h : Rp K G v .non) : v = .non := by cases h; rfl
theorem RpL.nilI (h : RpL K G vs []) : vs = [] := by cases h; rfl
theorem RpL.consI (h : RpL K G vs (d :: ds)) : ∃ v ws, vs = v :: ws ∧ Rp K G v d ∧ RpL K G ws ds := by
  cases h with | cons h r => exact ⟨_, _, rfl, h, r⟩
theorem RpL.ints : ∀ {vs : List V} {ns : List Int}, RpL K G vs (ns.map D.int) → vs = ns.map V.int
  | _, [], h => h.nilI
  | _, n :: ns, h => by
    obtain ⟨v, ws, rfl, h1, h2⟩ := RpL.consI h
    rw [h1.intI, RpL.ints h2]; rfl
theorem RpL.bls : ∀ {vs : List V} {ns : List Bool}, RpL K G vs (ns.map D.bl) → vs = ns.map V.bl
  | _, [], h => h.nilI
  | _, n :: ns, h => by
    obtain ⟨v, ws, rfl, h1, h2⟩ := RpL.consI h
    rw [h1.blI, RpL.bls h2]; rfl
theorem RpL.strs : ∀ {vs : List V} {ns : List Str}, RpL K G vs (ns.map D.str) → vs = ns.map V.str
  | _, [], h => h.nilI
  | _, n :: ns, h => by
    obtain ⟨v, ws, rfl, h1, h2⟩ := RpL.consI h
    rw [h1.strI, RpL.strs h2]; rfl
theorem RpL.ofInts : ∀ (ns : List Int), RpL K G (ns.map V.int) (ns.map D.int)
  | [] => .nil
  | n :: ns => .cons (.int n) (RpL.ofInts ns)
end

/-! ### slots, frames -/
inductive Sl where
  | no | fz (d : D) | ow (ds : List D) | ur
abbrev Env := List Sl
/-- F: what must stand; L: what the frozen heap must not take in; U: the urn -/
structure Fm where
  F : Hp
  L : Addr → Prop
  U : Option Addr
def UrnOk (H : Hp) (u : Addr) : Prop := ∃ x y z : Int, H u = some (.lst [.int x, .int y, .int z])
structure Frm (M : Fm) (G H : Hp) : Prop where
  gs : Same G H
  fs : Same M.F H
  lk : ∀ b, M.L b → G b = none
  lf : ∀ b, M.L b → M.F b ≠ none
  ur : ∀ u, M.U = some u → M.F u = none ∧ G u = none ∧ UrnOk H u
def SlOk (K : PySem.W.Frag) (M : Fm) (G H : Hp) (x : Option (Option V)) : Sl → Prop
  | .no => True
  | .fz d => ∃ v, x = some (some v) ∧ Rp K G v d
  | .ow ds => ∃ a vs, x = some (some (.ref a)) ∧ G a = none ∧ M.F a = none ∧ M.U ≠ some a ∧ H a = some (.lst vs) ∧ RpL K G vs ds
  | .ur => ∃ u, M.U = some u ∧ x = some (some (.ref u))
structure Rel (K : PySem.W.Frag) (M : Fm) (G : Hp) (ρ : Env) (σ : L2.St) (H : Hp) : Prop where
  frm : Frm M G H
  len : ρ.length = σ.length
  sl : ∀ (i : Nat) (s : Sl), ρ[i]? = some s → SlOk K M G H σ[i]? s
  sep : ∀ (i j : Nat) (a : Addr) (ds es : List D), i ≠ j → ρ[i]? = some (.ow ds) → ρ[j]? = some (.ow es) → σ[i]? = some (some (.ref a)) → σ[j]? = some (some (.ref a)) → False

section
variable {K : PySem.W.Frag} {M : Fm} {G G' H H' : Hp} {ρ : Env} {σ : L2.St} {p : Addr} {o : HO}
theorem same_upd {H : Hp} {p : Addr} {o : HO} (h : H p = none) : Same H (upd H p o) := fun b x e => by
  rw [upd_ne (ne_of_none e h)]
  exact e
theorem upd2 (s : Same G H) (h : H p = none) : Same (upd G p o) (upd H p o) := fun b x e => by
  by_cases hb : b = p
  · subst hb; rw [upd_same] at e ⊢; exact e
  · rw [upd_ne hb] at e ⊢; exact s _ _ e
theorem to_upd (s : Same G H) (h : G p = none) : Same G (upd H p o) := fun b x e => by
  rw [upd_ne (ne_of_none e h)]; exact s _ _ e
/-- a new object, taken in -/
theorem Frm.new (f : Frm M G H) (hp : H p = none) : Frm M (upd G p o) (upd H p o) where
  gs := upd2 f.gs hp
  fs := to_upd f.fs (f.fs.free hp)
  lk := fun b hb => by
    have : b ≠ p := fun e => by subst e; exact f.lf b hb (f.fs.free hp)
    rw [upd_ne this]; exact f.lk b hb
  lf := f.lf
  ur := fun u hu => by
    obtain ⟨h1, h2, x, y, z, h3⟩ := f.ur u hu
    have : u ≠ p := ne_of_none h3 hp
    exact ⟨h1, by rw [upd_ne this]; exact h2, x, y, z, by rw [upd_ne this]; exact h3⟩
/-- a new object, not taken in -/
theorem Frm.out (f : Frm M G H) (hp : H p = none) : Frm M G (upd H p o) where
  gs := to_upd f.gs (f.gs.free hp)
  fs := to_upd f.fs (f.fs.free hp)
  lk := f.lk
  lf := f.lf
  ur := fun u hu => by
    obtain ⟨h1, h2, x, y, z, h3⟩ := f.ur u hu
    have : u ≠ p := ne_of_none h3 hp
    exact ⟨h1, h2, x, y, z, by rw [upd_ne this]; exact h3⟩
theorem SlOk.grow {x : Option (Option V)} {s : Sl} (h : SlOk K M G H x s) (g : Same G G') (k : ∀ a vs, G a = none → M.F a = none → M.U ≠ some a → H a = some (.lst vs) → G' a = none ∧ H' a = some (.lst vs)) : SlOk K M G' H' x s := by
  cases s with
  | no => trivial
  | fz d => obtain ⟨v, e, r⟩ := h; exact ⟨v, e, r.mono g⟩
  | ow ds =>
    obtain ⟨a, vs, e, h1, h2, h3, h4, r⟩ := h
    obtain ⟨k1, k2⟩ := k a vs h1 h2 h3 h4
    exact ⟨a, vs, e, k1, h2, h3, k2, r.mono g⟩
  | ur => exact h
theorem Rel.new (r : Rel K M G ρ σ H) (hp : H p = none) : Rel K M (upd G p o) ρ σ (upd H p o) where
  frm := r.frm.new hp
  len := r.len
  sl := fun i s e => (r.sl i s e).grow (same_upd (r.frm.gs.free hp)) fun a vs h1 _ _ h4 => by
    have : a ≠ p := ne_of_none h4 hp
    rw [upd_ne this, upd_ne this]; exact ⟨h1, h4⟩
  sep := r.sep
theorem Rel.out (r : Rel K M G ρ σ H) (hp : H p = none) : Rel K M G ρ σ (upd H p o) where
  frm := r.frm.out hp
  len := r.len
  sl := fun i s e => (r.sl i s e).grow (Same.refl G) fun a vs h1 _ _ h4 => by
    have : a ≠ p := ne_of_none h4 hp
    rw [upd_ne this]; exact ⟨h1, h4⟩
  sep := r.sep
/-- a slot is given frozen data -/
theorem Rel.setF {v : V} {d : D} (r : Rel K M G ρ σ H) (h : Rp K G v d) (i : Nat) : Rel K M G (ρ.set i (.fz d)) (σ.set i (some v)) H where
  frm := r.frm
  len := by rw [List.length_set, List.length_set]; exact r.len
  sl := fun j s e => by
    by_cases hj : i = j
    · subst hj
      have hi : i < ρ.length := by
        have := (List.getElem?_eq_some_iff.mp e).1
        simpa using this
      rw [List.getElem?_set_self hi] at e
      have e := Option.some.inj e
      subst e
      rw [List.getElem?_set_self (by rw [← r.len]; exact hi)]
      exact ⟨v, rfl, h⟩
    · rw [List.getElem?_set_ne hj] at e ⊢
      exact r.sl j s e
  sep := fun j k a ds es hjk e1 e2 e3 e4 => by
    by_cases hj : i = j
    · subst hj
      have hi : i < ρ.length := by simpa using (List.getElem?_eq_some_iff.mp e1).1
      rw [List.getElem?_set_self hi] at e1; cases e1
    · by_cases hk : i = k
      · subst hk
        have hi : i < ρ.length := by simpa using (List.getElem?_eq_some_iff.mp e2).1
        rw [List.getElem?_set_self hi] at e2; cases e2
      · rw [List.getElem?_set_ne hj] at e1 e3
        rw [List.getElem?_set_ne hk] at e2 e4
        exact r.sep j k a ds es hjk e1 e2 e3 e4
/-- a slot is forgotten -/
theorem Rel.drop (r : Rel K M G ρ σ H) (i : Nat) (w : Option V) : Rel K M G (ρ.set i .no) (σ.set i w) H where
  frm := r.frm
  len := by rw [List.length_set, List.length_set]; exact r.len
  sl := fun j s e => by
    by_cases hj : i = j
    · subst hj
      have hi : i < ρ.length := by simpa using (List.getElem?_eq_some_iff.mp e).1
      rw [List.getElem?_set_self hi] at e
      have e := Option.some.inj e
      subst e
      trivial
    · rw [List.getElem?_set_ne hj] at e ⊢
      exact r.sl j s e
  sep := fun j k a ds es hjk e1 e2 e3 e4 => by
    by_cases hj : i = j
    · subst hj
      have hi : i < ρ.length := by simpa using (List.getElem?_eq_some_iff.mp e1).1
      rw [List.getElem?_set_self hi] at e1; cases e1
    · by_cases hk : i = k
      · subst hk
        have hi : i < ρ.length := by simpa using (List.getElem?_eq_some_iff.mp e2).1
        rw [List.getElem?_set_self hi] at e2; cases e2
      · rw [List.getElem?_set_ne hj] at e1 e3
        rw [List.getElem?_set_ne hk] at e2 e4
        exact r.sep j k a ds es hjk e1 e2 e3 e4
/-- a new list for an owned slot -/
theorem Rel.own {vs : List V} {ds : List D} (r : Rel K M G ρ σ H) (hp : H p = none) (h : RpL K G vs ds) (i : Nat) : Rel K M G (ρ.set i (.ow ds)) (σ.set i (some (.ref p))) (upd H p (.lst vs)) where
  frm := r.frm.out hp
  len := by rw [List.length_set, List.length_set]; exact r.len
  sl := fun j s e => by
    by_cases hj : i = j
    · subst hj
      have hi : i < ρ.length := by simpa using (List.getElem?_eq_some_iff.mp e).1
      rw [List.getElem?_set_self hi] at e
      have e := Option.some.inj e
      subst e
      rw [List.getElem?_set_self (by rw [← r.len]; exact hi)]
      refine ⟨p, vs, rfl, r.frm.gs.free hp, r.frm.fs.free hp, fun hu => ?_, upd_same, h⟩
      obtain ⟨_, _, x, y, z, q⟩ := r.frm.ur p hu
      rw [hp] at q; cases q
    · rw [List.getElem?_set_ne hj] at e ⊢
      exact (r.out hp).sl j s e
  sep := fun j k a ds es hjk e1 e2 e3 e4 => by
    have no : ∀ j es, i ≠ j → ρ[j]? = some (.ow es) → σ[j]? ≠ some (some (.ref p)) := fun j es hj e1 e2 => by
      obtain ⟨a, vs, e, _, _, _, q, _⟩ := r.sl j _ e1
      rw [e2] at e; cases e
      rw [hp] at q; cases q
    by_cases hj : i = j
    · subst hj
      have hi : i < σ.length := by simpa using (List.getElem?_eq_some_iff.mp e3).1
      rw [List.getElem?_set_self hi] at e3
      cases e3
      rw [List.getElem?_set_ne hjk] at e2 e4
      exact no k es hjk e2 e4
    · by_cases hk : i = k
      · subst hk
        have hi : i < σ.length := by simpa using (List.getElem?_eq_some_iff.mp e4).1
        rw [List.getElem?_set_self hi] at e4
        cases e4
        rw [List.getElem?_set_ne hj] at e1 e3
        exact no j ds hj e1 e3
      · rw [List.getElem?_set_ne hj] at e1 e3
        rw [List.getElem?_set_ne hk] at e2 e4
        exact r.sep j k a ds es hjk e1 e2 e3 e4
/-- an owned list is changed -/
theorem Rel.wr {vs ws : List V} {ds es : List D} {a : Addr} {i : Nat} (r : Rel K M G ρ σ H) (hi : ρ[i]? = some (.ow ds)) (ha : σ[i]? = some (some (.ref a))) (hH : H a = some (.lst vs)) (h : RpL K G ws es) :
    Rel K M G (ρ.set i (.ow es)) σ (upd H a (.lst ws)) := by
  obtain ⟨a', vs', e', g1, g2, g3, g4, g5⟩ := r.sl i _ hi
  rw [ha] at e'
  cases e'
  have hlt : i < ρ.length := (List.getElem?_eq_some_iff.mp hi).1
  refine ⟨⟨to_upd r.frm.gs g1, to_upd r.frm.fs g2, r.frm.lk, r.frm.lf, fun u hu => ?_⟩, by rw [List.length_set]; exact r.len, fun j s e => ?_, fun j k b ds' es' hjk e1 e2 e3 e4 => ?_⟩
  · obtain ⟨h1, h2, x, y, z, h3⟩ := r.frm.ur u hu
    have : u ≠ a := fun e => g3 (by rw [← e]; exact hu)
    exact ⟨h1, h2, x, y, z, by rw [upd_ne this]; exact h3⟩
  · by_cases hj : i = j
    · subst hj
      rw [List.getElem?_set_self hlt] at e
      have e := Option.some.inj e
      subst e
      exact ⟨a, ws, ha, g1, g2, g3, upd_same, h⟩
    · rw [List.getElem?_set_ne hj] at e
      have q := r.sl j s e
      cases s with
      | no => trivial
      | fz d => exact q
      | ur => exact q
      | ow ds' =>
        obtain ⟨b, us, e', q1, q2, q3, q4, q5⟩ := q
        refine ⟨b, us, e', q1, q2, q3, ?_, q5⟩
        have : b ≠ a := fun z => by
          subst z
          exact r.sep i j b _ _ hj hi e ha e'
        rw [upd_ne this]; exact q4
  · by_cases hj : i = j
    · subst hj
      rw [List.getElem?_set_ne hjk] at e2
      exact r.sep i k b _ _ hjk hi e2 e3 e4
    · by_cases hk : i = k
      · subst hk
        rw [List.getElem?_set_ne hj] at e1
        exact r.sep j i b _ _ hjk e1 hi e3 e4
      · rw [List.getElem?_set_ne hj] at e1
        rw [List.getElem?_set_ne hk] at e2
        exact r.sep j k b ds' es' hjk e1 e2 e3 e4
/-- an owned list becomes frozen -/
theorem Rel.freeze {ds : List D} {i : Nat} (r : Rel K M G ρ σ H) (hi : ρ[i]? = some (.ow ds)) : ∃ G', Same G G' ∧ Rel K M G' (ρ.set i (.fz (.lst ds))) σ H ∧ ∃ a vs, σ[i]? = some (some (.ref a)) ∧ G a = none ∧ H a = some (.lst vs) ∧ G' = upd G a (.lst vs) := by
  obtain ⟨a, vs, e', g1, g2, g3, g4, g5⟩ := r.sl i _ hi
  have hlt : i < ρ.length := (List.getElem?_eq_some_iff.mp hi).1
  have sg : Same G (upd G a (.lst vs)) := same_upd g1
  refine ⟨upd G a (.lst vs), sg, ⟨⟨fun b o e => ?_, r.frm.fs, fun b hb => ?_, r.frm.lf, fun u hu => ?_⟩, by rw [List.length_set]; exact r.len, fun j s e => ?_, fun j k b ds' es' hjk e1 e2 e3 e4 => ?_⟩, a, vs, e', g1, g4, rfl⟩
  · by_cases hb : b = a
    · subst hb; rw [upd_same] at e; cases e; exact g4
    · rw [upd_ne hb] at e; exact r.frm.gs _ _ e
  · have : b ≠ a := fun e => by subst e; exact r.frm.lf b hb g2
    rw [upd_ne this]; exact r.frm.lk b hb
  · obtain ⟨h1, h2, h3⟩ := r.frm.ur u hu
    have : u ≠ a := fun e => g3 (by rw [← e]; exact hu)
    exact ⟨h1, by rw [upd_ne this]; exact h2, h3⟩
  · by_cases hj : i = j
    · subst hj
      rw [List.getElem?_set_self hlt] at e
      have e := Option.some.inj e
      subst e
      exact ⟨_, e', .lst (.inl upd_same) (g5.mono sg)⟩
    · rw [List.getElem?_set_ne hj] at e
      have q := r.sl j s e
      cases s with
      | no => trivial
      | fz d => obtain ⟨v, e1, q⟩ := q; exact ⟨v, e1, q.mono sg⟩
      | ur => exact q
      | ow ds' =>
        obtain ⟨b, us, e'', q1, q2, q3, q4, q5⟩ := q
        have : b ≠ a := fun z => by
          subst z
          exact r.sep i j b _ _ hj hi e e' e''
        exact ⟨b, us, e'', by rw [upd_ne this]; exact q1, q2, q3, q4, q5.mono sg⟩
  · by_cases hj : i = j
    · subst hj
      rw [List.getElem?_set_self hlt] at e1; cases e1
    · by_cases hk : i = k
      · subst hk
        rw [List.getElem?_set_self hlt] at e2; cases e2
      · rw [List.getElem?_set_ne hj] at e1
        rw [List.getElem?_set_ne hk] at e2
        exact r.sep j k b ds' es' hjk e1 e2 e3 e4
end
end PD

namespace PD
open PySem PySem.Spec PyProof.Rows L2

/-! ### readings over plain data -/
abbrev DE := Env → (D → Prop) → Prop
abbrev DT := Env → (Bool → Prop) → Prop
abbrev DA := Env → (List D → Prop) → Prop
structure DEnds where
  nx : Env → Prop
  rt : D → Prop
  bk : Env → Prop := fun _ => False
  ct : Env → Prop := fun _ => False
  rf : List D → Prop := fun _ => False
abbrev DS := DEnds → Env → Prop
abbrev DG := D → Env → (Env → Prop) → Prop

def SE (K : PySem.W.Frag) (t : TE) (e : DE) : Prop := ∀ (M : Fm) (G : Hp) (ρ : Env) (σ : L2.St) (H : Hp) (P : D → Prop) (Q : VK), Rel K M G ρ σ H → e ρ P →
  (∀ d v G' H', P d → Rel K M G' ρ σ H' → Same G G' → Rp K G' v d → Q v H') → t σ H Q
/-- an expression that gives a new list -/
def SF (K : PySem.W.Frag) (t : TE) (e : DA) : Prop := ∀ (M : Fm) (G : Hp) (ρ : Env) (σ : L2.St) (H : Hp) (P : List D → Prop) (Q : VK), Rel K M G ρ σ H → e ρ P →
  (∀ ds vs p G' H', P ds → Rel K M G' ρ σ H' → Same G G' → RpL K G' vs ds → H' p = none → Q (.ref p) (upd H' p (.lst vs))) → t σ H Q
def ST (K : PySem.W.Frag) (t : TT) (e : DT) : Prop := ∀ (M : Fm) (G : Hp) (ρ : Env) (σ : L2.St) (H : Hp) (P : Bool → Prop) (Q : Bool → Hp → Prop), Rel K M G ρ σ H → e ρ P →
  (∀ b G' H', P b → Rel K M G' ρ σ H' → Same G G' → Q b H') → t σ H Q
def SA (K : PySem.W.Frag) (t : TA) (e : DA) : Prop := ∀ (M : Fm) (G : Hp) (ρ : Env) (σ : L2.St) (H : Hp) (P : List D → Prop) (Q : List V → Hp → Prop), Rel K M G ρ σ H → e ρ P →
  (∀ ds vs G' H', P ds → Rel K M G' ρ σ H' → Same G G' → RpL K G' vs ds → Q vs H') → t σ H Q
structure Lk (K : PySem.W.Frag) (M : Fm) (G : Hp) (P : DEnds) (D : Ends) : Prop where
  nx : ∀ ρ σ G' H', P.nx ρ → Rel K M G' ρ σ H' → Same G G' → D.nx σ H'
  bk : ∀ ρ σ G' H', P.bk ρ → Rel K M G' ρ σ H' → Same G G' → D.bk σ H'
  ct : ∀ ρ σ G' H', P.ct ρ → Rel K M G' ρ σ H' → Same G G' → D.ct σ H'
  rt : ∀ d v G' H', P.rt d → Frm M G' H' → Same G G' → Rp K G' v d → D.rt v H'
  rf : ∀ ds vs p G' H', P.rf ds → Frm M G' H' → Same G G' → RpL K G' vs ds → H' p = none → D.rt (.ref p) (upd H' p (.lst vs))
def SS (K : PySem.W.Frag) (t : TS) (e : DS) : Prop := ∀ (M : Fm) (G : Hp) (ρ : Env) (σ : L2.St) (H : Hp) (P : DEnds) (D : Ends), Rel K M G ρ σ H → e P ρ → Lk K M G P D → t D σ H
def SG (K : PySem.W.Frag) (t : TG) (g : DG) : Prop := ∀ (M : Fm) (G : Hp) (ρ : Env) (σ : L2.St) (H : Hp) (v : V) (d : D) (P : Env → Prop) (Q : L2.St → Hp → Prop), Rel K M G ρ σ H → Rp K G v d → g d ρ P →
  (∀ ρ' σ', P ρ' → Rel K M G ρ' σ' H → Q σ' H) → t v σ H Q
theorem Lk.mono {K : PySem.W.Frag} {M : Fm} {G G' : Hp} {P : DEnds} {D : Ends} (l : Lk K M G P D) (s : Same G G') : Lk K M G' P D :=
  ⟨fun ρ σ g h a b c => l.nx ρ σ g h a b (s.trans c), fun ρ σ g h a b c => l.bk ρ σ g h a b (s.trans c), fun ρ σ g h a b c => l.ct ρ σ g h a b (s.trans c), fun d v g h a b c => l.rt d v g h a b (s.trans c), fun ds vs p g h a b c => l.rf ds vs p g h a b (s.trans c)⟩

structure PDE (X : Cx) (e : Expr) (t : TE) (d : DE) : Prop where
  pe : PE X e t
  se : SE X.K t d
structure PDF (X : Cx) (e : Expr) (t : TE) (d : DA) : Prop where
  pe : PE X e t
  se : SF X.K t d
structure PDT (X : Cx) (e : Expr) (t : TT) (d : DT) : Prop where
  pe : PT X e t
  se : ST X.K t d
structure PDW (X : Cx) (e : Expr) (t : TT) (d : DT) : Prop where
  pe : PW X e t
  se : ST X.K t d
structure PDA (X : Cx) (es : List Expr) (t : TA) (d : DA) : Prop where
  pe : PA X es t
  se : SA X.K t d
structure PDS (X : Cx) (e : Stmt) (t : TS) (d : DS) : Prop where
  pe : PS X e t
  se : SS X.K t d
structure PDSs (X : Cx) (e : List Stmt) (t : TS) (d : DS) : Prop where
  pe : PSs X e t
  se : SS X.K t d
structure PDG (X : Cx) (e : Expr) (t : TG) (d : DG) : Prop where
  pe : PG X e t
  se : SG X.K t d

/-! ### names, constants -/
def sat : Env → Nat → Sl
  | [], _ => .no
  | s :: _, 0 => s
  | _ :: r, n + 1 => sat r n
theorem sat_get : ∀ {ρ : Env} {i : Nat} {s : Sl}, sat ρ i = s → s ≠ .no → ρ[i]? = some s
  | [], _, _, h, n => absurd h.symm n
  | s :: _, 0, _, h, _ => by subst h; rfl
  | _ :: r, i + 1, _, h, n => sat_get (ρ := r) (i := i) h n
/-- what a frozen slot holds -/
def Sl.fzP (P : D → Prop) : Sl → Prop
  | .fz d => P d
  | _ => False
def Sl.owP (P : List D → Prop) : Sl → Prop
  | .ow ds => P ds
  | _ => False
theorem Sl.fzP_of {P : D → Prop} : ∀ {s : Sl}, s.fzP P → ∃ d, s = .fz d ∧ P d
  | .fz d, h => ⟨d, rfl, h⟩
  | .no, h => h.elim
  | .ow _, h => h.elim
  | .ur, h => h.elim
theorem Sl.owP_of {P : List D → Prop} : ∀ {s : Sl}, s.owP P → ∃ d, s = .ow d ∧ P d
  | .ow d, h => ⟨d, rfl, h⟩
  | .no, h => h.elim
  | .fz _, h => h.elim
  | .ur, h => h.elim
def dVar (i : Nat) : DE := fun ρ P => (sat ρ i).fzP P
def dC (d : D) : DE := fun _ P => P d
section
variable {X : Cx} {K : PySem.W.Frag}
theorem Rel.fzAt {M : Fm} {G H : Hp} {ρ : Env} {σ : L2.St} {i : Nat} {P : D → Prop} (r : Rel K M G ρ σ H) (h : (sat ρ i).fzP P) : ∃ d v, P d ∧ σ[i]? = some (some v) ∧ Rp K G v d := by
  obtain ⟨d, e, p⟩ := Sl.fzP_of h
  obtain ⟨v, e1, q⟩ := r.sl i _ (sat_get e (fun z => nomatch z))
  exact ⟨d, v, p, e1, q⟩
theorem se_var (i : Nat) : SE K (tVar i) (dVar i) := fun M G ρ σ H P Q r h k => by
  obtain ⟨d, v, p, e1, q⟩ := r.fzAt h
  exact ⟨v, e1, k d v G H p r (Same.refl G) q⟩
theorem se_c {v : V} {d : D} (h : ∀ G, Rp K G v d) : SE K (tC v) (dC d) := fun M G ρ σ H P Q r hp k => k d v G H hp r (Same.refl G) (h G)
theorem dv (i : Nat) {x : Str} {pos : Pos} (hN : X.N[i]? = some x := by rfl) (hv : Vis X.env.scope x := by first | exact Or.inl rfl | exact Or.inr (Or.inl rfl) | exact Or.inr (Or.inr rfl)) (hd : (x == ("__debug__" : Str)) = false := by decide)
    (hcd : (x == ("__classdict__" : Str)) = false := by decide) : PDE X (.Name x pos) (tVar i) (dVar i) := ⟨pe_var hN hv hd hcd, se_var i⟩
theorem d_int {i j pos} : PDE X (.Constant (.int i) j pos) (tC (.int i)) (dC (.int i)) := ⟨pe_int, se_c fun _ => .int _⟩
theorem d_bl {b j pos} : PDE X (.Constant (.bool b) j pos) (tC (.bl b)) (dC (.bl b)) := ⟨pe_bl, se_c fun _ => .bl _⟩
theorem d_non {j pos} : PDE X (.Constant .none j pos) (tC .non) (dC .non) := ⟨pe_non, se_c fun _ => .non⟩
theorem d_str {x j pos} : PDE X (.Constant (.str x) j pos) (tC (.str x)) (dC (.str x)) := ⟨pe_str, se_c fun _ => .str _⟩
/-- a module's constant -/
theorem d_glob {x : Str} {v : V} {u : Value} {d : D} {pos : Pos} (hg : Gl X x) (hm : X.mg x = some u) (r : RelV v u) (h : ∀ G, Rp X.K G v d) (hd : (x == ("__debug__" : Str)) = false := by decide) : PDE X (.Name x pos) (tC v) (dC d) :=
  ⟨pe_glob hg hm r hd, se_c h⟩
theorem d_bltn {x : Str} {n : String} {pos : Pos} (hg : Gl X x) (hm : X.mg x = none) (hv : bootBuiltins x = some (.type n)) (hn : x ≠ "__name__" := by decide) (hd : (x == ("__debug__" : Str)) = false := by decide) : PDE X (.Name x pos) (tC (.ty n)) (dC (.ty n)) :=
  ⟨pe_bltn hg hm hv rfl hn hd, se_c fun _ => .ty n⟩

/-! ### operators -/
abbrev DO := D → D → (D → Prop) → Prop
def SOp (K : PySem.W.Frag) (r : R2) (f : DO) : Prop := ∀ (M : Fm) (G : Hp) (ρ : Env) (σ : L2.St) (H : Hp) (x y : V) (d e : D) (P : D → Prop) (Q : VK), Rel K M G ρ σ H → Rp K G x d → Rp K G y e → f d e P →
  (∀ d v G' H', P d → Rel K M G' ρ σ H' → Same G G' → Rp K G' v d → Q v H') → r x y H Q
def dBin (f : DO) (a b : DE) : DE := fun ρ P => a ρ fun x => b ρ fun y => f x y P
theorem se_bin {r : R2} {f : DO} {ta tb : TE} {da db : DE} (h : SOp K r f) (ha : SE K ta da) (hb : SE K tb db) : SE K (tOp r ta tb) (dBin f da db) := fun M G ρ σ H P Q rl hp k => by
  refine ha M G ρ σ H _ _ rl hp fun x vx G1 H1 p1 r1 s1 q1 => ?_
  refine hb M G1 ρ σ H1 _ _ r1 p1 fun y vy G2 H2 p2 r2 s2 q2 => ?_
  exact h M G2 ρ σ H2 vx vy x y P Q r2 (q1.mono s2) q2 p2 fun d v G' H' p r s q => k d v G' H' p r (s1.trans (s2.trans s)) q
structure PDO (X : Cx) (fn : Value → Value → Sem Value) (r : R2) (f : DO) : Prop where
  pe : OpR X fn r
  se : SOp X.K r f
theorem d_op {op : Operator} {r : R2} {f : DO} {a b : Expr} {ta tb : TE} {da db : DE} {pos : Pos} (h : PDO X (binaryOp op) r f) (ha : PDE X a ta da) (hb : PDE X b tb db) : PDE X (.BinOp a op b pos) (tOp r ta tb) (dBin f da db) :=
  ⟨pe_op h.pe ha.pe hb.pe, se_bin h.se ha.se hb.se⟩
theorem d_cmp {op : CmpOp} {r : R2} {f : DO} {a b : Expr} {ta tb : TE} {da db : DE} {pos : Pos} (h : PDO X (compareOp op) r f) (ha : PDE X a ta da) (hb : PDE X b tb db) (hm : behindInMarks op b = false) : PDE X (.Compare a [op] [b] pos) (tOp r ta tb) (dBin f da db) :=
  ⟨pe_cmpR h.pe ha.pe hb.pe hm, se_bin h.se ha.se hb.se⟩
/-- a op b op' c -/
def dChain (f f' : DO) (a b c : DE) : DE := fun ρ P => a ρ fun x => b ρ fun y => f x y fun z => match z with
  | .bl true => c ρ fun w => f' y w P
  | .bl false => P (.bl false)
  | _ => False
/-- ints -/
def oI (C : Int → Int → Prop) (g : Int → Int → D) : DO := fun x y P => match x, y with
  | .int i, .int j => C i j ∧ P (g i j)
  | _, _ => False
def oI0 (g : Int → Int → D) : DO := fun x y P => match x, y with
  | .int i, .int j => P (g i j)
  | _, _ => False
theorem oI_of {C : Int → Int → Prop} {g : Int → Int → D} {x y : D} {P : D → Prop} (h : oI C g x y P) : ∃ i j, x = .int i ∧ y = .int j ∧ C i j ∧ P (g i j) := by
  unfold oI at h; split at h
  · exact ⟨_, _, rfl, rfl, h⟩
  · exact h.elim
theorem oI0_of {g : Int → Int → D} {x y : D} {P : D → Prop} (h : oI0 g x y P) : ∃ i j, x = .int i ∧ y = .int j ∧ P (g i j) := by
  unfold oI0 at h; split at h
  · exact ⟨_, _, rfl, rfl, h⟩
  · exact h.elim
theorem so_I {C : Int → Int → Prop} {g : Int → Int → V} {g' : Int → Int → D} (h : ∀ i j G, Rp K G (g i j) (g' i j)) : SOp K (rI C g) (oI C g') := fun M G ρ σ H x y d e P Q r hx hy hp k => by
  obtain ⟨i, j, rfl, rfl, c, p⟩ := oI_of hp
  exact ⟨i, j, hx.intI, hy.intI, c, k _ _ G H p r (Same.refl G) (h i j G)⟩
theorem so_I0 {g : Int → Int → V} {g' : Int → Int → D} (h : ∀ i j G, Rp K G (g i j) (g' i j)) : SOp K (rI0 g) (oI0 g') := fun M G ρ σ H x y d e P Q r hx hy hp k => by
  obtain ⟨i, j, rfl, rfl, p⟩ := oI0_of hp
  exact ⟨i, j, hx.intI, hy.intI, k _ _ G H p r (Same.refl G) (h i j G)⟩
abbrev oSub : DO := oI0 fun i j => .int (i - j)
abbrev oLt : DO := oI0 fun i j => .bl (decide (i < j))
abbrev oLe : DO := oI0 fun i j => .bl (decide (i ≤ j))
abbrev oGt : DO := oI0 fun i j => .bl (decide (j < i))
abbrev oGe : DO := oI0 fun i j => .bl (decide (j ≤ i))
abbrev oMod : DO := oI (fun _ j => j ≠ 0) fun i j => .int (i.fmod j)
theorem do_sub : PDO X (binaryOp .Sub) (rI0 fun i j => .int (i - j)) oSub := ⟨op_sub, so_I0 fun _ _ _ => .int _⟩
theorem do_lt : PDO X (compareOp .Lt) (rI0 fun i j => .bl (decide (i < j))) oLt := ⟨op_lt, so_I0 fun _ _ _ => .bl _⟩
theorem do_le : PDO X (compareOp .LtE) (rI0 fun i j => .bl (decide (i ≤ j))) oLe := ⟨op_le, so_I0 fun _ _ _ => .bl _⟩
theorem do_gt : PDO X (compareOp .Gt) (rI0 fun i j => .bl (decide (j < i))) oGt := ⟨op_gt, so_I0 fun _ _ _ => .bl _⟩
theorem do_ge : PDO X (compareOp .GtE) (rI0 fun i j => .bl (decide (j ≤ i))) oGe := ⟨op_ge, so_I0 fun _ _ _ => .bl _⟩
theorem do_mod : PDO X (binaryOp .Mod) (rI (fun _ j => j ≠ 0) fun i j => .int (i.fmod j)) oMod := ⟨op_modN, so_I fun _ _ _ => .int _⟩
abbrev oPow : DO := oI CPow fun i j => .int (i ^ j.toNat)
theorem do_pow : PDO X (binaryOp .Pow) (rI CPow fun i j => .int (i ^ j.toNat)) oPow := ⟨op_pow, so_I fun _ _ _ => .int _⟩
/-- //: a divisor below 2 ^ 9000 -/
def CDv (_ j : Int) : Prop := j ≠ 0 ∧ j.natAbs.log2 < 9000
theorem op_dv : OpR X (binaryOp .FloorDiv) (rI CDv fun i j => .int (i.fdiv j)) := opI fun _ _ _ _ _ _ _ hc q => floordiv_int hc.1 q (.inl (PyProof.noPylong_of_log2 hc.2))
abbrev oDiv : DO := oI CDv fun i j => .int (i.fdiv j)
theorem do_div : PDO X (binaryOp .FloorDiv) (rI CDv fun i j => .int (i.fdiv j)) oDiv := ⟨op_dv, so_I fun _ _ _ => .int _⟩
theorem so_or {r r' : R2} {f : DO} (h : ∀ (M : Fm) (G : Hp) (ρ : Env) (σ : L2.St) (H : Hp) (x y : V) (d e : D) (P : D → Prop) (Q : VK), Rel K M G ρ σ H → Rp K G x d → Rp K G y e → f d e P →
    (∀ d v G' H', P d → Rel K M G' ρ σ H' → Same G G' → Rp K G' v d → Q v H') → r x y H Q ∨ r' x y H Q) : SOp K (fun x y H Q => r x y H Q ∨ r' x y H Q) f := h
/-! lists as they stand -/
theorem Inv.lstR {pins : List (Addr × Obj)} {σ : L2.St} {H : Hp} {s : Shared} {l : Addr} {xs : List V} (I : Inv X pins σ H s) (h : Rd H l (.lst xs)) :
    xs.length ≤ sizeLine ∧ ∃ (its : List Value) (n : Nat), Vals xs its ∧ xs.length = its.length ∧ s.heap.get? l = some { cls := .type "list", data := .seq its.toArray n } := by
  obtain ⟨z, its, n, r, e⟩ := h.ok I.hok
  exact ⟨z, its, n, r, r.length, e⟩
def rCatR : R2 := fun x y H Q => ∃ l b xs zs, x = .ref l ∧ y = .ref b ∧ Rd H l (.lst xs) ∧ Rd H b (.lst zs) ∧ xs.length + zs.length ≤ sizeLine ∧ ∀ p, H p = none → Q (.ref p) (upd H p (.lst (xs ++ zs)))
theorem op_catR : OpR X (binaryOp .Add) rCatR := by
  intro pins s σ H x y v u Q I rx ry ⟨l, b, xs, zs, ex, ey, hH, hB, hz, q⟩
  subst ex ey
  cases rx
  cases ry
  obtain ⟨_, its, n, r, hl, e⟩ := Inv.lstR I hH
  obtain ⟨_, its2, n2, r2, hl2, e2⟩ := Inv.lstR I hB
  refine PySem.P.add_list e e2 ?_ (by simp only [List.size_toArray]; omega)
  have ea : its.toArray ++ its2.toArray = (its ++ its2).toArray := by simp
  rw [ea]
  have hn : (xs ++ zs).length ≤ sizeLine := by rw [List.length_append]; exact hz
  exact ⟨.ref _, _, I.lnew (t' := s.toks) (r.append r2) hn, rfl, q _ I.fresh⟩
/-- + : ints, tuples, lists, texts -/
def oAdd : DO := fun x y P => match x, y with
  | .int i, .int j => P (.int (i + j))
  | .tup a, .tup b => a.length + b.length ≤ sizeLine ∧ P (.tup (a ++ b))
  | .lst a, .lst b => a.length + b.length ≤ sizeLine ∧ P (.lst (a ++ b))
  | .str a, .str b => a.length + b.length ≤ sizeLine ∧ P (.str (a ++ b))
  | _, _ => False
def rAddS : R2 := fun x y H Q => ∃ i j, x = .str i ∧ y = .str j ∧ i.length + j.length ≤ sizeLine ∧ Q (.str (i ++ j)) H
def rAddA (K : PySem.W.Frag) : R2 := fun x y H Q => (rI0 (fun i j => .int (i + j)) x y H Q ∨ rCatA K x y H Q) ∨ (rCatR x y H Q ∨ rAddS x y H Q)
theorem do_add : PDO X (binaryOp .Add) (rAddA X.K) oAdd := ⟨(op_add.or op_catA).or (op_catR.or op_add_str), fun M G ρ σ H x y d e P Q r hx hy hp k => by
  unfold oAdd at hp
  split at hp
  · exact .inl (.inl ⟨_, _, hx.intI, hy.intI, k _ _ G H hp r (Same.refl G) (.int _)⟩)
  · rename_i a b
    obtain ⟨p, xs, rfl, hs, rx⟩ := hx.tupI
    obtain ⟨q, ys, rfl, ht, ry⟩ := hy.tupI
    refine .inl (.inr ⟨p, q, xs, ys, rfl, rfl, same_sqT r.frm.gs hs, same_sqT r.frm.gs ht, by rw [rx.len, ry.len]; exact hp.1, fun z => ?_, fun z1 z2 => ?_, fun z1 z2 t ht' => ?_⟩)
    · subst z
      cases rx
      exact k _ _ G H hp.2 r (Same.refl G) hy
    · subst z2
      cases ry
      exact k _ _ G H (by rw [List.append_nil] at hp; exact hp.2) r (Same.refl G) hx
    · exact k _ _ _ _ hp.2 (r.new ht') (same_upd (r.frm.gs.free ht')) (.tup (.inl (.inl upd_same)) ((rx.app ry).mono (same_upd (r.frm.gs.free ht'))))
  · rename_i a b
    obtain ⟨p, xs, rfl, hs, rx⟩ := hx.lstI
    obtain ⟨q, ys, rfl, ht, ry⟩ := hy.lstI
    refine .inr (.inl ⟨p, q, xs, ys, rfl, rfl, same_rd r.frm.gs hs, same_rd r.frm.gs ht, by rw [rx.len, ry.len]; exact hp.1, fun t ht' => ?_⟩)
    exact k _ _ _ _ hp.2 (r.new ht') (same_upd (r.frm.gs.free ht')) (.lst (.inl upd_same) ((rx.app ry).mono (same_upd (r.frm.gs.free ht'))))
  · exact .inr (.inr ⟨_, _, hx.strI, hy.strI, hp.1, k _ _ G H hp.2 r (Same.refl G) (.str _)⟩)
  · exact hp.elim⟩
/-- a new list by + -/
def dCatF (a b : DE) : DA := fun ρ P => a ρ fun x => b ρ fun y => match x, y with
  | .lst u, .lst v => u.length + v.length ≤ sizeLine ∧ P (u ++ v)
  | _, _ => False
theorem f_cat {a b : Expr} {ta tb : TE} {da db : DE} {pos : Pos} (ha : PDE X a ta da) (hb : PDE X b tb db) : PDF X (.BinOp a .Add b pos) (tOp rCatR ta tb) (dCatF da db) := ⟨pe_op op_catR ha.pe hb.pe, fun M G ρ σ H P Q rl hp k => by
  refine ha.se M G ρ σ H _ _ rl hp fun x vx G1 H1 p1 r1 s1 q1 => ?_
  refine hb.se M G1 ρ σ H1 _ _ r1 p1 fun y vy G2 H2 p2 r2 s2 q2 => ?_
  split at p2
  · obtain ⟨p, xs, rfl, hs, rx⟩ := (q1.mono s2).lstI
    obtain ⟨q, ys, rfl, ht, ry⟩ := q2.lstI
    exact ⟨p, q, xs, ys, rfl, rfl, same_rd r2.frm.gs hs, same_rd r2.frm.gs ht, by rw [rx.len, ry.len]; exact p2.1, fun t ht' => k _ _ t G2 H2 p2.2 r2 (s1.trans s2) (rx.app ry) ht'⟩
  · exact p2.elim⟩
/-- a new list as data -/
def dF (a : DA) : DE := fun ρ P => a ρ fun ds => P (.lst ds)
theorem PDF.e {e : Expr} {t : TE} {d : DA} (h : PDF X e t d) : PDE X e t (dF d) := ⟨h.pe, fun M G ρ σ H P Q rl hp k =>
  h.se M G ρ σ H _ _ rl hp fun ds vs p G' H' p1 r1 s1 q1 hn => k _ _ _ _ p1 (r1.new hn) (s1.trans (same_upd (r1.frm.gs.free hn))) (.lst (.inl upd_same) (q1.mono (same_upd (r1.frm.gs.free hn))))⟩
end
end PD

namespace PD
open PySem PySem.Spec PyProof.Rows L2

/-! ### plain data in the model's own words -/
mutual
def D.py : D → PyData
  | .bl b => .bool b
  | .int i => .int i
  | .str x => .str x
  | .tup xs => .tuple (pyL xs)
  | .lst xs => .list (pyL xs)
  | _ => .none
def pyL : List D → List PyData
  | [] => []
  | x :: xs => x.py :: pyL xs
end
/-- data of a depth up to n, nothing odd in it -/
def D.fit : Nat → D → Bool
  | _, .non => true
  | _, .bl _ => true
  | _, .int _ => true
  | _, .str x => PyData.strOk x
  | n + 1, .tup xs => xs.all (D.fit n)
  | n + 1, .lst xs => xs.all (D.fit n)
  | _, _ => false
theorem fit_shape : ∀ (n : Nat) (d : D), d.fit n = true → d.py.canLay0 = true ∧ d.py.depth ≤ n := by
  have all : ∀ (n : Nat), (∀ d : D, d.fit n = true → d.py.canLay0 = true ∧ d.py.depth ≤ n) → ∀ xs : List D, xs.all (D.fit n) = true → PyData.canLayAll0 (pyL xs) = true ∧ PyData.depthAll (pyL xs) ≤ n := by
    intro n ih xs
    induction xs with
    | nil => intro _; simp [pyL, PyData.canLayAll0, PyData.depthAll]
    | cons x xs ihx =>
      intro h
      rw [List.all_cons, Bool.and_eq_true] at h
      obtain ⟨h1, h2⟩ := ih x h.1
      obtain ⟨h3, h4⟩ := ihx h.2
      simp only [pyL, PyData.canLayAll0, PyData.depthAll, h1, h3, Bool.and_self, true_and]
      omega
  intro n
  induction n with
  | zero =>
    intro d h
    cases d <;> simp_all [D.fit, D.py, PyData.canLay0, PyData.depth]
  | succ n ih =>
    intro d h
    cases d with
    | tup xs =>
      obtain ⟨h1, h2⟩ := all n ih xs (by simpa [D.fit] using h)
      simp only [D.py, PyData.canLay0, PyData.depth, h1, true_and]
      omega
    | lst xs =>
      obtain ⟨h1, h2⟩ := all n ih xs (by simpa [D.fit] using h)
      simp only [D.py, PyData.canLay0, PyData.depth, h1, true_and]
      omega
    | non => simp [D.py, PyData.canLay0, PyData.depth]
    | bl b => simp [D.py, PyData.canLay0, PyData.depth]
    | int i => simp [D.py, PyData.canLay0, PyData.depth]
    | str x => simp_all [D.fit, D.py, PyData.canLay0, PyData.depth]
    | fn a => simp [D.fit] at h
    | dct => simp [D.fit] at h
    | ty n => simp [D.fit] at h
    | scr n => simp [D.fit] at h
    | st n => simp [D.fit] at h
theorem fit_shaped {d : D} (h : d.fit 60 = true) : SeqAt.shaped d.py = true := by
  obtain ⟨h1, h2⟩ := fit_shape 60 d h
  unfold SeqAt.shaped
  rw [h1, Bool.true_and, decide_eq_true_eq]
  omega
theorem fit_mono : ∀ (n : Nat) (d : D), d.fit n = true → d.fit (n + 1) = true := by
  intro n
  induction n with
  | zero => intro d h; cases d <;> simp_all [D.fit]
  | succ n ih =>
    intro d h
    cases d with
    | tup xs => simp only [D.fit, List.all_eq_true] at h ⊢; exact fun x hx => ih x (h x hx)
    | lst xs => simp only [D.fit, List.all_eq_true] at h ⊢; exact fun x hx => ih x (h x hx)
    | non => rfl
    | bl b => rfl
    | int i => rfl
    | str x => simpa [D.fit] using h
    | fn a => simp [D.fit] at h
    | dct => simp [D.fit] at h
    | ty n => simp [D.fit] at h
    | scr n => simp [D.fit] at h
    | st n => simp [D.fit] at h
theorem fit_le {n m : Nat} {d : D} (h : d.fit n = true) (hm : n ≤ m) : d.fit m = true := by
  induction hm with
  | refl => exact h
  | step _ ih => exact fit_mono _ _ ih
section
variable {K : PySem.W.Frag} {G H : Hp}
mutual
theorem Rp.dp (e : Same G H) : ∀ {v : V} {d : D} (n : Nat), Rp K G v d → d.fit n = true → Dp K H v d.py
  | _, _, _, .non, _ => by simp only [D.py]; exact .non
  | _, _, _, .bl b, _ => by rw [D.py]; exact .bl b
  | _, _, _, .int i, _ => by rw [D.py]; exact .int i
  | _, _, _, .str x, _ => by rw [D.py]; exact .str x
  | _, _, n, .fn a, h => by cases n <;> simp [D.fit] at h
  | _, _, n, .ty a, h => by cases n <;> simp [D.fit] at h
  | _, _, n, .scr a, h => by cases n <;> simp [D.fit] at h
  | _, _, n, .st _ _ _ _, h => by cases n <;> simp [D.fit] at h
  | _, _, n, .dct _, h => by cases n <;> simp [D.fit] at h
  | _, _, 0, .tup _ _, h => by simp [D.fit] at h
  | _, _, 0, .lst _ _, h => by simp [D.fit] at h
  | _, _, n + 1, .tup s r, h => by rw [D.py]; exact .tup (same_sqT e s) (RpL.dp e n r (by simpa [D.fit] using h))
  | _, _, n + 1, .lst s r, h => by rw [D.py]; exact .lst (.inl (same_rd e s)) (RpL.dp e n r (by simpa [D.fit] using h))
theorem RpL.dp (e : Same G H) : ∀ {vs : List V} {ds : List D} (n : Nat), RpL K G vs ds → (∀ d ∈ ds, d.fit n = true) → DpAll K H vs (pyL ds)
  | _, _, _, .nil, _ => by rw [pyL]; exact .nil
  | _, _, n, .cons h r, q => by rw [pyL]; exact .cons (Rp.dp e n h (q _ List.mem_cons_self)) (RpL.dp e n r fun d hd => q d (List.mem_cons_of_mem _ hd))
end
end
/-- Python's == of data -/
def D.eqv (d e : D) : Bool := PyData.eqv d.py e.py

/-! ### multiplication -/
abbrev flatRep {α : Type} (k : Nat) (xs : List α) : List α := (List.replicate k xs).flatten
def oMul : DO := fun x y P => match x, y with
  | .int i, .int j => IntMulOk i j ∧ P (.int (i * j))
  | .tup a, .int k => (a ≠ [] ∧ 2 ≤ k ∧ k ≤ 1000 ∧ a.length ≤ 1000) ∧ P (.tup (flatRep k.toNat a))
  | _, _ => False
/-- a frame that holds one more object -/
def Fm.hold (M : Fm) (p : Addr) (o : HO) : Fm := { M with F := upd M.F p o, L := fun b => M.L b ∨ b = p }
section
variable {K : PySem.W.Frag} {M : Fm} {G G' H H' : Hp} {ρ : Env} {σ : L2.St} {p : Addr} {o : HO}
theorem Rel.hold (r : Rel K M G ρ σ H) (hp : H p = none) : Rel K (M.hold p o) G ρ σ (upd H p o) where
  frm := by
    have f := r.frm.out (o := o) hp
    refine ⟨f.gs, fun b x e => ?_, fun b hb => ?_, fun b hb z => ?_, fun u hu => ?_⟩
    · exact upd2 r.frm.fs hp b x e
    · rcases hb with hb | rfl
      · exact f.lk b hb
      · exact r.frm.gs.free hp
    · by_cases e : b = p
      · subst e; rw [show (M.hold b o).F b = some o from upd_same] at z; cases z
      · rw [show (M.hold p o).F b = M.F b from upd_ne e] at z; exact f.lf b (hb.resolve_right e) z
    · obtain ⟨h1, h2, x, y, z, h3⟩ := r.frm.ur u hu
      have ne : u ≠ p := ne_of_none h3 hp
      exact ⟨(upd_ne ne).trans h1, h2, x, y, z, (upd_ne ne).trans h3⟩
  len := r.len
  sl := fun i s e => by
    have q := r.sl i s e
    cases s with
    | no => trivial
    | fz d => exact q
    | ur => exact q
    | ow ds =>
      obtain ⟨a, vs, e', q1, q2, q3, q4, q5⟩ := q
      have ne : a ≠ p := ne_of_none q4 hp
      exact ⟨a, vs, e', q1, (upd_ne ne).trans q2, q3, (upd_ne ne).trans q4, q5⟩
  sep := r.sep
theorem Rel.unhold (r : Rel K (M.hold p o) G ρ σ H) (hp : M.F p = none) (lf : ∀ b, M.L b → M.F b ≠ none) : Rel K M G ρ σ H where
  frm := by
    have f := r.frm
    have back : ∀ b, b ≠ p → (M.hold p o).F b = M.F b := fun b e => upd_ne e
    refine ⟨f.gs, fun b x e => ?_, fun b hb => f.lk b (.inl hb), lf, fun u hu => ?_⟩
    · exact f.fs b x ((back b (ne_of_none e hp)).trans e)
    · obtain ⟨h1, h2, h3⟩ := f.ur u hu
      have ne : u ≠ p := fun e => by
        subst e
        rw [show (M.hold u o).F u = some o from upd_same] at h1; cases h1
      exact ⟨(back u ne).symm.trans h1, h2, h3⟩
  len := r.len
  sl := fun i s e => by
    have q := r.sl i s e
    cases s with
    | no => trivial
    | fz d => exact q
    | ur => exact q
    | ow ds =>
      obtain ⟨a, vs, e', q1, q2, q3, q4, q5⟩ := q
      have ne : a ≠ p := fun z => by
        subst z
        rw [show (M.hold a o).F a = some o from upd_same] at q2; cases q2
      exact ⟨a, vs, e', q1, (show (M.hold p o).F a = M.F a from upd_ne ne).symm.trans q2, q3, q4, q5⟩
  sep := r.sep
theorem Rel.held (r : Rel K (M.hold p o) G ρ σ H) : H p = some o := r.frm.fs p o upd_same
/-- an object that is no slot's, taken out of the heap -/
def rem (H : Hp) (p : Addr) : Hp := fun b => if b = p then none else H b
theorem rem_same {H : Hp} {p : Addr} : rem H p p = none := if_pos rfl
theorem rem_ne {H : Hp} {p b : Addr} (h : b ≠ p) : rem H p b = H b := if_neg h
theorem upd_rem {H : Hp} {p : Addr} {o : HO} (h : H p = some o) : upd (rem H p) p o = H := by
  funext b
  by_cases e : b = p
  · subst e; rw [upd_same, h]
  · rw [upd_ne e, rem_ne e]
theorem upd_rem' {H : Hp} {p : Addr} {o : HO} : upd (rem H p) p o = upd H p o := by
  funext b
  by_cases e : b = p
  · subst e; rw [upd_same, upd_same]
  · rw [upd_ne e, upd_ne e, rem_ne e]
theorem Rel.rem (r : Rel K M G ρ σ H) (hG : G p = none) (hF : M.F p = none) (hU : M.U ≠ some p) (hn : ∀ (i : Nat) (ds : List D), ρ[i]? = some (.ow ds) → σ[i]? ≠ some (some (.ref p))) : Rel K M G ρ σ (rem H p) where
  frm := by
    refine ⟨fun b x e => ?_, fun b x e => ?_, r.frm.lk, r.frm.lf, fun u hu => ?_⟩
    · rw [rem_ne (ne_of_none e hG)]; exact r.frm.gs b x e
    · rw [rem_ne (ne_of_none e hF)]; exact r.frm.fs b x e
    · obtain ⟨h1, h2, x, y, z, h3⟩ := r.frm.ur u hu
      have ne : u ≠ p := fun e => hU (by rw [← e]; exact hu)
      exact ⟨h1, h2, x, y, z, by rw [rem_ne ne]; exact h3⟩
  len := r.len
  sl := fun i s e => by
    have q := r.sl i s e
    cases s with
    | no => trivial
    | fz d => exact q
    | ur => exact q
    | ow ds =>
      obtain ⟨a, vs, e', q1, q2, q3, q4, q5⟩ := q
      have ne : a ≠ p := fun z => by subst z; exact hn i ds e e'
      exact ⟨a, vs, e', q1, q2, q3, by rw [rem_ne ne]; exact q4, q5⟩
  sep := r.sep
/-- the held object is taken out again -/
theorem Rel.take (r : Rel K (M.hold p o) G ρ σ H) (hp : M.F p = none) (lf : ∀ b, M.L b → M.F b ≠ none) : Rel K M G ρ σ (PD.rem H p) := by
  have r2 := r.unhold hp lf
  refine r2.rem (r.frm.lk p (.inr rfl)) hp (fun hu => ?_) (fun i ds e e2 => ?_)
  · obtain ⟨h1, _⟩ := r.frm.ur p hu
    rw [show (M.hold p o).F p = some o from upd_same] at h1; cases h1
  · obtain ⟨a, vs, e', q1, q2, _⟩ := r.sl i _ e
    rw [e2] at e'; cases e'
    rw [show (M.hold p o).F p = some o from upd_same] at q2; cases q2
end
section
variable {X : Cx} {K : PySem.W.Frag}
theorem op_mulA : OpR X (binaryOp .Mult) (rI IntMulOk fun i j => .int (i * j)) := opI fun _ _ _ _ _ _ _ hc q => mul_int q hc
theorem do_mul : PDO X (binaryOp .Mult) (fun x y H Q => rI IntMulOk (fun i j => .int (i * j)) x y H Q ∨ rRepT X.K x y H Q) oMul := ⟨op_mulA.or op_repT, fun M G ρ σ H x y d e P Q r hx hy hp k => by
  unfold oMul at hp
  split at hp
  · exact .inl ⟨_, _, hx.intI, hy.intI, hp.1, k _ _ G H hp.2 r (Same.refl G) (.int _)⟩
  · obtain ⟨p, xs, rfl, hs, rx⟩ := hx.tupI
    obtain ⟨⟨h1, h2, h3, h4⟩, hp⟩ := hp
    refine .inr ⟨p, _, xs, rfl, hy.intI, same_sqT r.frm.gs hs, fun z => h1 ?_, h2, h3, by rw [rx.len]; exact h4, fun t ht' => ?_⟩
    · subst z; cases rx; rfl
    · exact k _ _ _ _ hp (r.new ht') (same_upd (r.frm.gs.free ht')) (.tup (.inl (.inl upd_same)) ((rx.rep _).mono (same_upd (r.frm.gs.free ht'))))
  · exact hp.elim⟩
/-- [..] * n -/
def dRepF (a : DA) (b : DE) : DA := fun ρ P => a ρ fun xs => b ρ fun y => match y with
  | .int k => (-(2 ^ 63) ≤ k ∧ k < 2 ^ 63 ∧ xs.length * k.toNat ≤ sizeLine) ∧ P (flatRep k.toNat xs)
  | _ => False
theorem f_rep {a b : Expr} {ta tb : TE} {da : DA} {db : DE} {pos : Pos} (ha : PDF X a ta da) (hb : PDE X b tb db) : PDF X (.BinOp a .Mult b pos) (tOp rRep ta tb) (dRepF da db) := ⟨pe_op op_rep ha.pe hb.pe, fun M G ρ σ H P Q rl hp k => by
  refine ha.se M G ρ σ H _ _ rl hp fun xs vs p G1 H1 p1 r1 s1 q1 hn => ?_
  have hF : M.F p = none := r1.frm.fs.free hn
  refine hb.se (M.hold p (.lst vs)) G1 ρ σ _ _ _ (r1.hold hn) p1 fun y vy G2 H2 p2 r2 s2 q2 => ?_
  split at p2
  · obtain ⟨⟨h1, h2, h3⟩, p2⟩ := p2
    have q2 := q2.intI
    exact ⟨p, _, vs, rfl, q2, r2.held, h1, h2, by rw [q1.len]; exact h3, fun t ht => k _ _ t G2 H2 p2 (r2.unhold hF rl.frm.lf) (s1.trans s2) ((q1.mono s2).rep _) ht⟩
  · exact p2.elim⟩

/-! ### ==, !=, in -/
def oEq : DO := fun x y P => (x.fit 60 = true ∧ y.fit 60 = true) ∧ P (.bl (x.eqv y))
def oNe : DO := fun x y P => (x.fit 60 = true ∧ y.fit 60 = true) ∧ P (.bl (!x.eqv y))
theorem do_eq (hu : X.A.units + 64 < cLine) : PDO X (compareOp .Eq) (rEqD X.K) oEq := ⟨op_eqD hu, fun M G ρ σ H x y d e P Q r hx hy hp k =>
  ⟨d.py, e.py, hx.dp r.frm.gs 60 hp.1.1, hy.dp r.frm.gs 60 hp.1.2, fit_shaped hp.1.1, fit_shaped hp.1.2, k _ _ G H hp.2 r (Same.refl G) (.bl _)⟩⟩
theorem do_ne (hu : X.A.units + 64 < cLine) : PDO X (compareOp .NotEq) (rNeD X.K) oNe := ⟨op_neD hu, fun M G ρ σ H x y d e P Q r hx hy hp k =>
  ⟨d.py, e.py, hx.dp r.frm.gs 60 hp.1.1, hy.dp r.frm.gs 60 hp.1.2, fit_shaped hp.1.1, fit_shaped hp.1.2, k _ _ G H hp.2 r (Same.refl G) (.bl _)⟩⟩
def rInT (K : PySem.W.Frag) : R2 := fun x y H Q => ∃ d ds, Dp K H x d ∧ Dp K H y (.tuple ds) ∧ SeqAt.shaped d = true ∧ SeqAt.shaped (.tuple ds) = true ∧ Q (.bl (ds.any fun z => PyData.eqv z d)) H
def rNotInT (K : PySem.W.Frag) : R2 := fun x y H Q => ∃ d ds, Dp K H x d ∧ Dp K H y (.tuple ds) ∧ SeqAt.shaped d = true ∧ SeqAt.shaped (.tuple ds) = true ∧ Q (.bl (!ds.any fun z => PyData.eqv z d)) H
theorem op_inT (hu : X.A.units + 65 < cLine) : OpR X (compareOp .In) (rInT X.K) := by
  intro pins s σ H x y v u Q I rx ry ⟨d, ds, hd, he, sd, se, q⟩
  obtain ⟨_, r1⟩ := Dp.reads I d x v hd rx
  obtain ⟨_, r2⟩ := Dp.reads I (.tuple ds) y u he ry
  exact SeqAt.in_tuple_reads r2 r1 (SeqAt.canLay_of_shaped se) (SeqAt.canLay_of_shaped sd) (room_in_shaped sd hu) ⟨.bl _, H, I, rfl, q⟩
theorem op_notInT (hu : X.A.units + 65 < cLine) : OpR X (compareOp .NotIn) (rNotInT X.K) := by
  intro pins s σ H x y v u Q I rx ry ⟨d, ds, hd, he, sd, se, q⟩
  obtain ⟨_, r1⟩ := Dp.reads I d x v hd rx
  obtain ⟨_, r2⟩ := Dp.reads I (.tuple ds) y u he ry
  exact SeqAt.notIn_tuple_reads r2 r1 (SeqAt.canLay_of_shaped se) (SeqAt.canLay_of_shaped sd) (room_in_shaped sd hu) ⟨.bl _, H, I, rfl, q⟩
/-- the items of a list or a tuple -/
def D.seqP (P : List D → Prop) : D → Prop
  | .lst xs => P xs
  | .tup xs => P xs
  | _ => False
def oIn : DO := fun x y P => (x.fit 59 = true) ∧ y.seqP fun ys => ys.all (D.fit 59) = true ∧ P (.bl (ys.any fun z => z.eqv x))
def oNotIn : DO := fun x y P => (x.fit 59 = true) ∧ y.seqP fun ys => ys.all (D.fit 59) = true ∧ P (.bl (!ys.any fun z => z.eqv x))
theorem pyL_any (x : D) : ∀ ys : List D, (pyL ys).any (fun z => PyData.eqv z x.py) = ys.any fun z => z.eqv x
  | [] => by simp [pyL]
  | y :: ys => by simp only [pyL, List.any_cons, pyL_any x ys]; rfl
theorem do_in (hu : X.A.units + 65 < cLine) : PDO X (compareOp .In) (fun x y H Q => rInD X.K x y H Q ∨ rInT X.K x y H Q) oIn := ⟨(op_inD hu).or (op_inT hu), fun M G ρ σ H x y d e P Q r hx hy hp k => by
  obtain ⟨h1, h2⟩ := hp
  have s1 := fit_shaped (fit_le h1 (by decide : 59 ≤ 60))
  cases e with
  | lst ys =>
    obtain ⟨h2, h3⟩ := h2
    have f : (D.lst ys).fit 60 = true := h2
    have q := hy.dp r.frm.gs 60 f
    have s2 := fit_shaped f
    rw [D.py] at q s2
    exact .inl ⟨d.py, pyL ys, hx.dp r.frm.gs 59 h1, q, s1, s2, by rw [pyL_any]; exact k _ _ G H h3 r (Same.refl G) (.bl _)⟩
  | tup ys =>
    obtain ⟨h2, h3⟩ := h2
    have f : (D.tup ys).fit 60 = true := h2
    have q := hy.dp r.frm.gs 60 f
    have s2 := fit_shaped f
    rw [D.py] at q s2
    exact .inr ⟨d.py, pyL ys, hx.dp r.frm.gs 59 h1, q, s1, s2, by rw [pyL_any]; exact k _ _ G H h3 r (Same.refl G) (.bl _)⟩
  | _ => exact h2.elim⟩
theorem do_notIn (hu : X.A.units + 65 < cLine) : PDO X (compareOp .NotIn) (fun x y H Q => rNotInD X.K x y H Q ∨ rNotInT X.K x y H Q) oNotIn := ⟨(op_notInD hu).or (op_notInT hu), fun M G ρ σ H x y d e P Q r hx hy hp k => by
  obtain ⟨h1, h2⟩ := hp
  have s1 := fit_shaped (fit_le h1 (by decide : 59 ≤ 60))
  cases e with
  | lst ys =>
    obtain ⟨h2, h3⟩ := h2
    have f : (D.lst ys).fit 60 = true := h2
    have q := hy.dp r.frm.gs 60 f
    have s2 := fit_shaped f
    rw [D.py] at q s2
    exact .inl ⟨d.py, pyL ys, hx.dp r.frm.gs 59 h1, q, s1, s2, by rw [pyL_any]; exact k _ _ G H h3 r (Same.refl G) (.bl _)⟩
  | tup ys =>
    obtain ⟨h2, h3⟩ := h2
    have f : (D.tup ys).fit 60 = true := h2
    have q := hy.dp r.frm.gs 60 f
    have s2 := fit_shaped f
    rw [D.py] at q s2
    exact .inr ⟨d.py, pyL ys, hx.dp r.frm.gs 59 h1, q, s1, s2, by rw [pyL_any]; exact k _ _ G H h3 r (Same.refl G) (.bl _)⟩
  | _ => exact h2.elim⟩

/-! ### unary, chains, and, or, not -/
def dUn (f : D → (D → Prop) → Prop) (a : DE) : DE := fun ρ P => a ρ fun x => f x P
def D.intP (P : Int → Prop) : D → Prop
  | .int i => P i
  | _ => False
def D.blP (P : Bool → Prop) : D → Prop
  | .bl i => P i
  | _ => False
theorem D.intP_of {P : Int → Prop} : ∀ {d : D}, d.intP P → ∃ i, d = .int i ∧ P i
  | .int i, h => ⟨i, rfl, h⟩
  | .non, h => h.elim | .bl _, h => h.elim | .str _, h => h.elim | .tup _, h => h.elim | .lst _, h => h.elim | .fn _, h => h.elim | .dct, h => h.elim | .ty _, h => h.elim | .scr _, h => h.elim
theorem D.blP_of {P : Bool → Prop} : ∀ {d : D}, d.blP P → ∃ i, d = .bl i ∧ P i
  | .bl i, h => ⟨i, rfl, h⟩
  | .non, h => h.elim | .int _, h => h.elim | .str _, h => h.elim | .tup _, h => h.elim | .lst _, h => h.elim | .fn _, h => h.elim | .dct, h => h.elim | .ty _, h => h.elim | .scr _, h => h.elim
theorem D.seqP_of {P : List D → Prop} : ∀ {d : D}, d.seqP P → ∃ xs, (d = .lst xs ∨ d = .tup xs) ∧ P xs
  | .lst i, h => ⟨i, .inl rfl, h⟩
  | .tup i, h => ⟨i, .inr rfl, h⟩
  | .non, h => h.elim | .int _, h => h.elim | .str _, h => h.elim | .bl _, h => h.elim | .fn _, h => h.elim | .dct, h => h.elim | .ty _, h => h.elim | .scr _, h => h.elim
theorem d_neg {a : Expr} {ta : TE} {da : DE} {pos : Pos} (h : PDE X a ta da) : PDE X (.UnaryOp .USub a pos) (tUn (rU fun i => .int (-i)) ta) (dUn (fun x P => x.intP fun i => P (.int (-i))) da) := ⟨pe_un un_neg h.pe, fun M G ρ σ H P Q rl hp k => by
  refine h.se M G ρ σ H _ _ rl hp fun x vx G1 H1 p1 r1 s1 q1 => ?_
  obtain ⟨i, rfl, p⟩ := D.intP_of p1
  exact ⟨i, q1.intI, k _ _ G1 H1 p r1 s1 (.int _)⟩⟩
theorem d_not {a : Expr} {ta : TE} {da : DE} {pos : Pos} (h : PDE X a ta da) : PDE X (.UnaryOp .Not a pos) (tNotV ta) (dUn (fun x P => x.blP fun i => P (.bl (!i))) da) := ⟨pe_not h.pe, fun M G ρ σ H P Q rl hp k => by
  refine h.se M G ρ σ H _ _ rl hp fun x vx G1 H1 p1 r1 s1 q1 => ?_
  obtain ⟨i, rfl, p⟩ := D.blP_of p1
  exact ⟨i, q1.blI, k _ _ G1 H1 p r1 s1 (.bl _)⟩⟩
def dCh (f f' : DO) (a b c : DE) : DE := fun ρ P => a ρ fun x => b ρ fun y => f x y fun z => z.blP fun t => if t = true then c ρ fun w => f' y w P else P (.bl false)
theorem d_chain {op op' : CmpOp} {r r' : R2} {f f' : DO} {a b c : Expr} {ta tb tc : TE} {da db dc : DE} {pos : Pos} (h : PDO X (compareOp op) r f) (h' : PDO X (compareOp op') r' f') (ha : PDE X a ta da) (hb : PDE X b tb db) (hc : PDE X c tc dc)
    (hm : lastMarks [op, op'] [b, c] = false := by with_unfolding_all rfl) : PDE X (.Compare a [op, op'] [b, c] pos) (tChain r r' ta tb tc) (dCh f f' da db dc) := ⟨pe_chain h.pe h'.pe ha.pe hb.pe hc.pe hm, fun M G ρ σ H P Q rl hp k => by
  refine ha.se M G ρ σ H _ _ rl hp fun x vx G1 H1 p1 r1 s1 q1 => ?_
  refine hb.se M G1 ρ σ H1 _ _ r1 p1 fun y vy G2 H2 p2 r2 s2 q2 => ?_
  refine h.se M G2 ρ σ H2 vx vy x y _ _ r2 (q1.mono s2) q2 p2 fun z vz G3 H3 p3 r3 s3 q3 => ?_
  obtain ⟨t, rfl, p⟩ := D.blP_of p3
  refine ⟨t, q3.blI, ?_⟩
  cases t with
  | false => exact iteF (k _ _ G3 H3 (by simpa using p) r3 (s1.trans (s2.trans s3)) (.bl _))
  | true =>
    refine iteT (hc.se M G3 ρ σ H3 _ _ r3 (by simpa using p) fun w vw G4 H4 p4 r4 s4 q4 => ?_)
    exact h'.se M G4 ρ σ H4 vy vw y w _ _ r4 ((q2.mono s3).mono s4) q4 p4 fun d v G5 H5 p5 r5 s5 q5 => k _ _ G5 H5 p5 r5 (s1.trans (s2.trans (s3.trans (s4.trans s5)))) q5⟩
def dAndV (a b : DE) : DE := fun ρ P => a ρ fun x => x.blP fun c => if c = true then b ρ P else P (.bl false)
def dOrV (a b : DE) : DE := fun ρ P => a ρ fun x => x.blP fun c => if c = true then P (.bl true) else b ρ P
theorem d_one {op : BoolOp} {a : Expr} {ta : TE} {da : DE} {pos : Pos} (h : PDE X a ta da) : PDE X (.BoolOp op [a] pos) ta da := ⟨pe_one h.pe, h.se⟩
theorem d_and {a b : Expr} {rest : List Expr} {ta tb : TE} {da db : DE} {pos : Pos} (ha : PDE X a ta da) (hb : PDE X (.BoolOp .And (b :: rest) pos) tb db) : PDE X (.BoolOp .And (a :: b :: rest) pos) (tAndV ta tb) (dAndV da db) := ⟨pe_and ha.pe hb.pe, fun M G ρ σ H P Q rl hp k => by
  refine ha.se M G ρ σ H _ _ rl hp fun x vx G1 H1 p1 r1 s1 q1 => ?_
  obtain ⟨c, rfl, p⟩ := D.blP_of p1
  refine ⟨c, q1.blI, ?_⟩
  cases c with
  | true => exact iteT (hb.se M G1 ρ σ H1 _ _ r1 (by simpa using p) fun d v G2 H2 p2 r2 s2 q2 => k _ _ G2 H2 p2 r2 (s1.trans s2) q2)
  | false => exact iteF (k _ _ G1 H1 (by simpa using p) r1 s1 (.bl _))⟩
theorem d_or {a b : Expr} {rest : List Expr} {ta tb : TE} {da db : DE} {pos : Pos} (ha : PDE X a ta da) (hb : PDE X (.BoolOp .Or (b :: rest) pos) tb db) : PDE X (.BoolOp .Or (a :: b :: rest) pos) (tOrV ta tb) (dOrV da db) := ⟨pe_or ha.pe hb.pe, fun M G ρ σ H P Q rl hp k => by
  refine ha.se M G ρ σ H _ _ rl hp fun x vx G1 H1 p1 r1 s1 q1 => ?_
  obtain ⟨c, rfl, p⟩ := D.blP_of p1
  refine ⟨c, q1.blI, ?_⟩
  cases c with
  | true => exact iteT (k _ _ G1 H1 (by simpa using p) r1 s1 (.bl _))
  | false => exact iteF (hb.se M G1 ρ σ H1 _ _ r1 (by simpa using p) fun d v G2 H2 p2 r2 s2 q2 => k _ _ G2 H2 p2 r2 (s1.trans s2) q2)⟩
/-! tests -/
def dTest (a : DE) : DT := fun ρ P => a ρ fun x => x.blP P
theorem t_val {e : Expr} {t : TE} {d : DE} (h : PDE X e t d) (he : ∀ whole, isTrue e X.env whole = (do let v ← whole; standAt e.pos; holding [v] (truthy v)) := by intro _; rfl) : PDT X e (tB t) (dTest d) := ⟨pt_val h.pe he, fun M G ρ σ H P Q rl hp k => by
  refine h.se M G ρ σ H _ _ rl hp fun x vx G1 H1 p1 r1 s1 q1 => ?_
  obtain ⟨c, rfl, p⟩ := D.blP_of p1
  exact ⟨c, q1.blI, k c G1 H1 p r1 s1⟩⟩
theorem t_cmp {op : CmpOp} {r : R2} {f : DO} {a b : Expr} {ta tb : TE} {da db : DE} {pos : Pos} (h : PDO X (compareOp op) r f) (ha : PDE X a ta da) (hb : PDE X b tb db) (hm : behindInMarks op b = false) : PDT X (.Compare a [op] [b] pos) (tTest (tOp r ta tb)) (dTest (dBin f da db)) :=
  ⟨pt_cmpR h.pe ha.pe hb.pe hm, fun M G ρ σ H P Q rl hp k => by
    refine se_bin h.se ha.se hb.se M G ρ σ H _ _ rl hp fun x vx G1 H1 p1 r1 s1 q1 => ?_
    obtain ⟨c, rfl, p⟩ := D.blP_of p1
    exact ⟨c, q1.blI, k c G1 H1 p r1 s1⟩⟩
theorem t_chain {op op' : CmpOp} {r r' : R2} {f f' : DO} {a b c : Expr} {ta tb tc : TE} {da db dc : DE} {pos : Pos} (h : PDO X (compareOp op) r f) (h' : PDO X (compareOp op') r' f') (ha : PDE X a ta da) (hb : PDE X b tb db) (hc : PDE X c tc dc)
    (hm : lastMarks [op, op'] [b, c] = false := by with_unfolding_all rfl) : PDT X (.Compare a [op, op'] [b, c] pos) (tTest (tChain r r' ta tb tc)) (dTest (dCh f f' da db dc)) := ⟨pt_chain h.pe h'.pe ha.pe hb.pe hc.pe hm, fun M G ρ σ H P Q rl hp k => by
    refine (d_chain (pos := pos) h h' ha hb hc hm).se M G ρ σ H _ _ rl hp fun x vx G1 H1 p1 r1 s1 q1 => ?_
    obtain ⟨c, rfl, p⟩ := D.blP_of p1
    exact ⟨c, q1.blI, k c G1 H1 p r1 s1⟩⟩
def dTNot (a : DT) : DT := fun ρ P => a ρ fun c => P (!c)
def dTAnd (a b : DT) : DT := fun ρ P => a ρ fun c => if c = true then b ρ P else P false
def dTOr (a b : DT) : DT := fun ρ P => a ρ fun c => if c = true then P true else b ρ P
theorem t_not {a : Expr} {t : TT} {d : DT} {pos : Pos} (h : PDT X a t d) : PDT X (.UnaryOp .Not a pos) (tNot t) (dTNot d) := ⟨pt_not h.pe, fun M G ρ σ H P Q rl hp k =>
  h.se M G ρ σ H _ _ rl hp fun c G1 H1 p1 r1 s1 => k _ G1 H1 p1 r1 s1⟩
theorem w_and1 {a : Expr} {t : TT} {d : DT} {pos : Pos} (h : PDT X a t d) : PDW X (.BoolOp .And [a] pos) t d := ⟨pw_and1 h.pe, h.se⟩
theorem w_or1 {a : Expr} {t : TT} {d : DT} {pos : Pos} (h : PDT X a t d) : PDW X (.BoolOp .Or [a] pos) t d := ⟨pw_or1 h.pe, h.se⟩
theorem w_and {a b : Expr} {rest : List Expr} {ta tb : TT} {da db : DT} {pos : Pos} (ha : PDT X a ta da) (hb : PDW X (.BoolOp .And (b :: rest) pos) tb db) : PDW X (.BoolOp .And (a :: b :: rest) pos) (tAnd ta tb) (dTAnd da db) := ⟨pw_and ha.pe hb.pe, fun M G ρ σ H P Q rl hp k => by
  refine ha.se M G ρ σ H _ _ rl hp fun c G1 H1 p1 r1 s1 => ?_
  cases c with
  | true => exact iteT (hb.se M G1 ρ σ H1 _ _ r1 (by simpa using p1) fun d G2 H2 p2 r2 s2 => k _ G2 H2 p2 r2 (s1.trans s2))
  | false => exact iteF (k _ G1 H1 (by simpa using p1) r1 s1)⟩
theorem w_or {a b : Expr} {rest : List Expr} {ta tb : TT} {da db : DT} {pos : Pos} (ha : PDT X a ta da) (hb : PDW X (.BoolOp .Or (b :: rest) pos) tb db) : PDW X (.BoolOp .Or (a :: b :: rest) pos) (tOr ta tb) (dTOr da db) := ⟨pw_or ha.pe hb.pe, fun M G ρ σ H P Q rl hp k => by
  refine ha.se M G ρ σ H _ _ rl hp fun c G1 H1 p1 r1 s1 => ?_
  cases c with
  | true => exact iteT (k _ G1 H1 (by simpa using p1) r1 s1)
  | false => exact iteF (hb.se M G1 ρ σ H1 _ _ r1 (by simpa using p1) fun d G2 H2 p2 r2 s2 => k _ G2 H2 p2 r2 (s1.trans s2))⟩
theorem PDW.t {e : Expr} {t : TT} {d : DT} (h : PDW X e t d) : PDT X e t d := ⟨h.pe.pt, h.se⟩
def dIf (c : DT) (a b : DE) : DE := fun ρ P => c ρ fun t => if t = true then a ρ P else b ρ P
theorem d_if {c a b : Expr} {tc : TT} {ta tb : TE} {dc : DT} {da db : DE} {pos : Pos} (hc : PDT X c tc dc) (ha : PDE X a ta da) (hb : PDE X b tb db) : PDE X (.IfExp c a b pos) (tIf tc ta tb) (dIf dc da db) := ⟨pe_ifExp hc.pe ha.pe hb.pe, fun M G ρ σ H P Q rl hp k => by
  refine hc.se M G ρ σ H _ _ rl hp fun c G1 H1 p1 r1 s1 => ?_
  cases c with
  | true => exact iteT (ha.se M G1 ρ σ H1 _ _ r1 (by simpa using p1) fun d v G2 H2 p2 r2 s2 q2 => k _ _ G2 H2 p2 r2 (s1.trans s2) q2)
  | false => exact iteF (hb.se M G1 ρ σ H1 _ _ r1 (by simpa using p1) fun d v G2 H2 p2 r2 s2 q2 => k _ _ G2 H2 p2 r2 (s1.trans s2) q2)⟩

/-! ### argument lists, displays -/
def dNil : DA := fun _ P => P []
def dCons (a : DE) (r : DA) : DA := fun ρ P => a ρ fun x => r ρ fun xs => P (x :: xs)
def dStar (a : DE) (r : DA) : DA := fun ρ P => a ρ fun x => x.seqP fun ys => r ρ fun xs => P (ys ++ xs)
theorem a_nil : PDA X [] tNil dNil := ⟨pa_nil, fun M G ρ σ H P Q rl hp k => k [] [] G H hp rl (Same.refl G) .nil⟩
theorem a_cons {e : Expr} {es : List Expr} {te : TE} {t : TA} {de : DE} {d : DA} (h : PDE X e te de) (hr : PDA X es t d) (hs : starEach (e :: es) X.env = (false, eval e X.env) :: starEach es X.env := by rfl) : PDA X (e :: es) (tCons te t) (dCons de d) := ⟨pa_cons h.pe hr.pe hs, fun M G ρ σ H P Q rl hp k => by
  refine h.se M G ρ σ H _ _ rl hp fun x vx G1 H1 p1 r1 s1 q1 => ?_
  exact hr.se M G1 ρ σ H1 _ _ r1 p1 fun xs vs G2 H2 p2 r2 s2 q2 => k _ _ G2 H2 p2 r2 (s1.trans s2) (.cons (q1.mono s2) q2)⟩
theorem a_star {e : Expr} {es : List Expr} {te : TE} {t : TA} {de : DE} {d : DA} {p : Pos} (h : PDE X e te de) (hr : PDA X es t d) (hs : starEach (.Starred e p :: es) X.env = (true, eval e X.env) :: starEach es X.env := by rfl) : PDA X (.Starred e p :: es) (StX.tStar X.K te t) (dStar de d) := ⟨StX.pa_star h.pe hr.pe hs, fun M G ρ σ H P Q rl hp k => by
  refine h.se M G ρ σ H _ _ rl hp fun x vx G1 H1 p1 r1 s1 q1 => ?_
  obtain ⟨ys, e, p⟩ := D.seqP_of p1
  rcases e with rfl | rfl
  · obtain ⟨a, vs, rfl, h1, h2⟩ := q1.lstI
    exact ⟨a, vs, rfl, .inr (.inl (same_rd r1.frm.gs h1)), hr.se M G1 ρ σ H1 _ _ r1 p fun xs ws G2 H2 p2 r2 s2 q2 => k _ _ G2 H2 p2 r2 (s1.trans s2) ((h2.mono s2).app q2)⟩
  · obtain ⟨a, vs, rfl, h1, h2⟩ := q1.tupI
    exact ⟨a, vs, rfl, .inl (same_sqT r1.frm.gs h1), hr.se M G1 ρ σ H1 _ _ r1 p fun xs ws G2 H2 p2 r2 s2 q2 => k _ _ G2 H2 p2 r2 (s1.trans s2) ((h2.mono s2).app q2)⟩⟩
def dTup (a : DA) : DE := fun ρ P => a ρ fun xs => xs.length ≤ sizeLine ∧ P (.tup xs)
def dLstF (a : DA) : DA := fun ρ P => a ρ fun xs => xs.length ≤ sizeLine ∧ P xs
theorem d_tup {es : List Expr} {t : TA} {d : DA} {pos : Pos} {x1} (h : PDA X es t d) : PDE X (.Tuple es x1 pos) (tTup t) (dTup d) := ⟨pe_tup h.pe, fun M G ρ σ H P Q rl hp k =>
  h.se M G ρ σ H _ _ rl hp fun xs vs G1 H1 p1 r1 s1 q1 => ⟨by rw [q1.len]; exact p1.1, fun p hn =>
    k _ _ _ _ p1.2 (r1.new hn) (s1.trans (same_upd (r1.frm.gs.free hn))) (.tup (.inl (.inl upd_same)) (q1.mono (same_upd (r1.frm.gs.free hn))))⟩⟩
theorem f_lst {es : List Expr} {t : TA} {d : DA} {pos : Pos} (h : PDA X es t d) : PDF X (.List es pos) (tLst t) (dLstF d) := ⟨pe_lst h.pe, fun M G ρ σ H P Q rl hp k =>
  h.se M G ρ σ H _ _ rl hp fun xs vs G1 H1 p1 r1 s1 q1 => ⟨by rw [q1.len]; exact p1.1, fun p hn => k _ _ p G1 H1 p1.2 r1 s1 q1 hn⟩⟩
end
end PD

namespace PD
open PySem PySem.Spec PyProof.Rows L2

section
variable {X : Cx} {K : PySem.W.Frag}
/-! ### subscripts -/
def optP {α : Type} (P : α → Prop) : Option α → Prop
  | some a => P a
  | none => False
theorem optP_of {α : Type} {P : α → Prop} : ∀ {o : Option α}, optP P o → ∃ a, o = some a ∧ P a
  | some a, h => ⟨a, rfl, h⟩
  | none, h => h.elim
def oIx : DO := fun x y P => y.intP fun i => x.seqP fun xs => optP P (atI xs i)
theorem RpL.atI {G : Hp} {vs : List V} {ds : List D} {i : Int} {d : D} (r : RpL K G vs ds) (h : L2.atI ds i = some d) : ∃ v, L2.atI vs i = some v ∧ Rp K G v d := by
  unfold L2.atI at h ⊢
  rw [r.len]
  cases e : ixN ds.length i with
  | none => rw [e] at h; cases h
  | some j =>
    rw [e] at h
    exact r.get h
theorem ix_pe : IxR X (fun x y H Q => rIxL X.K x y H Q ∨ rIxT X.K x y H Q) := ix_list.or ix_tup
theorem ix_se : SOp K (fun x y H Q => rIxL K x y H Q ∨ rIxT K x y H Q) oIx := fun M G ρ σ H x y d e P Q r hx hy hp k => by
  obtain ⟨i, rfl, hp1⟩ := D.intP_of hp
  obtain ⟨xs, ex, hp2⟩ := D.seqP_of hp1
  obtain ⟨z, ez, hp3⟩ := optP_of hp2
  rcases ex with rfl | rfl
  · obtain ⟨a, vs, rfl, h1, h2⟩ := hx.lstI
    obtain ⟨v, ev, rv⟩ := h2.atI ez
    exact .inl ⟨a, vs, i, v, rfl, hy.intI, .inl (same_rd r.frm.gs h1), ev, k _ _ G H hp3 r (Same.refl G) rv⟩
  · obtain ⟨a, vs, rfl, h1, h2⟩ := hx.tupI
    obtain ⟨v, ev, rv⟩ := h2.atI ez
    exact .inr ⟨a, vs, i, v, rfl, hy.intI, same_sqT r.frm.gs h1, ev, k _ _ G H hp3 r (Same.refl G) rv⟩
theorem d_ix {a b : Expr} {ta tb : TE} {da db : DE} {pos : Pos} (ha : PDE X a ta da) (hb : PDE X b tb db) (hs : PlainIx b := by exact fun _ _ => rfl) : PDE X (.Subscript a b pos) (tOp (fun x y H Q => rIxL X.K x y H Q ∨ rIxT X.K x y H Q) ta tb) (dBin oIx da db) :=
  ⟨pe_ix ix_pe ha.pe hb.pe hs, se_bin ix_se ha.se hb.se⟩
/-! ### slices -/
abbrev DP := Env → (Option Int → Prop) → Prop
def SPt (K : PySem.W.Frag) (t : TO) (d : DP) : Prop := ∀ (M : Fm) (G : Hp) (ρ : Env) (σ : L2.St) (H : Hp) (P : Option Int → Prop) (Q : Option Int → Hp → Prop), Rel K M G ρ σ H → d ρ P →
  (∀ o G' H', P o → Rel K M G' ρ σ H' → Same G G' → Q o H') → t σ H Q
structure PDP (X : Cx) (e : Option Expr) (t : TO) (d : DP) : Prop where
  pe : PO X e t
  se : SPt X.K t d
def dNoP : DP := fun _ P => P none
def dPart (a : DE) : DP := fun ρ P => a ρ fun x => x.intP fun i => P (some i)
theorem p_none : PDP X none tNoPart dNoP := ⟨po_none, fun M G ρ σ H P Q rl hp k => k none G H hp rl (Same.refl G)⟩
theorem p_some {e : Expr} {t : TE} {d : DE} (h : PDE X e t d) : PDP X (some e) (tPart t) (dPart d) := ⟨po_some h.pe, fun M G ρ σ H P Q rl hp k => by
  refine h.se M G ρ σ H _ _ rl hp fun x vx G1 H1 p1 r1 s1 q1 => ?_
  obtain ⟨i, rfl, p⟩ := D.intP_of p1
  exact ⟨i, q1.intI, k _ G1 H1 p r1 s1⟩⟩
def cut {α : Type} (xs : List α) (lo hi : Option Int) : List α := (xs.drop (HT.sIx xs.length 0 lo)).take (HT.sIx xs.length xs.length hi - HT.sIx xs.length 0 lo)
theorem cut_len {α : Type} (xs : List α) (lo hi : Option Int) : (cut xs lo hi).length ≤ xs.length := by
  unfold cut; rw [List.length_take, List.length_drop]; omega
theorem cut_all {α : Type} {xs : List α} {lo hi : Option Int} (h1 : HT.sIx xs.length 0 lo = 0) (h2 : HT.sIx xs.length xs.length hi = xs.length) : cut xs lo hi = xs := by
  unfold cut; rw [h1, h2]; simp
theorem RpL.cut {G : Hp} {vs : List V} {ds : List D} (r : RpL K G vs ds) (lo hi : Option Int) : RpL K G (cutV vs lo hi) (PD.cut ds lo hi) := by
  unfold cutV PD.cut
  rw [r.len]
  exact (r.drop _).take _
def dSl (a : DE) (l h : DP) : DE := fun ρ P => a ρ fun x => l ρ fun lo => h ρ fun hi => match x with
  | .tup xs => P (.tup (cut xs lo hi))
  | .lst xs => P (.lst (cut xs lo hi))
  | _ => False
theorem d_sl {a : Expr} {lo hi : Option Expr} {ta : TE} {tl th : TO} {da : DE} {dl dh : DP} {p2 pos : Pos} (ha : PDE X a ta da) (hl : PDP X lo tl dl) (hh : PDP X hi th dh) :
    PDE X (.Subscript a (.Slice lo hi none p2) pos) (tSl (fun x l u H Q => rSlA X.K x l u H Q ∨ rSlL X.K x l u H Q) ta tl th) (dSl da dl dh) := ⟨pe_slice (sl_tupA.or sl_list) ha.pe hl.pe hh.pe, fun M G ρ σ H P Q rl hp k => by
  refine ha.se M G ρ σ H _ _ rl hp fun x vx G1 H1 p1 r1 s1 q1 => ?_
  refine hl.se M G1 ρ σ H1 _ _ r1 p1 fun l G2 H2 p2 r2 s2 => ?_
  refine hh.se M G2 ρ σ H2 _ _ r2 p2 fun h G3 H3 p3 r3 s3 => ?_
  have q1 := q1.mono (s2.trans s3)
  have s := s1.trans (s2.trans s3)
  split at p3
  · obtain ⟨a, vs, rfl, h1, h2⟩ := q1.tupI
    refine .inl ⟨a, vs, rfl, same_sqT r3.frm.gs h1, fun z => ?_, fun z p hn => ?_⟩
    · rw [cut_all (by rw [← h2.len]; exact z.1) (by rw [← h2.len]; exact z.2)] at p3
      exact k _ _ G3 H3 p3 r3 s q1
    · exact k _ _ _ _ p3 (r3.new hn) (s.trans (same_upd (r3.frm.gs.free hn))) (.tup (.inl (.inl upd_same)) ((h2.cut l h).mono (same_upd (r3.frm.gs.free hn))))
  · obtain ⟨a, vs, rfl, h1, h2⟩ := q1.lstI
    exact .inr ⟨a, vs, rfl, .inl (same_rd r3.frm.gs h1), fun p hn => k _ _ _ _ p3 (r3.new hn) (s.trans (same_upd (r3.frm.gs.free hn))) (.lst (.inl upd_same) ((h2.cut l h).mono (same_upd (r3.frm.gs.free hn))))⟩
  · exact p3.elim⟩

/-! ### calls of the text's defs -/
/-- a def's promise over plain data: pre tells, of the arguments, what is asked of them and what is said of the answer -/
abbrev Pre := List D → (D → Prop) → Prop
def spP (K : PySem.W.Frag) (n : Nat) (pre : Pre) : Sp := fun vs H Q _ => ∃ (G : Hp) (ds : List D) (P : D → Prop), ds.length = n ∧ Same G H ∧ RpL K G vs ds ∧ pre ds P ∧
  ∀ d v G' H', P d → Same G G' → Same G' H' → Same H H' → (∀ b, H b ≠ none → G b = none → G' b = none) → Rp K G' v d → Q v H'
/-- .. the first argument is the urn -/
def spU (K : PySem.W.Frag) (n : Nat) (pre : Pre) : Sp := fun vs H Q _ => ∃ (G : Hp) (u : Addr) (ws : List V) (ds : List D) (P : D → Prop), vs = .ref u :: ws ∧ ds.length = n ∧ G u = none ∧ UrnOk H u ∧ Same G H ∧ RpL K G ws ds ∧ pre ds P ∧
  ∀ d v G' H', P d → Same G G' → Same G' H' → G' u = none → UrnOk H' u → (∀ b o, b ≠ u → H b = some o → H' b = some o) → (∀ b, H b ≠ none → G b = none → G' b = none) → Rp K G' v d → Q v H'
/-- behind a call that leaves all as it stood -/
theorem Rel.after {M : Fm} {G G' H H' : Hp} {ρ : Env} {σ : L2.St} (r : Rel K M G ρ σ H) (g : Same G G') (gh : Same G' H') (hh : Same H H') (n : ∀ b, H b ≠ none → G b = none → G' b = none) : Rel K M G' ρ σ H' where
  frm := by
    refine ⟨gh, fun b o e => hh b o (r.frm.fs b o e), fun b hb => n b ?_ (r.frm.lk b hb), r.frm.lf, fun u hu => ?_⟩
    · intro z
      exact r.frm.lf b hb (r.frm.fs.free z)
    · obtain ⟨h1, h2, x, y, z, h3⟩ := r.frm.ur u hu
      exact ⟨h1, n u (by rw [h3]; simp) h2, x, y, z, hh _ _ h3⟩
  len := r.len
  sl := fun i s e => (r.sl i s e).grow g fun a vs h1 h2 h3 h4 => ⟨n a (by rw [h4]; simp) h1, hh _ _ h4⟩
  sep := r.sep
theorem Rel.afterU {M : Fm} {G G' H H' : Hp} {ρ : Env} {σ : L2.St} {u : Addr} (r : Rel K M G ρ σ H) (hu : M.U = some u) (g : Same G G') (gh : Same G' H') (gu : G' u = none) (ok : UrnOk H' u) (hh : ∀ b o, b ≠ u → H b = some o → H' b = some o) (n : ∀ b, H b ≠ none → G b = none → G' b = none) : Rel K M G' ρ σ H' where
  frm := by
    obtain ⟨hF, hG, x, y, z, h3⟩ := r.frm.ur u hu
    refine ⟨gh, fun b o e => hh b o (ne_of_none e hF) (r.frm.fs b o e), fun b hb => n b ?_ (r.frm.lk b hb), r.frm.lf, fun u' hu' => ?_⟩
    · intro z
      exact r.frm.lf b hb (r.frm.fs.free z)
    · rw [hu] at hu'; cases hu'
      exact ⟨hF, gu, ok⟩
  len := r.len
  sl := fun i s e => (r.sl i s e).grow g fun a vs h1 h2 h3 h4 => ⟨n a (by rw [h4]; simp) h1, hh _ _ (fun z => h3 (by rw [hu, z])) h4⟩
  sep := r.sep
def dCall (n : Nat) (pre : Pre) (a : DA) : DE := fun ρ P => a ρ fun ds => ds.length = n ∧ pre ds P
theorem se_call {n : Nat} {pre : Pre} {t : TA} {d : DA} {E : XK} (h : SA K t d) : SE K (tCall (spP K n pre) [] E t) (dCall n pre d) := fun M G ρ σ H P Q rl hp k => by
  refine h M G ρ σ H _ _ rl hp fun xs vs G1 H1 p1 r1 s1 q1 => ?_
  show spP K n pre (vs ++ []) H1 Q E
  rw [List.append_nil]
  exact ⟨G1, xs, P, p1.1, r1.frm.gs, q1, p1.2, fun d v G' H' p g gh hh nw q => k d v G' H' p (r1.after g gh hh nw) (s1.trans g) q⟩
/-- the urn, then data -/
structure PDU (X : Cx) (es : List Expr) (t : TA) (d : DA) : Prop where
  pe : PA X es t
  se : ∀ (M : Fm) (G : Hp) (ρ : Env) (σ : L2.St) (H : Hp) (P : List D → Prop) (Q : List V → Hp → Prop), Rel X.K M G ρ σ H → d ρ P →
    (∀ u ds vs G' H', M.U = some u → P ds → Rel X.K M G' ρ σ H' → Same G G' → RpL X.K G' vs ds → Q (.ref u :: vs) H') → t σ H Q
def Sl.urP (P : Prop) : Sl → Prop
  | .ur => P
  | _ => False
theorem Sl.urP_of {P : Prop} : ∀ {s : Sl}, s.urP P → s = .ur ∧ P
  | .ur, h => ⟨rfl, h⟩
  | .no, h => h.elim
  | .ow _, h => h.elim
  | .fz _, h => h.elim
def dUrn (i : Nat) (r : DA) : DA := fun ρ P => (sat ρ i).urP (r ρ P)
theorem u_cons (i : Nat) {x : Str} {p : Pos} {es : List Expr} {t : TA} {d : DA} (hr : PDA X es t d) (hN : X.N[i]? = some x := by rfl) (hv : Vis X.env.scope x := by first | exact Or.inl rfl | exact Or.inr (Or.inl rfl) | exact Or.inr (Or.inr rfl)) (hd : (x == ("__debug__" : Str)) = false := by decide)
    (hcd : (x == ("__classdict__" : Str)) = false := by decide) (hs : starEach (.Name x p :: es) X.env = (false, eval (.Name x p) X.env) :: starEach es X.env := by rfl) : PDU X (.Name x p :: es) (tCons (tVar i) t) (dUrn i d) := ⟨pa_cons (pe_var hN hv hd hcd) hr.pe hs, fun M G ρ σ H P Q rl hp k => by
  obtain ⟨e, hp⟩ := Sl.urP_of hp
  obtain ⟨u, hu, ev⟩ := rl.sl i _ (sat_get e (fun z => nomatch z))
  exact ⟨.ref u, ev, hr.se M G ρ σ H _ _ rl hp fun ds vs G' H' p r s q => k u ds vs G' H' hu p r s q⟩⟩
theorem se_callU {n : Nat} {pre : Pre} {es : List Expr} {t : TA} {d : DA} {E : XK} (h : PDU X es t d) : SE X.K (tCall (spU X.K n pre) [] E t) (dCall n pre d) := fun M G ρ σ H P Q rl hp k => by
  refine h.se M G ρ σ H _ _ rl hp fun u xs vs G1 H1 hu p1 r1 s1 q1 => ?_
  show spU X.K n pre ((.ref u :: vs) ++ []) H1 Q E
  rw [List.append_nil]
  obtain ⟨_, gu, ok⟩ := r1.frm.ur u hu
  exact ⟨G1, u, vs, xs, P, rfl, p1.1, gu, ok, r1.frm.gs, q1, p1.2, fun d v G' H' p g gh gu' ok' hh nw q => k d v G' H' p (r1.afterU hu g gh gu' ok' hh nw) (s1.trans g) q⟩
/-- what a caller must know of a def -/
structure Def (P : Program) (w : World) (K : PySem.W.Frag) (mg : Str → Option Value) (base : Heap) (x : Str) (ps : List Str) (k : Nat) (sp : Sp) : Prop where
  ex : ∃ (f : Addr) (fd : FuncData), mg x = some (.ref f) ∧ FnOk P w K mg base CX0 k f fd ps sp ∧ PySem.W.keepIn K (.ref f) = true ∧ Binds K fd ps []
theorem d_call {x : Str} {ps : List Str} {k n : Nat} {pre : Pre} {e : Expr} {es : List Expr} {t : TA} {d : DA} {p pos : Pos} (F : Def X.prog X.w X.K X.mg X.base x ps k (spP X.K n pre)) (hr : Room k X.A) (hg : Gl X x) (ha : PDA X (e :: es) t d)
    (hdb : (x == ("__debug__" : Str)) = false := by decide) (he : starEach (e :: es) X.env = (false, eval e X.env) :: starEach es X.env := by rfl) (hpl : (backTo pos (starEach es X.env)).any (·.1) = false := by rfl) :
    PDE X (.Call (.Name x p) (e :: es) [] pos) (tCall (spP X.K n pre) [] E0 t) (dCall n pre d) := by
  obtain ⟨f, fd, hm, F, hk, hb⟩ := F.ex
  exact ⟨pe_call F hr hg hm hk hb .nil pass0 ha.pe hdb he hpl, se_call ha.se⟩
theorem d_callU {x : Str} {ps : List Str} {k n : Nat} {pre : Pre} {e : Expr} {es : List Expr} {t : TA} {d : DA} {p pos : Pos} (F : Def X.prog X.w X.K X.mg X.base x ps k (spU X.K n pre)) (hr : Room k X.A) (hg : Gl X x) (ha : PDU X (e :: es) t d)
    (hdb : (x == ("__debug__" : Str)) = false := by decide) (he : starEach (e :: es) X.env = (false, eval e X.env) :: starEach es X.env := by rfl) (hpl : (backTo pos (starEach es X.env)).any (·.1) = false := by rfl) :
    PDE X (.Call (.Name x p) (e :: es) [] pos) (tCall (spU X.K n pre) [] E0 t) (dCall n pre d) := by
  obtain ⟨f, fd, hm, F, hk, hb⟩ := F.ex
  exact ⟨pe_call F hr hg hm hk hb .nil pass0 ha.pe hdb he hpl, se_callU ha⟩

/-! ### built-ins -/
abbrev DC := List D → (D → Prop) → Prop
def SC (K : PySem.W.Frag) (r : List V → Hp → VK → Prop) (f : DC) : Prop := ∀ (M : Fm) (G : Hp) (ρ : Env) (σ : L2.St) (H : Hp) (vs : List V) (ds : List D) (P : D → Prop) (Q : VK), Rel K M G ρ σ H → RpL K G vs ds → f ds P →
  (∀ d v G' H', P d → Rel K M G' ρ σ H' → Same G G' → Rp K G' v d → Q v H') → r vs H Q
structure PDC (X : Cx) (fv : Value) (r : List V → Hp → VK → Prop) (f : DC) : Prop where
  pe : CallR X fv r
  se : SC X.K r f
def dCB (f : DC) (a : DA) : DE := fun ρ P => a ρ fun ds => f ds P
theorem se_cb {r : List V → Hp → VK → Prop} {f : DC} {t : TA} {d : DA} (h : SC K r f) (ha : SA K t d) : SE K (tCB r t) (dCB f d) := fun M G ρ σ H P Q rl hp k => by
  refine ha M G ρ σ H _ _ rl hp fun xs vs G1 H1 p1 r1 s1 q1 => ?_
  exact h M G1 ρ σ H1 vs xs P Q r1 q1 p1 fun d v G' H' p r s q => k d v G' H' p r (s1.trans s) q
theorem d_blt {id : String} {x : Str} {r : List V → Hp → VK → Prop} {f : DC} {e : Expr} {es : List Expr} {t : TA} {d : DA} {p pos : Pos} (h : PDC X (.builtin id) r f) (hg : Gl X x) (hm : X.mg x = none) (hv : bootBuiltins x = some (.builtin id)) (ha : PDA X (e :: es) t d)
    (hn : x ≠ "__name__" := by decide) (hdb : (x == ("__debug__" : Str)) = false := by decide) (he : starEach (e :: es) X.env = (false, eval e X.env) :: starEach es X.env := by rfl) (hpl : (backTo pos (starEach es X.env)).any (·.1) = false := by rfl) :
    PDE X (.Call (.Name x p) (e :: es) [] pos) (tCB r t) (dCB f d) := ⟨pe_callB h.pe hg hm hv ha.pe hn hdb he hpl, se_cb h.se ha.se⟩
theorem d_bty {T : String} {x : Str} {r : List V → Hp → VK → Prop} {f : DC} {e : Expr} {es : List Expr} {t : TA} {d : DA} {p pos : Pos} (h : PDC X (.type T) r f) (hg : Gl X x) (hm : X.mg x = none) (hv : bootBuiltins x = some (.type T)) (ha : PDA X (e :: es) t d)
    (hn : x ≠ "__name__" := by decide) (hdb : (x == ("__debug__" : Str)) = false := by decide) (he : starEach (e :: es) X.env = (false, eval e X.env) :: starEach es X.env := by rfl) (hpl : (backTo pos (starEach es X.env)).any (·.1) = false := by rfl) :
    PDE X (.Call (.Name x p) (e :: es) [] pos) (tCB r t) (dCB f d) := ⟨pe_callTy h.pe hg hm hv ha.pe hn hdb he hpl, se_cb h.se ha.se⟩
/-- one argument -/
def one1 (f : D → (D → Prop) → Prop) : DC := fun ds P => match ds with
  | [x] => f x P
  | _ => False
def two2 (f : DO) : DC := fun ds P => match ds with
  | [x, y] => f x y P
  | _ => False
theorem one1_of {f : D → (D → Prop) → Prop} {ds : List D} {P : D → Prop} (h : one1 f ds P) : ∃ x, ds = [x] ∧ f x P := by
  unfold one1 at h; split at h
  · exact ⟨_, rfl, h⟩
  · exact h.elim
theorem two2_of {f : DO} {ds : List D} {P : D → Prop} (h : two2 f ds P) : ∃ x y, ds = [x, y] ∧ f x y P := by
  unfold two2 at h; split at h
  · exact ⟨_, _, rfl, h⟩
  · exact h.elim
theorem RpL.oneI {G : Hp} {vs : List V} {d : D} (h : RpL K G vs [d]) : ∃ v, vs = [v] ∧ Rp K G v d := by
  obtain ⟨v, ws, rfl, h1, h2⟩ := h.consI
  rw [h2.nilI]; exact ⟨v, rfl, h1⟩
theorem RpL.twoI {G : Hp} {vs : List V} {d e : D} (h : RpL K G vs [d, e]) : ∃ v w, vs = [v, w] ∧ Rp K G v d ∧ Rp K G w e := by
  obtain ⟨v, ws, rfl, h1, h2⟩ := h.consI
  obtain ⟨w, rfl, h3⟩ := h2.oneI
  exact ⟨v, w, rfl, h1, h3⟩
/-- len of a list, a tuple -/
abbrev cLen : DC := one1 fun x P => x.seqP fun xs => P (.int xs.length)
theorem c_len : PDC X (.builtin "len") (fun xs H Q => ∃ p ys, xs = [.ref p] ∧ (SqL X.K H p ys ∨ SqT X.K H p ys) ∧ Q (.int ys.length) H) cLen := ⟨call_len_seq, fun M G ρ σ H vs ds P Q r h hp k => by
  obtain ⟨x, rfl, hp1⟩ := one1_of hp
  obtain ⟨v, rfl, hv⟩ := h.oneI
  obtain ⟨xs, e, hp2⟩ := D.seqP_of hp1
  rcases e with rfl | rfl
  · obtain ⟨a, vs, rfl, h1, h2⟩ := hv.lstI
    exact ⟨a, vs, rfl, .inl (.inl (same_rd r.frm.gs h1)), by rw [h2.len]; exact k _ _ G H hp2 r (Same.refl G) (.int _)⟩
  · obtain ⟨a, vs, rfl, h1, h2⟩ := hv.tupI
    exact ⟨a, vs, rfl, .inr (same_sqT r.frm.gs h1), by rw [h2.len]; exact k _ _ G H hp2 r (Same.refl G) (.int _)⟩⟩
/-- all, any of a list of truth values; sum of ints -/
def blsOf : List D → Option (List Bool)
  | [] => some []
  | .bl b :: r => (blsOf r).map (b :: ·)
  | _ :: _ => none
def intsOf : List D → Option (List Int)
  | [] => some []
  | .int b :: r => (intsOf r).map (b :: ·)
  | _ :: _ => none
theorem blsOf_eq : ∀ {ds : List D} {bs : List Bool}, blsOf ds = some bs → ds = bs.map D.bl
  | [], bs, h => by cases h; rfl
  | .bl b :: r, bs, h => by
    simp only [blsOf, Option.map_eq_some_iff] at h
    obtain ⟨cs, h, rfl⟩ := h
    rw [blsOf_eq h]; rfl
  | .non :: _, _, h => by simp [blsOf] at h
  | .int _ :: _, _, h => by simp [blsOf] at h
  | .str _ :: _, _, h => by simp [blsOf] at h
  | .tup _ :: _, _, h => by simp [blsOf] at h
  | .lst _ :: _, _, h => by simp [blsOf] at h
  | .fn _ :: _, _, h => by simp [blsOf] at h
  | .dct :: _, _, h => by simp [blsOf] at h
  | .ty _ :: _, _, h => by simp [blsOf] at h
theorem intsOf_eq : ∀ {ds : List D} {bs : List Int}, intsOf ds = some bs → ds = bs.map D.int
  | [], bs, h => by cases h; rfl
  | .int b :: r, bs, h => by
    simp only [intsOf, Option.map_eq_some_iff] at h
    obtain ⟨cs, h, rfl⟩ := h
    rw [intsOf_eq h]; rfl
  | .non :: _, _, h => by simp [intsOf] at h
  | .bl _ :: _, _, h => by simp [intsOf] at h
  | .str _ :: _, _, h => by simp [intsOf] at h
  | .tup _ :: _, _, h => by simp [intsOf] at h
  | .lst _ :: _, _, h => by simp [intsOf] at h
  | .fn _ :: _, _, h => by simp [intsOf] at h
  | .dct :: _, _, h => by simp [intsOf] at h
  | .ty _ :: _, _, h => by simp [intsOf] at h
@[simp] theorem blsOf_map (bs : List Bool) : blsOf (bs.map D.bl) = some bs := by
  induction bs with
  | nil => rfl
  | cons b r ih => simp [blsOf, ih]
@[simp] theorem intsOf_map (bs : List Int) : intsOf (bs.map D.int) = some bs := by
  induction bs with
  | nil => rfl
  | cons b r ih => simp [intsOf, ih]
def D.lstP (P : List D → Prop) : D → Prop
  | .lst xs => P xs
  | _ => False
def D.tupP (P : List D → Prop) : D → Prop
  | .tup xs => P xs
  | _ => False
theorem D.lstP_of {P : List D → Prop} : ∀ {d : D}, d.lstP P → ∃ xs, d = .lst xs ∧ P xs
  | .lst i, h => ⟨i, rfl, h⟩
  | .tup _, h => h.elim | .non, h => h.elim | .int _, h => h.elim | .str _, h => h.elim | .bl _, h => h.elim | .fn _, h => h.elim | .dct, h => h.elim | .ty _, h => h.elim | .scr _, h => h.elim
theorem D.tupP_of {P : List D → Prop} : ∀ {d : D}, d.tupP P → ∃ xs, d = .tup xs ∧ P xs
  | .tup i, h => ⟨i, rfl, h⟩
  | .lst _, h => h.elim | .non, h => h.elim | .int _, h => h.elim | .str _, h => h.elim | .bl _, h => h.elim | .fn _, h => h.elim | .dct, h => h.elim | .ty _, h => h.elim | .scr _, h => h.elim
abbrev cAll : DC := one1 fun x P => x.lstP fun xs => optP (fun bs => P (.bl (bs.all id))) (blsOf xs)
abbrev cAny : DC := one1 fun x P => x.lstP fun xs => optP (fun bs => P (.bl (bs.any id))) (blsOf xs)
abbrev cSum : DC := one1 fun x P => x.lstP fun xs => optP (fun bs => P (.int bs.sum)) (intsOf xs)
theorem c_all (hc : X.calm = true) : PDC X (.builtin "all") (rAll X.K) cAll := ⟨cr_all hc, fun M G ρ σ H vs ds P Q r h hp k => by
  obtain ⟨x, rfl, hp1⟩ := one1_of hp
  obtain ⟨v, rfl, hv⟩ := h.oneI
  obtain ⟨xs, rfl, hp2⟩ := D.lstP_of hp1
  obtain ⟨bs, e, hp3⟩ := optP_of hp2
  obtain ⟨a, vs, rfl, h1, h2⟩ := hv.lstI
  rw [blsOf_eq e] at h2
  rw [h2.bls] at h1
  exact ⟨a, bs, rfl, .inl (same_rd r.frm.gs h1), k _ _ G H hp3 r (Same.refl G) (.bl _)⟩⟩
theorem c_any (hc : X.calm = true) : PDC X (.builtin "any") (rAny X.K) cAny := ⟨cr_any hc, fun M G ρ σ H vs ds P Q r h hp k => by
  obtain ⟨x, rfl, hp1⟩ := one1_of hp
  obtain ⟨v, rfl, hv⟩ := h.oneI
  obtain ⟨xs, rfl, hp2⟩ := D.lstP_of hp1
  obtain ⟨bs, e, hp3⟩ := optP_of hp2
  obtain ⟨a, vs, rfl, h1, h2⟩ := hv.lstI
  rw [blsOf_eq e] at h2
  rw [h2.bls] at h1
  exact ⟨a, bs, rfl, .inl (same_rd r.frm.gs h1), k _ _ G H hp3 r (Same.refl G) (.bl _)⟩⟩
theorem c_sum (hc : X.calm = true) : PDC X (.builtin "sum") (rSum X.K) cSum := ⟨cr_sum hc, fun M G ρ σ H vs ds P Q r h hp k => by
  obtain ⟨x, rfl, hp1⟩ := one1_of hp
  obtain ⟨v, rfl, hv⟩ := h.oneI
  obtain ⟨xs, rfl, hp2⟩ := D.lstP_of hp1
  obtain ⟨bs, e, hp3⟩ := optP_of hp2
  obtain ⟨a, vs, rfl, h1, h2⟩ := hv.lstI
  rw [intsOf_eq e] at h2
  rw [h2.ints] at h1
  exact ⟨a, bs, rfl, .inl (same_rd r.frm.gs h1), k _ _ G H hp3 r (Same.refl G) (.int _)⟩⟩
/-- max, min of a list of ints that is not empty: some int of it, the greatest -/
abbrev cMaxL : DC := one1 fun x P => x.lstP fun xs => optP (fun ns => ns ≠ [] ∧ ∀ m, m ∈ ns → (∀ y, y ∈ ns → y ≤ m) → P (.int m)) (intsOf xs)
abbrev cMinL : DC := one1 fun x P => x.lstP fun xs => optP (fun ns => ns ≠ [] ∧ ∀ m, m ∈ ns → (∀ y, y ∈ ns → m ≤ y) → P (.int m)) (intsOf xs)
theorem c_maxL (hc : X.calm = true) : PDC X (.builtin "max") (rMax X.K) cMaxL := ⟨cr_max hc, fun M G ρ σ H vs ds P Q r h hp k => by
  obtain ⟨x, rfl, hp1⟩ := one1_of hp
  obtain ⟨v, rfl, hv⟩ := h.oneI
  obtain ⟨xs, rfl, hp2⟩ := D.lstP_of hp1
  obtain ⟨bs, e, hn, hp3⟩ := optP_of hp2
  obtain ⟨a, vs, rfl, h1, h2⟩ := hv.lstI
  rw [intsOf_eq e] at h2
  rw [h2.ints] at h1
  exact ⟨a, bs, rfl, .inl (same_rd r.frm.gs h1), List.length_pos_iff.mpr hn, fun m hm hl => k _ _ G H (hp3 m hm hl) r (Same.refl G) (.int _)⟩⟩
theorem c_minL (hc : X.calm = true) : PDC X (.builtin "min") (rMin X.K) cMinL := ⟨cr_min hc, fun M G ρ σ H vs ds P Q r h hp k => by
  obtain ⟨x, rfl, hp1⟩ := one1_of hp
  obtain ⟨v, rfl, hv⟩ := h.oneI
  obtain ⟨xs, rfl, hp2⟩ := D.lstP_of hp1
  obtain ⟨bs, e, hn, hp3⟩ := optP_of hp2
  obtain ⟨a, vs, rfl, h1, h2⟩ := hv.lstI
  rw [intsOf_eq e] at h2
  rw [h2.ints] at h1
  exact ⟨a, bs, rfl, .inl (same_rd r.frm.gs h1), List.length_pos_iff.mpr hn, fun m hm hl => k _ _ G H (hp3 m hm hl) r (Same.refl G) (.int _)⟩⟩
abbrev cMax2 : DC := two2 (oI0 fun i j => .int (if j > i then j else i))
abbrev cMin2 : DC := two2 (oI0 fun i j => .int (if j < i then j else i))
theorem c_max2 (hc : X.calm = true) : PDC X (.builtin "max") (fun xs H Q => ∃ i j, xs = [.int i, .int j] ∧ Q (.int (if j > i then j else i)) H) cMax2 := ⟨call_max2 hc, fun M G ρ σ H vs ds P Q r h hp k => by
  obtain ⟨x, y, rfl, hp1⟩ := two2_of hp
  obtain ⟨v, w, rfl, h1, h2⟩ := h.twoI
  obtain ⟨i, j, rfl, rfl, hp2⟩ := oI0_of hp1
  exact ⟨i, j, by rw [h1.intI, h2.intI], k _ _ G H hp2 r (Same.refl G) (.int _)⟩⟩
theorem c_min2 (hc : X.calm = true) : PDC X (.builtin "min") (fun xs H Q => ∃ i j, xs = [.int i, .int j] ∧ Q (.int (if j < i then j else i)) H) cMin2 := ⟨call_min2 hc, fun M G ρ σ H vs ds P Q r h hp k => by
  obtain ⟨x, y, rfl, hp1⟩ := two2_of hp
  obtain ⟨v, w, rfl, h1, h2⟩ := h.twoI
  obtain ⟨i, j, rfl, rfl, hp2⟩ := oI0_of hp1
  exact ⟨i, j, by rw [h1.intI, h2.intI], k _ _ G H hp2 r (Same.refl G) (.int _)⟩⟩
abbrev cAbs : DC := one1 fun x P => x.intP fun i => P (.int (if i < 0 then -i else i))
theorem c_abs : PDC X (.builtin "abs") (fun xs H Q => ∃ i, xs = [.int i] ∧ Q (.int (if i < 0 then -i else i)) H) cAbs := ⟨call_abs, fun M G ρ σ H vs ds P Q r h hp k => by
  obtain ⟨x, rfl, hp1⟩ := one1_of hp
  obtain ⟨v, rfl, hv⟩ := h.oneI
  obtain ⟨i, rfl, hp2⟩ := D.intP_of hp1
  exact ⟨i, by rw [hv.intI], k _ _ G H hp2 r (Same.refl G) (.int _)⟩⟩
/-- int of an int, of a truth value -/
def cInt : DC := one1 fun x P => match x with
  | .int i => P (.int i)
  | .bl b => P (.int (if b then 1 else 0))
  | _ => False
theorem c_int : PDC X (.type "int") (fun xs H Q => (∃ i, xs = [.int i] ∧ Q (.int i) H) ∨ ∃ k, xs = [.bl k] ∧ Q (.int (if k then 1 else 0)) H) cInt := ⟨call_int1, fun M G ρ σ H vs ds P Q r h hp k => by
  obtain ⟨x, rfl, hp1⟩ := one1_of hp
  obtain ⟨v, rfl, hv⟩ := h.oneI
  split at hp1
  · exact .inl ⟨_, by rw [hv.intI], k _ _ G H hp1 r (Same.refl G) (.int _)⟩
  · exact .inr ⟨_, by rw [hv.blI], k _ _ G H hp1 r (Same.refl G) (.int _)⟩
  · exact hp1.elim⟩
/-- tuple of a list or a tuple -/
abbrev cTup : DC := one1 fun x P => x.seqP fun xs => P (.tup xs)
theorem c_tup : PDC X (.type "tuple") (fun xs H Q => ∃ p ys, xs = [.ref p] ∧ ((SqL X.K H p ys ∧ ∀ l, H l = none → Q (.ref l) (upd H l (.tup ys))) ∨ (SqT X.K H p ys ∧ Q (.ref p) H))) cTup := ⟨call_tuple_of, fun M G ρ σ H vs ds P Q r h hp k => by
  obtain ⟨x, rfl, hp1⟩ := one1_of hp
  obtain ⟨v, rfl, hv⟩ := h.oneI
  obtain ⟨xs, e, hp2⟩ := D.seqP_of hp1
  rcases e with rfl | rfl
  · obtain ⟨a, vs, rfl, h1, h2⟩ := hv.lstI
    exact ⟨a, vs, rfl, .inl ⟨.inl (same_rd r.frm.gs h1), fun p hn => k _ _ _ _ hp2 (r.new hn) (same_upd (r.frm.gs.free hn)) (.tup (.inl (.inl upd_same)) (h2.mono (same_upd (r.frm.gs.free hn))))⟩⟩
  · obtain ⟨a, vs, rfl, h1, h2⟩ := id hv.tupI
    exact ⟨a, vs, rfl, .inr ⟨same_sqT r.frm.gs h1, k _ _ G H hp2 r (Same.refl G) hv⟩⟩⟩
/-- a new list: list(x) -/
def dListF (a : DA) : DA := fun ρ P => a ρ fun ds => match ds with
  | [x] => x.seqP P
  | _ => False
theorem f_list {x : Str} {e : Expr} {t : TA} {d : DA} {p pos : Pos} (hg : Gl X x) (hm : X.mg x = none) (hv : bootBuiltins x = some (.type "list")) (ha : PDA X [e] t d)
    (hn : x ≠ "__name__" := by decide) (hdb : (x == ("__debug__" : Str)) = false := by decide) (he : starEach [e] X.env = (false, eval e X.env) :: starEach [] X.env := by rfl) (hpl : (backTo pos (starEach [] X.env)).any (·.1) = false := by rfl) :
    PDF X (.Call (.Name x p) [e] [] pos) (tCB (fun xs H Q => ∃ p ys, xs = [.ref p] ∧ (SqL X.K H p ys ∨ SqT X.K H p ys) ∧ ∀ l, H l = none → Q (.ref l) (upd H l (.lst ys))) t) (dListF d) := ⟨pe_callTy call_list_of hg hm hv ha.pe hn hdb he hpl, fun M G ρ σ H P Q rl hp k => by
  refine ha.se M G ρ σ H _ _ rl hp fun xs vs G1 H1 p1 r1 s1 q1 => ?_
  split at p1
  · obtain ⟨v, rfl, h⟩ := q1.oneI
    obtain ⟨ys, e, p1⟩ := D.seqP_of p1
    rcases e with rfl | rfl
    · obtain ⟨a, vs, rfl, h1, h2⟩ := h.lstI
      exact ⟨a, vs, rfl, .inl (.inl (same_rd r1.frm.gs h1)), fun l hl => k _ _ l G1 H1 p1 r1 s1 h2 hl⟩
    · obtain ⟨a, vs, rfl, h1, h2⟩ := h.tupI
      exact ⟨a, vs, rfl, .inr (same_sqT r1.frm.gs h1), fun l hl => k _ _ l G1 H1 p1 r1 s1 h2 hl⟩
  · exact p1.elim⟩
/-- a new tuple of both parts of a division -/
abbrev cDivmod : DC := two2 (oI CDiv fun i j => .tup [.int (i / j), .int (i % j)])
theorem c_divmod : PDC X (.builtin "divmod") (fun xs H Q => ∃ i j, xs = [.int i, .int j] ∧ CDiv i j ∧ ∀ p, H p = none → Q (.ref p) (upd H p (.tup [.int (i / j), .int (i % j)]))) cDivmod := ⟨call_divmod, fun M G ρ σ H vs ds P Q r h hp k => by
  obtain ⟨x, y, rfl, hp1⟩ := two2_of hp
  obtain ⟨v, w, rfl, h1, h2⟩ := h.twoI
  obtain ⟨i, j, rfl, rfl, hc, hp2⟩ := oI_of hp1
  exact ⟨i, j, by rw [h1.intI, h2.intI], hc, fun p hn => k _ _ _ _ hp2 (r.new hn) (same_upd (r.frm.gs.free hn)) (.tup (.inl (.inl upd_same)) (.cons (.int _) (.cons (.int _) .nil)))⟩⟩
/-- isinstance(x, T), T a built-in class -/
def D.cls : D → String
  | .non => "NoneType"
  | .bl _ => "bool"
  | .int _ => "int"
  | .str _ => "str"
  | .tup _ => "tuple"
  | .lst _ => "list"
  | .dct => "dict"
  | .fn _ => "function"
  | .ty _ => "type"
  | .scr _ => "list"
  | .st _ => "set"
def clsT (c T : String) : Bool := c == T || (c == "bool" && T == "int")
def isT (d : D) (T : String) : Bool := clsT d.cls T
def D.norm : D → Bool
  | .fn _ => false
  | .ty _ => false
  | .scr _ => false
  | .st _ => false
  | _ => true
abbrev plainTys : List String := ["int", "bool", "tuple", "str", "list", "dict"]
def cIsi : DC := two2 fun x y P => match y with
  | .ty T => x.norm = true ∧ T ∈ plainTys ∧ P (.bl (isT x T))
  | _ => False
theorem Rp.tyx {G H : Hp} {v : V} {d : D} (e : Same G H) (h : Rp K G v d) (n : d.norm = true) : TyX K H v (.type d.cls) := by
  cases h with
  | non => exact .base .non
  | bl b => exact .base (.bl b)
  | int b => exact .base (.int b)
  | str b => exact .base (.str b)
  | fn a => cases n
  | ty a => cases n
  | scr a => cases n
  | st _ _ _ _ => cases n
  | dct h => exact .base (.dK (e _ _ h))
  | tup h r =>
    rcases h with (h | ⟨o, h⟩) | ⟨o, its, n, h, hc, _⟩
    · exact .base (.tup (e _ _ h))
    · exact .fTuple (e _ _ h)
    · exact .kTuple h hc
  | lst h r =>
    rcases h with h | ⟨o, h⟩
    · exact .base (.lst (e _ _ h))
    · exact .base (.frz (e _ _ h))
theorem kit_isT (d : D) (n : d.norm = true) (T : String) (hT : T ∈ plainTys) : PySem.W.kitOne K (.type d.cls) (.type T) = some (isT d T) := by
  refine kit_ty ?_
  simp only [plainTys, List.mem_cons, List.not_mem_nil, or_false] at hT
  rcases hT with rfl | rfl | rfl | rfl | rfl | rfl <;> cases d <;> first | (cases n; done) | (simp only [isT, D.cls]; decide +kernel)
theorem c_isi : PDC X (.builtin "isinstance") (rIsi X.K) cIsi := ⟨call_isi, fun M G ρ σ H vs ds P Q r h hp k => by
  obtain ⟨x, y, rfl, hp1⟩ := two2_of hp
  obtain ⟨v, w, rfl, h1, h2⟩ := h.twoI
  split at hp1
  · rename_i T
    obtain ⟨hn, hT, hp2⟩ := hp1
    cases h2
    exact ⟨v, .ty T, _, _, _, rfl, .ty T, h1.tyx r.frm.gs hn, kit_isT x hn T hT, k _ _ G H hp2 r (Same.refl G) (.bl _)⟩
  · exact hp1.elim⟩
end
end PD

namespace PD
open PySem PySem.Spec PyProof.Rows L2

section
variable {X : Cx} {K : PySem.W.Frag}
/-! ### what is assigned: data, or a new list -/
def SlNew (K : PySem.W.Frag) (M : Fm) (G : Hp) (ρ : Env) (σ : L2.St) (H : Hp) (v : V) : Sl → Prop
  | .fz d => Rel K M G ρ σ H ∧ Rp K G v d
  | .ow ds => ∃ p vs H0, v = .ref p ∧ H = upd H0 p (.lst vs) ∧ H0 p = none ∧ Rel K M G ρ σ H0 ∧ RpL K G vs ds
  | _ => False
abbrev DX := Env → (Sl → Prop) → Prop
def SX (K : PySem.W.Frag) (t : TE) (e : DX) : Prop := ∀ (M : Fm) (G : Hp) (ρ : Env) (σ : L2.St) (H : Hp) (P : Sl → Prop) (Q : VK), Rel K M G ρ σ H → e ρ P →
  (∀ s v G' H', P s → SlNew K M G' ρ σ H' v s → Same G G' → Q v H') → t σ H Q
structure PDX (X : Cx) (e : Expr) (t : TE) (d : DX) : Prop where
  pe : PE X e t
  se : SX X.K t d
def xE (d : DE) : DX := fun ρ P => d ρ fun x => P (.fz x)
def xF (d : DA) : DX := fun ρ P => d ρ fun x => P (.ow x)
theorem PDE.x {e : Expr} {t : TE} {d : DE} (h : PDE X e t d) : PDX X e t (xE d) := ⟨h.pe, fun M G ρ σ H P Q rl hp k => h.se M G ρ σ H _ _ rl hp fun d v G' H' p r s q => k (.fz d) v G' H' p ⟨r, q⟩ s⟩
theorem PDF.x {e : Expr} {t : TE} {d : DA} (h : PDF X e t d) : PDX X e t (xF d) := ⟨h.pe, fun M G ρ σ H P Q rl hp k => h.se M G ρ σ H _ _ rl hp fun ds vs p G' H' pp r s q hn => k (.ow ds) (.ref p) G' _ pp ⟨p, vs, H', rfl, rfl, hn, r, q⟩ s⟩
theorem SlNew.put {M : Fm} {G H : Hp} {ρ : Env} {σ : L2.St} {v : V} {s : Sl} (h : SlNew K M G ρ σ H v s) (i : Nat) : Rel K M G (ρ.set i s) (σ.set i (some v)) H := by
  cases s with
  | fz d => exact h.1.setF h.2 i
  | ow ds =>
    obtain ⟨p, vs, H0, rfl, rfl, hn, r, q⟩ := h
    exact r.own hn q i
  | no => exact h.elim
  | ur => exact h.elim
theorem SlNew.len {M : Fm} {G H : Hp} {ρ : Env} {σ : L2.St} {v : V} {s : Sl} (h : SlNew K M G ρ σ H v s) : ∃ H0, Rel K M G ρ σ H0 := by
  cases s with
  | fz d => exact ⟨_, h.1⟩
  | ow ds =>
    obtain ⟨p, vs, H0, rfl, rfl, hn, r, q⟩ := h
    exact ⟨_, r⟩
  | no => exact h.elim
  | ur => exact h.elim
/-- two in a row: the first is held while the second is reckoned -/
theorem two_x {ta tb : TE} {da db : DX} (ha : SX K ta da) (hb : SX K tb db) (M : Fm) (G : Hp) (ρ : Env) (σ : L2.St) (H : Hp) (P : Sl → Sl → Prop) (Q : V → V → Hp → Prop) (rl : Rel K M G ρ σ H) (hp : da ρ fun s => db ρ fun t => P s t)
    (k : ∀ s t v w G' H', P s t → Same G G' → (∀ i j, i ≠ j → Rel K M G' ((ρ.set i s).set j t) ((σ.set i (some v)).set j (some w)) H') → Q v w H') : ta σ H fun v H1 => tb σ H1 fun w H2 => Q v w H2 := by
  refine ha M G ρ σ H _ _ rl hp fun s v G1 H1 p1 n1 s1 => ?_
  cases s with
  | no => exact n1.elim
  | ur => exact n1.elim
  | fz d =>
    obtain ⟨r1, q1⟩ := n1
    refine hb M G1 ρ σ H1 _ _ r1 p1 fun t w G2 H2 p2 n2 s2 => ?_
    refine k _ _ _ _ G2 H2 p2 (s1.trans s2) fun i j hij => ?_
    have := (n2.put j).setF (q1.mono s2) i
    rw [List.set_comm _ _ hij.symm, List.set_comm _ _ hij.symm] at this
    exact this
  | ow ds =>
    obtain ⟨p, vs, H0, rfl, rfl, hn, r1, q1⟩ := n1
    have hF : M.F p = none := r1.frm.fs.free hn
    refine hb (M.hold p (.lst vs)) G1 ρ σ _ _ _ (r1.hold hn) p1 fun t w G2 H2 p2 n2 s2 => ?_
    refine k _ _ _ _ G2 H2 p2 (s1.trans s2) fun i j hij => ?_
    have r2 := n2.put j
    have e2 : H2 p = some (.lst vs) := r2.held
    have r3 := (r2.take hF rl.frm.lf).own rem_same (q1.mono s2) i
    rw [upd_rem e2, List.set_comm _ _ hij.symm, List.set_comm _ _ hij.symm] at r3
    exact r3

/-! ### targets -/
def dName (i : Nat) : DG := fun d ρ P => P (ρ.set i (.fz d))
theorem g_name {i : Nat} {x : Str} {pos : Pos} (hN : X.N.Nodup) (hi : X.N[i]? = some x := by rfl) (hx : Loc X.env.scope x := by first | exact Or.inl rfl | exact Or.inr rfl) (hf : X.fn x = true ∨ X.env.scope.names.lookup x = some .local := by first | exact .inl rfl | exact .inr rfl | assumption) : PDG X (.Name x pos) (gName i) (dName i) :=
  ⟨pg_name hN hi hx hf, fun M G ρ σ H v d P Q rl hv hp k => k _ _ hp (rl.setF hv i)⟩
abbrev DGs := List D → Env → (Env → Prop) → Prop
def SGs (K : PySem.W.Frag) (t : TGs) (g : DGs) : Prop := ∀ (M : Fm) (G : Hp) (ρ : Env) (σ : L2.St) (H : Hp) (vs : List V) (ds : List D) (P : Env → Prop) (Q : L2.St → Hp → Prop), Rel K M G ρ σ H → RpL K G vs ds → g ds ρ P →
  (∀ ρ' σ', P ρ' → Rel K M G ρ' σ' H → Q σ' H) → t vs σ H Q
structure PDGs (X : Cx) (es : List Expr) (t : TGs) (d : DGs) : Prop where
  pe : PGs X es t
  se : SGs X.K t d
def dGNil : DGs := fun ds ρ P => match ds with
  | [] => P ρ
  | _ => False
def dGCons (g : DG) (r : DGs) : DGs := fun ds ρ P => match ds with
  | d :: ds => g d ρ fun ρ' => r ds ρ' P
  | [] => False
theorem gs_nil : PDGs X [] gNil dGNil := ⟨pgs_nil, fun M G ρ σ H vs ds P Q rl hv hp k => by
  unfold dGNil at hp; split at hp
  · exact ⟨hv.nilI, k _ _ hp rl⟩
  · exact hp.elim⟩
theorem gs_cons {e : Expr} {es : List Expr} {t : TG} {u : TGs} {g : DG} {r : DGs} (h : PDG X e t g) (hr : PDGs X es u r) (hs : (assignEach (e :: es) X.env).map (·.2) = assign e X.env :: (assignEach es X.env).map (·.2) := by rfl) : PDGs X (e :: es) (gCons t u) (dGCons g r) := ⟨pgs_cons h.pe hr.pe hs, fun M G ρ σ H vs ds P Q rl hv hp k => by
  unfold dGCons at hp; split at hp
  · obtain ⟨v, ws, rfl, h1, h2⟩ := hv.consI
    exact ⟨v, ws, rfl, h.se M G ρ σ H v _ _ _ rl h1 hp fun ρ' σ' hp' rl' => hr.se M G ρ' σ' H ws _ _ _ rl' h2 hp' k⟩
  · exact hp.elim⟩
def dGTup (n : Nat) (g : DGs) : DG := fun d ρ P => d.tupP fun ds => ds.length = n ∧ g ds ρ P
theorem g_tup {es : List Expr} {k : Nat} {pos : Pos} {t : TGs} {g : DGs} (hc : X.calm = true) {n : Nat} (h : PDGs X es t g) (hn : (assignEach es X.env).length = n := by rfl) (hst : (assignEach es X.env).findIdx? (·.1) = none := by rfl) : PDG X (.Tuple es k pos) (gTup X.K n t) (dGTup n g) := ⟨pg_tup hc h.pe hn hst, fun M G ρ σ H v d P Q rl hv hp k => by
  obtain ⟨ds, rfl, hl, hp⟩ := D.tupP_of hp
  obtain ⟨a, vs, rfl, h1, h2⟩ := hv.tupI
  exact ⟨a, vs, rfl, same_sqT rl.frm.gs h1, by rw [h2.len]; exact hl, h.se M G ρ σ H vs ds P Q rl h2 hp k⟩⟩

/-! ### statements -/
def dNext : DS := fun P ρ => P.nx ρ
def dSeq (t u : DS) : DS := fun P ρ => t { P with nx := fun ρ' => u P ρ' } ρ
def dDrop (e : DE) : DS := fun P ρ => e ρ fun _ => P.nx ρ
def dRet (e : DE) : DS := fun P ρ => e ρ P.rt
def dRetN : DS := fun P _ => P.rt .non
def dIfS (c : DT) (t u : DS) : DS := fun P ρ => c ρ fun b => if b = true then t P ρ else u P ρ
def dBreak : DS := fun P ρ => P.bk ρ
def dCont : DS := fun P ρ => P.ct ρ
theorem ss_nil : PDSs X [] tNext dNext := ⟨pss_nil, fun M G ρ σ H P D rl hp l => l.nx ρ σ G H hp rl (Same.refl G)⟩
theorem ss_cons {st : Stmt} {rest : List Stmt} {t u : TS} {d e : DS} (h : PDS X st t d) (hr : PDSs X rest u e) : PDSs X (st :: rest) (tSeq t u) (dSeq d e) := ⟨pss_cons h.pe hr.pe, fun M G ρ σ H P D rl hp l =>
  h.se M G ρ σ H { P with nx := fun ρ' => e P ρ' } { D with nx := u D } rl hp
    { nx := fun ρ' σ' G' H' hp' rl' s' => hr.se M G' ρ' σ' H' P D rl' hp' (l.mono s'), bk := l.bk, ct := l.ct, rt := l.rt, rf := l.rf }⟩
theorem ss_one {st : Stmt} {t : TS} {d : DS} (h : PDS X st t d) : PDSs X [st] t d := ⟨pss_one h.pe, h.se⟩
theorem s_pass {pos : Pos} : PDS X (.Pass pos) tNext dNext := ⟨ps_pass, ss_nil.se⟩
theorem s_break {pos : Pos} : PDS X (.Break pos) tBreak dBreak := ⟨ps_break, fun M G ρ σ H P D rl hp l => l.bk ρ σ G H hp rl (Same.refl G)⟩
theorem s_cont {pos : Pos} : PDS X (.Continue pos) tCont dCont := ⟨ps_continue, fun M G ρ σ H P D rl hp l => l.ct ρ σ G H hp rl (Same.refl G)⟩
theorem s_ret {e : Expr} {te : TE} {d : DE} {pos : Pos} (h : PDE X e te d) : PDS X (.Return (some e) pos) (tRet te) (dRet d) := ⟨ps_ret h.pe, fun M G ρ σ H P D rl hp l =>
  h.se M G ρ σ H _ _ rl hp fun d v G' H' p r s q => l.rt d v G' H' p r.frm s q⟩
/-- an owned list handed back -/
def dRetO (i : Nat) : DS := fun P ρ => (sat ρ i).owP fun ds => P.rt (.lst ds)
theorem s_retO (i : Nat) {x : Str} {pos p : Pos} (hN : X.N[i]? = some x := by rfl) (hv : Vis X.env.scope x := by first | exact Or.inl rfl | exact Or.inr (Or.inl rfl) | exact Or.inr (Or.inr rfl)) (hd : (x == ("__debug__" : Str)) = false := by decide)
    (hcd : (x == ("__classdict__" : Str)) = false := by decide) : PDS X (.Return (some (.Name x p)) pos) (tRet (tVar i)) (dRetO i) := ⟨ps_ret (pe_var hN hv hd hcd), fun M G ρ σ H P D rl hp l => by
  obtain ⟨ds, e, hp⟩ := Sl.owP_of hp
  have e := sat_get e (fun z => nomatch z)
  obtain ⟨G', s, r, a, vs, e1, g1, h1, rfl⟩ := rl.freeze e
  obtain ⟨v, e2, q⟩ := r.sl i _ (List.getElem?_set_self (List.getElem?_eq_some_iff.mp e).1)
  exact ⟨v, e2, l.rt _ v _ H hp r.frm s q⟩⟩
theorem s_retN {pos : Pos} : PDS X (.Return none pos) tRetN dRetN := ⟨ps_retN, fun M G ρ σ H P D rl hp l => l.rt .non .non G H hp rl.frm (Same.refl G) .non⟩
theorem s_if {c : Expr} {a b : List Stmt} {tc : TT} {t u : TS} {dc : DT} {d e : DS} {pos : Pos} (hc : PDT X c tc dc) (ha : PDSs X a t d) (hb : PDSs X b u e) : PDS X (.If c a b pos) (tIfS tc t u) (dIfS dc d e) := ⟨ps_if hc.pe ha.pe hb.pe, fun M G ρ σ H P D rl hp l => by
  refine hc.se M G ρ σ H _ _ rl hp fun c G1 H1 p1 r1 s1 => ?_
  cases c with
  | true => exact iteT (ha.se M G1 ρ σ H1 P D r1 (by simpa using p1) (l.mono s1))
  | false => exact iteF (hb.se M G1 ρ σ H1 P D r1 (by simpa using p1) (l.mono s1))⟩
theorem s_expr {e : Expr} {te : TE} {d : DE} {pos : Pos} (h : PDE X e te d) (hs : swapsWith e none pos.line X.env = pure false := by rfl) : PDS X (.Expr e pos) (tDrop te) (dDrop d) := ⟨ps_expr h.pe hs, fun M G ρ σ H P D rl hp l =>
  h.se M G ρ σ H _ _ rl hp fun d v G' H' p r s q => l.nx ρ σ G' H' p r s⟩
def dNever : DS := fun _ _ => False
theorem s_never {st : Stmt} : PDS X st tNever dNever := ⟨ps_never, fun M G ρ σ H P D rl hp l => hp.elim⟩
/-- x = e -/
def dSet (i : Nat) (e : DX) : DS := fun P ρ => e ρ fun s => P.nx (ρ.set i s)
theorem s_set {i : Nat} {x : Str} {e : Expr} {te : TE} {d : DX} {pos pos' : Pos} (hN : X.N.Nodup) (h : PDX X e te d) (hi : X.N[i]? = some x := by rfl) (hx : Loc X.env.scope x := by first | exact Or.inl rfl | exact Or.inr rfl) (hs : swapsWith e (some (.Name x pos')) pos.line X.env = pure false := by rfl)
    (hf : X.fn x = true ∨ X.env.scope.names.lookup x = some .local := by first | exact .inl rfl | exact .inr rfl | assumption) : PDS X (.Assign [.Name x pos'] e pos) (tAsg te (gName i)) (dSet i d) := ⟨ps_set hN hi hx h.pe hs hf, fun M G ρ σ H P D rl hp l =>
  h.se M G ρ σ H _ _ rl hp fun s v G' H' p n s' => l.nx _ _ G' H' p (n.put i) s'⟩
/-- a, b = e, the right side no written tuple -/
def dAsg (e : DE) (g : DG) : DS := fun P ρ => e ρ fun d => g d ρ P.nx
theorem s_asg {tg e : Expr} {te : TE} {t : TG} {d : DE} {g : DG} {pos : Pos} (h : PDE X e te d) (hg : PDG X tg t g) (hs : swapsWithSole [tg] e pos.line X.env = pure false := by rfl) (hw : swappedStores [tg] e X.env = pure none := by rfl) (h1 : (assignEach [tg] X.env).map (·.2) = [assign tg X.env] := by rfl) : PDS X (.Assign [tg] e pos) (tAsg te t) (dAsg d g) :=
  ⟨ps_asg h.pe hg.pe hs hw h1, fun M G ρ σ H P D rl hp l => h.se M G ρ σ H _ _ rl hp fun d v G' H' p r s q => hg.se M G' ρ σ H' v d _ _ r q p fun ρ' σ' p' r' => l.nx ρ' σ' G' H' p' r' s⟩
/-- a, b = e1, e2 -/
def dPar (i j : Nat) (a b : DX) : DS := fun P ρ => a ρ fun s => b ρ fun t => P.nx ((ρ.set i s).set j t)
theorem s_par {i j : Nat} {x y : Str} {a b : Expr} {ta tb : TE} {da db : DX} {px py pt pos : Pos} {kt k2 pt2} (hc : X.calm = true) (hN : X.N.Nodup) (ha : PDX X a ta da) (hb : PDX X b tb db) (hi : X.N[i]? = some x := by rfl) (hj : X.N[j]? = some y := by rfl) (hij : i ≠ j := by decide)
    (hx : X.env.scope.names.lookup x = some .local := by rfl) (hy : X.env.scope.names.lookup y = some .local := by rfl) (hsa : starEach [a, b] X.env = (false, eval a X.env) :: starEach [b] X.env := by rfl) (hsb : starEach [b] X.env = (false, eval b X.env) :: starEach [] X.env := by rfl)
    (hw : swappedStores [.Tuple [.Name x px, .Name y py] kt pt] (.Tuple [a, b] k2 pt2) X.env = pure (some [x, y]) := by rfl)
    (hs : swapsWithSole [.Tuple [.Name x px, .Name y py] kt pt] (.Tuple [a, b] k2 pt2) pos.line X.env = pure false := by rfl) :
    PDS X (.Assign [.Tuple [.Name x px, .Name y py] kt pt] (.Tuple [a, b] k2 pt2) pos) (tPar i j (tCons ta (tCons tb tNil))) (dPar i j da db) :=
  ⟨ps_par hc hN hi hj hij hx hy (pa_cons ha.pe (pa_cons hb.pe pa_nil hsb) hsa) hw hs, fun M G ρ σ H P D rl hp l =>
    two_x ha.se hb.se M G ρ σ H _ (fun v w H2 => ∃ v' w', [v, w] = [v', w'] ∧ D.nx ((σ.set i (some v')).set j (some w')) H2) rl hp fun s t v w G' H' p s' r => ⟨v, w, rfl, l.nx _ _ G' H' p (r i j hij) s'⟩⟩
end
end PD

namespace PD
open PySem PySem.Spec PyProof.Rows L2

/-! ### what is walked -/
structure Yld (K : PySem.W.Frag) (G : Hp) (J : It) (ds : List D) : Prop where
  go : ∀ (i : Nat) (H : Hp), Same G H → i < ds.length → J.go i H
  stop : ∀ (i : Nat) (H : Hp), Same G H → ds.length ≤ i → J.stop i H
  yl : ∀ (i : Nat) (d : D) (H : Hp) (x : V) (H' : Hp), Same G H → ds[i]? = some d → J.yld i H x H' → (H' = H ∧ Rp K G x d) ∨ ∃ p vs es, H p = none ∧ H' = upd H p (.tup vs) ∧ x = .ref p ∧ d = .tup es ∧ RpL K G vs es
abbrev DI := Env → (List D → Prop) → Prop
def SI (K : PySem.W.Frag) (t : TI) (e : DI) : Prop := ∀ (M : Fm) (G : Hp) (ρ : Env) (σ : L2.St) (H : Hp) (P : List D → Prop) (R : It → Hp → Prop), Rel K M G ρ σ H → e ρ P →
  (∀ ds J G' H', P ds → Rel K M G' ρ σ H' → Same G G' → Yld K G' J ds → R J H') → t σ H R
structure PDI (X : Cx) (tg e : Expr) (t : TI) (d : DI) : Prop where
  pe : PI X tg e t
  se : SI X.K t d
section
variable {X : Cx} {K : PySem.W.Frag}
theorem yld_list {G : Hp} {a : Addr} {vs : List V} {ds : List D} (h : Rd G a (.lst vs)) (r : RpL K G vs ds) : Yld K G (Itl K a) ds where
  go := fun i H s hi => by
    obtain ⟨v, e, _⟩ := r.get (List.getElem?_eq_getElem hi)
    exact ⟨vs, v, .inl (same_rd s h), e⟩
  stop := fun i H s hi => ⟨vs, .inl (same_rd s h), by rw [r.len]; exact hi⟩
  yl := fun i d H x H' s e y => by
    obtain ⟨rfl, y⟩ := y
    obtain ⟨v, e1, q⟩ := r.get e
    have := (y vs (.inl (same_rd s h))).symm.trans e1
    cases this
    exact .inl ⟨rfl, q⟩
theorem yld_tup {G : Hp} {a : Addr} {vs : List V} {ds : List D} (h : SqT K G a vs) (r : RpL K G vs ds) : Yld K G (Itt K a) ds where
  go := fun i H s hi => by
    obtain ⟨v, e, _⟩ := r.get (List.getElem?_eq_getElem hi)
    exact ⟨vs, v, same_sqT s h, e⟩
  stop := fun i H s hi => ⟨vs, same_sqT s h, by rw [r.len]; exact hi⟩
  yl := fun i d H x H' s e y => by
    obtain ⟨rfl, y⟩ := y
    obtain ⟨v, e1, q⟩ := r.get e
    have := (y vs (same_sqT s h)).symm.trans e1
    cases this
    exact .inl ⟨rfl, q⟩
/-- a list or a tuple, whichever the value is -/
def iSeq (K : PySem.W.Frag) (tl : TE) : TI := fun σ H R => tl σ H fun x H1 => ∃ a, x = .ref a ∧ (((∃ xs, SqL K H1 a xs) ∧ R (Itl K a) H1) ∨ ((∃ xs, SqT K H1 a xs) ∧ R (Itt K a) H1))
theorem pi_seq {tg l : Expr} {tl : TE} (hl : PE X l tl) : PI X tg l (iSeq X.K tl) := ⟨fun pins s σ H R I h => by
  refine thn (hl.run pins s σ H _ I h) fun v s1 ⟨x, H1, I1, r1, a, e, q1⟩ => ?_
  subst e
  cases r1
  have new : ∀ b ∈ [s1.heap.objs.size], FpOk X pins H1 b := fun b hb => by
    rw [List.mem_singleton.mp hb]
    exact I1.fpOk (Nat.le_refl _) (I1.hok.fresh (Nat.le_refl _))
  rcases q1 with ⟨⟨xs, hq⟩, q⟩ | ⟨⟨xs, hq⟩, q⟩
  · obtain ⟨its, rv, p, hz⟩ := I1.list hq
    exact wpAny_pyIter_list p.isList ⟨_, _, _, _, H1, rfl, I1.kept (t' := s1.toks) fun b o e => Heap.get?_push_of_some _ e, turn_list a _, ⟨_, Heap.get?_push_size _ rfl, rfl, rfl⟩, new, q⟩
  · obtain ⟨its, rv, p, hz⟩ := I1.tuple hq
    exact wpAny_pyIter_tuple (show s1.heap.IsTuple a its.toArray from p) ⟨_, _, _, _, H1, rfl, I1.kept (t' := s1.toks) fun b o e => Heap.get?_push_of_some _ e, turn_tuple a _, ⟨_, Heap.get?_push_size _ rfl, rfl, rfl⟩, new, q⟩⟩
def dSeqI (e : DE) : DI := fun ρ P => e ρ fun x => x.seqP P
theorem i_seq {tg e : Expr} {te : TE} {d : DE} (h : PDE X e te d) : PDI X tg e (iSeq X.K te) (dSeqI d) := ⟨pi_seq h.pe, fun M G ρ σ H P R rl hp k => by
  refine h.se M G ρ σ H _ _ rl hp fun x vx G1 H1 p1 r1 s1 q1 => ?_
  obtain ⟨ds, e, p⟩ := D.seqP_of p1
  rcases e with rfl | rfl
  · obtain ⟨a, vs, rfl, h1, h2⟩ := q1.lstI
    exact ⟨a, rfl, .inl ⟨⟨vs, .inl (same_rd r1.frm.gs h1)⟩, k ds _ G1 H1 p r1 s1 (yld_list h1 h2)⟩⟩
  · obtain ⟨a, vs, rfl, h1, h2⟩ := q1.tupI
    exact ⟨a, rfl, .inr ⟨⟨vs, same_sqT r1.frm.gs h1⟩, k ds _ G1 H1 p r1 s1 (yld_tup h1 h2)⟩⟩⟩
/-- ranges -/
def rgI (lo hi : Int) : List D := (List.range (hi - lo).toNat).map fun i => D.int (lo + (i : Nat))
theorem rgI_get {lo hi : Int} {i : Nat} {d : D} (h : (rgI lo hi)[i]? = some d) : d = .int (lo + (i : Nat)) := by
  unfold rgI at h
  rw [List.getElem?_map, Option.map_eq_some_iff] at h
  obtain ⟨j, h, rfl⟩ := h
  rw [List.getElem?_eq_some_iff] at h
  obtain ⟨h1, h2⟩ := h
  rw [List.getElem_range] at h2
  rw [h2]
theorem rgI_len (lo hi : Int) : (rgI lo hi).length = (hi - lo).toNat := by unfold rgI; rw [List.length_map, List.length_range]
theorem yld_rg {G : Hp} (lo hi : Int) : Yld K G (Itr lo (hi - lo).toNat) (rgI lo hi) where
  go := fun i H s h => by rw [rgI_len] at h; exact h
  stop := fun i H s h => by rw [rgI_len] at h; exact h
  yl := fun i d H x H' s e y => by
    obtain ⟨rfl, rfl⟩ := y
    rw [rgI_get e]
    exact .inl ⟨rfl, .int _⟩
def dRg1 (a : DE) : DI := fun ρ P => a ρ fun x => x.intP fun j => (-(2 ^ 62) ≤ j ∧ j < 2 ^ 62) ∧ P (rgI 0 j)
def dRg2 (a b : DE) : DI := fun ρ P => a ρ fun x => b ρ fun y => x.intP fun i => y.intP fun j => (-(2 ^ 62) ≤ i ∧ i < 2 ^ 62 ∧ -(2 ^ 62) ≤ j ∧ j < 2 ^ 62) ∧ P (rgI i j)
theorem i_rg1 {tg a : Expr} {ta : TE} {da : DE} {p pos : Pos} (hg : Gl X "range") (hm : X.mg "range" = none) (ha : PDE X a ta da) (hs : starEach [a] X.env = [(false, eval a X.env)] := by rfl) : PDI X tg (.Call (.Name "range" p) [a] [] pos) (iRng1 (tCons ta tNil)) (dRg1 da) :=
  ⟨pi_range1 hg hm (pa_cons ha.pe pa_nil hs) hs, fun M G ρ σ H P R rl hp k => by
    refine ha.se M G ρ σ H _ _ rl hp fun x vx G1 H1 p1 r1 s1 q1 => ?_
    obtain ⟨j, rfl, ⟨h1, h2⟩, p⟩ := D.intP_of p1
    have e : j.toNat = (j - 0).toNat := by rw [Int.sub_zero]
    exact ⟨j, by rw [q1.intI], h1, h2, by rw [e]; exact k _ _ G1 H1 p r1 s1 (yld_rg 0 j)⟩⟩
theorem i_rg2 {tg a b : Expr} {ta tb : TE} {da db : DE} {p pos : Pos} (hg : Gl X "range") (hm : X.mg "range" = none) (ha : PDE X a ta da) (hb : PDE X b tb db) (hs : starEach [a, b] X.env = [(false, eval a X.env), (false, eval b X.env)] := by rfl) (hs2 : starEach [b] X.env = [(false, eval b X.env)] := by rfl) :
    PDI X tg (.Call (.Name "range" p) [a, b] [] pos) (iRng2 (tCons ta (tCons tb tNil))) (dRg2 da db) :=
  ⟨pi_range2 hg hm (pa_cons ha.pe (pa_cons hb.pe pa_nil hs2) (by rw [hs, hs2])) hs hs2, fun M G ρ σ H P R rl hp k => by
    refine ha.se M G ρ σ H _ _ rl hp fun x vx G1 H1 p1 r1 s1 q1 => ?_
    refine hb.se M G1 ρ σ H1 _ _ r1 p1 fun y vy G2 H2 p2 r2 s2 q2 => ?_
    obtain ⟨i, rfl, p3⟩ := D.intP_of p2
    obtain ⟨j, rfl, h, p⟩ := D.intP_of p3
    exact ⟨i, j, by rw [q1.intI, q2.intI], h, k _ _ G2 H2 p r2 (s1.trans s2) (yld_rg i j)⟩⟩
/-- enumerate of a list, of a tuple -/
def enI (xs : List D) : List D := (List.range xs.length).zipWith (fun i x => D.tup [.int (i : Nat), x]) xs
theorem enI_len (xs : List D) : (enI xs).length = xs.length := by unfold enI; simp
theorem enI_get {xs : List D} {i : Nat} {d : D} (h : (enI xs)[i]? = some d) : ∃ x, xs[i]? = some x ∧ d = .tup [.int (i : Nat), x] := by
  unfold enI at h
  rw [List.getElem?_zipWith] at h
  by_cases hi : i < xs.length
  · rw [List.getElem?_range hi, List.getElem?_eq_getElem hi] at h
    exact ⟨_, List.getElem?_eq_getElem hi, (Option.some.inj h).symm⟩
  · rw [List.getElem?_eq_none (by simpa using hi)] at h
    cases h
def IteT (K : PySem.W.Frag) (a : Addr) : It :=
  ⟨fun i H => ∃ (xs : List V) (x : V), SqT K H a xs ∧ xs[i]? = some x, fun i H v H' => ∃ T x, v = .ref T ∧ H T = none ∧ H' = upd H T (.tup [.int (i : Nat), x]) ∧ ∀ xs, SqT K H a xs → xs[i]? = some x, fun i H => ∃ xs : List V, SqT K H a xs ∧ xs.length ≤ i⟩
theorem turn_enumT {P : Program} {w : World} {elts : List Expr} {kk : Nat} {tpos : Pos} (a e it : Addr) :
    Turn P w K (.Tuple elts kk tpos) (IteT K a) [e, it] e (fun i h => (∃ old, IsEnum h e it ((i : Nat) : Int) old) ∧ h.IsTupleIter it a i ∧ e ≠ it) where
  mem := List.mem_cons_self
  obj := fun i h ⟨⟨old, he⟩, ⟨o, ho, hc, hd⟩, _⟩ b hb => by
    rcases List.mem_cons.mp hb with z | z
    · subst z; exact ⟨_, he, fun v q => nomatch q⟩
    · rw [List.mem_singleton.mp z]; exact ⟨o, ho, fun v q => by rw [hd] at q; cases q⟩
  keep := fun i h h' ⟨⟨old, he⟩, hi, hne⟩ k => ⟨⟨old, k e (by simp) _ he⟩, hi.at fun o q => k it (by simp) o q, hne⟩
  item := by
    intro X hP hw hK hc i pins s σ H E I hf ⟨⟨old, he⟩, hit, hne⟩ ⟨xs, x, hq, hx⟩
    subst hP hw hK
    obtain ⟨its, rv, p, hz⟩ := I.tuple hq
    obtain ⟨u, hu, ru⟩ := rv.get hx
    have pT : s.heap.IsTuple a its.toArray := p
    have hel : e < s.heap.objs.size := Heap.lt_size he
    have hil : it < s.heap.objs.size := let ⟨_, q, _⟩ := hit; Heap.lt_size q
    have hai : a ≠ it := fun z => by
      obtain ⟨o1, h1, c1, _⟩ := pT
      obtain ⟨o2, h2, c2, _⟩ := hit
      rw [z, h2] at h1; cases h1
      rw [c2] at c1; exact absurd (Value.type.inj c1) (by decide)
    have hae : e ≠ a := fun z => by
      obtain ⟨o1, h1, c1, _⟩ := pT
      rw [← z, show s.heap.get? e = some _ from he] at h1; cases h1
      exact absurd (Value.type.inj c1) (by decide)
    have hl := rv.length
    have hi : i < its.toArray.size := by
      have := (List.getElem?_eq_some_iff.mp hx).1
      simp only [List.size_toArray]; omega
    have hh := I.ok.hd hc
    refine wpAny_pyNext_enum_itemC (i := i) (Draws.tuple (prog := X.prog) (w := X.w) (A := X.A.in1) hh it a hai its.toArray) he ⟨hit, pT⟩ hi hne (by simp [hne, hae]) fun y h' tk hy ho st' hT hsz hk => ?_
    refine ⟨_, rfl, wpAny_letOwnedTupleGo_enum (s := { s with heap := h', toks := tk + 1 }) ho fun h'' he' sb => ?_⟩
    have ey : y = u := Option.some.inj (hy.symm.trans (by simpa using hu))
    subst ey
    have hT2 : h''.get? s.heap.objs.size = some { cls := .type "tuple", data := .seq #[.int i tk, y] } := (sb.2 _ (Nat.ne_of_gt hel)).trans hT
    have new : ObjOk X.prog X.w (upd H s.heap.objs.size (.tup [.int (i : Nat), x])) h'' s.heap.objs.size (.tup [.int (i : Nat), x]) :=
      ⟨by show 2 ≤ sizeLine; decide, [.int i tk, y], .cons ⟨_, rfl⟩ (.cons ru .nil), ⟨_, hT2, rfl, _, rfl⟩⟩
    have I1 := I.turnedNew (t' := tk + 1) (ch := [e, it]) (fun b ob hb q => (sb.2 b (fun z => hb (by simp [z]))).trans (hk b ob (fun z => hb (by simp [z])) (fun z => hb (by simp [z])) q)) hf (Nat.le_refl _) new
    refine ⟨.ref s.heap.objs.size, _, I1, rfl, ⟨_, x, rfl, I.hok.fresh (Nat.le_refl _), rfl, fun ys hy' => by rw [I.tuple_inj hy' hq]; exact hx⟩, ⟨⟨y, ?_⟩, st'.1.at fun o q => (sb.2 it (Ne.symm hne)).trans q, hne⟩, fun b hb => ?_⟩
    · rw [show ((i + 1 : Nat) : Int) = (i : Int) + 1 by omega]; exact he'
    · have hb' : b < s.heap.objs.size := by
        rcases List.mem_cons.mp hb with z | z
        · rw [z]; exact hel
        · rw [List.mem_singleton.mp z]; exact hil
      rw [upd_ne (Nat.ne_of_lt hb')]
      exact (hf b hb).1
  done := by
    intro X hP hw hK hc i pins s σ H E I hf ⟨⟨old, he⟩, hit, hne⟩ ⟨xs, hq, hx⟩
    subst hP hw hK
    obtain ⟨its, rv, p, hz⟩ := I.tuple hq
    have pT : s.heap.IsTuple a its.toArray := p
    obtain ⟨f0, f1, f2, f3, f4, f5⟩ := hf it (by simp)
    have hh := I.ok.hd hc
    have hai : a ≠ it := fun z => by
      obtain ⟨o1, h1, c1, _⟩ := pT
      obtain ⟨o2, h2, c2, _⟩ := hit
      rw [z, h2] at h1; cases h1
      rw [c2] at c1; exact absurd (Value.type.inj c1) (by decide)
    have hl := rv.length
    have none : its.toArray[i]? = none := Array.getElem?_eq_none (by simp only [List.size_toArray]; omega)
    have D : Draws X.prog X.w X.A.in1 it [it, a] 0 (fun _ _ => False) (fun _ h => h.IsTupleIter it a i ∧ h.IsTuple a its.toArray) := {
      live := fun _ _ st => let ⟨o, ho, _⟩ := st.1; ⟨o, ho⟩
      frame := fun _ _ _ st hk => ⟨st.1.at fun o e => hk it (by simp) o e, st.2.at fun o e => hk a (by simp) o e⟩
      item := fun j _ _ _ hj => absurd hj (Nat.not_lt_zero j)
      done := fun s Q E st hQ => wpAny_nextOf_tuple_end hh st.1 st.2 none fun h' e2 hx ho => hQ h' e2 hx ho }
    exact wpAny_pyNext_enum_endD D he ⟨hit, pT⟩ fun h' eb => ⟨rfl, I.turned (t' := s.toks) (fun b o hb q => eb b o hb q) f0 f1 f3 f4 f5⟩
  self := fun A i s Q E ⟨⟨_, he⟩, _⟩ h => wpAny_pyIter_enum he h
end
end PD

namespace PD
open PySem PySem.Spec PyProof.Rows L2
open Sem (wp)

/-- enumerate(v) makes two new cells, whatever v's iterator is -/
theorem meets_enum1 {v : Value} {o : Obj} {Hc : Heap → Prop} (B : Begins v o Hc) :
    Meets (Builtin.«enumerate.__new__» ⟨[.type "enumerate", v], []⟩) (fun _ R s => Hc s.heap ∧
      R (.ok (.ret (.ref (s.heap.push o).objs.size))) { s with heap := (s.heap.push o).push { cls := .type "enumerate", data := .fields #[.none, .bool false, .ref s.heap.objs.size, rawInt 0, .none, .none] } }) :=
  .of_wp fun prog w A R s h => by
    obtain ⟨hp, g, d, tk, os⟩ := s
    obtain ⟨h1, h⟩ := h
    have hsub := sub_enumerate
    have it0 : ∀ {A' : Around} {E : Value → Shared → Prop} {Q : Value → Shared → Prop}, Q (.ref hp.objs.size) ⟨hp.push o, g, d, tk, os⟩ → wpAny (model prog w) A' (pyIter v) Q E ⟨hp, g, d, tk, os⟩ := fun q => B.iter prog w _ _ ⟨hp, g, d, tk, os⟩ _ h1 q
    wp_walk using it0
    refine wpAny_stack_any fun st => wpAny_pure ?_
    split
    · rename_i c _ _ _ _ _
      cases (c == Value.type "enumerate")
      all_goals (wp_walk using it0; exact ⟨_, rfl, h⟩)
    · wp_walk using it0
      exact ⟨_, rfl, h⟩
section
variable {prog : Program} {w : World} {A : Around} {E : Value → Shared → Prop} {s : Shared}
theorem call_enum1 {v : Value} {o : Obj} {Hc : Heap → Prop} {Q : Value → Shared → Prop} (B : Begins v o Hc) (h1 : Hc s.heap)
    (h : ∀ h', IsEnum h' (s.heap.objs.size + 1) s.heap.objs.size 0 .none → h'.get? s.heap.objs.size = some o → (∀ b o', s.heap.get? b = some o' → h'.get? b = some o') → Q (.ref (s.heap.objs.size + 1)) { s with heap := h' }) :
    wpAny (model prog w) A (call (.type "enumerate") [v]) Q E s := by
  refine callType_new F.called_enumerate (by decide) (F.typeCall_enumerate_1 _) (F.newCall_enumerate_1 _) (fun obj => F.args_object_init_2 obj _) F.entry_enumerate_new (meets_enum1 B) ⟨h1, ?_⟩
  have hz : (s.heap.push o).objs.size = s.heap.objs.size + 1 := Heap.size_push ..
  show _ ∧ _
  rw [hz]
  have he : IsEnum ((s.heap.push o).push { cls := .type "enumerate", data := .fields #[.none, .bool false, .ref s.heap.objs.size, rawInt 0, .none, .none] }) (s.heap.objs.size + 1) s.heap.objs.size 0 .none := by
    have e := Heap.get?_push_size (s.heap.push o) (o := { cls := .type "enumerate", data := .fields #[.none, .bool false, .ref s.heap.objs.size, rawInt 0, .none, .none] }) rfl
    rw [hz] at e
    exact e
  exact ⟨⟨_, he, rfl⟩, h _ he (Heap.get?_push_of_some _ (Heap.get?_push_size _ B.free)) fun b o' x => Heap.get?_push_of_some _ (Heap.get?_push_of_some _ x)⟩
end
section
variable {X : Cx} {K : PySem.W.Frag}
def iEnA (K : PySem.W.Frag) (ta : TA) : TI := fun σ H R => ta σ H fun vs H1 => ∃ a, vs = [.ref a] ∧ (((∃ xs, SqL K H1 a xs) ∧ R (Ite K a) H1) ∨ ((∃ xs, SqT K H1 a xs) ∧ R (IteT K a) H1))
theorem pi_enA {e : Expr} {ta : TA} {p pos tpos : Pos} {elts : List Expr} {kk : Nat} (hg : Gl X "enumerate") (hm : X.mg "enumerate" = none) (ha : PA X [e] ta) (hs : starEach [e] X.env = [(false, eval e X.env)] := by rfl) :
    PI X (.Tuple elts kk tpos) (.Call (.Name "enumerate" p) [e] [] pos) (iEnA X.K ta) := ⟨fun pins s σ H R I h => by
  refine Call_ (ld_blt I hg hm boot_enumerate (PyProof.Rows.callWith_type1 (thn (ha.run pos pins s σ H _ I h) fun us s1 ⟨vs, H1, I1, r1, a, ex, q⟩ => ?_) hs rfl))
  subst ex
  obtain ⟨u, rfl, ru⟩ := vals1 r1
  cases ru
  have new : ∀ b ∈ [s1.heap.objs.size + 1, s1.heap.objs.size], FpOk X pins H1 b := fun b hb => by
    have hle : s1.heap.objs.size ≤ b := by
      rcases List.mem_cons.mp hb with z | z
      · rw [z]; exact Nat.le_add_right _ _
      · rw [List.mem_singleton.mp z]; exact Nat.le_refl _
    exact I1.fpOk hle (I1.hok.fresh hle)
  rcases q with ⟨⟨xs, hq⟩, q⟩ | ⟨⟨xs, hq⟩, q⟩
  · obtain ⟨its, rv, p', hz⟩ := I1.list hq
    refine call_enum1 (begins_list a its.toArray) p'.isList fun h' he ho hk => wpAny_pyIter_enum he ?_
    exact ⟨_, _, _, _, H1, rfl, I1.kept (t' := s1.toks) hk, turn_enum a (s1.heap.objs.size + 1) s1.heap.objs.size, ⟨⟨.none, he⟩, ⟨_, ho, rfl, rfl⟩, Nat.succ_ne_self _⟩, new, q⟩
  · obtain ⟨its, rv, p', hz⟩ := I1.tuple hq
    refine call_enum1 (begins_tuple a its.toArray) (show s1.heap.IsTuple a its.toArray from p') fun h' he ho hk => wpAny_pyIter_enum he ?_
    exact ⟨_, _, _, _, H1, rfl, I1.kept (t' := s1.toks) hk, turn_enumT a (s1.heap.objs.size + 1) s1.heap.objs.size, ⟨⟨.none, he⟩, ⟨_, ho, rfl, rfl⟩, Nat.succ_ne_self _⟩, new, q⟩⟩
theorem yld_en {G : Hp} {a : Addr} {vs : List V} {ds : List D} (h : Rd G a (.lst vs)) (r : RpL K G vs ds) : Yld K G (Ite K a) (enI ds) where
  go := fun i H s hi => by
    rw [enI_len] at hi
    obtain ⟨v, e, _⟩ := r.get (List.getElem?_eq_getElem hi)
    exact ⟨vs, v, .inl (same_rd s h), e⟩
  stop := fun i H s hi => by
    rw [enI_len] at hi
    exact ⟨vs, .inl (same_rd s h), by rw [r.len]; exact hi⟩
  yl := fun i d H x H' s e y => by
    obtain ⟨T, z, rfl, hT, rfl, y⟩ := y
    obtain ⟨w, e1, rfl⟩ := enI_get e
    obtain ⟨v, e2, q⟩ := r.get e1
    have := (y vs (.inl (same_rd s h))).symm.trans e2
    cases this
    exact .inr ⟨T, _, _, hT, rfl, rfl, rfl, .cons (.int _) (.cons q .nil)⟩
theorem yld_enT {G : Hp} {a : Addr} {vs : List V} {ds : List D} (h : SqT K G a vs) (r : RpL K G vs ds) : Yld K G (IteT K a) (enI ds) where
  go := fun i H s hi => by
    rw [enI_len] at hi
    obtain ⟨v, e, _⟩ := r.get (List.getElem?_eq_getElem hi)
    exact ⟨vs, v, same_sqT s h, e⟩
  stop := fun i H s hi => by
    rw [enI_len] at hi
    exact ⟨vs, same_sqT s h, by rw [r.len]; exact hi⟩
  yl := fun i d H x H' s e y => by
    obtain ⟨T, z, rfl, hT, rfl, y⟩ := y
    obtain ⟨w, e1, rfl⟩ := enI_get e
    obtain ⟨v, e2, q⟩ := r.get e1
    have := (y vs (same_sqT s h)).symm.trans e2
    cases this
    exact .inr ⟨T, _, _, hT, rfl, rfl, rfl, .cons (.int _) (.cons q .nil)⟩
def dEnI (e : DE) : DI := fun ρ P => e ρ fun x => x.seqP fun xs => P (enI xs)
theorem i_en {e : Expr} {te : TE} {d : DE} {p pos tpos : Pos} {elts : List Expr} {kk : Nat} (hg : Gl X "enumerate") (hm : X.mg "enumerate" = none) (h : PDE X e te d) (hs : starEach [e] X.env = [(false, eval e X.env)] := by rfl) :
    PDI X (.Tuple elts kk tpos) (.Call (.Name "enumerate" p) [e] [] pos) (iEnA X.K (tCons te tNil)) (dEnI d) := ⟨pi_enA hg hm (pa_cons h.pe pa_nil hs) hs, fun M G ρ σ H P R rl hp k => by
  refine h.se M G ρ σ H _ _ rl hp fun x vx G1 H1 p1 r1 s1 q1 => ?_
  obtain ⟨ds, e, p⟩ := D.seqP_of p1
  rcases e with rfl | rfl
  · obtain ⟨a, vs, rfl, h1, h2⟩ := q1.lstI
    exact ⟨a, rfl, .inl ⟨⟨vs, .inl (same_rd r1.frm.gs h1)⟩, k _ _ G1 H1 p r1 s1 (yld_en h1 h2)⟩⟩
  · obtain ⟨a, vs, rfl, h1, h2⟩ := q1.tupI
    exact ⟨a, rfl, .inr ⟨⟨vs, same_sqT r1.frm.gs h1⟩, k _ _ G1 H1 p r1 s1 (yld_enT h1 h2)⟩⟩⟩
/-- zip of two lists, of two tuples -/
def zpI (xs ys : List D) : List D := xs.zipWith (fun x y => D.tup [x, y]) ys
theorem zpI_len (xs ys : List D) : (zpI xs ys).length = min xs.length ys.length := by unfold zpI; simp
theorem zpI_get {xs ys : List D} {i : Nat} {d : D} (h : (zpI xs ys)[i]? = some d) : ∃ x y, xs[i]? = some x ∧ ys[i]? = some y ∧ d = .tup [x, y] := by
  unfold zpI at h
  rw [List.getElem?_zipWith] at h
  cases e1 : xs[i]? with
  | none => rw [e1] at h; cases h
  | some x =>
    cases e2 : ys[i]? with
    | none => rw [e1, e2] at h; cases h
    | some y => rw [e1, e2] at h; exact ⟨x, y, rfl, rfl, (Option.some.inj h).symm⟩
theorem yld_zp {G : Hp} {a b : Addr} {vs ws : List V} {ds es : List D} (h : Rd G a (.lst vs)) (r : RpL K G vs ds) (h' : Rd G b (.lst ws)) (r' : RpL K G ws es) : Yld K G (Itz K a b) (zpI ds es) where
  go := fun i H s hi => by
    rw [zpI_len] at hi
    obtain ⟨v, e, _⟩ := r.get (List.getElem?_eq_getElem (show i < ds.length by omega))
    obtain ⟨w, e', _⟩ := r'.get (List.getElem?_eq_getElem (show i < es.length by omega))
    exact ⟨vs, ws, v, w, .inl (same_rd s h), .inl (same_rd s h'), e, e'⟩
  stop := fun i H s hi => by
    rw [zpI_len] at hi
    exact ⟨vs, ws, .inl (same_rd s h), .inl (same_rd s h'), by rw [r.len, r'.len]; omega⟩
  yl := fun i d H x H' s e y => by
    obtain ⟨T, z, z', rfl, hT, rfl, y, y'⟩ := y
    obtain ⟨u, u', e1, e1', rfl⟩ := zpI_get e
    obtain ⟨v, e2, q⟩ := r.get e1
    obtain ⟨v', e2', q'⟩ := r'.get e1'
    have := (y vs (.inl (same_rd s h))).symm.trans e2
    cases this
    have := (y' ws (.inl (same_rd s h'))).symm.trans e2'
    cases this
    exact .inr ⟨T, _, _, hT, rfl, rfl, rfl, .cons q (.cons q' .nil)⟩
theorem yld_zpT {G : Hp} {a b : Addr} {vs ws : List V} {ds es : List D} (h : SqT K G a vs) (r : RpL K G vs ds) (h' : SqT K G b ws) (r' : RpL K G ws es) : Yld K G (RZ.ItzT K a b) (zpI ds es) where
  go := fun i H s hi => by
    rw [zpI_len] at hi
    obtain ⟨v, e, _⟩ := r.get (List.getElem?_eq_getElem (show i < ds.length by omega))
    obtain ⟨w, e', _⟩ := r'.get (List.getElem?_eq_getElem (show i < es.length by omega))
    exact ⟨vs, ws, v, w, same_sqT s h, same_sqT s h', e, e'⟩
  stop := fun i H s hi => by
    rw [zpI_len] at hi
    exact ⟨vs, ws, same_sqT s h, same_sqT s h', by rw [r.len, r'.len]; omega⟩
  yl := fun i d H x H' s e y => by
    obtain ⟨T, z, z', rfl, hT, rfl, y, y'⟩ := y
    obtain ⟨u, u', e1, e1', rfl⟩ := zpI_get e
    obtain ⟨v, e2, q⟩ := r.get e1
    obtain ⟨v', e2', q'⟩ := r'.get e1'
    have := (y vs (same_sqT s h)).symm.trans e2
    cases this
    have := (y' ws (same_sqT s h')).symm.trans e2'
    cases this
    exact .inr ⟨T, _, _, hT, rfl, rfl, rfl, .cons q (.cons q' .nil)⟩
def dZpI (a b : DE) : DI := fun ρ P => a ρ fun x => b ρ fun y => match x, y with
  | .lst xs, .lst ys => P (zpI xs ys)
  | .tup xs, .tup ys => P (zpI xs ys)
  | _, _ => False
theorem i_zip {a b : Expr} {ta tb : TE} {da db : DE} {p pos tpos : Pos} {elts : List Expr} {kk : Nat} (hg : Gl X "zip") (hm : X.mg "zip" = none) (ha : PDE X a ta da) (hb : PDE X b tb db)
    (hs : starEach [a, b] X.env = (false, eval a X.env) :: starEach [b] X.env := by rfl) (hs2 : starEach [b] X.env = (false, eval b X.env) :: starEach [] X.env := by rfl) (hpl : (backTo pos (starEach [b] X.env)).any (·.1) = false := by rfl) :
    PDI X (.Tuple elts kk tpos) (.Call (.Name "zip" p) [a, b] [] pos) (RZ.iZipA X.K (tCons ta (tCons tb tNil))) (dZpI da db) := ⟨RZ.pi_zipA hg hm (pa_cons ha.pe (pa_cons hb.pe pa_nil hs2) hs) hs hpl, fun M G ρ σ H P R rl hp k => by
  refine ha.se M G ρ σ H _ _ rl hp fun x vx G1 H1 p1 r1 s1 q1 => ?_
  refine hb.se M G1 ρ σ H1 _ _ r1 p1 fun y vy G2 H2 p2 r2 s2 q2 => ?_
  split at p2
  · obtain ⟨a, vs, rfl, h1, h2⟩ := (q1.mono s2).lstI
    obtain ⟨b, ws, rfl, h3, h4⟩ := q2.lstI
    exact ⟨a, b, vs, ws, rfl, .inl ⟨.inl (same_rd r2.frm.gs h1), .inl (same_rd r2.frm.gs h3), k _ _ G2 H2 p2 r2 (s1.trans s2) (yld_zp h1 h2 h3 h4)⟩⟩
  · obtain ⟨a, vs, rfl, h1, h2⟩ := (q1.mono s2).tupI
    obtain ⟨b, ws, rfl, h3, h4⟩ := q2.tupI
    exact ⟨a, b, vs, ws, rfl, .inr ⟨same_sqT r2.frm.gs h1, same_sqT r2.frm.gs h3, k _ _ G2 H2 p2 r2 (s1.trans s2) (yld_zpT h1 h2 h3 h4)⟩⟩
  · exact p2.elim⟩
/-- a turn's item comes -/
theorem Yld.come {G1 : Hp} {J : It} {ds : List D} (y : Yld K G1 J ds) {M : Fm} {G H H' : Hp} {ρ : Env} {σ : L2.St} {i : Nat} {d : D} {x : V} (r : Rel K M G ρ σ H) (s : Same G1 G) (e : ds[i]? = some d) (h : J.yld i H x H') :
    ∃ G', Same G G' ∧ Rel K M G' ρ σ H' ∧ Rp K G' x d ∧ ∀ b, H b ≠ none → G b = none → G' b = none := by
  rcases y.yl i d H x H' (s.trans r.frm.gs) e h with ⟨rfl, q⟩ | ⟨p, vs, es, hp, rfl, rfl, rfl, q⟩
  · exact ⟨G, Same.refl G, r, q.mono s, fun _ _ h => h⟩
  · refine ⟨upd G p (.tup vs), same_upd (r.frm.gs.free hp), r.new hp, .tup (.inl (.inl upd_same)) ((q.mono s).mono (same_upd (r.frm.gs.free hp))), fun b h1 h2 => ?_⟩
    have : b ≠ p := fun z => h1 (by rw [z]; exact hp)
    rw [upd_ne this]; exact h2

/-! ### for -/
def forP (g : DG) (body : DS) (P : DEnds) : List D → Env → Prop
  | [], ρ => P.nx ρ
  | d :: ds, ρ => g d ρ fun ρ' => body { P with nx := forP g body P ds, ct := forP g body P ds, bk := P.nx } ρ'
def dFor (i : DI) (g : DG) (body : DS) : DS := fun P ρ => i ρ fun ds => forP g body P ds ρ
theorem s_for {tg iter : Expr} {body : List Stmt} {wi : TI} {t : TG} {tb : TS} {di : DI} {g : DG} {db : DS} {pos : Pos} (hp : PassesOwn (model X.prog X.w) X.A X.env X.xe) (hc : X.calm = true) (hi : PDI X tg iter wi di) (hg : PDG X tg t g) (hb : PDSs X body tb db)
    (hs : ∀ x, foldedSetIterable iter X.env x = pure x := by intro _; rfl) : PDS X (.For tg iter body [] pos) (tFor wi t tb) (dFor di g db) := ⟨ps_for hp hc hi.pe hg.pe hb.pe hs, fun M G ρ σ H P D rl hp l => by
  refine hi.se M G ρ σ H _ _ rl hp fun ds J G1 H1 p1 r1 s1 y => ?_
  refine ⟨fun i m σ' H' => ∃ ρ' G', m = ds.length - i ∧ i ≤ ds.length ∧ Rel X.K M G' ρ' σ' H' ∧ Same G1 G' ∧ forP g db P (ds.drop i) ρ', ⟨ds.length, ρ, G1, by simp, Nat.zero_le _, r1, Same.refl _, p1⟩, ?_⟩
  rintro i m σ' H' ⟨ρ', G', rfl, hle, r2, s2, p2⟩
  by_cases hlt : i < ds.length
  · refine .inr ⟨y.go i H' (s2.trans r2.frm.gs) hlt, fun σ'' H'' => ∃ ρ'' G'', Rel X.K M G'' ρ'' σ'' H'' ∧ Same G1 G'' ∧ forP g db P (ds.drop (i + 1)) ρ'', fun σ'' H'' ⟨ρ'', G'', r3, s3, p3⟩ => ⟨ds.length - (i + 1), by omega, ρ'', G'', rfl, hlt, r3, s3, p3⟩, fun x H2 hy => ?_⟩
    rw [List.drop_eq_getElem_cons hlt] at p2
    obtain ⟨G2, s3, r3, q3, _⟩ := y.come r2 s2 (List.getElem?_eq_getElem hlt) hy
    refine hg.se M G2 ρ' σ' H2 x _ _ _ r3 q3 p2 fun ρ3 σ3 p3 r4 => ?_
    refine hb.se M G2 ρ3 σ3 H2 _ _ r4 p3 { nx := ?_, bk := ?_, ct := ?_, rt := ?_, rf := ?_ }
    · exact fun ρ4 σ4 G4 H4 p4 r5 s5 => ⟨ρ4, G4, r5, s2.trans (s3.trans s5), p4⟩
    · exact fun ρ4 σ4 G4 H4 p4 r5 s5 => l.nx ρ4 σ4 G4 H4 p4 r5 (s1.trans (s2.trans (s3.trans s5)))
    · exact fun ρ4 σ4 G4 H4 p4 r5 s5 => ⟨ρ4, G4, r5, s2.trans (s3.trans s5), p4⟩
    · exact fun d v G4 H4 p4 f s5 q => l.rt d v G4 H4 p4 f (s1.trans (s2.trans (s3.trans s5))) q
    · exact fun d v p G4 H4 p4 f s5 q => l.rf d v p G4 H4 p4 f (s1.trans (s2.trans (s3.trans s5))) q
  · have e : i = ds.length := by omega
    subst e
    rw [List.drop_length] at p2
    exact .inl ⟨y.stop _ H' (s2.trans r2.frm.gs) (Nat.le_refl _), l.nx ρ' σ' G' H' p2 r2 (s1.trans s2)⟩⟩
/-! ### while -/
def dWhile (c : DT) (body : DS) : DS := fun P ρ => ∃ W : Nat → Env → Prop, (∃ m, W m ρ) ∧ ∀ m ρ, W m ρ → c ρ fun b => if b = true then body { P with nx := fun ρ' => ∃ m', m' < m ∧ W m' ρ', ct := fun ρ' => ∃ m', m' < m ∧ W m' ρ', bk := P.nx } ρ else P.nx ρ
theorem s_while {c : Expr} {body : List Stmt} {tc : TT} {tb : TS} {dc : DT} {db : DS} {pos : Pos} (hp : PassesOwn (model X.prog X.w) X.A X.env X.xe) (hc : PDT X c tc dc) (hb : PDSs X body tb db) : PDS X (.While c body [] pos) (tWhile tc tb) (dWhile dc db) := ⟨ps_while hp hc.pe hb.pe, fun M G ρ σ H P D rl hp l => by
  obtain ⟨W, ⟨m0, w0⟩, turn⟩ := hp
  refine ⟨fun m σ' H' => ∃ ρ' G', W m ρ' ∧ Rel X.K M G' ρ' σ' H' ∧ Same G G', ⟨m0, ρ, G, w0, rl, Same.refl G⟩, ?_⟩
  rintro m σ' H' ⟨ρ', G', w', r2, s2⟩
  refine hc.se M G' ρ' σ' H' _ _ r2 (turn m ρ' w') fun b G3 H3 p3 r3 s3 => ?_
  cases b with
  | false => exact iteF (l.nx ρ' σ' G3 H3 (by simpa using p3) r3 (s2.trans s3))
  | true =>
    refine iteT ⟨fun σ'' H'' => ∃ m' ρ'' G'', m' < m ∧ W m' ρ'' ∧ Rel X.K M G'' ρ'' σ'' H'' ∧ Same G G'', fun σ'' H'' ⟨m', ρ'', G'', h1, h2, h3, h4⟩ => ⟨m', h1, ρ'', G'', h2, h3, h4⟩, ?_⟩
    refine hb.se M G3 ρ' σ' H3 _ _ r3 (by simpa using p3) { nx := ?_, bk := ?_, ct := ?_, rt := ?_, rf := ?_ }
    · exact fun ρ4 σ4 G4 H4 ⟨m', h1, h2⟩ r5 s5 => ⟨m', ρ4, G4, h1, h2, r5, s2.trans (s3.trans s5)⟩
    · exact fun ρ4 σ4 G4 H4 p4 r5 s5 => l.nx ρ4 σ4 G4 H4 p4 r5 (s2.trans (s3.trans s5))
    · exact fun ρ4 σ4 G4 H4 ⟨m', h1, h2⟩ r5 s5 => ⟨m', ρ4, G4, h1, h2, r5, s2.trans (s3.trans s5)⟩
    · exact fun d v G4 H4 p4 f s5 q => l.rt d v G4 H4 p4 f (s2.trans (s3.trans s5)) q
    · exact fun d v p G4 H4 p4 f s5 q => l.rf d v p G4 H4 p4 f (s2.trans (s3.trans s5)) q⟩
end
end PD

namespace PD
open PySem PySem.Spec PyProof.Rows L2

/-! ### comprehensions -/
def wipeE (ρ : Env) : List Nat → Env
  | [] => ρ
  | v :: vs => (wipeE ρ vs).set v .no
theorem wipeE_out {ρ : Env} {i : Nat} : ∀ {vs : List Nat}, i ∉ vs → (wipeE ρ vs)[i]? = ρ[i]?
  | [], _ => rfl
  | v :: vs, h => by
    rw [List.mem_cons, not_or] at h
    unfold wipeE
    rw [List.getElem?_set_ne (Ne.symm h.1), wipeE_out h.2]
theorem wipeE_len (ρ : Env) : ∀ vs : List Nat, (wipeE ρ vs).length = ρ.length
  | [] => rfl
  | v :: vs => by unfold wipeE; rw [List.length_set, wipeE_len ρ vs]
theorem set_set_comm {α : Type} (l : List α) (i j : Nat) (a b : α) (h : i = j → a = b) : (l.set i a).set j b = (l.set j b).set i a := by
  by_cases e : i = j
  · subst e; rw [h rfl]
  · exact List.set_comm _ _ e
theorem wipeE_set {ρ : Env} {i : Nat} {s : Sl} : ∀ {vs : List Nat}, i ∈ vs → wipeE (ρ.set i s) vs = wipeE ρ vs
  | v :: vs, h => by
    by_cases hi : i ∈ vs
    · unfold wipeE; rw [wipeE_set hi]
    · have e : i = v := (List.mem_cons.mp h).resolve_right hi
      subst e
      have out : ∀ (ws : List Nat), i ∉ ws → wipeE (ρ.set i s) ws = (wipeE ρ ws).set i s := fun ws => by
        induction ws with
        | nil => intro _; rfl
        | cons w ws ih =>
          intro hw
          rw [List.mem_cons, not_or] at hw
          show (wipeE (ρ.set i s) ws).set w .no = ((wipeE ρ ws).set w .no).set i s
          rw [ih hw.2, List.set_comm _ _ hw.1]
      show (wipeE (ρ.set i s) vs).set i .no = (wipeE ρ vs).set i .no
      rw [out vs hi, List.set_set]
theorem wipe_set {σ : L2.St} {i : Nat} {s : Option V} : ∀ {vs : List Nat}, i ∈ vs → wipe (σ.set i s) vs = wipe σ vs
  | v :: vs, h => by
    by_cases hi : i ∈ vs
    · unfold wipe; rw [wipe_set hi]
    · have e : i = v := (List.mem_cons.mp h).resolve_right hi
      subst e
      have out : ∀ (ws : List Nat), i ∉ ws → wipe (σ.set i s) ws = (wipe σ ws).set i s := fun ws => by
        induction ws with
        | nil => intro _; rfl
        | cons w ws ih =>
          intro hw
          rw [List.mem_cons, not_or] at hw
          show (wipe (σ.set i s) ws).set w none = ((wipe σ ws).set w none).set i s
          rw [ih hw.2, List.set_comm _ _ hw.1]
      show (wipe (σ.set i s) vs).set i none = (wipe σ vs).set i none
      rw [out vs hi, List.set_set]
theorem wipeE_idem (ρ : Env) (vs : List Nat) : wipeE (wipeE ρ vs) vs = wipeE ρ vs := by
  have go : ∀ ws : List Nat, (∀ w ∈ ws, w ∈ vs) → wipeE (wipeE ρ ws) vs = wipeE ρ vs := fun ws => by
    induction ws with
    | nil => intro _; rfl
    | cons w ws ih =>
      intro h
      show wipeE ((wipeE ρ ws).set w .no) vs = wipeE ρ vs
      rw [wipeE_set (h w List.mem_cons_self)]
      exact ih fun x hx => h x (List.mem_cons_of_mem _ hx)
  exact go vs fun _ h => h
theorem wipe_idem (σ : L2.St) (vs : List Nat) : wipe (wipe σ vs) vs = wipe σ vs := by
  have go : ∀ ws : List Nat, (∀ w ∈ ws, w ∈ vs) → wipe (wipe σ ws) vs = wipe σ vs := fun ws => by
    induction ws with
    | nil => intro _; rfl
    | cons w ws ih =>
      intro h
      show wipe ((wipe σ ws).set w none) vs = wipe σ vs
      rw [wipe_set (h w List.mem_cons_self)]
      exact ih fun x hx => h x (List.mem_cons_of_mem _ hx)
  exact go vs fun _ h => h
/-- a target sets these slots alone -/
def GW (t : TG) (vs : List Nat) : Prop := ∀ v σ H (Q Q' : L2.St → Hp → Prop), t v σ H Q → (∀ σ' H', wipe σ' vs = wipe σ vs → Q σ' H' → Q' σ' H') → t v σ H Q'
def GWs (t : TGs) (vs : List Nat) : Prop := ∀ v σ H (Q Q' : L2.St → Hp → Prop), t v σ H Q → (∀ σ' H', wipe σ' vs = wipe σ vs → Q σ' H' → Q' σ' H') → t v σ H Q'
def GWd (g : DG) (vs : List Nat) : Prop := ∀ d ρ (P P' : Env → Prop), g d ρ P → (∀ ρ', wipeE ρ' vs = wipeE ρ vs → P ρ' → P' ρ') → g d ρ P'
def GWds (g : DGs) (vs : List Nat) : Prop := ∀ d ρ (P P' : Env → Prop), g d ρ P → (∀ ρ', wipeE ρ' vs = wipeE ρ vs → P ρ' → P' ρ') → g d ρ P'
theorem gw_name {i : Nat} {vs : List Nat} (h : i ∈ vs) : GW (gName i) vs := fun v σ H Q Q' q k => k _ _ (wipe_set h) q
theorem gw_nil {vs : List Nat} : GWs gNil vs := fun v σ H Q Q' q k => ⟨q.1, k _ _ rfl q.2⟩
theorem gw_cons {t : TG} {u : TGs} {vs : List Nat} (h : GW t vs) (h' : GWs u vs) : GWs (gCons t u) vs := fun v σ H Q Q' ⟨x, r, e, q⟩ k =>
  ⟨x, r, e, h x σ H _ _ q fun σ' H' w q' => h' r σ' H' _ _ q' fun σ'' H'' w' q'' => k _ _ (w'.trans w) q''⟩
theorem gw_tup {K : PySem.W.Frag} {n : Nat} {u : TGs} {vs : List Nat} (h : GWs u vs) : GW (gTup K n u) vs := fun v σ H Q Q' ⟨a, xs, e1, e2, e3, q⟩ k => ⟨a, xs, e1, e2, e3, h xs σ H _ _ q k⟩
theorem gwd_name {i : Nat} {vs : List Nat} (h : i ∈ vs) : GWd (dName i) vs := fun v σ Q Q' q k => k _ (wipeE_set h) q
theorem gwd_nil {vs : List Nat} : GWds dGNil vs := fun d ρ P P' p k => by
  unfold dGNil at p ⊢; split at p
  · exact k _ rfl p
  · exact p.elim
theorem gwd_cons {t : DG} {u : DGs} {vs : List Nat} (h : GWd t vs) (h' : GWds u vs) : GWds (dGCons t u) vs := fun d ρ P P' p k => by
  unfold dGCons at p ⊢; split at p
  · exact h _ ρ _ _ p fun ρ' w p' => h' _ ρ' _ _ p' fun ρ'' w' p'' => k _ (w'.trans w) p''
  · exact p.elim
theorem gwd_tup {n : Nat} {u : DGs} {vs : List Nat} (h : GWds u vs) : GWd (dGTup n u) vs := fun d ρ P P' p k => by
  obtain ⟨ds, rfl, hl, p⟩ := D.tupP_of p
  exact ⟨hl, h ds ρ _ _ p k⟩
def Sl.still : Sl → Bool
  | .ow _ => false
  | _ => true
section
variable {X : Cx} {K : PySem.W.Frag} {M : Fm} {G G' H H' : Hp} {ρ ρ' : Env} {σ σ' : L2.St}
theorem Rel.wiped (r : Rel K M G ρ σ H) : ∀ vs : List Nat, Rel K M G (wipeE ρ vs) (wipe σ vs) H
  | [] => r
  | v :: vs => (r.wiped vs).drop v none
theorem still_of {vs : List Nat} (h : (vs.all fun v => (sat ρ v).still) = true) {v : Nat} (hv : v ∈ vs) {ds : List D} : ρ[v]? ≠ some (.ow ds) := fun e => by
  have q := List.all_eq_true.mp h v hv
  have sat_of : ∀ {ρ : Env} {v : Nat} {s : Sl}, ρ[v]? = some s → sat ρ v = s := fun {ρ} => by
    induction ρ with
    | nil => intro v s h; simp at h
    | cons x r ih =>
      intro v s h
      cases v with
      | zero => exact Option.some.inj h
      | succ v => exact ih (v := v) h
  rw [sat_of e] at q
  cases q
theorem Rel.unwipe {vs : List Nat} (r : Rel K M G ρ σ H) (r' : Rel K M G' ρ' σ' H') (e : wipeE ρ' vs = wipeE ρ vs) (e' : wipe σ' vs = wipe σ vs) (s : Same G G') (h : (vs.all fun v => (sat ρ v).still) = true) : Rel K M G' ρ σ H' := by
  have eq1 : ∀ {i : Nat}, i ∉ vs → ρ'[i]? = ρ[i]? := fun {i} hi => by rw [← wipeE_out hi, e, wipeE_out hi]
  have eq2 : ∀ {i : Nat}, i ∉ vs → σ'[i]? = σ[i]? := fun {i} hi => by rw [← wipe_out hi, e', wipe_out hi]
  refine ⟨r'.frm, r.len, fun i t et => ?_, fun i j a ds es hij e1 e2 e3 e4 => ?_⟩
  · by_cases hi : i ∈ vs
    · have q := r.sl i t et
      cases t with
      | no => trivial
      | fz d => obtain ⟨v, e1, q⟩ := q; exact ⟨v, e1, q.mono s⟩
      | ow ds => exact absurd et (still_of h hi)
      | ur => exact q
    · have q := r'.sl i t ((eq1 hi).trans et)
      rw [eq2 hi] at q
      exact q
  · have hi : i ∉ vs := fun z => still_of h z e1
    have hj : j ∉ vs := fun z => still_of h z e2
    exact r'.sep i j a ds es hij ((eq1 hi).trans e1) ((eq1 hj).trans e2) ((eq2 hi).trans e3) ((eq2 hj).trans e4)
def compP (g : DG) (t : DT) (e : DE) (ρ : Env) : List D → (List D → Prop) → Prop
  | [], P => P []
  | d :: ds, P => g d ρ fun ρ1 => t ρ1 fun b => if b = true then e ρ1 fun y => compP g t e ρ ds fun ys => P (y :: ys) else compP g t e ρ ds P
def dComp (i : DI) (g : DG) (t : DT) (e : DE) (vs : List Nat) : DA := fun ρ P => i ρ fun ds => ((vs.all fun v => (sat ρ v).still) = true ∧ ds.length ≤ sizeLine) ∧ compP g t e (wipeE ρ vs) ds P
structure PDTs (X : Cx) (ifs : List Expr) (t : TT) (d : DT) : Prop where
  pe : PTs X ifs t
  se : ST X.K t d
def dYes : DT := fun _ P => P true
theorem ts_nil : PDTs X [] tYes dYes := ⟨pts_nil, fun M G ρ σ H P Q rl hp k => k true G H hp rl (Same.refl G)⟩
theorem ts_one {c : Expr} {t : TT} {d : DT} (h : PDT X c t d) : PDTs X [c] t d := ⟨pts_one h.pe, h.se⟩
theorem rem_upd {p : Addr} {o : HO} (h : H p = none) : rem (upd H p o) p = H := by
  funext b
  by_cases e : b = p
  · subst e; rw [rem_same, h]
  · rw [rem_ne e, upd_ne e]
theorem rem_upd2 {p : Addr} {o : HO} : rem (upd H p o) p = rem H p := by
  funext b
  by_cases e : b = p
  · subst e; rw [rem_same, rem_same]
  · rw [rem_ne e, rem_ne e, upd_ne e]
theorem sf_lc {wi : TI} {t : TG} {tt : TT} {te : TE} {vs : List Nat} {di : DI} {g : DG} {dt : DT} {de : DE} (hi : SI K wi di) (hg : SG K t g) (gw : GW t vs) (gwd : GWd g vs) (ht : ST K tt dt) (he : SE K te de) : SF K (tLc wi t tt te vs) (dComp di g dt de vs) := fun M G ρ σ H P Q rl hp k => by
  refine hi M G ρ σ H _ _ rl hp fun ds J G1 H1 p1 r1 s1 y => ?_
  obtain ⟨⟨st, hsz⟩, p1⟩ := p1
  intro D hD
  have hF : M.F D = none := r1.frm.fs.free hD
  refine ⟨fun i m H' => ∃ G' acc ys, (m = ds.length - i ∧ i ≤ ds.length ∧ ys.length ≤ i) ∧ Same G1 G' ∧ H' D = some (.lst acc) ∧ Rel K M G' ρ σ (rem H' D) ∧ RpL K G' acc ys ∧ compP g dt de (wipeE ρ vs) (ds.drop i) (fun zs => P (ys ++ zs)),
    ⟨ds.length, G1, [], [], ⟨rfl, Nat.zero_le _, Nat.le_refl _⟩, Same.refl _, upd_same, by rw [rem_upd hD]; exact r1, .nil, by simpa using p1⟩, ?_⟩
  rintro i m H2 ⟨G2, acc, ys, ⟨rfl, hle, hy⟩, s2, eD, r2, q2, p2⟩
  have eH : upd (rem H2 D) D (.lst acc) = H2 := upd_rem eD
  have sH : Same (rem H2 D) H2 := fun b o e => by
    have : b ≠ D := fun z => by rw [z, rem_same] at e; cases e
    rw [rem_ne this] at e; exact e
  have sG : Same G1 H2 := s2.trans (r2.frm.gs.trans sH)
  by_cases hlt : i < ds.length
  · refine .inr ⟨y.go i H2 sG hlt, fun H' => ∃ G' acc ys, ys.length ≤ i + 1 ∧ Same G1 G' ∧ H' D = some (.lst acc) ∧ Rel K M G' ρ σ (rem H' D) ∧ RpL K G' acc ys ∧ compP g dt de (wipeE ρ vs) (ds.drop (i + 1)) (fun zs => P (ys ++ zs)),
      fun H' ⟨G', acc, ys, h1, h2, h3, h4, h5, h6⟩ => ⟨ds.length - (i + 1), by omega, G', acc, ys, ⟨rfl, hlt, h1⟩, h2, h3, h4, h5, h6⟩, fun x H3 hy3 => ?_⟩
    rw [List.drop_eq_getElem_cons hlt] at p2
    have rh : Rel K (M.hold D (.lst acc)) G2 ρ σ H2 := by
      have q := r2.hold (o := .lst acc) (rem_same (H := H2) (p := D))
      rw [eH] at q
      exact q
    obtain ⟨G3, s3, r3, q3, _⟩ := y.come (rh.wiped vs) s2 (List.getElem?_eq_getElem hlt) hy3
    refine gw x (wipe σ vs) H3 _ _ (hg _ G3 _ _ H3 x _ (fun ρ1 => wipeE ρ1 vs = wipeE ρ vs ∧ dt ρ1 fun b => if b = true then de ρ1 fun y => compP g dt de (wipeE ρ vs) (ds.drop (i + 1)) fun zs => P (ys ++ (y :: zs)) else compP g dt de (wipeE ρ vs) (ds.drop (i + 1)) fun zs => P (ys ++ zs))
      (fun σ1 H4 => ∃ ρ1, (wipeE ρ1 vs = wipeE ρ vs ∧ dt ρ1 fun b => if b = true then de ρ1 fun y => compP g dt de (wipeE ρ vs) (ds.drop (i + 1)) fun zs => P (ys ++ (y :: zs)) else compP g dt de (wipeE ρ vs) (ds.drop (i + 1)) fun zs => P (ys ++ zs)) ∧ Rel K (M.hold D (.lst acc)) G3 ρ1 σ1 H4) r3 q3
      (gwd _ _ _ _ p2 fun ρ1 w p => ⟨w.trans (wipeE_idem ρ vs), p⟩) fun ρ1 σ1 p r => ⟨ρ1, p, r⟩) fun σ1 H4 w h => ?_
    obtain ⟨ρ1, ⟨w1, p4⟩, r4⟩ := h
    have w2 : wipe σ1 vs = wipe σ vs := w.trans (wipe_idem σ vs)
    refine ⟨w2, ht _ G3 ρ1 σ1 H4 _ _ r4 p4 fun b G5 H5 p5 r5 s5 => ?_⟩
    have lf := r1.frm.lf
    cases b with
    | false =>
      refine iteF ⟨G5, acc, ys, Nat.le_succ_of_le hy, s2.trans (s3.trans s5), r5.held, ?_, q2.mono (s3.trans s5), by simpa using p5⟩
      exact (rh.unwipe r5 w1 w2 (s3.trans s5) st).take hF lf
    | true =>
      refine iteT (he _ G5 ρ1 σ1 H5 _ _ r5 (by simpa using p5) fun d v G6 H6 p6 r6 s6 q6 => ?_)
      refine ⟨acc, r6.held, by rw [q2.len]; omega, G6, acc ++ [v], ys ++ [d], by rw [List.length_append, List.length_singleton]; omega, s2.trans (s3.trans (s5.trans s6)), upd_same, ?_, (q2.mono (s3.trans (s5.trans s6))).app (.one q6), by simpa using p6⟩
      rw [rem_upd2]
      exact (rh.unwipe r6 w1 w2 (s3.trans (s5.trans s6)) st).take hF lf
  · have e : i = ds.length := by omega
    subst e
    rw [List.drop_length] at p2
    refine .inl ⟨y.stop _ H2 sG (Nat.le_refl _), ?_⟩
    have p2 : P (ys ++ []) := p2
    rw [List.append_nil] at p2
    rw [← eH]
    exact k ys acc D G2 _ p2 r2 (s1.trans s2) q2 rem_same
theorem f_lc {elt tg iter : Expr} {ifs : List Expr} {scope : Scope} {own : List (Str × Nat)} {pos : Pos} {wi : TI} {t : TG} {tt : TT} {te : TE} {di : DI} {g : DG} {dt : DT} {de : DE} (hc : X.calm = true) (hN : X.N.Nodup) (hi : PDI X tg iter wi di) (ok : BlkOk X.N X.env.scope scope own)
    (hg : ∀ (s : Shared) (H : Hp) (C : Addr) (cl : List (Str × Addr)) (fp : List Addr), PDG (X.blk s H scope (compEnvC scope cl C X.env) fp) tg t g) (gw : GW t (own.map (·.2))) (gwd : GWd g (own.map (·.2)))
    (ht : ∀ (s : Shared) (H : Hp) (C : Addr) (cl : List (Str × Addr)) (fp : List Addr), PDTs (X.blk s H scope (compEnvC scope cl C X.env) fp) ifs tt dt) (he : ∀ (s : Shared) (H : Hp) (C : Addr) (cl : List (Str × Addr)) (fp : List Addr), PDE (X.blk s H scope (compEnvC scope cl C X.env) fp) elt te de)
    (hs : ∀ x, foldedSetIterable iter X.env x = pure x := by intro _; rfl) : PDF X (.ListComp elt [⟨tg, iter, ifs, 0⟩] scope pos) (tLc wi t tt te (own.map (·.2))) (dComp di g dt de (own.map (·.2))) :=
  ⟨pe_lc hc hN hi.pe ok (fun s H C cl fp => (hg s H C cl fp).pe) (fun s H C cl fp => (ht s H C cl fp).pe) (fun s H C cl fp => (he s H C cl fp).pe) hs,
    sf_lc hi.se (hg X.s_0 X.H_0 0 [] []).se gw gwd (ht X.s_0 X.H_0 0 [] []).se (he X.s_0 X.H_0 0 [] []).se⟩
/-- y = [..] -/
theorem s_lcO {i : Nat} {y : Str} {py : Pos} {elt tg iter : Expr} {ifs : List Expr} {scope : Scope} {own : List (Str × Nat)} {pos spos : Pos} {wi : TI} {t : TG} {tt : TT} {te : TE} {di : DI} {g : DG} {dt : DT} {de : DE} (hc : X.calm = true) (hN : X.N.Nodup)
    (hi : PDI X tg iter wi di) (ok : BlkOk X.N X.env.scope scope own)
    (hg : ∀ (s : Shared) (H : Hp) (C : Addr) (cl : List (Str × Addr)) (fp : List Addr), PDG (X.blk s H scope (compEnvC scope cl C X.env) fp) tg t g) (gw : GW t (own.map (·.2))) (gwd : GWd g (own.map (·.2)))
    (ht : ∀ (s : Shared) (H : Hp) (C : Addr) (cl : List (Str × Addr)) (fp : List Addr), PDTs (X.blk s H scope (compEnvC scope cl C X.env) fp) ifs tt dt) (he : ∀ (s : Shared) (H : Hp) (C : Addr) (cl : List (Str × Addr)) (fp : List Addr), PDE (X.blk s H scope (compEnvC scope cl C X.env) fp) elt te de)
    (hsw : swapsWith (.ListComp elt [⟨tg, iter, ifs, 0⟩] scope pos) (some (.Name y py)) spos.line X.env = pure true)
    (hy : X.N[i]? = some y := by rfl) (hyl : X.env.scope.names.lookup y = some .local := by rfl) (hs : ∀ x, foldedSetIterable iter X.env x = pure x := by intro _; rfl) :
    PDS X (.Assign [.Name y py] (.ListComp elt [⟨tg, iter, ifs, 0⟩] scope pos) spos) (tAsg (tLc wi t tt te (own.map (·.2))) (gName i)) (dSet i (xF (dComp di g dt de (own.map (·.2))))) :=
  ⟨ps_setLc hc hN hy hyl hsw hi.pe ok (fun s H C cl fp => (hg s H C cl fp).pe) (fun s H C cl fp => (ht s H C cl fp).pe) (fun s H C cl fp => (he s H C cl fp).pe) hs, fun M G ρ σ H P D rl hp l =>
    (f_lc (pos := pos) hc hN hi ok hg gw gwd ht he hs).x.se M G ρ σ H _ _ rl hp fun s v G' H' p n s' => l.nx _ _ G' H' p (n.put i) s'⟩
theorem s_lcE {i : Nat} {y : Str} {py : Pos} {elt tg iter : Expr} {ifs : List Expr} {scope : Scope} {own : List (Str × Nat)} {pos spos : Pos} {wi : TI} {t : TG} {tt : TT} {te : TE} {di : DI} {g : DG} {dt : DT} {de : DE} (hc : X.calm = true) (hN : X.N.Nodup)
    (hi : PDI X tg iter wi di) (ok : BlkOk X.N X.env.scope scope own)
    (hg : ∀ (s : Shared) (H : Hp) (C : Addr) (cl : List (Str × Addr)) (fp : List Addr), PDG (X.blk s H scope (compEnvC scope cl C X.env) fp) tg t g) (gw : GW t (own.map (·.2))) (gwd : GWd g (own.map (·.2)))
    (ht : ∀ (s : Shared) (H : Hp) (C : Addr) (cl : List (Str × Addr)) (fp : List Addr), PDTs (X.blk s H scope (compEnvC scope cl C X.env) fp) ifs tt dt) (he : ∀ (s : Shared) (H : Hp) (C : Addr) (cl : List (Str × Addr)) (fp : List Addr), PDE (X.blk s H scope (compEnvC scope cl C X.env) fp) elt te de)
    (hsw : swapsWith (.ListComp elt [⟨tg, iter, ifs, 0⟩] scope pos) (some (.Name y py)) spos.line X.env = pure true)
    (hy : X.N[i]? = some y := by rfl) (hyl : X.env.scope.names.lookup y = some .local := by rfl) (hs : ∀ x, foldedSetIterable iter X.env x = pure x := by intro _; rfl) :
    PDS X (.Assign [.Name y py] (.ListComp elt [⟨tg, iter, ifs, 0⟩] scope pos) spos) (tAsg (tLc wi t tt te (own.map (·.2))) (gName i)) (dSet i (xE (dF (dComp di g dt de (own.map (·.2)))))) :=
  ⟨ps_setLc hc hN hy hyl hsw hi.pe ok (fun s H C cl fp => (hg s H C cl fp).pe) (fun s H C cl fp => (ht s H C cl fp).pe) (fun s H C cl fp => (he s H C cl fp).pe) hs, fun M G ρ σ H P D rl hp l =>
    (f_lc (pos := pos) hc hN hi ok hg gw gwd ht he hs).e.x.se M G ρ σ H _ _ rl hp fun s v G' H' p n s' => l.nx _ _ G' H' p (n.put i) s'⟩

/-! ### lists that are changed -/
theorem Rel.owAt {i : Nat} {P : List D → Prop} (r : Rel K M G ρ σ H) (h : (sat ρ i).owP P) : ∃ ds a vs, P ds ∧ ρ[i]? = some (.ow ds) ∧ σ[i]? = some (some (.ref a)) ∧ G a = none ∧ H a = some (.lst vs) ∧ RpL K G vs ds := by
  obtain ⟨ds, e, p⟩ := Sl.owP_of h
  have e := sat_get e (fun z => nomatch z)
  obtain ⟨a, vs, e1, g1, _, _, h1, q⟩ := r.sl i _ e
  exact ⟨ds, a, vs, p, e, e1, g1, h1, q⟩
/-- what a changed list's slot holds, its address found ahead of an expression -/
theorem Rel.owAdr {i : Nat} {ds : List D} (r : Rel K M G ρ σ H) (r' : Rel K M G' ρ σ H') {a : Addr} (e : ρ[i]? = some (.ow ds)) (ea : σ[i]? = some (some (.ref a))) : ∃ vs, H' a = some (.lst vs) ∧ RpL K G' vs ds := by
  obtain ⟨a', vs, e1, _, _, _, h1, q⟩ := r'.sl i _ e
  rw [ea] at e1; cases e1
  exact ⟨vs, h1, q⟩
theorem sat_at {s : Sl} : ∀ {ρ : Env} {i : Nat}, ρ[i]? = some s → sat ρ i = s
  | [], _, h => by simp at h
  | _ :: _, 0, h => Option.some.inj h
  | _ :: r, i + 1, h => sat_at (ρ := r) (i := i) h
def dApp (i : Nat) (e : DE) : DS := fun P ρ => (sat ρ i).owP fun ds => e ρ fun d => ds.length < sizeLine ∧ P.nx (ρ.set i (.ow (ds ++ [d])))
theorem s_app (i : Nat) {x : Str} {p ap cp pos : Pos} {e : Expr} {te : TE} {d : DE} (he : PDE X e te d) (hN : X.N[i]? = some x := by rfl) (hv : Vis X.env.scope x := by first | exact Or.inl rfl | exact Or.inr (Or.inl rfl) | exact Or.inr (Or.inr rfl)) (hd : (x == ("__debug__" : Str)) = false := by decide)
    (hcd : (x == ("__classdict__" : Str)) = false := by decide) (hbase : attributeBase (.Name x p) "append" X.env (eval (.Name x p) X.env) = eval (.Name x p) X.env := by rfl)
    (hfew : ((backTo cp (starEach [e] X.env)).all (fun x => !x.1) && (backToKw cp (keywordEach [] X.env)).all (fun x => x.1.isSome) && decide ([e].length + ([] : List Keyword).length + (if ([] : List Keyword).isEmpty then 0 else 1) < 30)) = true := by rfl)
    (hline : (ap.endLine == cp.line) = true := by rfl) (hst : starEach [e] X.env = (false, eval e X.env) :: starEach [] X.env := by rfl) (hplain : (backTo cp (starEach [] X.env)).any (·.1) = false := by rfl)
    (hs : swapsWith (.Call (.Attribute (.Name x p) "append" ap) [e] [] cp) none pos.line X.env = pure false := by rfl) :
    PDS X (.Expr (.Call (.Attribute (.Name x p) "append" ap) [e] [] cp) pos) (tDrop (tBM X.K "list" rAppend (tVar i) (tCons te tNil))) (dApp i d) :=
  ⟨ps_expr (pe_bm PySem.F.plainAttrs_list PySem.F.slot_list_append PySem.F.type_list_append mt_append (pe_var hN hv hd hcd) (pa_cons he.pe pa_nil hst) hbase hfew hline hst hplain) hs, fun M G ρ σ H P D rl hp l => by
    obtain ⟨ds, a, vs, p1, e1, e2, g1, h1, q1⟩ := rl.owAt hp
    refine ⟨_, e2, .inl ⟨rfl, _, .inl (.inl h1)⟩, ?_⟩
    refine he.se M G ρ σ H _ _ rl p1 fun d v G2 H2 p2 r2 s2 q2 => ?_
    obtain ⟨ws, h2, q3⟩ := rl.owAdr r2 e1 e2
    exact ⟨a, ws, v, rfl, rfl, h2, by rw [q3.len]; exact p2.1, l.nx _ _ G2 _ p2.2 (r2.wr e1 e2 h2 (q3.app (.one q2))) s2⟩⟩
/-- .. the item popped from another one -/
def dAppPop (i j : Nat) (e : DE) : DS := fun P ρ => (sat ρ i).owP fun ds => (sat ρ j).owP fun es => e ρ fun x => x.intP fun k => i ≠ j ∧ -(2 ^ 63) ≤ k ∧ k < 2 ^ 63 ∧ optP (fun m => optP (fun d => ds.length < sizeLine ∧ P.nx ((ρ.set j (.ow (es.eraseIdx m))).set i (.ow (ds ++ [d])))) es[m]?) (ixN es.length k)
theorem s_appPop (i j : Nat) {x y : Str} {p ap cp pos p' ap' cp' : Pos} {e : Expr} {te : TE} {d : DE} (he : PDE X e te d) (hN : X.N[i]? = some x := by rfl) (hN' : X.N[j]? = some y := by rfl)
    (hv : Vis X.env.scope x := by first | exact Or.inl rfl | exact Or.inr (Or.inl rfl) | exact Or.inr (Or.inr rfl)) (hd : (x == ("__debug__" : Str)) = false := by decide)
    (hcd : (x == ("__classdict__" : Str)) = false := by decide) (hv' : Vis X.env.scope y := by first | exact Or.inl rfl | exact Or.inr (Or.inl rfl) | exact Or.inr (Or.inr rfl)) (hd' : (y == ("__debug__" : Str)) = false := by decide)
    (hcd' : (y == ("__classdict__" : Str)) = false := by decide)
    (hb1 : attributeBase (.Name y p') "pop" X.env (eval (.Name y p') X.env) = eval (.Name y p') X.env := by rfl)
    (hf1 : ((backTo cp' (starEach [e] X.env)).all (fun x => !x.1) && (backToKw cp' (keywordEach [] X.env)).all (fun x => x.1.isSome) && decide ([e].length + ([] : List Keyword).length + (if ([] : List Keyword).isEmpty then 0 else 1) < 30)) = true := by rfl)
    (hl1 : (ap'.endLine == cp'.line) = true := by rfl) (hst1 : starEach [e] X.env = (false, eval e X.env) :: starEach [] X.env := by rfl) (hpl1 : (backTo cp' (starEach [] X.env)).any (·.1) = false := by rfl)
    (hbase : attributeBase (.Name x p) "append" X.env (eval (.Name x p) X.env) = eval (.Name x p) X.env := by rfl)
    (hfew : ((backTo cp (starEach [.Call (.Attribute (.Name y p') "pop" ap') [e] [] cp'] X.env)).all (fun x => !x.1) && (backToKw cp (keywordEach [] X.env)).all (fun x => x.1.isSome) && decide ([Expr.Call (.Attribute (.Name y p') "pop" ap') [e] [] cp'].length + ([] : List Keyword).length + (if ([] : List Keyword).isEmpty then 0 else 1) < 30)) = true := by rfl)
    (hline : (ap.endLine == cp.line) = true := by rfl) (hst : starEach [.Call (.Attribute (.Name y p') "pop" ap') [e] [] cp'] X.env = (false, eval (.Call (.Attribute (.Name y p') "pop" ap') [e] [] cp') X.env) :: starEach [] X.env := by rfl) (hplain : (backTo cp (starEach [] X.env)).any (·.1) = false := by rfl)
    (hs : swapsWith (.Call (.Attribute (.Name x p) "append" ap) [.Call (.Attribute (.Name y p') "pop" ap') [e] [] cp'] [] cp) none pos.line X.env = pure false := by rfl) :
    PDS X (.Expr (.Call (.Attribute (.Name x p) "append" ap) [.Call (.Attribute (.Name y p') "pop" ap') [e] [] cp'] [] cp) pos) (tDrop (tBM X.K "list" rAppend (tVar i) (tCons (tBM X.K "list" rPopAt (tVar j) (tCons te tNil)) tNil))) (dAppPop i j d) :=
  ⟨ps_expr (pe_bm PySem.F.plainAttrs_list PySem.F.slot_list_append PySem.F.type_list_append mt_append (pe_var hN hv hd hcd) (pa_cons (pe_bm PySem.F.plainAttrs_list PySem.F.slot_list_pop PySem.F.type_list_pop mt_popAt (pe_var hN' hv' hd' hcd') (pa_cons he.pe pa_nil hst1) hb1 hf1 hl1 hst1 hpl1) pa_nil hst) hbase hfew hline hst hplain) hs, fun M G ρ σ H P Dn rl hp l => by
    obtain ⟨ds, a, vs, p1, e1, e2, g1, h1, q1⟩ := rl.owAt hp
    obtain ⟨es, b, ws, p1, f1, f2, g2, h2, q2⟩ := rl.owAt p1
    refine ⟨_, e2, .inl ⟨rfl, _, .inl (.inl h1)⟩, _, f2, .inl ⟨rfl, _, .inl (.inl h2)⟩, ?_⟩
    refine he.se M G ρ σ H _ _ rl p1 fun x v G3 H3 p3 r3 s3 q3 => ?_
    obtain ⟨k, rfl, hij, hk1, hk2, p3⟩ := D.intP_of p3
    obtain ⟨m, em, p3⟩ := optP_of p3
    obtain ⟨d, ed, hl, p3⟩ := optP_of p3
    obtain ⟨vs', h3, q4⟩ := rl.owAdr r3 e1 e2
    obtain ⟨ws', h4, q5⟩ := rl.owAdr r3 f1 f2
    obtain ⟨w, ew, q6⟩ := q5.get ed
    have hab : a ≠ b := fun z => by subst z; exact r3.sep i j a _ _ hij e1 f1 e2 f2
    have r4 := r3.wr f1 f2 h4 (q5.erase m)
    have e1' : (ρ.set j (.ow (es.eraseIdx m)))[i]? = some (.ow ds) := by rw [List.getElem?_set_ne hij.symm]; exact e1
    have h3' : (upd H3 b (.lst (ws'.eraseIdx m))) a = some (.lst vs') := by rw [upd_ne hab]; exact h3
    refine ⟨b, ws', k, m, w, rfl, by rw [q3.intI], h4, hk1, hk2, (ixN_seq (by rw [q5.len]; exact em)).1, ew, ?_⟩
    exact ⟨a, vs', w, rfl, rfl, h3', by rw [q4.len]; exact hl, l.nx _ _ G3 _ p3 (r4.wr e1' e2 h3' (q4.app (.one q6))) s3⟩⟩
/-- xs[i] = e -/
def dSetI (i : Nat) (ix e : DE) : DS := fun P ρ => e ρ fun d => ix ρ fun x => x.intP fun k => (sat ρ i).owP fun ds => optP (fun j => P.nx (ρ.set i (.ow (ds.set j d)))) (ixN ds.length k)
/-! reading a list that is changed -/
def dLenO (i : Nat) : DE := fun ρ P => (sat ρ i).owP fun ds => P (.int ds.length)
theorem d_lenO (i : Nat) {x f : Str} {p fp pos : Pos} (hg : Gl X f) (hm : X.mg f = none) (hb : bootBuiltins f = some (.builtin "len")) (hN : X.N[i]? = some x := by rfl) (hv : Vis X.env.scope x := by first | exact Or.inl rfl | exact Or.inr (Or.inl rfl) | exact Or.inr (Or.inr rfl)) (hd : (x == ("__debug__" : Str)) = false := by decide)
    (hcd : (x == ("__classdict__" : Str)) = false := by decide) (hn : f ≠ "__name__" := by decide) (hdb : (f == ("__debug__" : Str)) = false := by decide) (he : starEach [.Name x p] X.env = (false, eval (.Name x p) X.env) :: starEach [] X.env := by rfl) (hpl : (backTo pos (starEach [] X.env)).any (·.1) = false := by rfl) :
    PDE X (.Call (.Name f fp) [.Name x p] [] pos) (tCB (fun xs H Q => ∃ p ys, xs = [.ref p] ∧ (SqL X.K H p ys ∨ SqT X.K H p ys) ∧ Q (.int ys.length) H) (tCons (tVar i) tNil)) (dLenO i) :=
  ⟨pe_callB call_len_seq hg hm hb (pa_cons (pe_var hN hv hd hcd) pa_nil he) hn hdb he hpl, fun M G ρ σ H P Q rl hp k => by
    obtain ⟨ds, a, vs, p1, e1, e2, g1, h1, q1⟩ := rl.owAt hp
    exact ⟨_, e2, a, vs, rfl, .inl (.inl (.inl h1)), by rw [q1.len]; exact k _ _ G H p1 rl (Same.refl G) (.int _)⟩⟩
/-- xs[k] -/
def dIxO (i : Nat) (e : DE) : DE := fun ρ P => (sat ρ i).owP fun ds => e ρ fun x => x.intP fun k => optP P (atI ds k)
theorem d_ixO (i : Nat) {x : Str} {p pos : Pos} {b : Expr} {tb : TE} {db : DE} (hb : PDE X b tb db) (hs : PlainIx b := by exact fun _ _ => rfl) (hN : X.N[i]? = some x := by rfl) (hv : Vis X.env.scope x := by first | exact Or.inl rfl | exact Or.inr (Or.inl rfl) | exact Or.inr (Or.inr rfl)) (hd : (x == ("__debug__" : Str)) = false := by decide)
    (hcd : (x == ("__classdict__" : Str)) = false := by decide) : PDE X (.Subscript (.Name x p) b pos) (tOp (rIxL X.K) (tVar i) tb) (dIxO i db) :=
  ⟨pe_ix ix_list (pe_var hN hv hd hcd) hb.pe hs, fun M G ρ σ H P Q rl hp k => by
    obtain ⟨ds, a, vs, p1, e1, e2, g1, h1, q1⟩ := rl.owAt hp
    refine ⟨_, e2, hb.se M G ρ σ H _ _ rl p1 fun y v G2 H2 p2 r2 s2 q2 => ?_⟩
    obtain ⟨z, rfl, p2⟩ := D.intP_of p2
    obtain ⟨d, ed, p2⟩ := optP_of p2
    obtain ⟨ws, h2, q3⟩ := rl.owAdr r2 e1 e2
    obtain ⟨w, ew, q4⟩ := q3.atI ed
    exact ⟨a, ws, z, w, rfl, q2.intI, .inl (.inl h2), ew, k _ _ G2 H2 p2 r2 s2 q4⟩⟩
/-- a changed list is left as it is from here on -/
def dFreeze (i : Nat) (d : DS) : DS := fun P ρ => (sat ρ i).owP fun ds => d P (ρ.set i (.fz (.lst ds)))
theorem ss_freeze (i : Nat) {sts : List Stmt} {t : TS} {d : DS} (h : PDSs X sts t d) : PDSs X sts t (dFreeze i d) := ⟨h.pe, fun M G ρ σ H P D rl hp l => by
  obtain ⟨ds, e, p⟩ := Sl.owP_of hp
  obtain ⟨G', s, r, _⟩ := rl.freeze (sat_get e (fun z => nomatch z))
  exact h.se M G' _ σ H P D r p (l.mono s)⟩

/-! ### a def -/
def startD (N : List Str) (ds : List D) : Env := ds.map Sl.fz ++ List.replicate (N.length - ds.length) .no
def startU (N : List Str) (ds : List D) : Env := .ur :: ds.map Sl.fz ++ List.replicate (N.length - (ds.length + 1)) .no
theorem rel_start {N : List Str} {vs : List V} {ds : List D} (f : Frm M G H) (r : RpL K G vs ds) : Rel K M G (startD N ds) (start N vs) H where
  frm := f
  len := by unfold startD L2.start; simp [r.len]
  sl := fun i s e => by
    unfold startD at e
    by_cases hi : i < ds.length
    · rw [List.getElem?_append_left (by simpa using hi), List.getElem?_map, List.getElem?_eq_getElem hi] at e
      have e := Option.some.inj e
      subst e
      obtain ⟨v, ev, q⟩ := r.get (List.getElem?_eq_getElem hi)
      refine ⟨v, ?_, q⟩
      unfold L2.start
      rw [List.getElem?_append_left (by rw [List.length_map, r.len]; exact hi), List.getElem?_map, ev]; rfl
    · rw [List.getElem?_append_right (by simpa using hi)] at e
      have := List.mem_of_getElem? e
      rw [List.mem_replicate] at this
      rw [this.2]; trivial
  sep := fun i j a ds' es hij e1 _ _ _ => by
    have : ∀ x ∈ startD N ds, ∀ es, x ≠ .ow es := fun x hx es => by
      unfold startD at hx
      rcases List.mem_append.mp hx with h | h
      · obtain ⟨d, _, rfl⟩ := List.mem_map.mp h; intro z; cases z
      · rw [(List.mem_replicate.mp h).2]; intro z; cases z
    exact this _ (List.mem_of_getElem? e1) _ rfl
theorem rel_startU {N : List Str} {u : Addr} {vs : List V} {ds : List D} (f : Frm M G H) (hu : M.U = some u) (r : RpL K G vs ds) : Rel K M G (startU N ds) (start N (.ref u :: vs)) H := by
  have r0 := rel_start (N := N.drop 1) f r
  have e1 : startU N ds = .ur :: startD (N.drop 1) ds := by
    unfold startU startD
    rw [List.length_drop, show N.length - 1 - ds.length = N.length - (ds.length + 1) by omega]; rfl
  have e2 : start N (.ref u :: vs) = some (.ref u) :: start (N.drop 1) vs := by
    unfold L2.start
    rw [List.length_drop, show N.length - 1 - vs.length = N.length - (.ref u :: vs).length by rw [List.length_cons]; omega]; rfl
  rw [e1, e2]
  refine ⟨f, by rw [List.length_cons, List.length_cons, r0.len], fun i s e => ?_, fun i j a ds' es hij h1 h2 h3 h4 => ?_⟩
  · cases i with
    | zero =>
      have e := Option.some.inj e
      subst e
      exact ⟨u, hu, rfl⟩
    | succ i => exact r0.sl i s e
  · cases i with
    | zero => cases h1
    | succ i =>
      cases j with
      | zero => cases h2
      | succ j => exact r0.sep i j a ds' es (fun z => hij (by rw [z])) h1 h2 h3 h4
end
end PD

namespace PD
open PySem PySem.Spec PyProof.Rows L2
/-! ### defs where nothing is being shown -/
structure RG (k : Nat) (A : Around) : Prop where
  rm : Room k A
  gd : A.guards = some []
theorem RG.mono {j k : Nat} {A : Around} (h : RG k A) (l : j ≤ k) : RG j A := ⟨h.rm.mono l, h.gd⟩
theorem RG.deeper {k : Nat} {A : Around} (h : RG (k + 1) A) (e : PySem.Env) : RG k (A.deeper e) := ⟨h.rm.deeper e, h.gd⟩
structure FnG (P : Program) (w : World) (K : PySem.W.Frag) (mg : Str → Option Value) (base : Heap) (k : Nat) (f : Addr) (fd : FuncData) (ps : List Str) (sp : Sp) : Prop where
  ln : ∀ vs H Q E, sp vs H Q E → vs.length = ps.length
  go : ∀ (A : Around) (out : List PySem.Env) (s : Shared) (H : Hp) (gs : Args) (us : List Value) (vs : List V) (Q : VK) (E : XK), RG k A → Env0 P w K mg base A out s H →
    BindsTo s fd gs (ps.zip us) → Vals vs us → sp vs H Q E → codeAny (model P w) A (.call (.ref f) gs) (CR CX0 out P w H s Q E) s
section
variable {P : Program} {w : World} {K : PySem.W.Frag} {mg : Str → Option Value} {base : Heap}
theorem FnG.mono {j k : Nat} {f : Addr} {fd : FuncData} {ps : List Str} {sp : Sp} (h : FnG P w K mg base j f fd ps sp) (l : j ≤ k) : FnG P w K mg base k f fd ps sp :=
  ⟨h.ln, fun A out s H gs us vs Q E r => h.go A out s H gs us vs Q E (r.mono l)⟩
theorem fng_of {x qual : Str} {params : Arguments} {body : List Stmt} {scope : Scope} {dvs : List V} {kws : List (Str × V)} {f : Addr} {fd : FuncData} {N ps : List Str} {k : Nat} {sp : Sp} (F : FunD K x qual params body scope dvs kws f fd) (S : FnScope N ps scope)
    (ln : ∀ vs H Q E, sp vs H Q E → vs.length = ps.length)
    (hb : ∀ (cdv : Value) (A : Around) (out : List PySem.Env) (s : Shared) (H : Hp) (vs : List V) (Q : VK) (E : XK), RG k (A.deeper (envOfC qual scope s.heap.objs.size f cdv)) → sp vs H Q E →
      ∃ t, PSs (cxOf CX0 P w K mg base N qual scope f cdv A out s H E) body t ∧ t { nx := fun _ J => Q .non J, rt := Q } (start N vs) H) : FnG P w K mg base (k + 1) f fd ps sp := by
  obtain ⟨oc, od, dV, kV, doc, pm, an, cdv, ct, osl, rfl, lk, hcd, _, _⟩ := F.ex
  refine ⟨ln, fun A out s H gs us vs Q E hr e0 hbd r hs => ?_⟩
  have hlen := ln _ _ _ _ hs
  have hK : K.In s.heap := e0.mod.kin.keeps fun b o z => (e0.bs b o z).1
  have hN : s.heap.NoLimit := e0.mod.nolimit.keeps fun b o z => (e0.bs b o z).1
  refine codeAny_call_function hr.rm.depth (hK _ _ lk) rfl S.co S.gen rfl (PySem.W.codeRec_of hK hcd) (hbd _ _ _ _ ?_)
  refine wpAny_newFunctionEnv_cells S.kind (fun y hy => ?_) fun env he s1 z => ?_
  · have hy' := S.par y.1 (List.of_mem_zip (a := y.1) (b := y.2) hy).1
    exact hy'.elim .inl fun q => .inr ⟨q, PySem.W.cellsFrom_some _ _ _ (.inl q)⟩
  · subst he
    refine ⟨hN.keeps z.toInCall.keep, codeAny_func ?_⟩
    obtain ⟨t, pt, qt⟩ := hb cdv A out s H vs Q E (hr.deeper _) hs
    refine wpAny_mono (pt.run [] s1 (start N vs) H _ (inv_start S hr.rm.hd e0 hlen r z) qt) (fun fl s2 hf => ?_) fun _ _ hx => hx
    cases fl with
    | brk => exact hf.choose_spec.choose_spec.2.elim
    | cont => exact hf.choose_spec.choose_spec.2.elim
    | ret u =>
      obtain ⟨v, σ2, H2, J, rv, q⟩ := hf
      exact ⟨v, H2, J.os, J.bare, J.base, J.hok, rv, q⟩
    | next =>
      obtain ⟨σ2, H2, J, q⟩ := hf
      exact ⟨V.non, H2, J.os, J.bare, J.base, J.hok, rfl, q⟩
end
section
variable {X : Cx} {k : Nat} {f : Addr} {fd : FuncData} {ps : List Str} {sp : Sp} {x : Str} {p pos : Pos}
theorem rung {pins : List (Addr × Obj)} {σ : L2.St} {H : Hp} {s : Shared} {Q : VK} {gp : List Value} {gk : List (Str × Value)} {us : List Value} {vs : List V} (F : FnG X.prog X.w X.K X.mg X.base k f fd ps sp) (hr : RG k X.A) (I : Inv X pins σ H s)
    (hb : BindsTo s fd ⟨gp, gk⟩ (ps.zip us)) (r : Vals vs us) (h : sp vs H Q E0) : wpAny (model X.prog X.w) X.A (call (.ref f) gp gk) (EP X pins σ Q) X.xe s := by
  refine wpAny_call (codeAny_mono (F.go X.A X.stack s H ⟨gp, gk⟩ us vs Q E0 hr I.env0 hb r h) fun r s2 hq => ?_)
  cases r with
  | error e => exact pass0 pins σ H s e s2 I hq
  | ok fl =>
    cases fl with
    | ret u => exact I.after hq
    | next => exact hq.elim
    | brk => exact hq.elim
    | cont => exact hq.elim
theorem pe_g {e : Expr} {es : List Expr} {t : TA} (F : FnG X.prog X.w X.K X.mg X.base k f fd ps sp) (hr : RG k X.A) (hg : Gl X x) (hm : X.mg x = some (.ref f)) (hk : PySem.W.keepIn X.K (.ref f) = true) (hb : Binds X.K fd ps []) (ha : PA X (e :: es) t)
    (hdb : (x == ("__debug__" : Str)) = false := by decide) (he : starEach (e :: es) X.env = (false, eval e X.env) :: starEach es X.env := by rfl) (hpl : (backTo pos (starEach es X.env)).any (·.1) = false := by rfl) :
    PE X (.Call (.Name x p) (e :: es) [] pos) (tCall sp [] E0 t) := ⟨fun pins s σ H Q I h => wpAny_Call_Name_kw (ld_glob I hg hm
  (PySem.W.callWith_K (h₀ := X.base) I.ok.mod.kin hk (thn (ha.run pos pins s σ H _ I h) fun us s1 ⟨vs, H1, I1, r, q⟩ => ⟨I1.kIn, by
    have q : sp (vs ++ []) H1 Q E0 := q
    rw [List.append_nil] at q
    have hl : us.length = ps.length := r.length.symm.trans (F.ln _ _ _ _ q)
    have b := hb s1 us I1.kIn (by rw [List.append_nil]; exact hl)
    rw [List.append_nil] at b
    exact rung F hr I1 b r q⟩) he hpl) hdb)⟩
/-- nothing given -/
theorem pe_g0 (F : FnG X.prog X.w X.K X.mg X.base k f fd ps sp) (hr : RG k X.A) (hg : Gl X x) (hm : X.mg x = some (.ref f)) (hk : PySem.W.keepIn X.K (.ref f) = true) (hb : Binds X.K fd ps [])
    (hdb : (x == ("__debug__" : Str)) = false := by decide) : PE X (.Call (.Name x p) [] [] pos) (tCall sp [] E0 tNil) := ⟨fun pins s σ H Q I h => wpAny_Call_Name_kw (ld_glob I hg hm
  (PySem.W.callWith_K0 I.kIn hk (by
    have h : sp ([] ++ []) H Q E0 := h
    have hl := F.ln _ _ _ _ h
    exact rung F hr I (hb s [] I.kIn hl) .nil h)) hdb)⟩
/-- by names alone: g puts the keywords' values in the parameters' order -/
structure KwB (K : PySem.W.Frag) (fd : FuncData) (ps ks : List Str) (g : {α : Type} → List α → List α) : Prop where
  to : ∀ (s : Shared) (ws : List Value), K.In s.heap → ws.length = ks.length → BindsTo s fd ⟨[], ks.zip ws⟩ (ps.zip (g ws))
  rel : ∀ {zs : List V} {ws : List Value}, Vals zs ws → Vals (g zs) (g ws)
def tKw (n : Nat) (sp : Sp) (g : {α : Type} → List α → List α) (t : TA) : TE := fun σ H Q => t σ H fun zs H1 => zs.length = n ∧ sp (g zs) H1 Q E0
theorem pe_gK {ks : List Str} {kws : List Keyword} {t : TA} {g : {α : Type} → List α → List α} (F : FnG X.prog X.w X.K X.mg X.base k f fd ps sp) (hr : RG k X.A) (hg : Gl X x) (hm : X.mg x = some (.ref f)) (hk : PySem.W.keepIn X.K (.ref f) = true) (hb : KwB X.K fd ps ks g) (ha : PK X kws t)
    (hall : (backToKw pos (keywordEach kws X.env)).all (·.1.isSome) = true := by rfl) (hks : (backToKw pos (keywordEach kws X.env)).filterMap (·.1) = ks := by rfl) (hdb : (x == ("__debug__" : Str)) = false := by decide)
    (hpl : ((backTo pos (starEach [] X.env)).any (·.1) || (backToKw pos (keywordEach kws X.env)).any (·.1.isNone)) = false := by rfl) : PE X (.Call (.Name x p) [] kws pos) (tKw ks.length sp g t) := ⟨fun pins s σ H Q I h => wpAny_Call_Name_kw (ld_glob I hg hm
  (PySem.W.callWith_KW0 (h₀ := X.base) I.ok.mod.kin hk hall (thn (ha.run pos pins s σ H _ I h) fun ws s1 ⟨zs, H1, I1, r, hl, q⟩ => ⟨I1.kIn, by
    rw [hks]
    exact rung F hr I1 (hb.to s1 ws I1.kIn (r.length.symm.trans hl)) (hb.rel r) q⟩) hpl) hdb)⟩
end
/-! ### over the data -/
structure DefG (P : Program) (w : World) (K : PySem.W.Frag) (mg : Str → Option Value) (base : Heap) (x : Str) (ps : List Str) (k : Nat) (sp : Sp) : Prop where
  ex : ∃ (f : Addr) (fd : FuncData), mg x = some (.ref f) ∧ FnG P w K mg base k f fd ps sp ∧ PySem.W.keepIn K (.ref f) = true ∧ Binds K fd ps [] ∧ ∃ oc od osl, K.lookup f = some ⟨oc, od, .func fd, osl⟩
section
variable {P : Program} {w : World} {K : PySem.W.Frag} {mg : Str → Option Value} {base : Heap} {x : Str} {st : Stmt} {N ps : List Str} {k : Nat}
/-- where a def stands -/
structure At (K : PySem.W.Frag) (mg : Str → Option Value) (x : Str) (st : Stmt) : Prop where
  ex : ∃ (f : Addr) (fd : FuncData), mg x = some (.ref f) ∧ FunD K x x (defArgs st) (defBody st) (defScope st) [] [] f fd
def Bnd (x : Str) (st : Stmt) (ps : List Str) : Prop := ∀ (kV doc pm : Value) (an : Option Addr) (cdv ct : Value) (us : List Value), us.length = ps.length → bindArgs (PySem.W.fnOf x x (defArgs st) (defBody st) (defScope st) .none kV doc pm an cdv ct) ⟨us, []⟩ = pure (ps.zip us)
theorem defg_of {sp : Sp} (F : At K mg x st) (S : FnScope N ps (defScope st)) (B : Bnd x st ps) (ln : ∀ vs H Q E, sp vs H Q E → vs.length = ps.length)
    (hb : ∀ (f : Addr) (cdv : Value) (A : Around) (out : List PySem.Env) (s : Shared) (H : Hp) (vs : List V) (Q : VK) (E : XK), RG k (A.deeper (envOfC x (defScope st) s.heap.objs.size f cdv)) → sp vs H Q E →
      ∃ t, PSs (cxOf CX0 P w K mg base N x (defScope st) f cdv A out s H E) (defBody st) t ∧ t { nx := fun _ J => Q .non J, rt := Q } (start N vs) H) : DefG P w K mg base x ps (k + 1) sp := by
  obtain ⟨f, fd, hm, F⟩ := F.ex
  obtain ⟨oc, od, dV, kV, doc, pm, an, cdv, ct, osl, e, lk, _⟩ := F.ex
  exact ⟨f, fd, hm, fng_of F S ln (hb f), F.kp, F.bindsN B, oc, od, osl, by rw [e] at lk ⊢; exact lk⟩
theorem defP (F : At K mg x st) (S : FnScope N ps (defScope st)) (B : Bnd x st ps) (pre : Pre) {d : DS}
    (hb : ∀ (f : Addr) (cdv : Value) (A : Around) (out : List PySem.Env) (s : Shared) (H : Hp) (E : XK), RG k (A.deeper (envOfC x (defScope st) s.heap.objs.size f cdv)) → ∃ t, PDSs (cxOf CX0 P w K mg base N x (defScope st) f cdv A out s H E).nox (defBody st) t d)
    (hr : ∀ ds Pd, ds.length = ps.length → pre ds Pd → d { nx := fun _ => Pd .non, rt := Pd } (startD N ds)) : DefG P w K mg base x ps (k + 1) (spP K ps.length pre) := by
  refine defg_of F S B (fun vs H Q E ⟨G, ds, Pd, hl, _, r, _⟩ => by rw [r.len, hl]) fun f cdv A out s H vs Q E hrm ⟨G, ds, Pd, hl, g, r, p, q⟩ => ?_
  obtain ⟨t, hb⟩ := hb f cdv A out s H E hrm
  refine ⟨t, hb.pe.nox, ?_⟩
  have fr : Frm ⟨H, fun b => H b ≠ none ∧ G b = none, none⟩ G H := ⟨g, Same.refl H, fun b h => h.2, fun b h => h.1, fun u h => by cases h⟩
  refine hb.se _ G _ _ H _ _ (rel_start fr r) (hr ds Pd hl p) { nx := fun ρ σ G1 H1 p1 r1 s1 => ?_, bk := fun _ _ _ _ z => z.elim, ct := fun _ _ _ _ z => z.elim, rt := fun d v G1 H1 p1 f1 s1 rv => ?_, rf := fun _ _ _ _ _ z => z.elim }
  · exact q .non .non G1 H1 p1 s1 r1.frm.gs r1.frm.fs (fun b h1 h2 => r1.frm.lk b ⟨h1, h2⟩) .non
  · exact q d v G1 H1 p1 s1 f1.gs f1.fs (fun b h1 h2 => f1.lk b ⟨h1, h2⟩) rv
end
section
variable {X : Cx} {k n : Nat} {x : Str} {ps : List Str} {pre : Pre} {p pos : Pos}
theorem dg_call {e : Expr} {es : List Expr} {t : TA} {d : DA} (F : DefG X.prog X.w X.K X.mg X.base x ps k (spP X.K n pre)) (hr : RG k X.A) (hg : Gl X x) (ha : PDA X (e :: es) t d)
    (hdb : (x == ("__debug__" : Str)) = false := by decide) (he : starEach (e :: es) X.env = (false, eval e X.env) :: starEach es X.env := by rfl) (hpl : (backTo pos (starEach es X.env)).any (·.1) = false := by rfl) :
    PDE X (.Call (.Name x p) (e :: es) [] pos) (tCall (spP X.K n pre) [] E0 t) (dCall n pre d) := by
  obtain ⟨f, fd, hm, F, hk, hb, _⟩ := F.ex
  exact ⟨pe_g F hr hg hm hk hb ha.pe hdb he hpl, se_call ha.se⟩
theorem dg_callU {e : Expr} {es : List Expr} {t : TA} {d : DA} (F : DefG X.prog X.w X.K X.mg X.base x ps k (spU X.K n pre)) (hr : RG k X.A) (hg : Gl X x) (ha : PDU X (e :: es) t d)
    (hdb : (x == ("__debug__" : Str)) = false := by decide) (he : starEach (e :: es) X.env = (false, eval e X.env) :: starEach es X.env := by rfl) (hpl : (backTo pos (starEach es X.env)).any (·.1) = false := by rfl) :
    PDE X (.Call (.Name x p) (e :: es) [] pos) (tCall (spU X.K n pre) [] E0 t) (dCall n pre d) := by
  obtain ⟨f, fd, hm, F, hk, hb, _⟩ := F.ex
  exact ⟨pe_g F hr hg hm hk hb ha.pe hdb he hpl, se_callU ha⟩
end
section
variable {P : Program} {w : World} {K : PySem.W.Frag} {mg : Str → Option Value} {base : Heap} {x : Str} {st : Stmt} {N ps : List Str} {k n : Nat}
theorem defU (F : At K mg x st) (S : FnScope N ps (defScope st)) (B : Bnd x st ps) (hn : ps.length = n + 1) (pre : Pre) {d : DS}
    (hb : ∀ (f : Addr) (cdv : Value) (A : Around) (out : List PySem.Env) (s : Shared) (H : Hp) (E : XK), RG k (A.deeper (envOfC x (defScope st) s.heap.objs.size f cdv)) → ∃ t, PDSs (cxOf CX0 P w K mg base N x (defScope st) f cdv A out s H E).nox (defBody st) t d)
    (hr : ∀ ds Pd, ds.length = n → pre ds Pd → d { nx := fun _ => Pd .non, rt := Pd } (startU N ds)) : DefG P w K mg base x ps (k + 1) (spU K n pre) := by
  refine defg_of F S B (fun vs H Q E ⟨G, u, ws, ds, Pd, e, hl, _, _, _, r, _⟩ => by rw [e, List.length_cons, r.len, hl, hn]) fun f cdv A out s H vs Q E hrm ⟨G, u, ws, ds, Pd, ev, hl, gu, ok, g, r, p, q⟩ => ?_
  subst ev
  obtain ⟨t, hb⟩ := hb f cdv A out s H E hrm
  refine ⟨t, hb.pe.nox, ?_⟩
  have sub : Same (rem H u) H := fun b o e => by
    by_cases z : b = u
    · rw [z, rem_same] at e; cases e
    · rwa [rem_ne z] at e
  have fr : Frm ⟨rem H u, fun b => rem H u b ≠ none ∧ G b = none, some u⟩ G H := ⟨g, sub, fun b h => h.2, fun b h => h.1, fun v h => by cases h; exact ⟨rem_same, gu, ok⟩⟩
  have fin : ∀ d v G1 H1, Pd d → Frm ⟨rem H u, fun b => rem H u b ≠ none ∧ G b = none, some u⟩ G1 H1 → Same G G1 → Rp K G1 v d → Q v H1 := fun d v G1 H1 p1 f1 s1 rv => by
    obtain ⟨_, g1, ok1⟩ := f1.ur u rfl
    refine q d v G1 H1 p1 s1 f1.gs g1 ok1 (fun b o hb e => f1.fs b o (by rw [show (Fm.F _ b) = rem H u b from rfl, rem_ne hb]; exact e)) (fun b h1 h2 => ?_) rv
    by_cases z : b = u
    · rw [z]; exact g1
    · exact f1.lk b ⟨by rw [rem_ne z]; exact h1, h2⟩
  exact hb.se _ G _ _ H _ _ (rel_startU fr rfl r) (hr ds Pd hl p) { nx := fun ρ σ G1 H1 p1 r1 s1 => fin .non .non G1 H1 p1 r1.frm s1 .non, bk := fun _ _ _ _ z => z.elim, ct := fun _ _ _ _ z => z.elim, rt := fin, rf := fun _ _ _ _ _ z => z.elim }
end
/-! ### repr -/
def D.shOk (d : D) : Prop := d.fit 60 = true ∧ d.py.showable = true ∧ d.py.shown.length ≤ sizeLine
def rRepr (K : PySem.W.Frag) : List V → Hp → VK → Prop := fun xs H Q => ∃ x d, xs = [x] ∧ Dp K H x d ∧ (d.canLay0 = true ∧ d.depth ≤ 60) ∧ d.showable = true ∧ d.shown.length ≤ sizeLine ∧ Q (.str d.shown) H
abbrev cRepr : DC := one1 fun x P => x.shOk ∧ P (.str x.py.shown)
section
variable {X : Cx}
theorem call_reprD (hg : X.A.guards = some []) (hu : X.A.units + 64 < cLine) : CallR X (.builtin "repr") (rRepr X.K) := by
  intro pins s σ H xs us Q I r h
  obtain ⟨x, d, rfl, dp, ⟨hl, hd⟩, hs, hz, q⟩ := h
  obtain ⟨u, rfl, ru⟩ : ∃ u, us = [u] ∧ RelV x u := by
    cases r with
    | cons r1 r2 => cases r2; exact ⟨_, rfl, r1⟩
  have big : ∀ a, u = .ref a → wpAny (model X.prog X.w) X.A (call (.builtin "repr") [u]) (EP X pins σ Q) X.xe s := fun a e => by
    subst e
    obtain ⟨as, rd⟩ := Dp.reads I d x _ dp ru
    exact PySem.repr_of_reads' rd hs (PyData.noDict_hsm (PyData.hasDict_of_canLay d hl)) hg (by omega) (fun _ _ z => z) (fun h2 u tk k => ⟨.str d.shown, H, I.kept k, ⟨_, rfl⟩, q⟩) hz
  cases dp with
  | non =>
    cases ru
    simp only [PyData.shown] at q
    exact PySem.P.repr_of_none ⟨.str _, H, I.tok _, ⟨_, rfl⟩, q⟩
  | bl b =>
    cases ru
    simp only [PyData.shown] at q
    refine PySem.P.repr_of_bool ⟨.str _, H, I.tok _, ⟨_, rfl⟩, ?_⟩
    cases b <;> exact q
  | int i =>
    obtain ⟨t, rfl⟩ := ru
    simp only [PyData.shown] at q
    simp only [PyData.showable, decide_eq_true_eq] at hs
    exact PySem.P.repr_of_int hs ⟨.str _, H, I.tok _, ⟨_, rfl⟩, q⟩
  | str y =>
    obtain ⟨t, rfl⟩ := ru
    simp only [PyData.shown] at q hz
    exact PySem.P.repr_of_str ⟨.str _, H, I.tok _, ⟨_, rfl⟩, q⟩ hz
  | tup => exact big _ ru
  | lst => exact big _ ru
theorem c_repr (hg : X.A.guards = some []) (hu : X.A.units + 64 < cLine) : PDC X (.builtin "repr") (rRepr X.K) cRepr := ⟨call_reprD hg hu, fun M G ρ σ H vs ds P Q r h hp k => by
  obtain ⟨x, rfl, hp1⟩ := one1_of hp
  obtain ⟨v, rfl, hv⟩ := h.oneI
  obtain ⟨⟨h1, h2, h3⟩, p⟩ := hp1
  exact ⟨v, x.py, rfl, hv.dp r.frm.gs 60 h1, fit_shape 60 x h1, h2, h3, k _ _ G H p r (Same.refl G) (.str _)⟩⟩
/-- strings told apart -/
theorem RG.units {k : Nat} {A : Around} (h : RG k A) : A.units + 65 < cLine := by have := h.rm.un; omega
theorem RG.u64 {k : Nat} {A : Around} (h : RG k A) : A.units + 64 < cLine := by have := h.rm.un; omega
end
/-! ### the law's end -/
theorem law_g {P : Program} {w : World} {K : PySem.W.Frag} {mg mb : Str → Option Value} {k : Nat} {fa a : Addr} {fd : FuncData} {x : Str} {sp : Sp} {s : Shared} {us : List Value} {ns : List Int}
    (kx : K.In s.heap) (n1 : s.heap.Ns mainGlobals mg) (n2 : s.heap.Ns builtinsNs mb) (n3 : ∀ y : Str, y ≠ "__name__" → mb y = bootBuiltins y) (nl : s.heap.NoLimit) (ng : s.gens = #[])
    (oa : s.heap.get? a = some { cls := .type "list", data := .seq us.toArray }) (ia : IntsAre us ns) (ln : ns.length ≤ sizeLine) (hr : RG k callerA)
    (F : ∀ base : Heap, K.In base → base.Ns mainGlobals mg → FnG P w K mg base k fa fd [x] sp) (bd : ∀ (s : Shared) (u : Value), BindsTo s fd ⟨[u], []⟩ [(x, u)])
    (hs : ∀ H : Hp, Only H → SqL K H a (ns.map V.int) → sp [.ref a] H (fun v _ => v = .bl true) fun _ _ _ => False) :
    codeAny (model P w) callerA (.call (.ref fa) ⟨[.ref a], []⟩) (fun r s' => r = .ok (.ret (.bool true)) ∧ OldK s.heap s'.heap ∧ s'.os = s.os ∧ AllBare s'.gens) s := by
  have rv := vals_ints ia
  have lv := ia.length
  -- H: nothing is tracked, or the script alone
  have main : ∀ H : Hp, Only H → SqL K H a (ns.map V.int) → HOk P w H s.heap → (∀ b, b ≠ a → H b = none) → (H a = none ∨ K.lookup a = none) →
      codeAny (model P w) callerA (.call (.ref fa) ⟨[.ref a], []⟩) (fun r s' => r = .ok (.ret (.bool true)) ∧ OldK s.heap s'.heap ∧ s'.os = s.os ∧ AllBare s'.gens) s := by
    intro H hO hS hok far near
    have same : ∀ {b : Addr} {o : Obj}, s.heap.get? b = some o → (b = a → H a = none) → (hidT s.heap H).get? b = some o := fun {b o} e z => hidT_get e (by
      by_cases q : b = a
      · rw [q]; exact z q
      · exact far b q)
    have nsame : ∀ {b : Addr} {m : Str → Option Value}, s.heap.Ns b m → (hidT s.heap H).Ns b m := fun {b m} ⟨o, es, ep, e, d, r⟩ => by
      refine ⟨o, es, ep, same e fun z => ?_, d, r⟩
      rw [z, oa] at e
      have e := Option.some.inj e
      rw [← e] at d
      have d : Data.seq us.toArray _ = Data.dict es ep := d
      cases d
    have kb : K.In (hidT s.heap H) := fun b o e => same (kx b o e) fun z => by
      subst z
      rcases near with q | q
      · exact q
      · rw [q] at e; cases e
    have md : Mod K mg (hidT s.heap H) := ⟨kb, nsame n1, ⟨mb, nsame n2, n3⟩, nl.elim fun mc q => ⟨mc, nsame q.1, q.2⟩⟩
    have e0 : Env0 P w K mg (hidT s.heap H) callerA [] s H := ⟨rfl, md, fun b o e => of_hidT e, Nat.le_of_eq (hidT_size _ _), trivial, fun b hb => (nomatch hb), hok, .of_eq ng⟩
    have go := (F _ kb (nsame n1)).go callerA [] s H ⟨[.ref a], []⟩ [.ref a] [.ref a] _ _ hr e0 (bd s (.ref a)) (.cons rfl .nil) (hs H hO hS)
    refine codeAny_mono go fun r s2 h => ?_
    match r, h with
    | .error e, h => exact (show False from h).elim
    | .ok .next, h => exact h.elim
    | .ok .brk, h => exact h.elim
    | .ok .cont, h => exact h.elim
    | .ok (.ret u), ⟨v, H2, os, bare, un, hok2, rv2, q⟩ =>
      obtain rfl : v = .bl true := q
      obtain rfl : u = Value.bool true := rv2
      refine ⟨rfl, OldK.of_keep fun b o e => ?_, os, bare⟩
      rcases hO b with z | ⟨ob, xs, z⟩
      · exact un.keep b o e z (fun z => nomatch z) (fun z => nomatch z)
      · have w1 := (hok b _ z).1
        have w2 := (hok2 b _ (un.frzs b ob _ z)).1
        rw [e] at w1; cases w1
        exact w2
  by_cases hk : K.lookup a = none
  · refine main (fun b => if b = a then some (.frz { cls := .type "list", data := .seq us.toArray } (.lst (ns.map V.int))) else none) (fun b => ?_) (.inl (.inr ⟨_, if_pos rfl⟩)) (fun b u z => ?_) (fun b z => if_neg z) (.inr hk)
    · by_cases z : b = a
      · exact .inr ⟨_, _, if_pos z⟩
      · exact .inl (if_neg z)
    · by_cases q : b = a
      · have z := (if_pos q).symm.trans z
        cases z
        subst q
        exact ⟨oa, by rw [List.length_map]; exact ln, us, _, rv, oa⟩
      · have z := (if_neg q).symm.trans z
        cases z
  · obtain ⟨o, e⟩ := Option.ne_none_iff_exists'.mp hk
    have e2 := kx a o e
    rw [oa] at e2
    cases e2
    exact main (fun _ => none) (fun _ => .inl rfl) (.inr ⟨_, us.toArray, _, e, rfl, rfl, rfl, by rw [List.size_toArray, lv]; exact ln, by simpa using rv⟩) (fun b u z => nomatch z) (fun _ _ => rfl) (.inl rfl)
theorem walk_g {l : PySem.W.OpenLaw} {n k : Nat} {q : Program} {loose : List Str} {XP : (Str → Option Value) → Heap → Prop} {YP : World → Heap → Prop} {d : DefRec} {x : Str} (hn : l.most = some n) (hz : n ≤ sizeLine) (hd : d.params.defaults = []) (hr : RG k callerA)
    (F : ∀ (w : World) (mg : Str → Option Value) (fa : Addr) (h : Heap), YP w h → h.Ns mainGlobals mg → mg d.name = some (.ref fa) → ∃ (K : PySem.W.Frag) (fd : FuncData) (sp : Sp), K.In h ∧ (∀ (s : Shared) (u : Value), BindsTo s fd ⟨[u], []⟩ [(x, u)]) ∧
      (∀ (H : Hp) (a : Addr) (ns : List Int), ns.length ≤ n → (∀ i ∈ ns, Builtin.Int.intBits i ≤ 1048576) → SqL K H a (ns.map V.int) → sp [.ref a] H (fun v _ => v = .bl true) fun _ _ _ => False) ∧ ∀ base : Heap, K.In base → base.Ns mainGlobals mg → FnG l.prog w K mg base k fa fd [x] sp) :
    PySem.W.WalkO q loose XP YP l.row.toRowW d [] (fun f vs => PySem.call f vs) := by
  refine Att.attach_callB hn hd fun w s0 s mg mb fa o pm cd doc a us ns g Y ho hod hcd hm oa ia ln hb ng => ?_
  obtain ⟨K, fd, sp, kx, bd, hsp, hF⟩ := F w mg fa _ Y g.T.g hm
  exact law_g kx g.T.g g.T.b g.T.builtins g.T.nolimit ng oa ia (Nat.le_trans ln hz) hr hF bd fun H _ hS => hsp H a ns ln hb hS
theorem rg_caller {k : Nat} (h : Room k callerA) : RG k callerA := ⟨h, rfl⟩
end PD

namespace PD
open PySem PySem.Spec PyProof.Rows L2
section
variable {X : Cx} {K : PySem.W.Frag} {pos : Pos}
/-! ### what stands at the top -/
theorem d_ci {x : Str} {i : Int} (hg : Gl X x) (h : ∃ t, X.mg x = some (.int i t)) (hd : (x == ("__debug__" : Str)) = false := by decide) : PDE X (.Name x pos) (tC (.int i)) (dC (.int i)) := by
  obtain ⟨t, e⟩ := h
  exact d_glob hg e ⟨t, rfl⟩ (fun _ => .int i) hd
theorem d_ct {x : Str} {a : Addr} {d : D} (hg : Gl X x) (h : X.mg x = some (.ref a)) (r : ∀ G, Rp X.K G (.ref a) d) (hd : (x == ("__debug__" : Str)) = false := by decide) : PDE X (.Name x pos) (tC (.ref a)) (dC d) := d_glob hg h rfl r hd
/-! ### a call by names alone -/
structure PDK (X : Cx) (es : List Keyword) (t : TA) (d : DA) : Prop where
  pe : PK X es t
  se : SA X.K t d
theorem k_nil : PDK X [] tNil dNil := ⟨pk_nil, a_nil (X := X).se⟩
theorem k_cons {e : Expr} {es : List Keyword} {te : TE} {t : TA} {de : DE} {d : DA} {nm : Option Str} {kp : Pos} (h : PDE X e te de) (hr : PDK X es t d) : PDK X (⟨nm, e, kp⟩ :: es) (tCons te t) (dCons de d) := ⟨pk_cons h.pe hr.pe, fun M G ρ σ H P Q rl hp k => by
  refine h.se M G ρ σ H _ _ rl hp fun x vx G1 H1 p1 r1 s1 q1 => ?_
  exact hr.se M G1 ρ σ H1 _ _ r1 p1 fun xs vs G2 H2 p2 r2 s2 q2 => k _ _ G2 H2 p2 r2 (s1.trans s2) (.cons (q1.mono s2) q2)⟩
def KwBnd (x : Str) (st : Stmt) (ps ks : List Str) (g : {α : Type} → List α → List α) : Prop := ∀ (kV doc pm : Value) (an : Option Addr) (cdv ct : Value) (us : List Value), us.length = ks.length → bindArgs (PySem.W.fnOf x x (defArgs st) (defBody st) (defScope st) .none kV doc pm an cdv ct) ⟨[], ks.zip us⟩ = pure (ps.zip (g us))
/-- g puts things in another order -/
def PermL (g : {α : Type} → List α → List α) : Prop := ∀ {α β : Type} (R : α → β → Prop) (xs : List α) (ys : List β), Paired R xs ys → Paired R (g xs) (g ys)
theorem RpL.pair {G : Hp} : ∀ {vs : List V} {ds : List D}, RpL K G vs ds → Paired (Rp K G) vs ds
  | _, _, .nil => .nil
  | _, _, .cons h t => .cons h t.pair
theorem RpL.unpair {G : Hp} : ∀ {vs : List V} {ds : List D}, Paired (Rp K G) vs ds → RpL K G vs ds
  | _, _, .nil => .nil
  | _, _, .cons h t => .cons h (RpL.unpair t)
def dKw (n : Nat) (g : {α : Type} → List α → List α) (c : DA → DE) (a : DA) : DE := c fun ρ P => a ρ fun ds => ds.length = n ∧ P (g ds)
end
section
variable {X : Cx} {pos : Pos}
theorem dg_callK {x : Str} {st : Stmt} {ps ks : List Str} {k n : Nat} {pre : Pre} {p : Pos} {kws : List Keyword} {t : TA} {d : DA} {g : {α : Type} → List α → List α} (F : DefG X.prog X.w X.K X.mg X.base x ps k (spP X.K n pre)) (A : At X.K X.mg x st) (B : KwBnd x st ps ks g) (hp : PermL g) (hr : RG k X.A) (hg : Gl X x)
    (ha : PDK X kws t d) (hall : (backToKw pos (keywordEach kws X.env)).all (·.1.isSome) = true := by rfl) (hks : (backToKw pos (keywordEach kws X.env)).filterMap (·.1) = ks := by rfl) (hdb : (x == ("__debug__" : Str)) = false := by decide)
    (hpl : ((backTo pos (starEach [] X.env)).any (·.1) || (backToKw pos (keywordEach kws X.env)).any (·.1.isNone)) = false := by rfl) :
    PDE X (.Call (.Name x p) [] kws pos) (tKw ks.length (spP X.K n pre) g t) (dKw ks.length g (dCall n pre) d) := by
  obtain ⟨f, fd, hm, F, hk, hb, oc, od, osl, lk⟩ := F.ex
  obtain ⟨f', fd', hm', A⟩ := A.ex
  have hm2 := hm
  rw [hm'] at hm2
  cases hm2
  obtain ⟨oc', od', dV, kV, doc, pm, an, cdv, ct, osl', e, lk', _, hD, hK⟩ := A.ex
  rw [lk] at lk'
  cases lk'
  have hB : KwB X.K fd ps ks g := ⟨fun s ws _ hl => .of_eq (by
    rcases hD with ⟨_, rfl⟩ | ⟨z, _⟩
    · rw [e]
      exact B _ _ _ _ _ _ ws hl
    · exact absurd rfl z), fun r => hp _ _ _ r⟩
  refine ⟨pe_gK F hr hg hm hk hB ha.pe hall hks hdb hpl, fun M G ρ σ H P Q rl h l => ha.se M G ρ σ H _ _ rl h fun ds vs G1 H1 p1 r1 s1 q1 => ?_⟩
  have q2 : RpL X.K G1 (g vs) (g ds) := RpL.unpair (hp _ _ _ q1.pair)
  obtain ⟨hl, hn, hp1⟩ := p1
  exact ⟨q1.len.trans hl, G1, g ds, P, hn, r1.frm.gs, q2, hp1, fun d v G' H' p c gh hh nw q => l d v G' H' p (r1.after c gh hh nw) (s1.trans c) q⟩
end
/-! ### the urn -/
section
variable {K : PySem.W.Frag} {M : Fm} {G H : Hp} {ρ : Env} {σ : L2.St}
theorem Rel.urAt {i : Nat} {P : Prop} (r : Rel K M G ρ σ H) (h : (sat ρ i).urP P) : ∃ u x y z, P ∧ M.U = some u ∧ σ[i]? = some (some (.ref u)) ∧ H u = some (.lst [.int x, .int y, .int z]) := by
  obtain ⟨e, p⟩ := Sl.urP_of h
  obtain ⟨u, hu, e1⟩ := r.sl i _ (sat_get e (fun z => nomatch z))
  obtain ⟨_, _, x, y, z, q⟩ := r.frm.ur u hu
  exact ⟨u, x, y, z, p, hu, e1, q⟩
theorem Rel.urw {u : Addr} {x y z : Int} (r : Rel K M G ρ σ H) (hu : M.U = some u) : Rel K M G ρ σ (upd H u (.lst [.int x, .int y, .int z])) := by
  obtain ⟨h1, h2, _⟩ := r.frm.ur u hu
  refine ⟨⟨to_upd r.frm.gs h2, to_upd r.frm.fs h1, r.frm.lk, r.frm.lf, fun v hv => ?_⟩, r.len, fun j s e => ?_, r.sep⟩
  · rw [hu] at hv
    cases hv
    exact ⟨h1, h2, x, y, z, upd_same⟩
  · refine (r.sl j s e).grow (Same.refl G) fun a vs g1 _ g3 g4 => ⟨g1, ?_⟩
    rw [upd_ne fun z => g3 (by rw [z]; exact hu)]
    exact g4
theorem urn_at {x y z : Int} {k : Int} (h : k = 0 ∨ k = 1 ∨ k = 2) : ∃ n : Int, atI [V.int x, .int y, .int z] k = some (.int n) := by
  rcases h with rfl | rfl | rfl
  · exact ⟨x, rfl⟩
  · exact ⟨y, rfl⟩
  · exact ⟨z, rfl⟩
theorem urn_set {x y z n : Int} {k : Int} (h : k = 0 ∨ k = 1 ∨ k = 2) : ∃ (j : Nat) (x' y' z' : Int), ixN ([V.int x, .int y, .int z] : List V).length k = some j ∧ [V.int x, .int y, .int z].set j (.int n) = [.int x', .int y', .int z'] := by
  rcases h with rfl | rfl | rfl
  · exact ⟨0, n, y, z, rfl, rfl⟩
  · exact ⟨1, x, n, z, rfl, rfl⟩
  · exact ⟨2, x, y, n, rfl, rfl⟩
end
section
variable {X : Cx} {pos : Pos}
/-- u[k]: any number -/
def dUIx (i : Nat) : DE := fun ρ P => (sat ρ i).urP (∀ n : Int, P (.int n))
theorem d_uIx (i : Nat) {x : Str} {p q : Pos} {k : Int} {j} (hk : k = 0 ∨ k = 1 ∨ k = 2) (hN : X.N[i]? = some x := by rfl) (hv : Vis X.env.scope x := by first | exact Or.inl rfl | exact Or.inr (Or.inl rfl) | exact Or.inr (Or.inr rfl)) (hd : (x == ("__debug__" : Str)) = false := by decide)
    (hcd : (x == ("__classdict__" : Str)) = false := by decide) : PDE X (.Subscript (.Name x p) (.Constant (.int k) j q) pos) (tOp (rIxL X.K) (tVar i) (tC (.int k))) (dUIx i) :=
  ⟨pe_ix ix_list (pe_var hN hv hd hcd) pe_int (fun _ _ => rfl), fun M G ρ σ H P Q rl hp l => by
    obtain ⟨u, a, b, c, p1, hu, e1, e2⟩ := rl.urAt hp
    obtain ⟨n, en⟩ := urn_at (x := a) (y := b) (z := c) hk
    exact ⟨_, e1, u, _, k, _, rfl, rfl, .inl (.inl e2), en, l _ _ G H (p1 n) rl (Same.refl G) (.int n)⟩⟩
/-- u[k] = e -/
def dUSet (i : Nat) (e : DE) : DS := fun P ρ => e ρ fun d => d.intP fun _ => (sat ρ i).urP (P.nx ρ)
theorem s_uSet (i : Nat) {x : Str} {p q r : Pos} {k : Int} {j} {e : Expr} {te : TE} {d : DE} (hk : k = 0 ∨ k = 1 ∨ k = 2) (h : PDE X e te d) (hN : X.N[i]? = some x := by rfl) (hv : Vis X.env.scope x := by first | exact Or.inl rfl | exact Or.inr (Or.inl rfl) | exact Or.inr (Or.inr rfl))
    (hd : (x == ("__debug__" : Str)) = false := by decide) (hcd : (x == ("__classdict__" : Str)) = false := by decide)
    (hs : swapsWithSole [.Subscript (.Name x p) (.Constant (.int k) j q) r] e pos.line X.env = pure false := by rfl) (hw : swappedStores [.Subscript (.Name x p) (.Constant (.int k) j q) r] e X.env = pure none := by rfl)
    (h1 : (assignEach [.Subscript (.Name x p) (.Constant (.int k) j q) r] X.env).map (·.2) = [assign (.Subscript (.Name x p) (.Constant (.int k) j q) r) X.env] := by rfl) :
    PDS X (.Assign [.Subscript (.Name x p) (.Constant (.int k) j q) r] e pos) (tAsg te (gSub (tVar i) (tC (.int k)) rSetL)) (dUSet i d) :=
  ⟨ps_asg h.pe (pg_sub (pe_var hN hv hd hcd) pe_int set_list) hs hw h1, fun M G ρ σ H P Dn rl hp l => by
    refine h.se M G ρ σ H _ _ rl hp fun d v G1 H1 p1 r1 s1 q1 => ?_
    obtain ⟨n, rfl, p1⟩ := D.intP_of p1
    obtain ⟨u, a, b, c, p1, hu, e1, e2⟩ := r1.urAt p1
    obtain ⟨m, a', b', c', em, es⟩ := urn_set (x := a) (y := b) (z := c) (n := n) hk
    refine ⟨_, e1, u, _, k, m, rfl, rfl, e2, em, ?_⟩
    rw [q1.intI, es]
    exact l.nx _ _ G1 _ p1 (r1.urw hu) s1⟩
/-- u[k], y = e -/
def pairI (P : D → Prop) : List D → Prop
  | [.int _, b] => P b
  | _ => False
theorem pairI_of {P : D → Prop} : ∀ {ds : List D}, pairI P ds → ∃ n b, ds = [.int n, b] ∧ P b := fun {ds} h => by
  unfold pairI at h
  split at h
  · exact ⟨_, _, rfl, h⟩
  · exact h.elim
def dUDiv (i y : Nat) (e : DE) : DS := fun P ρ => e ρ fun d => d.tupP (pairI fun b => (sat ρ i).urP (P.nx (ρ.set y (.fz b))))
theorem s_uDiv (i y : Nat) {x z : Str} {p q r pz pt : Pos} {k : Int} {j kt} {e : Expr} {te : TE} {d : DE} (hc : X.calm = true) (hk : k = 0 ∨ k = 1 ∨ k = 2) (hD : X.N.Nodup) (h : PDE X e te d) (hN : X.N[i]? = some x := by rfl) (hv : Vis X.env.scope x := by first | exact Or.inl rfl | exact Or.inr (Or.inl rfl) | exact Or.inr (Or.inr rfl))
    (hd : (x == ("__debug__" : Str)) = false := by decide) (hcd : (x == ("__classdict__" : Str)) = false := by decide) (hz : X.N[y]? = some z := by rfl) (hx : Loc X.env.scope z := by first | exact Or.inl rfl | exact Or.inr rfl)
    (hf : X.fn z = true ∨ X.env.scope.names.lookup z = some .local := by first | exact .inl rfl | exact .inr rfl | assumption)
    (hs : swapsWithSole [.Tuple [.Subscript (.Name x p) (.Constant (.int k) j q) r, .Name z pz] kt pt] e pos.line X.env = pure false := by rfl) (hw : swappedStores [.Tuple [.Subscript (.Name x p) (.Constant (.int k) j q) r, .Name z pz] kt pt] e X.env = pure none := by rfl)
    (h1 : (assignEach [.Tuple [.Subscript (.Name x p) (.Constant (.int k) j q) r, .Name z pz] kt pt] X.env).map (·.2) = [assign (.Tuple [.Subscript (.Name x p) (.Constant (.int k) j q) r, .Name z pz] kt pt) X.env] := by rfl)
    (hs1 : (assignEach [.Subscript (.Name x p) (.Constant (.int k) j q) r, .Name z pz] X.env).map (·.2) = assign (.Subscript (.Name x p) (.Constant (.int k) j q) r) X.env :: (assignEach [.Name z pz] X.env).map (·.2) := by rfl)
    (hs2 : (assignEach [.Name z pz] X.env).map (·.2) = assign (.Name z pz) X.env :: (assignEach [] X.env).map (·.2) := by rfl)
    (hst : (assignEach [.Subscript (.Name x p) (.Constant (.int k) j q) r, .Name z pz] X.env).findIdx? (·.1) = none := by rfl) (hn : (assignEach [.Subscript (.Name x p) (.Constant (.int k) j q) r, .Name z pz] X.env).length = 2 := by rfl) :
    PDS X (.Assign [.Tuple [.Subscript (.Name x p) (.Constant (.int k) j q) r, .Name z pz] kt pt] e pos) (tAsg te (gTup X.K 2 (gCons (gSub (tVar i) (tC (.int k)) rSetL) (gCons (gName y) gNil)))) (dUDiv i y d) :=
  ⟨ps_asg h.pe (pg_tup hc (pgs_cons (pg_sub (pe_var hN hv hd hcd) pe_int set_list) (pgs_cons (pg_name hD hz hx hf) pgs_nil hs2) hs1) hn hst) hs hw h1, fun M G ρ σ H P Dn rl hp l => by
    refine h.se M G ρ σ H _ _ rl hp fun d v G1 H1 p1 r1 s1 q1 => ?_
    obtain ⟨ds, rfl, p1⟩ := D.tupP_of p1
    obtain ⟨t, vs, rfl, ht, qt⟩ := q1.tupI
    obtain ⟨n, b, rfl, p1⟩ := pairI_of p1
    obtain ⟨v1, w1, rfl, hv1, qt⟩ := qt.consI
    obtain ⟨v2, w2, rfl, hv2, qt⟩ := qt.consI
    obtain rfl := qt.nilI
    obtain ⟨u, a, b', c, p1, hu, e1, e2⟩ := r1.urAt p1
    obtain ⟨m, a', b', c', em, es⟩ := urn_set (x := a) (y := b') (z := c) (n := n) hk
    refine ⟨t, _, rfl, same_sqT r1.frm.gs ht, rfl, v1, [v2], rfl, _, e1, u, _, k, m, rfl, rfl, e2, em, v2, [], rfl, ?_⟩
    rw [hv1.intI, es]
    exact ⟨rfl, l.nx _ _ G1 _ p1 ((r1.urw hu).setF hv2 y) s1⟩⟩
end
end PD

namespace PD
open PySem PySem.Spec PyProof.Rows L2
/-! ### xs[i] = e, of a list of one's own -/
section
variable {X : Cx} {pos : Pos}
def dSetO (i : Nat) (ix e : DE) : DS := fun P ρ => e ρ fun d => (sat ρ i).owP fun ds => ix ρ fun x => x.intP fun k => optP (fun j => P.nx (ρ.set i (.ow (ds.set j d)))) (ixN ds.length k)
theorem s_setI (i : Nat) {x : Str} {p r : Pos} {b e : Expr} {tb te : TE} {db d : DE} (h : PDE X e te d) (hb : PDE X b tb db) (hN : X.N[i]? = some x := by rfl) (hv : Vis X.env.scope x := by first | exact Or.inl rfl | exact Or.inr (Or.inl rfl) | exact Or.inr (Or.inr rfl))
    (hd : (x == ("__debug__" : Str)) = false := by decide) (hcd : (x == ("__classdict__" : Str)) = false := by decide)
    (ha : ∀ v, assign (.Subscript (.Name x p) b r) X.env v = (do
      let ov ← holding [v] (eval (.Name x p) X.env)
      let iv ← holding [v, ov] (eval b X.env)
      standAt r
      holding [v, ov, iv] (setItem ov iv v)
      release [v, ov, iv] []) := by intro _; rfl)
    (hs : swapsWithSole [.Subscript (.Name x p) b r] e pos.line X.env = pure false := by rfl) (hw : swappedStores [.Subscript (.Name x p) b r] e X.env = pure none := by rfl)
    (h1 : (assignEach [.Subscript (.Name x p) b r] X.env).map (·.2) = [assign (.Subscript (.Name x p) b r) X.env] := by rfl) :
    PDS X (.Assign [.Subscript (.Name x p) b r] e pos) (tAsg te (gSub (tVar i) tb rSetL)) (dSetO i db d) :=
  ⟨ps_asg h.pe (pg_sub (pe_var hN hv hd hcd) hb.pe set_list ha) hs hw h1, fun M G ρ σ H P Dn rl hp l => by
    refine h.se M G ρ σ H _ _ rl hp fun d v G1 H1 p1 r1 s1 q1 => ?_
    obtain ⟨ds, a, vs, p1, e1, e2, g1, h1, q2⟩ := r1.owAt p1
    refine ⟨_, e2, hb.se M G1 ρ σ H1 _ _ r1 p1 fun y w G2 H2 p2 r2 s2 q3 => ?_⟩
    obtain ⟨k, rfl, p2⟩ := D.intP_of p2
    obtain ⟨j, ej, p2⟩ := optP_of p2
    obtain ⟨ws, h2, q4⟩ := r2.owAdr r2 e1 e2
    exact ⟨a, ws, k, j, rfl, q3.intI, h2, by rw [q4.len]; exact ej, l.nx _ _ G2 _ p2 (r2.wr e1 e2 h2 (RpL.set (q1.mono s2) j q4)) (s1.trans s2)⟩⟩
end
/-! ### lists of one's own lent to an expression -/
def Sl.lent : Sl → Sl
  | .ow ds => .fz (.lst ds)
  | s => s
def lentE (ρ : Env) : Env := ρ.map Sl.lent
mutual
/-- no list stands in it -/
def D.noL : D → Bool
  | .lst _ => false
  | .scr _ => false
  | .st _ => false
  | .tup xs => noLs xs
  | _ => true
def noLs : List D → Bool
  | [] => true
  | x :: xs => x.noL && noLs xs
end
section
variable {K : PySem.W.Frag} {M : Fm} {G G' G2 H H2 : Hp} {ρ : Env} {σ : L2.St}
/-- the owned addresses -/
def OwA (ρ : Env) (σ : L2.St) (b : Addr) : Prop := ∃ (i : Nat) (ds : List D), ρ[i]? = some (Sl.ow ds) ∧ σ[i]? = some (some (V.ref b))
open Classical in
noncomputable def lendG (ρ : Env) (σ : L2.St) (G H : Hp) : Hp := fun b => if OwA ρ σ b then H b else G b
open Classical in
noncomputable def backG (ρ : Env) (σ : L2.St) (G2 : Hp) : Hp := fun b => if OwA ρ σ b then none else G2 b
theorem lendG_ow {b : Addr} (h : OwA ρ σ b) : lendG ρ σ G H b = H b := if_pos h
theorem lendG_out {b : Addr} (h : ¬ OwA ρ σ b) : lendG ρ σ G H b = G b := if_neg h
theorem backG_ow {b : Addr} (h : OwA ρ σ b) : backG ρ σ G2 b = none := if_pos h
theorem backG_out {b : Addr} (h : ¬ OwA ρ σ b) : backG ρ σ G2 b = G2 b := if_neg h
open Classical in
/-- all of H but the urn -/
noncomputable def allBut (H : Hp) (U : Option Addr) : Hp := fun b => if U = some b then none else H b
theorem allBut_u {b : Addr} {U : Option Addr} (h : U = some b) : allBut H U b = none := if_pos h
theorem allBut_o {b : Addr} {U : Option Addr} (h : U ≠ some b) : allBut H U b = H b := if_neg h
noncomputable def lendM (M : Fm) (H : Hp) : Fm := ⟨allBut H M.U, M.L, M.U⟩
theorem Rel.owOf (r : Rel K M G ρ σ H) {b : Addr} (h : OwA ρ σ b) : G b = none ∧ M.F b = none ∧ M.U ≠ some b ∧ ∃ vs, H b = some (.lst vs) := by
  obtain ⟨i, ds, e1, e2⟩ := h
  obtain ⟨a, vs, e, h1, h2, h3, h4, _⟩ := r.sl i _ e1
  rw [e2] at e
  cases e
  exact ⟨h1, h2, h3, vs, h4⟩
theorem Rel.lendS (r : Rel K M G ρ σ H) : Same G (lendG ρ σ G H) := fun b o e => by
  by_cases h : OwA ρ σ b
  · rw [(r.owOf h).1] at e; cases e
  · rw [lendG_out h]; exact e
theorem Rel.lend (r : Rel K M G ρ σ H) : Rel K (lendM M H) (lendG ρ σ G H) (lentE ρ) σ H where
  frm := by
    refine ⟨fun b o e => ?_, fun b o e => ?_, fun b hb => ?_, fun b hb => ?_, fun u hu => ?_⟩
    · by_cases h : OwA ρ σ b
      · rw [lendG_ow h] at e; exact e
      · rw [lendG_out h] at e; exact r.frm.gs _ _ e
    · by_cases h : M.U = some b
      · have e : allBut H M.U b = some o := e
        rw [allBut_u h] at e; cases e
      · have e : allBut H M.U b = some o := e
        rw [allBut_o h] at e; exact e
    · by_cases h : OwA ρ σ b
      · exact absurd (r.owOf h).2.1 (r.frm.lf b hb)
      · rw [lendG_out h]; exact r.frm.lk b hb
    · show allBut H M.U b ≠ none
      have hF := r.frm.lf b hb
      by_cases h : M.U = some b
      · exact absurd (r.frm.ur b h).1 hF
      · rw [allBut_o h]
        exact fun z => hF (r.frm.fs.free z)
    · have hu : M.U = some u := hu
      obtain ⟨h1, h2, h3⟩ := r.frm.ur u hu
      refine ⟨allBut_u hu, ?_, h3⟩
      rw [lendG_out fun z => (r.owOf z).2.2.1 hu]; exact h2
  len := by unfold lentE; rw [List.length_map]; exact r.len
  sl := fun i s e => by
    unfold lentE at e
    rw [List.getElem?_map] at e
    cases q : ρ[i]? with
    | none => rw [q] at e; cases e
    | some t =>
      rw [q] at e
      have e : t.lent = s := Option.some.inj e
      subst e
      have k := r.sl i t q
      cases t with
      | no => trivial
      | fz d => obtain ⟨v, e1, k⟩ := k; exact ⟨v, e1, k.mono r.lendS⟩
      | ur => exact k
      | ow ds =>
        obtain ⟨a, vs, e1, h1, h2, h3, h4, k⟩ := k
        refine ⟨.ref a, e1, .lst (.inl ?_) (k.mono r.lendS)⟩
        rw [lendG_ow ⟨i, ds, q, e1⟩]; exact h4
  sep := fun i j a ds es hij e1 _ _ _ => by
    unfold lentE at e1
    rw [List.getElem?_map] at e1
    cases q : ρ[i]? with
    | none => rw [q] at e1; cases e1
    | some t => rw [q] at e1; cases t <;> cases Option.some.inj e1
theorem Rel.backS (r : Rel K M G ρ σ H) (s : Same (lendG ρ σ G H) G2) : Same G (backG ρ σ G2) := fun b o e => by
  by_cases h : OwA ρ σ b
  · rw [(r.owOf h).1] at e; cases e
  · rw [backG_out h]; exact s _ _ (by rw [lendG_out h]; exact e)
theorem Rel.back (r : Rel K M G ρ σ H) (r2 : Rel K (lendM M H) G2 (lentE ρ) σ H2) (s : Same (lendG ρ σ G H) G2) : Rel K M (backG ρ σ G2) ρ σ H2 where
  frm := by
    have keep : ∀ b o, M.U ≠ some b → H b = some o → H2 b = some o := fun b o h e => r2.frm.fs b o (by show allBut H M.U b = some o; rw [allBut_o h]; exact e)
    refine ⟨fun b o e => ?_, fun b o e => ?_, fun b hb => ?_, r.frm.lf, fun u hu => ?_⟩
    · by_cases h : OwA ρ σ b
      · rw [backG_ow h] at e; cases e
      · rw [backG_out h] at e; exact r2.frm.gs _ _ e
    · refine keep b o (fun z => ?_) (r.frm.fs _ _ e)
      rw [(r.frm.ur b z).1] at e; cases e
    · by_cases h : OwA ρ σ b
      · exact backG_ow h
      · rw [backG_out h]; exact r2.frm.lk b hb
    · obtain ⟨_, h2, h3⟩ := r2.frm.ur u hu
      refine ⟨(r.frm.ur u hu).1, ?_, h3⟩
      rw [backG_out fun z => (r.owOf z).2.2.1 hu]; exact h2
  len := r.len
  sl := fun i t e => by
    have k := r.sl i t e
    cases t with
    | no => trivial
    | fz d => obtain ⟨v, e1, k⟩ := k; exact ⟨v, e1, k.mono (r.backS s)⟩
    | ur => exact k
    | ow ds =>
      obtain ⟨a, vs, e1, h1, h2, h3, h4, k⟩ := k
      refine ⟨a, vs, e1, backG_ow ⟨i, ds, e, e1⟩, h2, h3, ?_, k.mono (r.backS s)⟩
      exact r2.frm.fs a _ (by show allBut H M.U a = _; rw [allBut_o h3]; exact h4)
  sep := r.sep
mutual
theorem Rp.back (r : Rel K M G ρ σ H) (s : Same (lendG ρ σ G H) G2) : ∀ {v : V} {d : D}, Rp K G2 v d → d.noL = true → Rp K (backG ρ σ G2) v d
  | _, _, .non, _ => .non
  | _, _, .bl b, _ => .bl b
  | _, _, .int i, _ => .int i
  | _, _, .str x, _ => .str x
  | _, _, .fn a, _ => .fn a
  | _, _, .ty n, _ => .ty n
  | _, _, .lst _ _, h => by simp [D.noL] at h
  | _, _, .scr _, h => by simp [D.noL] at h
  | _, _, .st _ _ _ _, h => by simp [D.noL] at h
  | _, _, .dct (a := a) (kvs := kv) h, _ => by
    refine .dct (kvs := kv) ?_
    rw [backG_out fun z => ?_]
    · exact h
    · obtain ⟨_, _, _, vs, q⟩ := r.owOf z
      have q2 := s a _ ((lendG_ow z).trans q)
      rw [h] at q2; cases q2
  | _, _, .tup (a := a) h t, q => by
    refine .tup ?_ (RpL.back r s t (by simpa [D.noL] using q))
    have no : ∀ o, G2 a = some o → (∀ vs, o ≠ .lst vs) → backG ρ σ G2 a = some o := fun o e z => by
      rw [backG_out fun w => ?_]
      · exact e
      · obtain ⟨_, _, _, vs, q⟩ := r.owOf w
        have q2 := s a _ ((lendG_ow w).trans q)
        rw [e] at q2; exact z vs (Option.some.inj q2)
    rcases h with (h | ⟨o, h⟩) | h
    · exact .inl (.inl (no _ h fun _ z => nomatch z))
    · exact .inl (.inr ⟨o, no _ h fun _ z => nomatch z⟩)
    · exact .inr h
theorem RpL.back (r : Rel K M G ρ σ H) (s : Same (lendG ρ σ G H) G2) : ∀ {vs : List V} {ds : List D}, RpL K G2 vs ds → noLs ds = true → RpL K (backG ρ σ G2) vs ds
  | _, _, .nil, _ => .nil
  | _, _, .cons h t, q => by
    simp only [noLs, Bool.and_eq_true] at q
    exact .cons (Rp.back r s h q.1) (RpL.back r s t q.2)
end
end
section
variable {X : Cx} {K : PySem.W.Frag} {pos : Pos}
def dLend (d : DE) : DE := fun ρ P => d (lentE ρ) fun x => x.noL = true ∧ P x
theorem d_lend {e : Expr} {t : TE} {d : DE} (h : PDE X e t d) : PDE X e t (dLend d) := ⟨h.pe, fun M G ρ σ H P Q rl hp k =>
  h.se _ _ _ σ H _ _ rl.lend hp fun x v G2 H2 p2 r2 s2 q2 => k x v _ H2 p2.2 (rl.back r2 s2) (rl.backS s2) (q2.back rl s2 p2.1)⟩
def dLendF (d : DA) : DA := fun ρ P => d (lentE ρ) fun xs => noLs xs = true ∧ P xs
theorem f_lend {e : Expr} {t : TE} {d : DA} (h : PDF X e t d) : PDF X e t (dLendF d) := ⟨h.pe, fun M G ρ σ H P Q rl hp k =>
  h.se _ _ _ σ H _ _ rl.lend hp fun xs vs p G2 H2 p2 r2 s2 q2 hn => k xs vs p _ H2 p2.2 (rl.back r2 s2) (rl.backS s2) (q2.back rl s2 p2.1) hn⟩
def dLendT (d : DT) : DT := fun ρ P => d (lentE ρ) P
theorem t_lend {e : Expr} {t : TT} {d : DT} (h : PDT X e t d) : PDT X e t (dLendT d) := ⟨h.pe, fun M G ρ σ H P Q rl hp k =>
  h.se _ _ _ σ H _ _ rl.lend hp fun c G2 H2 p2 r2 s2 => k c _ H2 p2 (rl.back r2 s2) (rl.backS s2)⟩
def dLendA (d : DA) : DA := fun ρ P => d (lentE ρ) fun xs => noLs xs = true ∧ P xs
theorem a_lend {es : List Expr} {t : TA} {d : DA} (h : PDA X es t d) : PDA X es t (dLendA d) := ⟨h.pe, fun M G ρ σ H P Q rl hp k =>
  h.se _ _ _ σ H _ _ rl.lend hp fun xs vs G2 H2 p2 r2 s2 q2 => k xs vs _ H2 p2.2 (rl.back r2 s2) (rl.backS s2) (q2.back rl s2 p2.1)⟩
end
/-! ### comprehensions, the parts' readings told apart -/
section
variable {X : Cx} {pos spos : Pos} {elt tg iter : Expr} {ifs : List Expr} {scope : Scope} {own : List (Str × Nat)} {wi : TI} {di : DI} {g : DG} {dt : DT} {de : DE}
abbrev BlkG (X : Cx) (scope : Scope) (tg : Expr) (g : DG) (vs : List Nat) : Prop := ∀ (s : Shared) (H : Hp) (C : Addr) (cl : List (Str × Addr)) (fp : List Addr), ∃ t, PDG (X.blk s H scope (compEnvC scope cl C X.env) fp) tg t g ∧ GW t vs
abbrev BlkT (X : Cx) (scope : Scope) (ifs : List Expr) (dt : DT) : Prop := ∀ (s : Shared) (H : Hp) (C : Addr) (cl : List (Str × Addr)) (fp : List Addr), ∃ t, PDTs (X.blk s H scope (compEnvC scope cl C X.env) fp) ifs t dt
abbrev BlkE (X : Cx) (scope : Scope) (elt : Expr) (de : DE) : Prop := ∀ (s : Shared) (H : Hp) (C : Addr) (cl : List (Str × Addr)) (fp : List Addr), ∃ t, PDE (X.blk s H scope (compEnvC scope cl C X.env) fp) elt t de
theorem BlkE.one (h : BlkE X scope elt de) : ∃ t : TE, ∀ (s : Shared) (H : Hp) (C : Addr) (cl : List (Str × Addr)) (fp : List Addr), PDE (X.blk s H scope (compEnvC scope cl C X.env) fp) elt t de :=
  ⟨fun σ H1 Q => ∀ s H C cl fp, (h s H C cl fp).choose σ H1 Q, fun s H C cl fp => ⟨⟨fun pins s1 σ H1 Q I q => (h s H C cl fp).choose_spec.pe.run pins s1 σ H1 Q I (q s H C cl fp)⟩,
    fun M G ρ σ H1 P Q rl p k s' H' C' cl' fp' => (h s' H' C' cl' fp').choose_spec.se M G ρ σ H1 P Q rl p k⟩⟩
theorem BlkT.one (h : BlkT X scope ifs dt) : ∃ t : TT, ∀ (s : Shared) (H : Hp) (C : Addr) (cl : List (Str × Addr)) (fp : List Addr), PDTs (X.blk s H scope (compEnvC scope cl C X.env) fp) ifs t dt :=
  ⟨fun σ H1 Q => ∀ s H C cl fp, (h s H C cl fp).choose σ H1 Q, fun s H C cl fp => ⟨⟨fun pins s1 σ H1 Q I q => (h s H C cl fp).choose_spec.pe.run pins s1 σ H1 Q I (q s H C cl fp)⟩,
    fun M G ρ σ H1 P Q rl p k s' H' C' cl' fp' => (h s' H' C' cl' fp').choose_spec.se M G ρ σ H1 P Q rl p k⟩⟩
theorem BlkG.one {vs : List Nat} (h : BlkG X scope tg g vs) : ∃ t : TG, GW t vs ∧ ∀ (s : Shared) (H : Hp) (C : Addr) (cl : List (Str × Addr)) (fp : List Addr), PDG (X.blk s H scope (compEnvC scope cl C X.env) fp) tg t g :=
  ⟨fun v σ H1 Q => ∀ s H C cl fp, (h s H C cl fp).choose v σ H1 Q, fun v σ H1 Q Q' q k s H C cl fp => (h s H C cl fp).choose_spec.2 v σ H1 Q Q' (q s H C cl fp) k,
    fun s H C cl fp => ⟨⟨fun pins s1 σ H1 v u Q I r q => (h s H C cl fp).choose_spec.1.pe.run pins s1 σ H1 v u Q I r (q s H C cl fp)⟩,
      fun M G ρ σ H1 v d P Q rl rv p k s' H' C' cl' fp' => (h s' H' C' cl' fp').choose_spec.1.se M G ρ σ H1 v d P Q rl rv p k⟩⟩
theorem fb_lc (hc : X.calm = true) (hN : X.N.Nodup) (hi : PDI X tg iter wi di) (ok : BlkOk X.N X.env.scope scope own) (hg : BlkG X scope tg g (own.map (·.2))) (gwd : GWd g (own.map (·.2))) (ht : BlkT X scope ifs dt) (he : BlkE X scope elt de)
    (hs : ∀ x, foldedSetIterable iter X.env x = pure x := by intro _; rfl) : ∃ t, PDF X (.ListComp elt [⟨tg, iter, ifs, 0⟩] scope pos) t (dComp di g dt de (own.map (·.2))) := by
  obtain ⟨t1, gw, h1⟩ := hg.one
  obtain ⟨t2, h2⟩ := ht.one
  obtain ⟨t3, h3⟩ := he.one
  exact ⟨_, f_lc hc hN hi ok h1 gw gwd h2 h3 hs⟩
variable {i : Nat} {y : Str} {py : Pos}
theorem sb_lcO (hc : X.calm = true) (hN : X.N.Nodup) (hi : PDI X tg iter wi di) (ok : BlkOk X.N X.env.scope scope own) (hg : BlkG X scope tg g (own.map (·.2))) (gwd : GWd g (own.map (·.2))) (ht : BlkT X scope ifs dt) (he : BlkE X scope elt de)
    (hsw : swapsWith (.ListComp elt [⟨tg, iter, ifs, 0⟩] scope pos) (some (.Name y py)) spos.line X.env = pure true)
    (hy : X.N[i]? = some y := by rfl) (hyl : X.env.scope.names.lookup y = some .local := by rfl) (hs : ∀ x, foldedSetIterable iter X.env x = pure x := by intro _; rfl) :
    ∃ t, PDS X (.Assign [.Name y py] (.ListComp elt [⟨tg, iter, ifs, 0⟩] scope pos) spos) t (dSet i (xF (dComp di g dt de (own.map (·.2))))) := by
  obtain ⟨t1, gw, h1⟩ := hg.one
  obtain ⟨t2, h2⟩ := ht.one
  obtain ⟨t3, h3⟩ := he.one
  exact ⟨_, s_lcO hc hN hi ok h1 gw gwd h2 h3 hsw hy hyl hs⟩
theorem sb_lcE (hc : X.calm = true) (hN : X.N.Nodup) (hi : PDI X tg iter wi di) (ok : BlkOk X.N X.env.scope scope own) (hg : BlkG X scope tg g (own.map (·.2))) (gwd : GWd g (own.map (·.2))) (ht : BlkT X scope ifs dt) (he : BlkE X scope elt de)
    (hsw : swapsWith (.ListComp elt [⟨tg, iter, ifs, 0⟩] scope pos) (some (.Name y py)) spos.line X.env = pure true)
    (hy : X.N[i]? = some y := by rfl) (hyl : X.env.scope.names.lookup y = some .local := by rfl) (hs : ∀ x, foldedSetIterable iter X.env x = pure x := by intro _; rfl) :
    ∃ t, PDS X (.Assign [.Name y py] (.ListComp elt [⟨tg, iter, ifs, 0⟩] scope pos) spos) t (dSet i (xE (dF (dComp di g dt de (own.map (·.2)))))) := by
  obtain ⟨t1, gw, h1⟩ := hg.one
  obtain ⟨t2, h2⟩ := ht.one
  obtain ⟨t3, h3⟩ := he.one
  exact ⟨_, s_lcE hc hN hi ok h1 gw gwd h2 h3 hsw hy hyl hs⟩
theorem PDF.of {e : Expr} {t : TE} {d : DA} (h : ∃ t, PDF X e t d) (ht : t = h.choose := by exact rfl) : PDF X e t d := ht ▸ h.choose_spec
theorem PDS.of {s : Stmt} {t : TS} {d : DS} (h : ∃ t, PDS X s t d) (ht : t = h.choose := by exact rfl) : PDS X s t d := ht ▸ h.choose_spec
end
/-! ### defs that give a new list -/
abbrev PreF := List D → (List D → Prop) → Prop
def spF (K : PySem.W.Frag) (n : Nat) (pre : PreF) : Sp := fun vs H Q _ => ∃ (G : Hp) (ds : List D) (P : List D → Prop), ds.length = n ∧ Same G H ∧ RpL K G vs ds ∧ pre ds P ∧
  ∀ es ws p G' H', P es → Same G G' → Same G' H' → Same H H' → (∀ b, H b ≠ none → G b = none → G' b = none) → RpL K G' ws es → H' p = none → Q (.ref p) (upd H' p (.lst ws))
section
variable {P : Program} {w : World} {K : PySem.W.Frag} {mg : Str → Option Value} {base : Heap} {x : Str} {st : Stmt} {N ps : List Str} {k : Nat}
theorem defF (F : At K mg x st) (S : FnScope N ps (defScope st)) (B : Bnd x st ps) (pre : PreF) {d : DS}
    (hb : ∀ (f : Addr) (cdv : Value) (A : Around) (out : List PySem.Env) (s : Shared) (H : Hp) (E : XK), RG k (A.deeper (envOfC x (defScope st) s.heap.objs.size f cdv)) → ∃ t, PDSs (cxOf CX0 P w K mg base N x (defScope st) f cdv A out s H E).nox (defBody st) t d)
    (hr : ∀ ds Pd, ds.length = ps.length → pre ds Pd → d { nx := fun _ => False, rt := fun _ => False, rf := Pd } (startD N ds)) : DefG P w K mg base x ps (k + 1) (spF K ps.length pre) := by
  refine defg_of F S B (fun vs H Q E ⟨G, ds, Pd, hl, _, r, _⟩ => by rw [r.len, hl]) fun f cdv A out s H vs Q E hrm ⟨G, ds, Pd, hl, g, r, p, q⟩ => ?_
  obtain ⟨t, hb⟩ := hb f cdv A out s H E hrm
  refine ⟨t, hb.pe.nox, ?_⟩
  have fr : Frm ⟨H, fun b => H b ≠ none ∧ G b = none, none⟩ G H := ⟨g, Same.refl H, fun b h => h.2, fun b h => h.1, fun u h => by cases h⟩
  exact hb.se _ G _ _ H _ _ (rel_start fr r) (hr ds Pd hl p) { nx := fun _ _ _ _ z => z.elim, bk := fun _ _ _ _ z => z.elim, ct := fun _ _ _ _ z => z.elim, rt := fun _ _ _ _ z => z.elim, rf := fun es ws p G1 H1 p1 f1 s1 rv hn => q es ws p G1 H1 p1 s1 f1.gs f1.fs (fun b h1 h2 => f1.lk b ⟨h1, h2⟩) rv hn }
end
section
variable {X : Cx} {K : PySem.W.Frag} {k n : Nat} {x : Str} {ps : List Str} {p pos : Pos}
def dRetF (d : DA) : DS := fun P ρ => d ρ P.rf
theorem s_retF {e : Expr} {te : TE} {d : DA} (h : PDF X e te d) : PDS X (.Return (some e) pos) (tRet te) (dRetF d) := ⟨ps_ret h.pe, fun M G ρ σ H P Dn rl hp l =>
  h.se M G ρ σ H _ _ rl hp fun ds vs p G' H' q r s rv hn => l.rf ds vs p G' H' q r.frm s rv hn⟩
def dRetOF (i : Nat) : DS := fun P ρ => (sat ρ i).owP P.rf
theorem s_retOF (i : Nat) {y : Str} {q : Pos} (hN : X.N[i]? = some y := by rfl) (hv : Vis X.env.scope y := by first | exact Or.inl rfl | exact Or.inr (Or.inl rfl) | exact Or.inr (Or.inr rfl)) (hd : (y == ("__debug__" : Str)) = false := by decide)
    (hcd : (y == ("__classdict__" : Str)) = false := by decide) : PDS X (.Return (some (.Name y q)) pos) (tRet (tVar i)) (dRetOF i) := ⟨ps_ret (pe_var hN hv hd hcd), fun M G ρ σ H P Dn rl hp l => by
  obtain ⟨ds, e, hp⟩ := Sl.owP_of hp
  obtain ⟨a, vs, e2, g1, f1, u1, h1, q1⟩ := rl.sl i _ (sat_get e (fun z => nomatch z))
  have fr : Frm M G (rem H a) := by
    have put : ∀ {b o}, H b = some o → b ≠ a → rem H a b = some o := fun h z => by rw [rem_ne z]; exact h
    refine ⟨fun b o z => put (rl.frm.gs _ _ z) fun w => ?_, fun b o z => put (rl.frm.fs _ _ z) fun w => ?_, rl.frm.lk, rl.frm.lf, fun u hu => ?_⟩
    · rw [w, g1] at z; cases z
    · rw [w, f1] at z; cases z
    · obtain ⟨a1, a2, y1, y2, y3, a3⟩ := rl.frm.ur u hu
      exact ⟨a1, a2, y1, y2, y3, put a3 fun w => u1 (by rw [← w]; exact hu)⟩
  have q := l.rf ds vs a G _ hp fr (Same.refl G) q1 rem_same
  rw [upd_rem h1] at q
  exact ⟨_, e2, q⟩⟩
def dCallF (n : Nat) (pre : PreF) (a : DA) : DA := fun ρ P => a ρ fun ds => ds.length = n ∧ pre ds P
theorem df_call {pre : PreF} {e : Expr} {es : List Expr} {t : TA} {d : DA} (F : DefG X.prog X.w X.K X.mg X.base x ps k (spF X.K n pre)) (hr : RG k X.A) (hg : Gl X x) (ha : PDA X (e :: es) t d)
    (hdb : (x == ("__debug__" : Str)) = false := by decide) (he : starEach (e :: es) X.env = (false, eval e X.env) :: starEach es X.env := by rfl) (hpl : (backTo pos (starEach es X.env)).any (·.1) = false := by rfl) :
    PDF X (.Call (.Name x p) (e :: es) [] pos) (tCall (spF X.K n pre) [] E0 t) (dCallF n pre d) := by
  obtain ⟨f, fd, hm, F, hk, hb, _⟩ := F.ex
  refine ⟨pe_g F hr hg hm hk hb ha.pe hdb he hpl, fun M G ρ σ H P Q rl hp l => ?_⟩
  refine ha.se M G ρ σ H _ _ rl hp fun xs vs G1 H1 p1 r1 s1 q1 => ?_
  show spF X.K n pre (vs ++ []) H1 Q E0
  rw [List.append_nil]
  exact ⟨G1, xs, P, p1.1, r1.frm.gs, q1, p1.2, fun es ws p G' H' p2 c gh hh nw q hn => l es ws p G' H' p2 (r1.after c gh hh nw) (s1.trans c) q hn⟩
/-- the urn made for the call -/
def urn3 : List D → Prop
  | [.int _, .int _, .int _] => True
  | _ => False
theorem urn3_of {K : PySem.W.Frag} {G : Hp} {vs : List V} : ∀ {ds : List D}, urn3 ds → RpL K G vs ds → ∃ x y z, vs = [.int x, .int y, .int z] := fun {ds} h r => by
  unfold urn3 at h
  split at h
  · rename_i x y z
    exact ⟨x, y, z, RpL.ints (ns := [x, y, z]) r⟩
  · exact h.elim
def dCallM (n : Nat) (pre : Pre) (f : DA) : DE := fun ρ P => f ρ fun us => urn3 us ∧ n = 0 ∧ pre [] P
theorem dg_callM {pre : Pre} {e : Expr} {t : TE} {d : DA} (F : DefG X.prog X.w X.K X.mg X.base x ps k (spU X.K n pre)) (hr : RG k X.A) (hg : Gl X x) (ha : PDF X e t d)
    (hdb : (x == ("__debug__" : Str)) = false := by decide) (he : starEach [e] X.env = (false, eval e X.env) :: starEach [] X.env := by rfl) (hpl : (backTo pos (starEach [] X.env)).any (·.1) = false := by rfl) :
    PDE X (.Call (.Name x p) [e] [] pos) (tCall (spU X.K n pre) [] E0 (tCons t tNil)) (dCallM n pre d) := by
  obtain ⟨f, fd, hm, F, hk, hb, _⟩ := F.ex
  refine ⟨pe_g F hr hg hm hk hb (pa_cons ha.pe pa_nil he) hdb he hpl, fun M G ρ σ H P Q rl hp l => ?_⟩
  refine ha.se M G ρ σ H _ _ rl hp fun us vs p G1 H1 p1 r1 s1 q1 hn => ?_
  obtain ⟨hu, rfl, p2⟩ := p1
  obtain ⟨x, y, z, rfl⟩ := urn3_of hu q1
  show spU X.K 0 pre ([V.ref p] ++ []) _ Q E0
  have gp : G1 p = none := r1.frm.gs.free hn
  refine ⟨G1, p, [], [], P, rfl, rfl, gp, ⟨x, y, z, upd_same⟩, to_upd r1.frm.gs gp, .nil, p2, fun d v G' H' pd c gh gp' ok hh nw rv => ?_⟩
  refine l d v G' H' pd ?_ (s1.trans c) rv
  have keep : Same H1 H' := fun b o e => by
    have z : b ≠ p := ne_of_none e hn
    exact hh b o z (by rw [upd_ne z]; exact e)
  refine r1.after c gh keep fun b h1 h2 => nw b ?_ h2
  rw [upd_ne fun z => h1 (by rw [z]; exact hn)]
  exact h1
/-! ### the script -/
def Sl.scP (P : List Int → Prop) : Sl → Prop
  | .fz (.scr ns) => P ns
  | _ => False
theorem Sl.scP_of {P : List Int → Prop} : ∀ {s : Sl}, s.scP P → ∃ ns, s = .fz (.scr ns) ∧ P ns := fun {s} h => by
  unfold Sl.scP at h
  split at h
  · exact ⟨_, rfl, h⟩
  · exact h.elim
theorem Rel.scAt {M : Fm} {G H : Hp} {ρ : Env} {σ : L2.St} {i : Nat} {P : List Int → Prop} (r : Rel K M G ρ σ H) (h : (sat ρ i).scP P) : ∃ ns a, P ns ∧ σ[i]? = some (some (.ref a)) ∧ SqL K G a (ns.map V.int) := by
  obtain ⟨ns, e, p⟩ := Sl.scP_of h
  obtain ⟨v, e1, q⟩ := r.sl i _ (sat_get e (fun z => nomatch z))
  cases q with
  | scr q => exact ⟨ns, _, p, e1, q⟩
def dLenS (i : Nat) : DE := fun ρ P => (sat ρ i).scP fun ns => P (.int ns.length)
theorem d_lenS (i : Nat) {x f : Str} {p fp pos : Pos} (hg : Gl X f) (hm : X.mg f = none) (hb : bootBuiltins f = some (.builtin "len")) (hN : X.N[i]? = some x := by rfl) (hv : Vis X.env.scope x := by first | exact Or.inl rfl | exact Or.inr (Or.inl rfl) | exact Or.inr (Or.inr rfl)) (hd : (x == ("__debug__" : Str)) = false := by decide)
    (hcd : (x == ("__classdict__" : Str)) = false := by decide) (hn : f ≠ "__name__" := by decide) (hdb : (f == ("__debug__" : Str)) = false := by decide) (he : starEach [.Name x p] X.env = (false, eval (.Name x p) X.env) :: starEach [] X.env := by rfl) (hpl : (backTo pos (starEach [] X.env)).any (·.1) = false := by rfl) :
    PDE X (.Call (.Name f fp) [.Name x p] [] pos) (tCB (fun xs H Q => ∃ p ys, xs = [.ref p] ∧ (SqL X.K H p ys ∨ SqT X.K H p ys) ∧ Q (.int ys.length) H) (tCons (tVar i) tNil)) (dLenS i) :=
  ⟨pe_callB call_len_seq hg hm hb (pa_cons (pe_var hN hv hd hcd) pa_nil he) hn hdb he hpl, fun M G ρ σ H P Q rl hp k => by
    obtain ⟨ns, a, p1, e2, q1⟩ := rl.scAt hp
    exact ⟨_, e2, a, _, rfl, .inl (same_sqL rl.frm.gs q1), by rw [List.length_map]; exact k _ _ G H p1 rl (Same.refl G) (.int _)⟩⟩
def dIxS (i : Nat) (e : DE) : DE := fun ρ P => (sat ρ i).scP fun ns => e ρ fun x => x.intP fun k => optP (fun n => P (.int n)) (atI ns k)
theorem atI_map {α β : Type} (f : α → β) {xs : List α} {k : Int} {y : α} (h : atI xs k = some y) : atI (xs.map f) k = some (f y) := by
  unfold atI at h ⊢
  rw [List.length_map]
  cases e : ixN xs.length k with
  | none => rw [e] at h; cases h
  | some j =>
    rw [e] at h
    have h : xs[j]? = some y := h
    show (xs.map f)[j]? = some (f y)
    rw [List.getElem?_map, h]; rfl
theorem d_ixS (i : Nat) {x : Str} {p pos : Pos} {b : Expr} {tb : TE} {db : DE} (hb : PDE X b tb db) (hs : PlainIx b := by exact fun _ _ => rfl) (hN : X.N[i]? = some x := by rfl) (hv : Vis X.env.scope x := by first | exact Or.inl rfl | exact Or.inr (Or.inl rfl) | exact Or.inr (Or.inr rfl)) (hd : (x == ("__debug__" : Str)) = false := by decide)
    (hcd : (x == ("__classdict__" : Str)) = false := by decide) : PDE X (.Subscript (.Name x p) b pos) (tOp (rIxL X.K) (tVar i) tb) (dIxS i db) :=
  ⟨pe_ix ix_list (pe_var hN hv hd hcd) hb.pe hs, fun M G ρ σ H P Q rl hp k => by
    obtain ⟨ns, a, p1, e2, q1⟩ := rl.scAt hp
    refine ⟨_, e2, hb.se M G ρ σ H _ _ rl p1 fun y v G2 H2 p2 r2 s2 q2 => ?_⟩
    obtain ⟨z, rfl, p2⟩ := D.intP_of p2
    obtain ⟨d, ed, p2⟩ := optP_of p2
    exact ⟨a, _, z, _, rfl, q2.intI, same_sqL (s2.trans r2.frm.gs) q1, atI_map V.int ed, k _ _ G2 H2 p2 r2 s2 (.int d)⟩⟩
/-- script[:k], k a written number -/
def dSlS (i : Nat) (k : Int) : DE := fun ρ P => (sat ρ i).scP fun ns => P (.lst ((cut ns none (some k)).map D.int))
theorem cut_map {α β : Type} (f : α → β) (xs : List α) (lo hi : Option Int) : cut (xs.map f) lo hi = (cut xs lo hi).map f := by
  unfold cut
  rw [List.length_map, List.map_take, List.map_drop]
theorem d_slS (i : Nat) {x : Str} {p p2 p3 pos : Pos} {k : Int} {j} (hN : X.N[i]? = some x := by rfl) (hv : Vis X.env.scope x := by first | exact Or.inl rfl | exact Or.inr (Or.inl rfl) | exact Or.inr (Or.inr rfl)) (hd : (x == ("__debug__" : Str)) = false := by decide)
    (hcd : (x == ("__classdict__" : Str)) = false := by decide) : PDE X (.Subscript (.Name x p) (.Slice none (some (.Constant (.int k) j p2)) none p3) pos) (tSl (rSlL X.K) (tVar i) tNoPart (tPart (tC (.int k)))) (dSlS i k) :=
  ⟨pe_slice sl_list (pe_var hN hv hd hcd) po_none (po_some pe_int), fun M G ρ σ H P Q rl hp l => by
    obtain ⟨ns, a, p1, e2, q1⟩ := rl.scAt hp
    refine ⟨_, e2, ?_⟩
    refine ⟨k, rfl, a, _, rfl, same_sqL rl.frm.gs q1, fun p hn => l _ _ _ _ p1 (rl.new hn) (same_upd (rl.frm.gs.free hn)) (.lst (.inl upd_same) ?_)⟩
    have e : cutV (ns.map V.int) none (some k) = (cut ns none (some k)).map V.int := cut_map V.int ns none (some k)
    rw [e]
    exact RpL.ofInts _⟩
end
end PD

namespace PD
open PySem PySem.Spec PyProof.Rows L2
/-! ### xs[::-1] -/
section
variable {prog : Program} {w : World} {A : Around} {E : Value → Shared → Prop} {s : Shared}
theorem fm_congr {α β : Type} {f g : α → Option β} : ∀ {l : List α}, (∀ m ∈ l, f m = g m) → l.filterMap f = l.filterMap g
  | [], _ => rfl
  | x :: l, h => by
    rw [List.filterMap_cons, List.filterMap_cons, h x List.mem_cons_self, fm_congr fun m hm => h m (List.mem_cons_of_mem _ hm)]
theorem back_list {α : Type} : ∀ xs : List α, ((List.range xs.length).filterMap fun (m : Nat) => xs[(((xs.length : Nat) : Int) - 1 + (m : Int) * -1).toNat]?) = xs.reverse
  | [] => rfl
  | x :: xs => by
    rw [List.length_cons, List.range_succ, List.filterMap_append, List.reverse_cons, ← back_list xs]
    congr 1
    · refine fm_congr fun m hm => ?_
      have hm := List.mem_range.mp hm
      have e : (((xs.length + 1 : Nat) : Int) - 1 + (m : Int) * -1).toNat = ((((xs.length : Nat) : Int) - 1 + (m : Int) * -1).toNat) + 1 := by omega
      rw [e, List.getElem?_cons_succ]
    · have e : (((xs.length + 1 : Nat) : Int) - 1 + (xs.length : Int) * -1).toNat = 0 := by omega
      rw [List.filterMap_cons]
      show (match (x :: xs)[(((xs.length + 1 : Nat) : Int) - 1 + (xs.length : Int) * -1).toNat]? with
        | none => []
        | some b => [b]) = [x]
      rw [e]
      rfl
theorem back_all {α : Type} (xs : Array α) : ((List.range xs.size).filterMap fun (m : Nat) => xs[(((xs.size : Nat) : Int) - 1 + (m : Int) * -1).toNat]?).toArray = xs.toList.reverse.toArray := by
  have h := back_list xs.toList
  rw [Array.length_toList] at h
  rw [← h]
  congr 1
  refine fm_congr fun m _ => ?_
  rw [Array.getElem?_toList]
theorem back_adj (n : Nat) : Builtin.Slice.sliceAdjust none none (-1) (n : Int) = ((n : Int) - 1, -1) := by
  unfold Builtin.Slice.sliceAdjust
  rfl
theorem back_places (n : Nat) : Builtin.Slice.slicePlaces ((n : Int) - 1) (-1) (-1) = n := by
  unfold Builtin.Slice.slicePlaces
  rw [if_neg (by decide)]
  split
  · have : ((n : Int) - 1 - -1 - 1) / (- -1) + 1 = n := by
      rw [Int.neg_neg, Int.ediv_one]; omega
    rw [this]
    exact Int.toNat_natCast n
  · have : n = 0 := by omega
    subst this
    rfl
theorem back_applied {sl : Addr} {n : Nat} {vk : Value} {Q : Int × Int × Nat → Shared → Prop} (hs : s.heap.IsSliceOf sl .none .none vk) (pk : IsPart vk (some (-1))) (h : Q ((n : Int) - 1, -1, n) s) :
    wpAny (model prog w) A (Builtin.Slice.sliceApplied (.ref sl) (pure (n : Int))) Q E s := by
  obtain ⟨os, hos, hcs, hds⟩ := id hs
  unfold Builtin.Slice.sliceApplied Builtin.Slice.sliceFields
  refine wpAny_bind (wpAny_bind (wpAny_field hos hds (x := .none) rfl (wpAny_bind (wpAny_field hos hds (x := .none) rfl (wpAny_bind (wpAny_field hos hds (x := vk) rfl (wpAny_pure ?_)))))))
  refine wpAny_bind (HT.slicePart_ pk ?_)
  show wpAny _ _ (if ((-1 : Int) == 0) = true then _ else _) _ _ s
  rw [if_neg (by decide)]
  refine wpAny_bind (HT.slicePart_ .none (wpAny_bind (HT.slicePart_ .none (wpAny_bind (wpAny_pure ?_)))))
  show wpAny _ _ (match Builtin.Slice.sliceAdjust none none (-1) (n : Int) with | (a, b) => pure (a, (-1 : Int), Builtin.Slice.slicePlaces a b (-1))) _ _ s
  rw [back_adj]
  show wpAny _ _ (pure ((n : Int) - 1, (-1 : Int), Builtin.Slice.slicePlaces ((n : Int) - 1) (-1) (-1))) _ _ s
  rw [back_places]
  exact wpAny_pure h
theorem getItem_tuple_back {t sl : Addr} {items : Array Value} {vk : Value} {Q : Value → Shared → Prop} (ht : IsTup s.heap t items) (hs : s.heap.IsSliceOf sl .none .none vk) (pk : IsPart vk (some (-1)))
    (h : Q (.ref s.heap.objs.size) { s with heap := s.heap.push { cls := .type "tuple", data := .seq items.toList.reverse.toArray } }) (hz : items.size ≤ sizeLine) : wpAny (model prog w) A (getItem (.ref t) (.ref sl)) Q E s := by
  have hfit : sizeOk (.seq items.toList.reverse.toArray) := by
    show items.toList.reverse.toArray.size ≤ sizeLine
    rw [List.size_toArray, List.length_reverse, Array.length_toList]
    exact hz
  obtain ⟨os, hos, hcs, hds⟩ := id hs
  have hTy : s.TypeIs (.ref sl) "slice" := ⟨os, hos, hcs⟩
  unfold getItem
  try with_reducible refine wpAny_holding ?_
  first | refine wpAny_bind (wpAny_pure ?_) | skip
  refine wpAny_bind (wpAny_sequenceKey ht.typeIs (by decide) ?_)
  refine wpAny_bind (wpAny_callSpecial?_slot (name := Str.ofString "__getitem__") ht.typeIs PyProof.Rows.slot_tuple_getitem (wpAny_call_entry PyProof.Rows.slot_tuple_getitem ht.typeIs PyProof.Rows.entry_tuple_getitem ?_ (PyProof.Rows.args_tuple_getitem _ _)))
  show wpAny _ _ (Builtin.Tuple.tupleItemsOf (.ref t) >>= _) _ _ s
  refine wpAny_bind (PyProof.Rows.tupleItemsOf_ ht (wpAny_bind (wpAny_typeOf hTy ?_)))
  rw [if_pos (by decide)]
  refine wpAny_bind (back_applied hs pk ?_)
  show wpAny _ _ (if ((((items.size : Nat) : Int) - 1) == 0 && (-1 : Int) == 1 && items.size == items.size) = true then _ else _) _ _ s
  rw [if_neg (by rw [show ((-1 : Int) == 1) = false from rfl, Bool.and_false, Bool.false_and]; decide), back_all]
  first
    | exact wpAny_bind (m := Builtin.Tuple.tupleExact _) (wpAny_newObj_type (wpAny_pure ⟨_, rfl, wpAny_pure h⟩) hfit)
    | exact wpAny_bind (m := Builtin.Tuple.tupleExact _) (wpAny_newObj_type (wpAny_bind (wpAny_pure (wpAny_pure ⟨_, rfl, wpAny_pure h⟩))) hfit)
    | exact wpAny_bind (wpAny_bind (m := Builtin.Tuple.tupleExact _) (wpAny_newObj_type (wpAny_pure (wpAny_pure ⟨_, rfl, wpAny_pure h⟩)) hfit))
    | exact wpAny_bind (wpAny_bind (m := Builtin.Tuple.tupleExact _) (wpAny_newObj_type (wpAny_pure ⟨_, rfl, wpAny_pure h⟩) hfit))
end
section
variable {X : Cx}
def rBack (K : PySem.W.Frag) (x : V) (H : Hp) (Q : VK) : Prop := (∃ a xs, x = .ref a ∧ SqL K H a xs ∧ ∀ p, H p = none → Q (.ref p) (upd H p (.lst xs.reverse))) ∨ ∃ a xs, x = .ref a ∧ SqT K H a xs ∧ ∀ p, H p = none → Q (.ref p) (upd H p (.tup xs.reverse))
theorem pe_back {e : Expr} {te : TE} {k : Nat} {p1 p2 p3 pos : Pos} (he : PE X e te) : PE X (.Subscript e (.Slice none none (some (.UnaryOp .USub (.Constant (.int 1) k p1) p2)) p3) pos) (fun σ H Q => te σ H fun x H1 => rBack X.K x H1 Q) := ⟨fun pins s σ H Q I h => by
  refine Subscript_ (thn (he.run pins s σ H _ I h) fun v s1 ⟨x, H1, I1, r1, q1⟩ => ?_)
  have st : PO X (some (.UnaryOp .USub (.Constant (.int 1) k p1) p2)) (tPart (tUn (rU fun i => .int (-i)) (tC (.int 1)))) := po_some (pe_un un_neg pe_int)
  refine wpAny_Slice (thn (po_none.run pins s1 σ H1 (fun o J => o = none ∧ J = H1) I1 ⟨rfl, rfl⟩) fun vl s2 ⟨l, H2, I2, pl, el, e2⟩ => ?_)
  subst el e2
  refine thn (po_none.run pins s2 σ H2 (fun o J => o = none ∧ J = H2) I2 ⟨rfl, rfl⟩) fun vu s3 ⟨u, H3, I3, pu, eu, e3⟩ => ?_
  subst eu e3
  refine thn (st.run pins s3 σ H3 (fun o J => o = some (-1) ∧ J = H3) I3 ⟨1, rfl, -1, rfl, rfl, rfl⟩) fun vs s4 ⟨o, H4, I4, ps, eo, e4⟩ => ?_
  subst eo e4
  have I5 : Inv X pins σ H4 { s4 with heap := s4.heap.push { cls := .type "slice", data := .fields #[vl, vu, vs] } } := I4.kept (t' := s4.toks) fun b ob q => Heap.get?_push_of_some _ q
  have lay : ∀ b ob, (s4.heap.push { cls := .type "slice", data := .fields #[vl, vu, vs] }).get? b = some ob → ((s4.heap.push { cls := .type "slice", data := .fields #[vl, vu, vs] }).push { cls := .type "slice", data := .fields #[vl, vu, vs] }).get? b = some ob := fun b ob q => Heap.get?_push_of_some _ q
  rcases q1 with ⟨a, xs, ex, hx, q⟩ | ⟨a, xs, ex, hx, q⟩
  · subst ex
    cases r1
    obtain ⟨its, r, ht, hz⟩ := I5.list hx
    refine tail_any (ops := [.ref a, .ref s4.heap.objs.size]) ht.isList.typeIs (PySem.slot_list_getitem.lookup) ?_ (by with_unfolding_all rfl)
    refine wpAny_getItem_list_slice ht.isList (Heap.IsSliceOf.new _ vl vu vs) pl pu ps (by decide) ?_ (by rw [List.size_toArray, ← r.length]; exact hz)
    rw [PySem.W.krv_pick]
    exact ⟨.ref _, _, I5.laid (t' := s4.toks) (o := .lst xs.reverse) (fun b ob q => Heap.get?_push_of_some _ q) (Nat.le_refl _) ⟨by rw [List.length_reverse]; exact hz, _, 0, r.reverse, Heap.get?_push_size _ rfl⟩, rfl, q _ (I5.hok.fresh (Nat.le_refl _))⟩
  · subst ex
    cases r1
    obtain ⟨its, r, ht, hz⟩ := I5.tuple hx
    cases pl
    cases pu
    refine tail_any (ops := [.ref a, .ref s4.heap.objs.size]) ht.typeIs (PyProof.Rows.slot_tuple_getitem.lookup) ?_ (by with_unfolding_all rfl)
    refine getItem_tuple_back ht (Heap.IsSliceOf.new _ .none .none vs) ps ?_ (by rw [List.size_toArray, ← r.length]; exact hz)
    exact ⟨.ref _, _, I5.laid (t' := s4.toks) (o := .tup xs.reverse) (fun b ob q => Heap.get?_push_of_some _ q) (Nat.le_refl _) ⟨by rw [List.length_reverse]; exact hz, _, r.reverse, IsTup.new _ _⟩, rfl, q _ (I5.hok.fresh (Nat.le_refl _))⟩⟩
theorem RpL.rev' {K : PySem.W.Frag} {G : Hp} : ∀ {vs : List V} {ds : List D}, RpL K G vs ds → RpL K G vs.reverse ds.reverse := fun {vs ds} h => by
  induction vs generalizing ds with
  | nil => cases h; exact .nil
  | cons v vs ih =>
    cases h with
    | cons h t => rw [List.reverse_cons, List.reverse_cons]; exact (ih t).app (.one h)
def backP (P : D → Prop) : D → Prop
  | .lst xs => P (.lst xs.reverse)
  | .tup xs => P (.tup xs.reverse)
  | _ => False
def dBack (a : DE) : DE := fun ρ P => a ρ (backP P)
theorem d_back {e : Expr} {te : TE} {d : DE} {k : Nat} {p1 p2 p3 pos : Pos} (he : PDE X e te d) : PDE X (.Subscript e (.Slice none none (some (.UnaryOp .USub (.Constant (.int 1) k p1) p2)) p3) pos) (fun σ H Q => te σ H fun x H1 => rBack X.K x H1 Q) (dBack d) :=
  ⟨pe_back he.pe, fun M G ρ σ H P Q rl hp l => he.se M G ρ σ H _ _ rl hp fun x v G1 H1 p1 r1 s1 q1 => by
    unfold backP at p1
    split at p1
    · obtain ⟨a, vs, rfl, h1, h2⟩ := q1.lstI
      exact .inl ⟨a, vs, rfl, .inl (same_rd r1.frm.gs h1), fun p hn => l _ _ _ _ p1 (r1.new hn) (s1.trans (same_upd (r1.frm.gs.free hn))) (.lst (.inl upd_same) (h2.rev'.mono (same_upd (r1.frm.gs.free hn))))⟩
    · obtain ⟨a, vs, rfl, h1, h2⟩ := q1.tupI
      exact .inr ⟨a, vs, rfl, same_sqT r1.frm.gs h1, fun p hn => l _ _ _ _ p1 (r1.new hn) (s1.trans (same_upd (r1.frm.gs.free hn))) (.tup (.inl (.inl upd_same)) (h2.rev'.mono (same_upd (r1.frm.gs.free hn))))⟩
    · exact p1.elim⟩
end
end PD

namespace PD
open PySem PySem.Spec PyProof.Rows L2
/-! ### data in order -/
def D.alike (x y : D) : Bool := PySem.W.alike x.py y.py
def D.lt (x y : D) : Bool := PySem.W.dataLt x.py y.py
/-- both may be told apart by < -/
def D.ord (x y : D) : Prop := x.fit 60 = true ∧ y.fit 60 = true ∧ x.alike y = true ∧ x ≠ .non
theorem py_none {x : D} {n : Nat} (h : x.fit n = true) (hx : x ≠ .non) : x.py ≠ .none := by
  cases x with
  | non => exact absurd rfl hx
  | bl b => intro z; simp [D.py] at z
  | int b => intro z; simp [D.py] at z
  | str b => intro z; simp [D.py] at z
  | tup b => intro z; simp [D.py] at z
  | lst b => intro z; simp [D.py] at z
  | fn b => cases n <;> simp [D.fit] at h
  | dct => cases n <;> simp [D.fit] at h
  | ty b => cases n <;> simp [D.fit] at h
  | scr b => cases n <;> simp [D.fit] at h
  | st b => cases n <;> simp [D.fit] at h
section
variable {X : Cx}
def rCmp (K : PySem.W.Frag) (f : PyData → PyData → Bool) : R2 := fun x y H Q => ∃ d e, Dp K H x d ∧ Dp K H y e ∧ PySem.W.alike d e = true ∧ d ≠ .none ∧ d.depth ≤ 60 ∧ Q (.bl (f d e)) H
theorem op_cmpD {op : CmpOp} {f : PyData → PyData → Bool} (hu : X.A.units + 64 < cLine)
    (h : ∀ (s : Shared) (a b : Value) (d e : PyData) (as bs : List Addr) (Q : Value → Shared → Prop), Reads s.heap a d as → Reads s.heap b e bs → PySem.W.alike d e = true → d ≠ .none → X.A.units + min d.depth e.depth < cLine → Q (.bool (f d e)) s → wpAny (model X.prog X.w) X.A (compareOp op a b) Q X.xe s) :
    OpR X (compareOp op) (rCmp X.K f) := by
  intro pins s σ H x y v u Q I rx ry ⟨d, e, dx, dy, al, nn, dp, q⟩
  obtain ⟨as, r1⟩ := Dp.reads I d x v dx rx
  obtain ⟨bs, r2⟩ := Dp.reads I e y u dy ry
  exact h s v u d e as bs _ r1 r2 al nn (by omega) ⟨.bl (f d e), H, I, rfl, q⟩
theorem op_ltD (hu : X.A.units + 64 < cLine) : OpR X (compareOp .Lt) (rCmp X.K PySem.W.dataLt) := op_cmpD hu fun _ _ _ _ _ _ _ _ a b c d e f => PySem.W.lt_data a b c d e f
theorem op_gtD (hu : X.A.units + 64 < cLine) : OpR X (compareOp .Gt) (rCmp X.K fun d e => PySem.W.dataLt e d) := op_cmpD hu fun _ _ _ _ _ _ _ _ a b c d e f => PySem.W.gt_data a b c d e f
theorem op_leD (hu : X.A.units + 64 < cLine) : OpR X (compareOp .LtE) (rCmp X.K fun d e => !PySem.W.dataLt e d) := op_cmpD hu fun _ _ _ _ _ _ _ _ a b c d e f => PySem.W.le_data a b c d e f
theorem op_geD (hu : X.A.units + 64 < cLine) : OpR X (compareOp .GtE) (rCmp X.K fun d e => !PySem.W.dataLt d e) := op_cmpD hu fun _ _ _ _ _ _ _ _ a b c d e f => PySem.W.ge_data a b c d e f
abbrev oLtD : DO := fun x y P => x.ord y ∧ P (.bl (x.lt y))
abbrev oGtD : DO := fun x y P => x.ord y ∧ P (.bl (y.lt x))
abbrev oLeD : DO := fun x y P => x.ord y ∧ P (.bl (!y.lt x))
abbrev oGeD : DO := fun x y P => x.ord y ∧ P (.bl (!x.lt y))
theorem so_cmpD {f : PyData → PyData → Bool} : SOp X.K (rCmp X.K f) (fun x y P => x.ord y ∧ P (.bl (f x.py y.py))) := fun M G ρ σ H x y d e P Q r hx hy ⟨⟨h1, h2, h3, h4⟩, p⟩ k =>
  ⟨d.py, e.py, hx.dp r.frm.gs 60 h1, hy.dp r.frm.gs 60 h2, h3, py_none h1 h4, (fit_shape 60 d h1).2, k _ _ G H p r (Same.refl G) (.bl _)⟩
theorem do_ltD (hu : X.A.units + 64 < cLine) : PDO X (compareOp .Lt) (rCmp X.K PySem.W.dataLt) oLtD := ⟨op_ltD hu, so_cmpD⟩
theorem do_gtD (hu : X.A.units + 64 < cLine) : PDO X (compareOp .Gt) (rCmp X.K fun d e => PySem.W.dataLt e d) oGtD := ⟨op_gtD hu, so_cmpD⟩
theorem do_leD (hu : X.A.units + 64 < cLine) : PDO X (compareOp .LtE) (rCmp X.K fun d e => !PySem.W.dataLt e d) oLeD := ⟨op_leD hu, so_cmpD⟩
theorem do_geD (hu : X.A.units + 64 < cLine) : PDO X (compareOp .GtE) (rCmp X.K fun d e => !PySem.W.dataLt d e) oGeD := ⟨op_geD hu, so_cmpD⟩
end
/-! ### sorted -/
/-- sorted by < -/
def srt (xs : List D) : List D := xs.mergeSort fun a b => !b.lt a
def SrtOk (xs : List D) : Prop := xs.length ≤ 1 ∨ ((∀ x ∈ xs, ∀ y ∈ xs, x.alike y = true) ∧ (∀ x ∈ xs, x.fit 59 = true) ∧ ((∀ x ∈ xs, ∃ y ys, x = .tup (y :: ys)) ∨ ∀ x ∈ xs, x ≠ .non ∧ ∀ ys, x ≠ .tup ys))
section
variable {X : Cx}
def rSrt (K : PySem.W.Frag) : List V → Hp → VK → Prop := fun vs H Q => ∃ (a : Addr) (xs : List V) (G : Hp) (ds : List D), vs = [.ref a] ∧ SqL K H a xs ∧ Same G H ∧ RpL K G xs ds ∧ SrtOk ds ∧ ∀ ys p, RpL K G ys (srt ds) → H p = none → Q (.ref p) (upd H p (.lst ys))
theorem each_of {K : PySem.W.Frag} {G : Hp} : ∀ {vs : List V} {us : List Value} {ds : List D}, Vals vs us → RpL K G vs ds → PySem.W.EachIs (fun (u : Value) (d : D) => ∃ v, RelV v u ∧ Rp K G v d) us ds
  | _, _, _, .nil, .nil => .nil
  | _, _, _, .cons r t, .cons h k => .cons ⟨_, r, h⟩ (each_of t k)
theorem of_each {K : PySem.W.Frag} {G : Hp} : ∀ {us : List Value} {ds : List D}, PySem.W.EachIs (fun (u : Value) (d : D) => ∃ v, RelV v u ∧ Rp K G v d) us ds → ∃ vs, Vals vs us ∧ RpL K G vs ds
  | _, _, .nil => ⟨[], .nil, .nil⟩
  | _, _, .cons ⟨v, r, h⟩ t => by
    obtain ⟨vs, r2, h2⟩ := of_each t
    exact ⟨v :: vs, .cons r r2, .cons h h2⟩
theorem pyL_map : ∀ ds : List D, pyL ds = ds.map D.py
  | [] => rfl
  | d :: ds => by rw [pyL, pyL_map ds]; rfl
theorem each_reads {pins : List (Addr × Obj)} {σ : L2.St} {H G : Hp} {s : Shared} (I : Inv X pins σ H s) (g : Same G H) : ∀ {vs : List V} {us : List Value} {ds : List D}, Vals vs us → RpL X.K G vs ds → (∀ d ∈ ds, d.fit 59 = true) → PySem.W.EachIs (fun u d => ∃ as, Reads s.heap u (D.py d) as) us ds
  | _, _, _, .nil, .nil, _ => .nil
  | _, _, _, .cons r t, .cons h k, f => .cons (Dp.reads I _ _ _ (h.dp g 59 (f _ List.mem_cons_self)) r) (each_reads I g t k fun d hd => f d (List.mem_cons_of_mem _ hd))
theorem swo_no {α : Type} : SrtO.Swo (fun _ _ : α => false) := ⟨fun _ _ h => absurd h (by decide), fun _ _ _ _ _ => rfl⟩
theorem srt_short : ∀ {ds : List D}, ds.length ≤ 1 → srt ds = ds
  | [], _ => by unfold srt; rw [List.mergeSort_nil]
  | [d], _ => by unfold srt; rw [List.mergeSort_singleton]
  | _ :: _ :: _, h => by simp at h
theorem perm_short {α : Type} {a b : List α} (h : a.Perm b) (hl : b.length ≤ 1) : a = b := by
  match b, hl with
  | [], _ => exact h.eq_nil
  | [x], _ => exact List.perm_singleton.mp h
theorem cr_srt (hu : X.A.units + 65 < cLine) : CallR X (.builtin "sorted") (rSrt X.K) := by
  intro pins s σ H vs us Q I r ⟨a, xs, G, ds, e, hs, g, rp, ok, q⟩
  subst e
  obtain ⟨its, rv, hl, hz⟩ := I.list hs
  obtain ⟨u, rfl, ru⟩ : ∃ u, us = [u] ∧ RelV (.ref a) u := by
    cases r with
    | cons r1 r2 => cases r2; exact ⟨_, rfl, r1⟩
  obtain rfl : u = Value.ref a := ru
  have hlen : ds.length = its.length := by rw [← rp.len]; exact rv.length
  have fin : ∀ (out : List Value) (ys : List V), Vals ys out → RpL X.K G ys (srt ds) → EP X pins σ Q (.ref (s.heap.objs.size + 1)) { s with heap := PyProof.Rows.sortedAll s.heap its (List.toArray out) } := fun out ys r1 r2 => by
    refine ⟨.ref _, _, I.laid (t' := s.toks) (o := .lst ys) (fun b o e => PyProof.Rows.sortedAll_old e) (Nat.le_succ _) ⟨?_, out, (PyProof.Rows.sortedAll_at s.heap its out.toArray).choose, r1, (PyProof.Rows.sortedAll_at s.heap its out.toArray).choose_spec⟩, rfl, q ys _ r2 (I.hok.fresh (Nat.le_succ _))⟩
    rw [r2.len]
    unfold srt
    rw [List.length_mergeSort, ← rp.len]
    exact hz
  rcases ok with short | ⟨al, ft, kd⟩
  · refine SrtO.sorted_ord (ltv := fun _ _ => false) swo_no hl.isList (by rw [← hlen, ← rp.len]; exact hz) (fun h2 => absurd h2 (by omega)) fun out _ hb => ?_
    have eo : out = its := perm_short hb.perm (by omega)
    subst eo
    exact fin out xs rv (by rw [srt_short short]; exact rp)
  · refine PySem.W.sorted_data (R := fun (u : Value) (d : D) => ∃ v, RelV v u ∧ Rp X.K G v d) (enc := D.py) (bs := ds) (vs := its) hl.isList (each_of rv rp) (each_reads I g rv rp ft) ?_ ?_ (by rw [← rp.len]; exact hz) ?_ fun out hout ho => ?_
    · intro x hx y hy
      obtain ⟨d, hd, rfl⟩ := List.mem_map.mp hx
      obtain ⟨e, he, rfl⟩ := List.mem_map.mp hy
      exact al d hd e he
    · rcases kd with kd | kd
      · refine .inl fun x hx => ?_
        obtain ⟨d, hd, rfl⟩ := List.mem_map.mp hx
        obtain ⟨y, ys, rfl⟩ := kd d hd
        exact ⟨y.py, pyL ys, by rw [D.py, pyL]⟩
      · refine .inr fun x hx => ?_
        obtain ⟨d, hd, rfl⟩ := List.mem_map.mp hx
        obtain ⟨h1, h2⟩ := kd d hd
        refine ⟨py_none (ft d hd) h1, fun ys e => ?_⟩
        cases d with
        | tup zs => exact h2 zs rfl
        | _ => simp [D.py] at e
    · intro d hd
      have := (fit_shape 59 d (ft d hd)).2
      omega
    · obtain ⟨ys, r1, r2⟩ := of_each ho
      exact fin out ys r1 r2
/-- sorted(xs), xs a list -/
def dSrt (a : DA) : DA := fun ρ P => a ρ fun ds => match ds with
  | [.lst xs] => SrtOk xs ∧ P (srt xs)
  | _ => False
theorem f_srt {x : Str} {e : Expr} {t : TA} {d : DA} {p pos : Pos} (hu : X.A.units + 65 < cLine) (hg : Gl X x) (hm : X.mg x = none) (hv : bootBuiltins x = some (.builtin "sorted")) (ha : PDA X [e] t d)
    (hn : x ≠ "__name__" := by decide) (hdb : (x == ("__debug__" : Str)) = false := by decide) (he : starEach [e] X.env = (false, eval e X.env) :: starEach [] X.env := by rfl) (hpl : (backTo pos (starEach [] X.env)).any (·.1) = false := by rfl) :
    PDF X (.Call (.Name x p) [e] [] pos) (tCB (rSrt X.K) t) (dSrt d) := ⟨pe_callB (cr_srt hu) hg hm hv ha.pe hn hdb he hpl, fun M G ρ σ H P Q rl hp l => by
  refine ha.se M G ρ σ H _ _ rl hp fun ds vs G1 H1 p1 r1 s1 q1 => ?_
  split at p1
  · rename_i xs
    obtain ⟨v, rfl, hv⟩ := q1.oneI
    obtain ⟨a, ws, rfl, h1, h2⟩ := hv.lstI
    exact ⟨a, ws, G1, xs, rfl, .inl (same_rd r1.frm.gs h1), r1.frm.gs, h2, p1.1, fun ys p hy hn => l _ ys p G1 H1 p1.2 r1 s1 hy hn⟩
  · exact p1.elim⟩
end
end PD

namespace PD
open PySem PySem.Spec PyProof.Rows L2
/-! ### tables of the module with text keys -/
/-- the table T: its entries -/
structure TblAt (K : PySem.W.Frag) (w : World) (mg : Str → Option Value) (T : Str) (es : List (Str × D)) : Prop where
  at_ : mg T = some (.ref (He.ga K T))
  kd : ∃ e n, KDict K w (He.ga K T) e n
  has : ∀ z d, es.lookup z = some d → ∃ u v, PySem.W.nsIn K (He.ga K T) z = some (some u) ∧ RelV v u ∧ ∀ G, Rp K G v d
  not : ∀ z, es.lookup z = none → PySem.W.nsIn K (He.ga K T) z = some none
section
variable {X : Cx} {pos : Pos} {T : Str} {es : List (Str × D)}
theorem d_tbl (h : TblAt X.K X.w X.mg T es) (hg : Gl X T) (hd : (T == ("__debug__" : Str)) = false := by decide) : PDE X (.Name T pos) (tC (.ref (He.ga X.K T))) (dC (.fn T)) := d_glob hg h.at_ rfl (fun _ => .fn T) hd
def oInT (T : Str) (es : List (Str × D)) : DO := fun x y P => match x, y with
  | .str z, .fn t => t = T ∧ P (.bl (es.lookup z).isSome)
  | _, _ => False
def rInTb (K : PySem.W.Frag) (a : Addr) : R2 := fun x y H Q => ∃ (z : Str) (r : Option Value), x = .str z ∧ y = .ref a ∧ PySem.W.nsIn K a z = some r ∧ Q (.bl r.isSome) H
theorem do_inT (h : TblAt X.K X.w X.mg T es) : PDO X (compareOp .In) (rInTb X.K (He.ga X.K T)) (oInT T es) := by
  obtain ⟨e, n, kd⟩ := h.kd
  refine ⟨op_in_kd kd, fun M G ρ σ H x y d e P Q r hx hy hp k => ?_⟩
  unfold oInT at hp
  split at hp
  · rename_i z t
    obtain ⟨rfl, p⟩ := hp
    cases hx
    cases hy
    cases q : es.lookup z with
    | none => rw [q] at p; exact ⟨z, none, rfl, rfl, h.not z q, k _ _ G H p r (Same.refl G) (.bl _)⟩
    | some d =>
      obtain ⟨u, v, e1, _⟩ := h.has z d q
      rw [q] at p
      exact ⟨z, some u, rfl, rfl, e1, k _ _ G H p r (Same.refl G) (.bl _)⟩
  · exact hp.elim
def oIxTb (T : Str) (es : List (Str × D)) : DO := fun x y P => match x, y with
  | .fn t, .str z => t = T ∧ optP P (es.lookup z)
  | _, _ => False
theorem d_ixT {a b : Expr} {ta tb : TE} {da db : DE} (h : TblAt X.K X.w X.mg T es) (ha : PDE X a ta da) (hb : PDE X b tb db) (hs : PlainIx b := by exact fun _ _ => rfl) : PDE X (.Subscript a b pos) (tOp (rIxD X.K X.w) ta tb) (dBin (oIxTb T es) da db) :=
  ⟨pe_ix ix_kdict ha.pe hb.pe hs, se_bin (fun M G ρ σ H x y d e P Q r hx hy hp k => by
    unfold oIxTb at hp
    split at hp
    · rename_i t z
      obtain ⟨rfl, p⟩ := hp
      obtain ⟨d, q, p⟩ := optP_of p
      obtain ⟨u, v, e1, rv, rp⟩ := h.has z d q
      obtain ⟨es', n, kd⟩ := h.kd
      cases hx
      cases hy
      exact ⟨_, z, v, rfl, rfl, ⟨es', n, u, kd.at_, kd.lit, e1, rv⟩, k _ _ G H p r (Same.refl G) (rp G)⟩
    · exact hp.elim) ha.se hb.se⟩
end
/-! ### what the head tells of them -/
def tupA (K : PySem.W.Frag) (t : Addr) (xs : List Str) : Bool := match K.lookup t with
  | some ⟨.type c, _, .seq its _, _⟩ => decide (c = "tuple") && (decide (its.size ≤ sizeLine) && decide (its.toList = xs.map fun x => Value.ref (He.ga K x)))
  | _ => false
def tblB (K : PySem.W.Frag) (T : Str) (es : List (Str × List Str)) : Bool := es.all fun q => match PySem.W.nsIn K (He.ga K T) q.1 with
  | some (some (.ref t)) => tupA K t q.2
  | _ => false
theorem tupA_ok {K : PySem.W.Frag} {t : Addr} {xs : List Str} (h : tupA K t xs = true) (G : Hp) : Rp K G (.ref t) (.tup (xs.map D.fn)) := by
  unfold tupA at h
  split at h
  · rename_i c od its n sl e
    rw [Bool.and_eq_true, Bool.and_eq_true, decide_eq_true_eq, decide_eq_true_eq, decide_eq_true_eq] at h
    obtain ⟨h1, h2, h3⟩ := h
    have vs : ∀ xs : List Str, Vals (xs.map fun x => V.ref (He.ga K x)) (xs.map fun x => Value.ref (He.ga K x)) := fun xs => by
      induction xs with
      | nil => exact .nil
      | cons x xs ih => exact .cons rfl ih
    have rs : ∀ xs : List Str, RpL K G (xs.map fun x => V.ref (He.ga K x)) (xs.map D.fn) := fun xs => by
      induction xs with
      | nil => exact .nil
      | cons x xs ih => exact .cons (.fn x) ih
    exact .tup (.inr ⟨_, its, n, e, congrArg Value.type h1, rfl, h2, by rw [h3]; exact vs xs⟩) (rs xs)
  · cases h
theorem lookup_some {α : Type} : ∀ {l : List (Str × α)} {z : Str} {d : α}, l.lookup z = some d → (z, d) ∈ l
  | [], _, _, h => by simp at h
  | (x, y) :: l, z, d, h => by
    rw [List.lookup_cons] at h
    split at h
    · rename_i e
      have e := eq_of_beq e
      cases h
      rw [e]
      exact List.mem_cons_self
    · exact List.mem_cons_of_mem _ (lookup_some h)
theorem lookup_none {α : Type} : ∀ {l : List (Str × α)} {z : Str}, l.lookup z = none → ∀ p ∈ l, p.1 ≠ z
  | [], _, _, p, hp => by cases hp
  | (x, y) :: l, z, h, p, hp => by
    rw [List.lookup_cons] at h
    split at h
    · cases h
    · rename_i e
      rcases List.mem_cons.mp hp with q | q
      · rw [q]
        intro w
        have w : x = z := w
        rw [w, beq_self_eq_true] at e
        cases e
      · exact lookup_none h p q
theorem nsIn_none {K : PySem.W.Frag} {P : Params} {a : Addr} {ks : List Str} (h : He.dicW K a = some (He.keysIn P ks)) {z : Str} (hz : z ∉ ks) : PySem.W.nsIn K a z = some none := by
  unfold He.dicW at h
  unfold PySem.W.nsIn
  split at h
  · rename_i c es n sl e
    rw [e]
    have he : es.toList.map He.keyOf = He.keysIn P ks := by
      split at h
      · exact Option.some.inj h
      · cases h
    have key : ∀ q ∈ es.toList, ∃ x t, q.key = .str x t ∧ x ∈ ks := fun q hq => by
      have m : He.keyOf q ∈ He.keysIn P ks := by rw [← he]; exact List.mem_map_of_mem hq
      unfold He.keysIn at m
      obtain ⟨k, hk, e2⟩ := List.mem_map.mp m
      unfold He.keyOf at e2
      split at e2
      · rename_i x t e3
        have e4 := (Prod.mk.inj (Option.some.inj e2)).1
        exact ⟨x, t, e3, by rw [← e4]; exact hk⟩
      · cases e2
    have f : es.toList.find? (fun q => q.key.isStr z) = none := List.find?_eq_none.mpr fun q hq hs => by
      obtain ⟨x, t, e3, hx⟩ := key q hq
      rw [e3, PySem.W.isStr_of] at hs
      have : z = x := by
        obtain ⟨t', e5⟩ := Value.isStrOf_shape hs
        injection e5 with e6
        exact e6.symm
      exact hz (by rw [this]; exact hx)
    have g : es.toList.any (fun q => q.refKey) = false := List.any_eq_false.mpr fun q hq hs => by
      obtain ⟨x, t, e3, hx⟩ := key q hq
      unfold DictEntry.refKey at hs
      rw [e3] at hs
      cases hs
    show (match es.toList.find? (fun q => q.key.isStr z) with
      | some q => some (some q.val)
      | none => if es.toList.any (fun q => q.refKey) = true then none else some none) = some none
    rw [f, g]
    rfl
  · cases h
theorem tbl_ok {K : PySem.W.Frag} {w : World} {h : Heap} {mg : Str → Option Value} {fa : List He.Fa} {fn : List He.DefD} {ts : List He.Tab} {T : Str} {es : List (Str × List Str)} (X : K.In h) (G : h.Ns mainGlobals mg) (c : He.SaysT fa fn ts w K) (i : Nat) (hi : ts[i]? = some (fun K => He.ga K T, es.map (·.1)))
    (hf : (He.Fa.glo T).ok K = true) (hb : tblB K T es = true) : TblAt K w mg T (es.map fun q => (q.1, D.tup (q.2.map D.fn))) := by
  have e : ts.map (fun t => He.dicW K (t.1 K)) = ts.map fun t => some (He.keysIn w.params t.2) := congrArg (fun z : He.AlT => z.2) c
  have e2 : (ts.map fun t => He.dicW K (t.1 K))[i]? = (ts.map fun t => some (He.keysIn w.params t.2))[i]? := by rw [e]
  rw [List.getElem?_map, List.getElem?_map, hi] at e2
  have dw : He.dicW K (He.ga K T) = some (He.keysIn w.params (es.map (·.1))) := Option.some.inj e2
  refine ⟨He.glo_ok X G hf, He.dicW_ok dw, fun z d hz => ?_, fun z hz => nsIn_none dw fun m => ?_⟩
  · obtain ⟨q, hq, e3⟩ := List.mem_map.mp (lookup_some hz)
    obtain ⟨e4, e5⟩ := Prod.mk.inj e3
    have k := List.all_eq_true.mp hb q hq
    split at k
    · rename_i t e6
      rw [e4] at e6
      exact ⟨.ref t, .ref t, e6, rfl, fun G => by rw [← e5]; exact tupA_ok k G⟩
    · cases k
  · obtain ⟨q, hq, e3⟩ := List.mem_map.mp m
    exact lookup_none hz (q.1, D.tup (q.2.map D.fn)) (List.mem_map.mpr ⟨q, hq, rfl⟩) e3
/-! ### a call of a def that a name holds -/
abbrev FnTab := List (Str × Nat × Pre)
def fnP (P : Str → Prop) : D → Prop
  | .fn x => P x
  | _ => False
theorem fnP_of {P : Str → Prop} : ∀ {d : D}, fnP P d → ∃ x, d = .fn x ∧ P x := fun {d} h => by
  unfold fnP at h
  split at h
  · exact ⟨_, rfl, h⟩
  · exact h.elim
def dCallV (i : Nat) (tb : FnTab) (a : DA) : DE := fun ρ P => (sat ρ i).fzP (fnP fun x => optP (fun q => a ρ fun ds => ds.length = q.1 ∧ q.2 ds P) (tb.lookup x))
structure Tabd (P : Program) (w : World) (K : PySem.W.Frag) (mg : Str → Option Value) (base : Heap) (k : Nat) (tb : FnTab) : Prop where
  ok : ∀ x n pre, tb.lookup x = some (n, pre) → mg x = some (.ref (He.ga K x)) ∧ ∃ ps, DefG P w K mg base x ps k (spP K n pre)
section
variable {X : Cx} {k i : Nat} {x : Str} {p pos : Pos} {e : Expr} {es : List Expr} {t : TA} {d : DA} {tb : FnTab}
def tCallV (K : PySem.W.Frag) (i : Nat) (tb : FnTab) (t : TA) : TE := fun σ H Q => ∃ x n pre, σ[i]? = some (some (.ref (He.ga K x))) ∧ tb.lookup x = some (n, pre) ∧ t σ H fun vs H1 => spP K n pre vs H1 Q E0
theorem dg_callV (F : Tabd X.prog X.w X.K X.mg X.base k tb) (hr : RG k X.A) (ha : PDA X (e :: es) t d) (hN : X.N[i]? = some x := by rfl) (hv : Vis X.env.scope x := by first | exact Or.inl rfl | exact Or.inr (Or.inl rfl) | exact Or.inr (Or.inr rfl)) (hdb : (x == ("__debug__" : Str)) = false := by decide)
    (hcd : (x == ("__classdict__" : Str)) = false := by decide) (he : starEach (e :: es) X.env = (false, eval e X.env) :: starEach es X.env := by rfl) (hpl : (backTo pos (starEach es X.env)).any (·.1) = false := by rfl) :
    PDE X (.Call (.Name x p) (e :: es) [] pos) (tCallV X.K i tb t) (dCallV i tb d) := by
  refine ⟨⟨fun pins s σ H Q I h => ?_⟩, fun M G ρ σ H P Q rl hp l => ?_⟩
  · obtain ⟨y, n, pre, hs, hl, h⟩ := h
    obtain ⟨hm, ps, hF⟩ := F.ok y n pre hl
    obtain ⟨f, fd, hm2, hF, hk, hb, _⟩ := hF.ex
    rw [hm] at hm2
    cases hm2
    refine wpAny_Call_Name_kw (thn ((pe_var (pos := p) hN hv hdb hcd).run pins s σ H (fun v J => v = .ref (He.ga X.K y) ∧ J = H) I ⟨_, hs, rfl, rfl⟩) fun u s1 ⟨v, H1, I1, r1, q1⟩ => ?_)
    obtain ⟨rfl, rfl⟩ := q1
    cases r1
    refine PySem.W.callWith_K (h₀ := X.base) I.ok.mod.kin hk (thn (ha.pe.run pos pins s1 σ _ _ I1 h) fun us s2 ⟨vs, H2, I2, r, q⟩ => ⟨I2.kIn, ?_⟩) he hpl
    have q : spP X.K n pre vs H2 Q E0 := q
    have hlen : us.length = ps.length := r.length.symm.trans (hF.ln _ _ _ _ q)
    have b := hb s2 us I2.kIn (by rw [List.append_nil]; exact hlen)
    rw [List.append_nil] at b
    exact rung hF hr I2 b r q
  · obtain ⟨v, vv, p1, e1, q1⟩ := rl.fzAt hp
    obtain ⟨y, rfl, p1⟩ := fnP_of p1
    obtain ⟨⟨n, pre⟩, hl, p1⟩ := optP_of p1
    cases q1
    refine ⟨y, n, pre, e1, hl, ha.se M G ρ σ H _ _ rl p1 fun ds vs G1 H1 p2 r1 s1 q1 => ?_⟩
    exact ⟨G1, ds, P, p2.1, r1.frm.gs, q1, p2.2, fun d v G' H' p3 c gh hh nw q => l d v G' H' p3 (r1.after c gh hh nw) (s1.trans c) q⟩
end
end PD

namespace PD
open PySem PySem.Spec PyProof.Rows L2
/-! ### what is never come to -/
section
variable {X : Cx}
def dNv : DE := fun _ _ => False
def dNvT : DT := fun _ _ => False
theorem d_nv {e : Expr} : PDE X e (fun _ _ _ => False) dNv := ⟨⟨fun pins s σ H Q I h => h.elim⟩, fun M G ρ σ H P Q rl hp k => hp⟩
theorem t_nv {e : Expr} : PDT X e (fun _ _ _ => False) dNvT := ⟨⟨fun pins s σ H Q I h => h.elim⟩, fun M G ρ σ H P Q rl hp k => hp⟩
theorem ss_nv {e : List Stmt} : PDSs X e (fun _ _ _ => False) (fun _ _ => False) := ⟨⟨fun pins s σ H Q I h => h.elim⟩, fun M G ρ σ H P D rl hp l => hp⟩
end
/-! ### math -/
section
variable {X : Cx}
def rComb : List V → Hp → VK → Prop := fun vs H Q => ∃ a b : Int, vs = [.int a, .int b] ∧ (0 ≤ a ∧ 0 ≤ b ∧ a < 2 ^ 64 ∧ b ≤ 9000) ∧ Q (.int (PySem.W.mcComb a b)) H
theorem cr_comb : CallR X (.builtin "math.comb") rComb := by
  intro pins s σ H vs us Q I r ⟨a, b, e, ⟨h1, h2, h3, h4⟩, q⟩
  subst e
  obtain ⟨t, u, rfl⟩ := Vals.int2 r
  exact PySem.call_function_meets PySem.W.MGF.kind_comb PySem.W.MGF.plain_comb PySem.W.MGF.entry_comb (PySem.W.MGF.args_comb _ _) (PySem.W.mc_gives_comb t u h1 h2 h3 (.inl h4)).meets ⟨.int _, H, I.tok _, ⟨_, rfl⟩, q⟩
abbrev cComb : DC := two2 (oI (fun a b => 0 ≤ a ∧ 0 ≤ b ∧ a < 2 ^ 64 ∧ b ≤ 9000) fun a b => .int (PySem.W.mcComb a b))
theorem c_comb : PDC X (.builtin "math.comb") rComb cComb := ⟨cr_comb, fun M G ρ σ H vs ds P Q r h hp k => by
  obtain ⟨x, y, rfl, hp1⟩ := two2_of hp
  obtain ⟨v, w, rfl, h1, h2⟩ := h.twoI
  obtain ⟨a, b, rfl, rfl, c, p⟩ := oI_of hp1
  exact ⟨a, b, by rw [h1.intI, h2.intI], c, k _ _ G H p r (Same.refl G) (.int _)⟩⟩
abbrev cGcd : DC := two2 (oI0 fun a b => .int ((Nat.gcd a.natAbs b.natAbs : Nat) : Int))
theorem c_gcd : PDC X (.builtin "math.gcd") rGcd cGcd := ⟨cr_gcd, fun M G ρ σ H vs ds P Q r h hp k => by
  obtain ⟨x, y, rfl, hp1⟩ := two2_of hp
  obtain ⟨v, w, rfl, h1, h2⟩ := h.twoI
  obtain ⟨a, b, rfl, rfl, p⟩ := oI0_of hp1
  exact ⟨a, b, by rw [h1.intI, h2.intI], k _ _ G H p r (Same.refl G) (.int _)⟩⟩
/-- a call of a module's name for a built-in function -/
theorem d_cfun {id : String} {x : Str} {r : List V → Hp → VK → Prop} {f : DC} {e : Expr} {es : List Expr} {t : TA} {d : DA} {p pos : Pos} (h : PDC X (.builtin id) r f) (hg : Gl X x) (hm : X.mg x = some (.builtin id)) (ha : PDA X (e :: es) t d)
    (hdb : (x == ("__debug__" : Str)) = false := by decide) (he : starEach (e :: es) X.env = (false, eval e X.env) :: starEach es X.env := by rfl) (hpl : (backTo pos (starEach es X.env)).any (·.1) = false := by rfl) :
    PDE X (.Call (.Name x p) (e :: es) [] pos) (tCB r t) (dCB f d) := ⟨pe_callBfun h.pe hg hm ha.pe hdb he hpl, se_cb h.se ha.se⟩
/-- a module's text -/
theorem d_cs {x : Str} {z : Str} {pos : Pos} (hg : Gl X x) (h : ∃ t, X.mg x = some (.str z t)) (hd : (x == ("__debug__" : Str)) = false := by decide) : PDE X (.Name x pos) (tC (.str z)) (dC (.str z)) := by
  obtain ⟨t, h⟩ := h
  exact d_glob hg h ⟨_, rfl⟩ (fun _ => .str z) hd
/-- str of a number -/
def cStrI : DC := one1 fun x P => x.intP fun i => i.natAbs.log2 < 1920 ∧ P (.str (toString i))
theorem c_strI : PDC X (.type "str") (fun xs H Q => ∃ i, xs = [.int i] ∧ i.natAbs.log2 < 1920 ∧ Q (.str (toString i)) H) cStrI := ⟨call_str_int, fun M G ρ σ H vs ds P Q r h hp k => by
  obtain ⟨x, rfl, hp1⟩ := one1_of hp
  obtain ⟨v, rfl, hv⟩ := h.oneI
  obtain ⟨i, rfl, c, p⟩ := D.intP_of hp1
  exact ⟨i, by rw [hv.intI], c, k _ _ G H p r (Same.refl G) (.str _)⟩⟩
/-! ### dicts, not looked into -/
theorem d_dct0 {pos : Pos} : PDE X (.Dict [] [] pos) tDNewK (dC .dct) := ⟨pe_dnewK, fun M G ρ σ H P Q rl hp k p hn => k _ _ _ _ hp (rl.new hn) (same_upd (rl.frm.gs.free hn)) (.dct upd_same)⟩
theorem d_dct1 {i j : Int} {k1 k2} {p1 p2 pos : Pos} : PDE X (.Dict [some (.Constant (.int i) k1 p1)] [.Constant (.int j) k2 p2] pos) (tDisp [(tC (.int i), tC (.int j))]) (dC .dct) :=
  ⟨pe_disp (pps_cons pe_int pe_int pps_nil) rfl rfl (by simp) (by simp), fun M G ρ σ H P Q rl hp k p hn => by
    show upd H p (.dK []) p = some (.dK []) ∧ _
    refine ⟨upd_same, [(.inl i, .int j)], rfl, by simp, ?_⟩
    rw [upd_upd]
    exact k _ _ _ _ hp (rl.new hn) (same_upd (rl.frm.gs.free hn)) (.dct upd_same)⟩
/-! ### range downward, list(range(..)) -/
def rgD (i j : Int) : List D := (List.range (i - j).toNat).map fun k => D.int (i + (k : Nat) * (-1))
theorem rgD_get {i j : Int} {k : Nat} {d : D} (h : (rgD i j)[k]? = some d) : d = .int (i + (k : Nat) * (-1)) ∧ k < (i - j).toNat := by
  unfold rgD at h
  rw [List.getElem?_map] at h
  obtain ⟨m, h1, h2⟩ := Option.map_eq_some_iff.mp h
  have h3 := (List.getElem?_eq_some_iff.mp h1).1
  rw [List.length_range] at h3
  rw [List.getElem?_eq_getElem (by simpa using h3), List.getElem_range] at h1
  cases h1
  exact ⟨h2.symm, h3⟩
theorem rgD_len (i j : Int) : (rgD i j).length = (i - j).toNat := by unfold rgD; rw [List.length_map, List.length_range]
def dRgD (a b : DE) : DI := fun ρ P => a ρ fun x => b ρ fun y => x.intP fun i => y.intP fun j => (-(2 ^ 62) ≤ i ∧ i < 2 ^ 62 ∧ -(2 ^ 62) ≤ j ∧ j < 2 ^ 62) ∧ P (rgD i j)
theorem yld_rgD {K : PySem.W.Frag} {G : Hp} (i j : Int) : Yld K G (Itc i (-1) (i - j).toNat) (rgD i j) where
  go := fun k H s h => by rw [rgD_len] at h; exact h
  stop := fun k H s h => by rw [rgD_len] at h; exact h
  yl := fun k d H x H' s e y => by
    obtain ⟨rfl, rfl⟩ := y
    rw [(rgD_get e).1]
    exact .inl ⟨rfl, .int _⟩
/-- range(a, b, -1) -/
theorem i_rgD {tg a b : Expr} {ta tb : TE} {da db : DE} {k p p1 p2 pos : _} (hg : Gl X "range") (hm : X.mg "range" = none) (ha : PDE X a ta da) (hb : PDE X b tb db)
    (hs : starEach [a, b, .UnaryOp .USub (.Constant (.int 1) k p1) p2] X.env = (false, eval a X.env) :: starEach [b, .UnaryOp .USub (.Constant (.int 1) k p1) p2] X.env := by rfl)
    (hs2 : starEach [b, .UnaryOp .USub (.Constant (.int 1) k p1) p2] X.env = (false, eval b X.env) :: starEach [.UnaryOp .USub (.Constant (.int 1) k p1) p2] X.env := by rfl)
    (hs3 : starEach [.UnaryOp .USub (.Constant (.int 1) k p1) p2] X.env = (false, eval (.UnaryOp .USub (.Constant (.int 1) k p1) p2) X.env) :: starEach [] X.env := by rfl)
    (hpl : (backTo pos (starEach [b, .UnaryOp .USub (.Constant (.int 1) k p1) p2] X.env)).any (·.1) = false := by rfl) :
    PDI X tg (.Call (.Name "range" p) [a, b, .UnaryOp .USub (.Constant (.int 1) k p1) p2] [] pos) (iRng3 (tCons ta (tCons tb (tCons (tUn (rU fun i => .int (-i)) (tC (.int 1))) tNil)))) (dRgD da db) :=
  ⟨pi_range3 hg hm (pa_cons ha.pe (pa_cons hb.pe (pa_cons (pe_un un_neg pe_int) pa_nil hs3) hs2) hs) hs hpl, fun M G ρ σ H P R rl hp k => by
    refine ha.se M G ρ σ H _ _ rl hp fun x vx G1 H1 p1 r1 s1 q1 => ?_
    refine hb.se M G1 ρ σ H1 _ _ r1 p1 fun y vy G2 H2 p2 r2 s2 q2 => ?_
    obtain ⟨i, rfl, p3⟩ := D.intP_of p2
    obtain ⟨j, rfl, ⟨h1, h2, h3, h4⟩, p⟩ := D.intP_of p3
    refine ⟨1, rfl, ?_⟩
    exact ⟨i, j, -1, (i - j).toNat, by rw [q1.intI, q2.intI], RgC.neg h1 h2 h3 h4, k _ _ G2 H2 p r2 (s1.trans s2) (yld_rgD i j)⟩⟩
theorem rpl_rg {K : PySem.W.Frag} {G : Hp} (a b : Int) : RpL K G (rgV a b) (rgI a b) := by
  unfold rgV rgI
  have go : ∀ l : List Nat, RpL K G (l.map fun i => V.int (a + (i : Nat))) (l.map fun i => D.int (a + (i : Nat))) := fun l => by
    induction l with
    | nil => exact .nil
    | cons x l ih => exact .cons (.int _) ih
  exact go _
/-- list(range(b)), list(range(a, b)) -/
def dLRg1 (a : DE) : DA := fun ρ P => a ρ fun x => x.intP fun j => RgOk 0 j ∧ P (rgI 0 j)
def dLRg2 (a b : DE) : DA := fun ρ P => a ρ fun x => b ρ fun y => x.intP fun i => y.intP fun j => RgOk i j ∧ P (rgI i j)
theorem f_lrg1 {a : Expr} {ta : TE} {da : DE} {p p1 p2 pos : Pos} (hc : X.calm = true) (hgl : Gl X "list") (hml : X.mg "list" = none) (hg : Gl X "range") (hm : X.mg "range" = none) (ha : PDE X a ta da) (hs : starEach [a] X.env = (false, eval a X.env) :: starEach [] X.env := by rfl)
    (hs2 : starEach [.Call (.Name "range" p1) [a] [] p2] X.env = (false, eval (.Call (.Name "range" p1) [a] [] p2) X.env) :: starEach [] X.env := by rfl) :
    PDF X (.Call (.Name "list" p) [.Call (.Name "range" p1) [a] [] p2] [] pos) (tLstRg (tRg1 ta)) (dLRg1 da) := ⟨pe_listRg hc hgl hml (prg_1 hg hm ha.pe hs) hs2, fun M G ρ σ H P Q rl hp k => by
    refine ha.se M G ρ σ H _ _ rl hp fun x vx G1 H1 p1 r1 s1 q1 => ?_
    obtain ⟨j, rfl, h, p⟩ := D.intP_of p1
    exact ⟨j, q1.intI, h, fun q hn => k _ _ q G1 H1 p r1 s1 (rpl_rg 0 j) hn⟩⟩
theorem f_lrg2 {a b : Expr} {ta tb : TE} {da db : DE} {p p1 p2 pos : Pos} (hc : X.calm = true) (hgl : Gl X "list") (hml : X.mg "list" = none) (hg : Gl X "range") (hm : X.mg "range" = none) (ha : PDE X a ta da) (hb : PDE X b tb db) (hs : starEach [a, b] X.env = (false, eval a X.env) :: starEach [b] X.env := by rfl)
    (hs1 : starEach [b] X.env = (false, eval b X.env) :: starEach [] X.env := by rfl) (hp : (backTo p2 (starEach [b] X.env)).any (·.1) = false := by rfl)
    (hs2 : starEach [.Call (.Name "range" p1) [a, b] [] p2] X.env = (false, eval (.Call (.Name "range" p1) [a, b] [] p2) X.env) :: starEach [] X.env := by rfl) :
    PDF X (.Call (.Name "list" p) [.Call (.Name "range" p1) [a, b] [] p2] [] pos) (tLstRg (tRg2 ta tb)) (dLRg2 da db) := ⟨pe_listRg hc hgl hml (prg_2 hg hm ha.pe hb.pe hs hs1 hp) hs2, fun M G ρ σ H P Q rl hp k => by
    refine ha.se M G ρ σ H _ _ rl hp fun x vx G1 H1 p1 r1 s1 q1 => ?_
    refine hb.se M G1 ρ σ H1 _ _ r1 p1 fun y vy G2 H2 p2 r2 s2 q2 => ?_
    obtain ⟨i, rfl, p3⟩ := D.intP_of p2
    obtain ⟨j, rfl, h, p⟩ := D.intP_of p3
    exact ⟨i, j, q1.intI, q2.intI, h, fun q hn => k _ _ q G2 H2 p r2 (s1.trans s2) (rpl_rg i j) hn⟩⟩
/-! ### list.count of numbers -/
def dCnt (o e : DE) : DE := fun ρ P => o ρ fun x => x.lstP fun xs => optP (fun ns => e ρ fun y => y.intP fun k => P (.int ((ns.count k : Nat) : Int))) (intsOf xs)
theorem d_cnt {o e : Expr} {to te : TE} {d de : DE} {ap cp : Pos} (ho : PDE X o to d) (he : PDE X e te de) (hbase : attributeBase o "count" X.env (eval o X.env) = eval o X.env := by rfl)
    (hfew : ((backTo cp (starEach [e] X.env)).all (fun x => !x.1) && (backToKw cp (keywordEach [] X.env)).all (fun x => x.1.isSome) && decide ([e].length + ([] : List Keyword).length + (if ([] : List Keyword).isEmpty then 0 else 1) < 30)) = true := by rfl)
    (hline : (ap.endLine == cp.line) = true := by rfl) (hst : starEach [e] X.env = (false, eval e X.env) :: starEach [] X.env := by rfl) (hplain : (backTo cp (starEach [] X.env)).any (·.1) = false := by rfl) :
    PDE X (.Call (.Attribute o "count" ap) [e] [] cp) (tBM X.K "list" (rCntI X.K) to (tCons te tNil)) (dCnt d de) :=
  ⟨pe_bm PySem.F.plainAttrs_list PySem.F.slot_list_count PySem.F.type_list_count mt_lcount ho.pe (pa_cons he.pe pa_nil hst) hbase hfew hline hst hplain, fun M G ρ σ H P Q rl hp l => by
    refine ho.se M G ρ σ H _ _ rl hp fun x v G1 H1 p1 r1 s1 q1 => ?_
    obtain ⟨xs, rfl, p1⟩ := D.lstP_of p1
    obtain ⟨ns, e1, p1⟩ := optP_of p1
    obtain ⟨a, vs, rfl, h1, h2⟩ := q1.lstI
    rw [intsOf_eq e1] at h2
    rw [h2.ints] at h1
    refine ⟨.inl ⟨rfl, _, .inl (same_rd r1.frm.gs h1)⟩, ?_⟩
    refine he.se M G1 ρ σ H1 _ _ r1 p1 fun y w G2 H2 p2 r2 s2 q2 => ?_
    obtain ⟨k, rfl, p2⟩ := D.intP_of p2
    exact ⟨a, ns, k, rfl, by rw [q2.intI], .inl (same_rd r2.frm.gs (same_rd s2 h1)), l _ _ G2 H2 p2 r2 (s1.trans s2) (.int _)⟩⟩
/-! ### x + e, x a list of one's own -/
def dCatO (i : Nat) (b : DE) : DA := fun ρ P => (sat ρ i).owP fun us => b ρ fun y => y.lstP fun vs => us.length + vs.length ≤ sizeLine ∧ P (us ++ vs)
theorem f_catO (i : Nat) {x : Str} {p pos : Pos} {b : Expr} {tb : TE} {db : DE} (hb : PDE X b tb db) (hN : X.N[i]? = some x := by rfl) (hv : Vis X.env.scope x := by first | exact Or.inl rfl | exact Or.inr (Or.inl rfl) | exact Or.inr (Or.inr rfl))
    (hd : (x == ("__debug__" : Str)) = false := by decide) (hcd : (x == ("__classdict__" : Str)) = false := by decide) : PDF X (.BinOp (.Name x p) .Add b pos) (tOp rCatR (tVar i) tb) (dCatO i db) :=
  ⟨pe_op op_catR (pe_var hN hv hd hcd) hb.pe, fun M G ρ σ H P Q rl hp k => by
    obtain ⟨ds, a, vs, p1, e1, e2, g1, h1, q1⟩ := rl.owAt hp
    refine ⟨_, e2, ?_⟩
    refine hb.se M G ρ σ H _ _ rl p1 fun y w G2 H2 p2 r2 s2 q2 => ?_
    obtain ⟨ys, rfl, hz, p2⟩ := D.lstP_of p2
    obtain ⟨ws, h2, q3⟩ := rl.owAdr r2 e1 e2
    obtain ⟨b', us, rfl, h3, q4⟩ := q2.lstI
    exact ⟨a, b', ws, us, rfl, rfl, .inl h2, same_rd r2.frm.gs h3, by rw [q3.len, q4.len]; exact hz, fun t ht => k _ _ t G2 H2 p2 r2 s2 (q3.app q4) ht⟩⟩
end
end PD

namespace PD
open PySem PySem.Spec PyProof.Rows L2
/-! ### sets of tuples of numbers -/
def keyOfD : D → Option (List Int)
  | .tup xs => intsOf xs
  | _ => none
def keysOf : List D → Option (List (List Int))
  | [] => some []
  | x :: xs => match keyOfD x, keysOf xs with
    | some k, some ks => some (k :: ks)
    | _, _ => none
theorem keyOfD_eq {d : D} {k : List Int} (h : keyOfD d = some k) : d = .tup (k.map D.int) := by
  unfold keyOfD at h
  split at h
  · rw [intsOf_eq h]
  · cases h
theorem keysOf_eq : ∀ {ds : List D} {ks : List (List Int)}, keysOf ds = some ks → ds = ks.map fun k => D.tup (k.map D.int)
  | [], ks, h => by
    have h : [] = ks := Option.some.inj h
    subst h
    rfl
  | x :: xs, ks, h => by
    unfold keysOf at h
    split at h
    · rename_i k ks' h1 h2
      cases h
      rw [keyOfD_eq h1, keysOf_eq h2]
      rfl
    · cases h
theorem RpL.keys {K : PySem.W.Frag} {G : Hp} : ∀ {vs : List V} {ks : List (List Int)}, RpL K G vs (ks.map fun k => D.tup (k.map D.int)) → ∃ L : List (Addr × List Int), vs = L.map (fun p => V.ref p.1) ∧ L.map (·.2) = ks ∧ ∀ p ∈ L, SqT K G p.1 (p.2.map V.int)
  | _, [], h => ⟨[], h.nilI, rfl, fun p hp => nomatch hp⟩
  | _, k :: ks, h => by
    obtain ⟨v, ws, rfl, h1, h2⟩ := RpL.consI h
    obtain ⟨L, rfl, e2, h3⟩ := RpL.keys h2
    obtain ⟨a, us, rfl, h4, h5⟩ := h1.tupI
    rw [h5.ints] at h4
    refine ⟨(a, k) :: L, rfl, by rw [List.map_cons, e2], fun p hp => ?_⟩
    rcases List.mem_cons.mp hp with e | e
    · rw [e]; exact h4
    · exact h3 p e
section
variable {X : Cx}
def cSet : DC := one1 fun x P => x.seqP fun xs => optP (fun ks => ks.length ≤ 306 ∧ P (.st ks)) (keysOf xs)
theorem c_set (hc : X.calm = true) (hu : X.A.units + 64 < cLine) : PDC X (.type "set") (PZ.rSet X.K) cSet := ⟨PZ.cr_set hc hu, fun M G ρ σ H vs ds P Q r h hp k => by
  obtain ⟨x, rfl, hp1⟩ := one1_of hp
  obtain ⟨v, rfl, hv⟩ := h.oneI
  obtain ⟨xs, e, hp2⟩ := D.seqP_of hp1
  obtain ⟨ks, ek, fw, p⟩ := optP_of hp2
  have ek := keysOf_eq ek
  subst ek
  have fin : ∀ {a : Addr} {us : List V}, (SqL X.K H a us ∨ SqT X.K H a us) → RpL X.K G us (ks.map fun k => D.tup (k.map D.int)) → PZ.rSet X.K [.ref a] H Q := fun {a us} ha hu => by
    obtain ⟨L, e1, e2, h3⟩ := RpL.keys hu
    subst e1 e2
    refine ⟨a, L, rfl, ha, fun p hp => same_sqT r.frm.gs (h3 p hp), by rw [List.length_map] at fw; exact fw, fun b L2 hn s1 s2 nd => ?_⟩
    refine k _ _ _ _ p (r.new hn) (same_upd (r.frm.gs.free hn)) (.st upd_same (fun p hp => same_sqT (same_upd (r.frm.gs.free hn)) (h3 p (s1 p hp))) nd fun k => ⟨fun z => ?_, fun z => ?_⟩)
    · obtain ⟨p, hp, rfl⟩ := List.mem_map.mp z
      exact List.mem_map.mpr ⟨p, s1 p hp, rfl⟩
    · obtain ⟨p, hp, rfl⟩ := List.mem_map.mp z
      exact s2 p hp
  rcases e with rfl | rfl
  · obtain ⟨a, us, rfl, h1, h2⟩ := hv.lstI
    exact fin (.inl (.inl (same_rd r.frm.gs h1))) h2
  · obtain ⟨a, us, rfl, h1, h2⟩ := hv.tupI
    exact fin (.inr (same_sqT r.frm.gs h1)) h2⟩
def D.stP (P : List (List Int) → Prop) : D → Prop
  | .st ks => P ks
  | _ => False
theorem D.stP_of {P : List (List Int) → Prop} {d : D} (h : d.stP P) : ∃ ks, d = .st ks ∧ P ks := by
  unfold D.stP at h
  split at h
  · exact ⟨_, rfl, h⟩
  · exact h.elim
theorem Rp.stI {K : PySem.W.Frag} {G : Hp} {v : V} {ks : List (List Int)} (h : Rp K G v (.st ks)) : ∃ a L, v = .ref a ∧ G a = some (PZ.StO a L) ∧ (∀ p ∈ L, SqT K G p.1 (p.2.map V.int)) ∧ (L.map (·.2)).Nodup ∧ ∀ k, k ∈ L.map (·.2) ↔ k ∈ ks := by
  cases h with | st h1 h2 h3 h4 => exact ⟨_, _, rfl, h1, h2, h3, h4⟩
def oInS (f : Bool → Bool) : DO := fun x y P => x.tupP fun xs => y.stP fun ks => optP (fun k => P (.bl (f (decide (k ∈ ks))))) (intsOf xs)
theorem so_inS (f : Bool → Bool) : SOp X.K (PZ.rInSt X.K f) (oInS f) := fun M G ρ σ H x y d e P Q r hx hy hp k => by
  obtain ⟨xs, rfl, hp⟩ := D.tupP_of hp
  obtain ⟨ks, rfl, hp⟩ := D.stP_of hp
  obtain ⟨kk, e1, p⟩ := optP_of hp
  obtain ⟨b, us, rfl, h1, h2⟩ := hx.tupI
  rw [intsOf_eq e1] at h2
  rw [h2.ints] at h1
  obtain ⟨a, L, rfl, g1, g2, g3, g4⟩ := hy.stI
  have eq : decide (kk ∈ L.map (·.2)) = decide (kk ∈ ks) := by simp only [g4]
  refine ⟨b, a, L, kk, rfl, rfl, r.frm.gs _ _ g1, fun p hp => same_sqT r.frm.gs (g2 p hp), same_sqT r.frm.gs h1, ?_⟩
  rw [eq]
  exact k _ _ G H p r (Same.refl G) (.bl _)
theorem do_inS (hu : X.A.units + 65 < cLine) : PDO X (compareOp .In) (PZ.rInSt X.K fun b => b) (oInS fun b => b) := ⟨PZ.op_inSt hu, so_inS _⟩
theorem do_notInS (hu : X.A.units + 65 < cLine) : PDO X (compareOp .NotIn) (PZ.rInSt X.K fun b => !b) (oInS fun b => !b) := ⟨PZ.op_notInSt hu, so_inS _⟩
def cLenS : DC := one1 fun x P => x.stP fun ks => ∀ us : List (List Int), us.Nodup → (∀ k, k ∈ us ↔ k ∈ ks) → P (.int us.length)
theorem c_lenS : PDC X (.builtin "len") PZ.rLenSt cLenS := ⟨PZ.cr_lenSt, fun M G ρ σ H vs ds P Q r h hp k => by
  obtain ⟨x, rfl, hp1⟩ := one1_of hp
  obtain ⟨v, rfl, hv⟩ := h.oneI
  obtain ⟨ks, rfl, p⟩ := D.stP_of hp1
  obtain ⟨a, L, rfl, g1, g2, g3, g4⟩ := hv.stI
  have q := p (L.map (·.2)) g3 g4
  rw [List.length_map] at q
  exact ⟨a, L, rfl, r.frm.gs _ _ g1, k _ _ G H q r (Same.refl G) (.int _)⟩⟩
end
/-! ### sorted of a tuple -/
section
variable {prog : Program} {w : World} {A : Around} {E : Value → Shared → Prop} {s : Shared}
theorem collect_tup {l : Addr} {vs : List Value} {Q : List Value → Shared → Prop} (hl : IsTup s.heap l vs.toArray) (h : Q vs { s with heap := (s.heap.push (seqObj "list" #[] 0)).update s.heap.objs.size (Obj.mapSeq (· ++ vs.toArray)) }) (hz : vs.length ≤ sizeLine) :
    wpAny (model prog w) A (collect (.ref l)) Q E s := by
  obtain ⟨o, ho, hc, n, hd⟩ := id hl
  have at0 : (s.heap.push (seqObj "list" #[] 0)).get? s.heap.objs.size = some (seqObj "list" #[] 0) := Heap.get?_push_size _ rfl
  have at1 : (s.heap.push (seqObj "list" #[] 0)).get? l = some o := Heap.get?_push_of_some _ ho
  unfold collect
  refine wpAny_bind (wpAny_runValue (codeAny_builtin entry_proto_collect' ?_))
  show wpAny _ _ (do again (.builtin "list.__iadd__" ⟨[← newList [], .ref l], []⟩)) _ _ s
  refine wpAny_bind (wpAny_newList (wpAny_pure ⟨Code.quiet_builtin _ (by decide +kernel), codeAny_builtin entry_list_iadd' ?_⟩))
  show wpAny _ _ (Builtin.List.listExtendWith (.ref s.heap.objs.size) (.ref l) (.ref s.heap.objs.size)) _ _ { s with heap := s.heap.push (seqObj "list" #[] 0) }
  unfold Builtin.List.listExtendWith
  refine wpAny_bind (wpAny_typeOf (T := "tuple") ⟨o, at1, hc⟩ ?_)
  have ht : (Value.type "tuple" == Value.type "tuple") = true := by rfl
  rw [if_pos (by rw [ht]; simp)]
  refine wpAny_bind (listItems_at at1 hd ?_)
  refine wpAny_bind (listItems_at (xs := #[]) (n := 0) at0 rfl ?_)
  rw [if_neg (by simp)]
  refine wpAny_bind (listUpdate_at (xs := #[]) (n := 0) at0 rfl ?_ (Nat.zero_le _) (by show (#[] ++ vs.toArray).size ≤ sizeLine + 1; simp only [Array.size_append, List.size_toArray, List.length_nil]; omega))
  refine wpAny_pure ?_
  show wpAny (model prog w) A (do
    let o ← load s.heap.objs.size
    match o.data with
    | .seq xs _ => pure xs.toList
    | _ => unsupported "internal:collect") Q E { s with heap := (s.heap.push (seqObj "list" #[] 0)).update s.heap.objs.size (Obj.mapSeq (· ++ vs.toArray)) }
  refine wpAny_bind (wpAny_load (get?_update_seq at0 _) ?_)
  show wpAny _ _ (pure ((#[] : Array Value) ++ vs.toArray).toList) Q E _
  rw [show ((#[] : Array Value) ++ vs.toArray).toList = vs by simp]
  exact wpAny_pure h
theorem sorted_tup {α : Type} {R : Value → α → Prop} {enc : α → PyData} {bs : List α} {vs : List Value} {l : Addr} {Q : Value → Shared → Prop} (hl : IsTup s.heap l vs.toArray) (e : PySem.W.EachIs R vs bs) (er : PySem.W.EachIs (fun v b => ∃ as, Reads s.heap v (enc b) as) vs bs) (hal : PySem.W.AllAlike (bs.map enc)) (hk : PySem.W.Sortable (bs.map enc)) (hL : bs.length ≤ sizeLine)
    (hu : ∀ b, b ∈ bs → A.units + 2 + (enc b).depth < cLine) (h : ∀ out, out.length = bs.length → PySem.W.EachIs R out (bs.mergeSort (PySem.W.dataLe false enc)) → Q (.ref (s.heap.objs.size + 1)) { s with heap := sortedAll s.heap vs (List.toArray out) }) :
    wpAny (model prog w) A (call (.builtin "sorted") [.ref l]) Q E s := by
  have hL' : vs.length ≤ sizeLine := by rw [e.length]; exact hL
  have er' : PySem.W.EachIs (fun v b => ∃ as, Reads (PySem.W.sortingHeap (PySem.W.copyHeap s.heap vs) (s.heap.objs.size + 1) vs) v (enc b) as) vs bs := er.mono fun _ _ ⟨as, r⟩ => ⟨as, PyProof.Rows.Reads.keeps (fun _ _ => PySem.W.sorting_copy_old) r⟩
  refine call_function_entry_kw kind_sorted plain_sorted entry_sorted (args_sorted1 _) ?_
  unfold Builtin.«sorted»
  refine wpAny_bind (m := checkCount "sorted" 1 1 _) (wpAny_pure ?_)
  refine wpAny_bind (collect_tup hl ?_ hL')
  refine wpAny_bind (wpAny_newList ?_ hL')
  have hz : ((s.heap.push (seqObj "list" #[] 0)).update s.heap.objs.size (Obj.mapSeq (· ++ vs.toArray))).objs.size = s.heap.objs.size + 1 := by rw [Heap.size_update, size_push']
  show wpAny _ _ _ _ _ { s with heap := PySem.W.copyHeap s.heap vs }
  rw [hz]
  refine wpAny_bind (wpAny_holding (wpAny_call_entry_kw slot_list_sort ⟨_, PySem.W.copyHeap_at s.heap vs, rfl⟩ entry_list_sort ?body (args_list_sort _)))
  case body =>
    show wpAny (model prog w) A.in1.in1 (Builtin.«list.sort» ⟨[.ref (s.heap.objs.size + 1)], []⟩) _ _ _
    refine wpAny_mono (PySem.W.list_sort_vals (P := fun f s' => f = .done (.ret .none) ∧ Q (.ref (s.heap.objs.size + 1)) s') (A := A.in1.in1) (E := E) (s := { s with heap := PySem.W.copyHeap s.heap vs }) (PySem.W.copyHeap_at s.heap vs)
      (PySem.W.SortsAt.data (s := { s with heap := PySem.W.sortingHeap (PySem.W.copyHeap s.heap vs) (s.heap.objs.size + 1) vs }) (PySem.W.each_map (R := fun v d => ∃ as, Reads (PySem.W.sortingHeap (PySem.W.copyHeap s.heap vs) (s.heap.objs.size + 1) vs) v d as) enc er') hal hk (PySem.W.bound_map hu)) hL'
      ⟨rfl, h _ (by rw [PySem.W.sortVals_length false rfl]; exact e.length) (PySem.W.sortVals_data false e er' hal)⟩) (fun f s' hf => ?_) fun _ _ e => e
    obtain ⟨rfl, hq⟩ := hf
    exact ⟨_, rfl, wpAny_pure ⟨_, rfl, hq⟩⟩
end
section
variable {X : Cx}
def rSrtT (K : PySem.W.Frag) : List V → Hp → VK → Prop := fun vs H Q => ∃ (a : Addr) (xs : List V) (G : Hp) (ds : List D), vs = [.ref a] ∧ SqT K H a xs ∧ Same G H ∧ RpL K G xs ds ∧ (ds.length ≤ sizeLine ∧ (∀ x ∈ ds, ∀ y ∈ ds, x.alike y = true) ∧ (∀ x ∈ ds, x.fit 59 = true) ∧ ((∀ x ∈ ds, ∃ y ys, x = .tup (y :: ys)) ∨ ∀ x ∈ ds, x ≠ .non ∧ ∀ ys, x ≠ .tup ys)) ∧ ∀ ys p, RpL K G ys (srt ds) → H p = none → Q (.ref p) (upd H p (.lst ys))
theorem cr_srtT (hu : X.A.units + 65 < cLine) : CallR X (.builtin "sorted") (rSrtT X.K) := by
  intro pins s σ H vs us Q I r ⟨a, xs, G, ds, e, hs, g, rp, ⟨hz, al, ft, kd⟩, q⟩
  subst e
  obtain ⟨its, rv, hl, _⟩ := I.tuple hs
  rw [Vals.ref1 r]
  refine sorted_tup (R := fun (u : Value) (d : D) => ∃ v, RelV v u ∧ Rp X.K G v d) (enc := D.py) (bs := ds) (vs := its) hl (each_of rv rp) (each_reads I g rv rp ft) (fun x hx y hy => ?_) ?_ hz (fun d hd => ?_) fun out hout ho => ?_
  · obtain ⟨d, hd, rfl⟩ := List.mem_map.mp hx
    obtain ⟨e, he, rfl⟩ := List.mem_map.mp hy
    exact al d hd e he
  · rcases kd with kd | kd
    · refine .inl fun x hx => ?_
      obtain ⟨d, hd, rfl⟩ := List.mem_map.mp hx
      obtain ⟨y, ys, rfl⟩ := kd d hd
      exact ⟨y.py, pyL ys, by rw [D.py, pyL]⟩
    · refine .inr fun x hx => ?_
      obtain ⟨d, hd, rfl⟩ := List.mem_map.mp hx
      obtain ⟨h1, h2⟩ := kd d hd
      refine ⟨py_none (ft d hd) h1, fun ys e => ?_⟩
      cases d with
      | tup zs => exact h2 zs rfl
      | _ => simp [D.py] at e
  · have := (fit_shape 59 d (ft d hd)).2
    omega
  · obtain ⟨ys, r1, r2⟩ := of_each ho
    refine ⟨.ref _, _, I.laid (t' := s.toks) (o := .lst ys) (fun b o e => PyProof.Rows.sortedAll_old e) (Nat.le_succ _) ⟨?_, out, (PyProof.Rows.sortedAll_at s.heap its out.toArray).choose, r1, (PyProof.Rows.sortedAll_at s.heap its out.toArray).choose_spec⟩, rfl, q ys _ r2 (I.hok.fresh (Nat.le_succ _))⟩
    rw [r1.length, hout]
    exact hz
/-- sorted(xs), xs a list or a tuple -/
def srtP (P : List D → Prop) : List D → Prop
  | [.lst xs] => SrtOk xs ∧ P (srt xs)
  | [.tup xs] => (xs.length ≤ sizeLine ∧ (∀ x ∈ xs, ∀ y ∈ xs, x.alike y = true) ∧ (∀ x ∈ xs, x.fit 59 = true) ∧ ((∀ x ∈ xs, ∃ y ys, x = .tup (y :: ys)) ∨ ∀ x ∈ xs, x ≠ .non ∧ ∀ ys, x ≠ .tup ys)) ∧ P (srt xs)
  | _ => False
def dSrtA (a : DA) : DA := fun ρ P => a ρ (srtP P)
theorem cr_or {fv : Value} {r r' : List V → Hp → VK → Prop} (h : CallR X fv r) (h' : CallR X fv r') : CallR X fv (fun vs H Q => r vs H Q ∨ r' vs H Q) := fun pins s σ H vs us Q I rv q =>
  q.elim (h pins s σ H vs us Q I rv) (h' pins s σ H vs us Q I rv)
theorem f_srtA {x : Str} {e : Expr} {t : TA} {d : DA} {p pos : Pos} (hu : X.A.units + 65 < cLine) (hg : Gl X x) (hm : X.mg x = none) (hv : bootBuiltins x = some (.builtin "sorted")) (ha : PDA X [e] t d)
    (hn : x ≠ "__name__" := by decide) (hdb : (x == ("__debug__" : Str)) = false := by decide) (he : starEach [e] X.env = (false, eval e X.env) :: starEach [] X.env := by rfl) (hpl : (backTo pos (starEach [] X.env)).any (·.1) = false := by rfl) :
    PDF X (.Call (.Name x p) [e] [] pos) (tCB (fun vs H Q => rSrt X.K vs H Q ∨ rSrtT X.K vs H Q) t) (dSrtA d) := ⟨pe_callB (cr_or (cr_srt hu) (cr_srtT hu)) hg hm hv ha.pe hn hdb he hpl, fun M G ρ σ H P Q rl hp l => by
  refine ha.se M G ρ σ H _ _ rl hp fun ds vs G1 H1 p1 r1 s1 q1 => ?_
  unfold srtP at p1
  split at p1
  · rename_i xs
    obtain ⟨v, rfl, hv⟩ := q1.oneI
    obtain ⟨a, ws, rfl, h1, h2⟩ := hv.lstI
    exact .inl ⟨a, ws, G1, xs, rfl, .inl (same_rd r1.frm.gs h1), r1.frm.gs, h2, p1.1, fun ys p hy hn => l _ ys p G1 H1 p1.2 r1 s1 hy hn⟩
  · rename_i xs
    obtain ⟨v, rfl, hv⟩ := q1.oneI
    obtain ⟨a, ws, rfl, h1, h2⟩ := hv.tupI
    exact .inr ⟨a, ws, G1, xs, rfl, same_sqT r1.frm.gs h1, r1.frm.gs, h2, p1.1, fun ys p hy hn => l _ ys p G1 H1 p1.2 r1 s1 hy hn⟩
  · exact p1.elim⟩
end
/-! ### two clauses in a comprehension -/
def compP2 (g : DG) (t : DT) (i1 : DI) (g1 : DG) (t1 : DT) (e : DE) (ρ : Env) (vs1 : List Nat) : Nat → List D → (List D → Prop) → Prop
  | _, [], P => P []
  | n, d :: ds, P => g d ρ fun ρ1 => t ρ1 fun b => if b = true then i1 ρ1 fun es => ((vs1.all fun v => (sat ρ1 v).still) = true ∧ n + es.length ≤ sizeLine) ∧ compP g1 t1 e (wipeE ρ1 vs1) es fun ys => ys.length ≤ es.length ∧ compP2 g t i1 g1 t1 e ρ vs1 (n + ys.length) ds fun zs => P (ys ++ zs)
    else compP2 g t i1 g1 t1 e ρ vs1 n ds P
def dComp2 (i : DI) (g : DG) (t : DT) (i1 : DI) (g1 : DG) (t1 : DT) (e : DE) (vs vs1 : List Nat) : DA := fun ρ P => i ρ fun ds => (vs.all fun v => (sat ρ v).still) = true ∧ compP2 g t i1 g1 t1 e (wipeE ρ vs) vs1 0 ds P
section
variable {K : PySem.W.Frag}
theorem ite_t {p q : Prop} (h : if true = true then p else q) : p := h
theorem sf_lc2 {wi wi1 : TI} {t t1 : TG} {tt tt1 : TT} {te : TE} {vs vs1 : List Nat} {di di1 : DI} {g g1 : DG} {dt dt1 : DT} {de : DE} (hi : SI K wi di) (hg : SG K t g) (gw : GW t vs) (gwd : GWd g vs) (ht : ST K tt dt)
    (hi1 : SI K wi1 di1) (hg1 : SG K t1 g1) (gw1 : GW t1 vs1) (gwd1 : GWd g1 vs1) (ht1 : ST K tt1 dt1) (he : SE K te de) : SF K (tLc2 wi t tt wi1 t1 tt1 te vs vs1) (dComp2 di g dt di1 g1 dt1 de vs vs1) := fun M G ρ σ H P Q rl hp k => by
  refine hi M G ρ σ H _ _ rl hp fun ds J G1 H1 p1 r1 s1 y => ?_
  obtain ⟨st, p1⟩ := p1
  intro D hD
  have hF : M.F D = none := r1.frm.fs.free hD
  have lf := r1.frm.lf
  refine ⟨fun i m H' => ∃ G' acc ys, (m = ds.length - i ∧ i ≤ ds.length) ∧ Same G1 G' ∧ H' D = some (.lst acc) ∧ Rel K M G' ρ σ (rem H' D) ∧ RpL K G' acc ys ∧ compP2 g dt di1 g1 dt1 de (wipeE ρ vs) vs1 ys.length (ds.drop i) (fun zs => P (ys ++ zs)),
    ⟨ds.length, G1, [], [], ⟨rfl, Nat.zero_le _⟩, Same.refl _, upd_same, by rw [rem_upd hD]; exact r1, .nil, by simpa using p1⟩, ?_⟩
  rintro i m H2 ⟨G2, acc, ys, ⟨rfl, hle⟩, s2, eD, r2, q2, p2⟩
  have eH : upd (rem H2 D) D (.lst acc) = H2 := upd_rem eD
  have sH : Same (rem H2 D) H2 := fun b o e => by
    have : b ≠ D := fun z => by rw [z, rem_same] at e; cases e
    rw [rem_ne this] at e; exact e
  have sG : Same G1 H2 := s2.trans (r2.frm.gs.trans sH)
  by_cases hlt : i < ds.length
  · refine .inr ⟨y.go i H2 sG hlt, fun H' => ∃ G' acc ys, Same G1 G' ∧ H' D = some (.lst acc) ∧ Rel K M G' ρ σ (rem H' D) ∧ RpL K G' acc ys ∧ compP2 g dt di1 g1 dt1 de (wipeE ρ vs) vs1 ys.length (ds.drop (i + 1)) (fun zs => P (ys ++ zs)),
      fun H' ⟨G', acc, ys, h2, h3, h4, h5, h6⟩ => ⟨ds.length - (i + 1), by omega, G', acc, ys, ⟨rfl, hlt⟩, h2, h3, h4, h5, h6⟩, fun x H3 hy3 => ?_⟩
    rw [List.drop_eq_getElem_cons hlt] at p2
    have rh : Rel K (M.hold D (.lst acc)) G2 ρ σ H2 := by
      have q := r2.hold (o := .lst acc) (rem_same (H := H2) (p := D))
      rw [eH] at q
      exact q
    obtain ⟨G3, s3, r3, q3, _⟩ := y.come (rh.wiped vs) s2 (List.getElem?_eq_getElem hlt) hy3
    refine gw x (wipe σ vs) H3 _ _ (hg _ G3 _ _ H3 x _ (fun ρ1 => wipeE ρ1 vs = wipeE ρ vs ∧ dt ρ1 fun b => if b = true then di1 ρ1 fun es => ((vs1.all fun v => (sat ρ1 v).still) = true ∧ ys.length + es.length ≤ sizeLine) ∧ compP g1 dt1 de (wipeE ρ1 vs1) es fun zs => zs.length ≤ es.length ∧ compP2 g dt di1 g1 dt1 de (wipeE ρ vs) vs1 (ys.length + zs.length) (ds.drop (i + 1)) fun us => P (ys ++ (zs ++ us))
        else compP2 g dt di1 g1 dt1 de (wipeE ρ vs) vs1 ys.length (ds.drop (i + 1)) fun zs => P (ys ++ zs))
      (fun σ1 H4 => ∃ ρ1, (wipeE ρ1 vs = wipeE ρ vs ∧ dt ρ1 fun b => if b = true then di1 ρ1 fun es => ((vs1.all fun v => (sat ρ1 v).still) = true ∧ ys.length + es.length ≤ sizeLine) ∧ compP g1 dt1 de (wipeE ρ1 vs1) es fun zs => zs.length ≤ es.length ∧ compP2 g dt di1 g1 dt1 de (wipeE ρ vs) vs1 (ys.length + zs.length) (ds.drop (i + 1)) fun us => P (ys ++ (zs ++ us))
        else compP2 g dt di1 g1 dt1 de (wipeE ρ vs) vs1 ys.length (ds.drop (i + 1)) fun zs => P (ys ++ zs)) ∧ Rel K (M.hold D (.lst acc)) G3 ρ1 σ1 H4) r3 q3
      (gwd _ _ _ _ p2 fun ρ1 w p => ⟨w.trans (wipeE_idem ρ vs), p⟩) fun ρ1 σ1 p r => ⟨ρ1, p, r⟩) fun σ1 H4 w h => ?_
    obtain ⟨ρ1, ⟨w1, p4⟩, r4⟩ := h
    have w2 : wipe σ1 vs = wipe σ vs := w.trans (wipe_idem σ vs)
    refine ⟨w2, ht _ G3 ρ1 σ1 H4 _ _ r4 p4 fun b G5 H5 p5 r5 s5 => ?_⟩
    cases b with
    | false =>
      refine iteF ⟨G5, acc, ys, s2.trans (s3.trans s5), r5.held, ?_, q2.mono (s3.trans s5), by simpa using p5⟩
      exact (rh.unwipe r5 w1 w2 (s3.trans s5) st).take hF lf
    | true =>
      refine iteT (hi1 _ G5 ρ1 σ1 H5 _ _ r5 (ite_t p5) fun es J1 G6 H6 p6 r6 s6 y1 => ?_)
      obtain ⟨⟨st1, hsz⟩, p6⟩ := p6
      have s36 : Same G2 G6 := s3.trans (s5.trans s6)
      refine ⟨fun j m H' => ∃ G' acc' zs, (m = es.length - j ∧ j ≤ es.length ∧ zs.length ≤ j) ∧ Same G6 G' ∧ H' D = some (.lst acc') ∧ Rel K M G' ρ1 σ1 (rem H' D) ∧ RpL K G' acc' (ys ++ zs) ∧ compP g1 dt1 de (wipeE ρ1 vs1) (es.drop j) (fun us => (zs ++ us).length ≤ es.length ∧ compP2 g dt di1 g1 dt1 de (wipeE ρ vs) vs1 (ys.length + (zs ++ us).length) (ds.drop (i + 1)) fun ws => P (ys ++ ((zs ++ us) ++ ws))),
        ⟨es.length, G6, acc, [], ⟨rfl, Nat.zero_le _, Nat.le_refl _⟩, Same.refl _, r6.held, r6.take hF lf, by rw [List.append_nil]; exact q2.mono s36, by simpa using p6⟩, ?_⟩
      rintro j m H7 ⟨G7, acc', zs, ⟨rfl, hj, hzs⟩, s7, eD7, r7, q7, p7⟩
      have eH7 : upd (rem H7 D) D (.lst acc') = H7 := upd_rem eD7
      have sH7 : Same (rem H7 D) H7 := fun b o e => by
        have : b ≠ D := fun z => by rw [z, rem_same] at e; cases e
        rw [rem_ne this] at e; exact e
      have sG7 : Same G6 H7 := s7.trans (r7.frm.gs.trans sH7)
      have rh7 : Rel K (M.hold D (.lst acc')) G7 ρ1 σ1 H7 := by
        have q := r7.hold (o := .lst acc') (rem_same (H := H7) (p := D))
        rw [eH7] at q
        exact q
      by_cases hlj : j < es.length
      · refine .inr ⟨y1.go j H7 sG7 hlj, fun H' => ∃ G' acc' zs, zs.length ≤ j + 1 ∧ Same G6 G' ∧ H' D = some (.lst acc') ∧ Rel K M G' ρ1 σ1 (rem H' D) ∧ RpL K G' acc' (ys ++ zs) ∧ compP g1 dt1 de (wipeE ρ1 vs1) (es.drop (j + 1)) (fun us => (zs ++ us).length ≤ es.length ∧ compP2 g dt di1 g1 dt1 de (wipeE ρ vs) vs1 (ys.length + (zs ++ us).length) (ds.drop (i + 1)) fun ws => P (ys ++ ((zs ++ us) ++ ws))),
          fun H' ⟨G', acc', zs, h1, h2, h3, h4, h5, h6⟩ => ⟨es.length - (j + 1), by omega, G', acc', zs, ⟨rfl, hlj, h1⟩, h2, h3, h4, h5, h6⟩, fun x1 H8 hy8 => ?_⟩
        rw [List.drop_eq_getElem_cons hlj] at p7
        obtain ⟨G8, s8, r8, q8, _⟩ := y1.come (rh7.wiped vs1) s7 (List.getElem?_eq_getElem hlj) hy8
        refine gw1 x1 (wipe σ1 vs1) H8 _ _ (hg1 _ G8 _ _ H8 x1 _ (fun ρ2 => wipeE ρ2 vs1 = wipeE ρ1 vs1 ∧ dt1 ρ2 fun b => if b = true then de ρ2 fun y => compP g1 dt1 de (wipeE ρ1 vs1) (es.drop (j + 1)) fun us => (zs ++ (y :: us)).length ≤ es.length ∧ compP2 g dt di1 g1 dt1 de (wipeE ρ vs) vs1 (ys.length + (zs ++ (y :: us)).length) (ds.drop (i + 1)) fun ws => P (ys ++ ((zs ++ (y :: us)) ++ ws))
            else compP g1 dt1 de (wipeE ρ1 vs1) (es.drop (j + 1)) fun us => (zs ++ us).length ≤ es.length ∧ compP2 g dt di1 g1 dt1 de (wipeE ρ vs) vs1 (ys.length + (zs ++ us).length) (ds.drop (i + 1)) fun ws => P (ys ++ ((zs ++ us) ++ ws)))
          (fun σ2 H9 => ∃ ρ2, (wipeE ρ2 vs1 = wipeE ρ1 vs1 ∧ dt1 ρ2 fun b => if b = true then de ρ2 fun y => compP g1 dt1 de (wipeE ρ1 vs1) (es.drop (j + 1)) fun us => (zs ++ (y :: us)).length ≤ es.length ∧ compP2 g dt di1 g1 dt1 de (wipeE ρ vs) vs1 (ys.length + (zs ++ (y :: us)).length) (ds.drop (i + 1)) fun ws => P (ys ++ ((zs ++ (y :: us)) ++ ws))
            else compP g1 dt1 de (wipeE ρ1 vs1) (es.drop (j + 1)) fun us => (zs ++ us).length ≤ es.length ∧ compP2 g dt di1 g1 dt1 de (wipeE ρ vs) vs1 (ys.length + (zs ++ us).length) (ds.drop (i + 1)) fun ws => P (ys ++ ((zs ++ us) ++ ws))) ∧ Rel K (M.hold D (.lst acc')) G8 ρ2 σ2 H9) r8 q8
          (gwd1 _ _ _ _ p7 fun ρ2 w p => ⟨w.trans (wipeE_idem ρ1 vs1), p⟩) fun ρ2 σ2 p r => ⟨ρ2, p, r⟩) fun σ2 H9 w9 h9 => ?_
        obtain ⟨ρ2, ⟨w3, p9⟩, r9⟩ := h9
        have w4 : wipe σ2 vs1 = wipe σ1 vs1 := w9.trans (wipe_idem σ1 vs1)
        refine ⟨w4, ht1 _ G8 ρ2 σ2 H9 _ _ r9 p9 fun b G10 H10 p10 r10 s10 => ?_⟩
        cases b with
        | false =>
          refine iteF ⟨G10, acc', zs, Nat.le_succ_of_le hzs, s7.trans (s8.trans s10), r10.held, ?_, q7.mono (s8.trans s10), by simpa using p10⟩
          exact (rh7.unwipe r10 w3 w4 (s8.trans s10) st1).take hF lf
        | true =>
          refine iteT (he _ G10 ρ2 σ2 H10 _ _ r10 (by simpa using p10) fun d v G11 H11 p11 r11 s11 q11 => ?_)
          refine ⟨acc', r11.held, by rw [q7.len, List.length_append]; omega, G11, acc' ++ [v], zs ++ [d], by rw [List.length_append, List.length_singleton]; omega, s7.trans (s8.trans (s10.trans s11)), upd_same, ?_, ?_, by simpa using p11⟩
          · rw [rem_upd2]
            exact (rh7.unwipe r11 w3 w4 (s8.trans (s10.trans s11)) st1).take hF lf
          · rw [← List.append_assoc]
            exact (q7.mono (s8.trans (s10.trans s11))).app (.one q11)
      · obtain rfl : j = es.length := by omega
        rw [List.drop_length] at p7
        have e7 : ∀ F : List PD.D → Prop, compP g1 dt1 de (wipeE ρ1 vs1) [] F = F [] := fun _ => rfl
        rw [e7] at p7
        obtain ⟨_, p7⟩ := p7
        rw [List.append_nil] at p7
        refine .inl ⟨y1.stop _ H7 sG7 (Nat.le_refl _), G7, acc', ys ++ zs, s2.trans (s36.trans s7), eD7, ?_, q7, by rw [List.length_append]; simpa using p7⟩
        exact r2.unwipe r7 w1 w2 (s36.trans s7) st
  · obtain rfl : i = ds.length := by omega
    rw [List.drop_length] at p2
    refine .inl ⟨y.stop _ H2 sG (Nat.le_refl _), ?_⟩
    have p2 : P (ys ++ []) := p2
    rw [List.append_nil] at p2
    rw [← eH]
    exact k ys acc D G2 _ p2 r2 (s1.trans s2) q2 rem_same
end
end PD

namespace PD
open PySem PySem.Spec PyProof.Rows L2
section
variable {X : Cx} {pos : Pos} {elt tg iter tg1 iter1 : Expr} {ifs ifs1 : List Expr} {scope : Scope} {own : List (Str × Nat)} {vs1 : List Nat} {wi : TI} {di di1 : DI} {g g1 : DG} {dt dt1 : DT} {de : DE}
abbrev BlkI (X : Cx) (scope : Scope) (tg iter : Expr) (di : DI) : Prop := ∀ (s : Shared) (H : Hp) (C : Addr) (cl : List (Str × Addr)) (fp : List Addr), ∃ t, PDI (X.blk s H scope (compEnvC scope cl C X.env) fp) tg iter t di
theorem BlkI.one (h : BlkI X scope tg iter di) : ∃ t : TI, ∀ (s : Shared) (H : Hp) (C : Addr) (cl : List (Str × Addr)) (fp : List Addr), PDI (X.blk s H scope (compEnvC scope cl C X.env) fp) tg iter t di :=
  ⟨fun σ H1 R => ∀ s H C cl fp, (h s H C cl fp).choose σ H1 R, fun s H C cl fp => ⟨⟨fun pins s1 σ H1 R I q => (h s H C cl fp).choose_spec.pe.run pins s1 σ H1 R I (q s H C cl fp)⟩,
    fun M G ρ σ H1 P R rl p k s' H' C' cl' fp' => (h s' H' C' cl' fp').choose_spec.se M G ρ σ H1 P R rl p k⟩⟩
theorem fb_lc2 (hc : X.calm = true) (hN : X.N.Nodup) (hi : PDI X tg iter wi di) (ok : BlkOk X.N X.env.scope scope own) (hv : ∀ i ∈ vs1, i ∈ own.map (·.2)) (hg : BlkG X scope tg g (own.map (·.2))) (gwd : GWd g (own.map (·.2))) (ht : BlkT X scope ifs dt)
    (hi1 : BlkI X scope tg1 iter1 di1) (hg1 : BlkG X scope tg1 g1 vs1) (gwd1 : GWd g1 vs1) (ht1 : BlkT X scope ifs1 dt1) (he : BlkE X scope elt de)
    (hs : ∀ x, foldedSetIterable iter X.env x = pure x := by intro _; rfl) (hs1 : ∀ env x, foldedSetIterable iter1 env x = pure x := by intro _ _; rfl) :
    ∃ t, PDF X (.ListComp elt [⟨tg, iter, ifs, 0⟩, ⟨tg1, iter1, ifs1, 0⟩] scope pos) t (dComp2 di g dt di1 g1 dt1 de (own.map (·.2)) vs1) := by
  obtain ⟨t1, gw, h1⟩ := hg.one
  obtain ⟨t2, h2⟩ := ht.one
  obtain ⟨t3, h3⟩ := hi1.one
  obtain ⟨t4, gw1, h4⟩ := hg1.one
  obtain ⟨t5, h5⟩ := ht1.one
  obtain ⟨t6, h6⟩ := he.one
  exact ⟨_, pe_lc2 hc hN hi.pe ok hv (fun s H C cl fp => (h1 s H C cl fp).pe) (fun s H C cl fp => (h2 s H C cl fp).pe) (fun s H C cl fp => (h3 s H C cl fp).pe) (fun s H C cl fp => (h4 s H C cl fp).pe) (fun s H C cl fp => (h5 s H C cl fp).pe) (fun s H C cl fp => (h6 s H C cl fp).pe) hs hs1,
    sf_lc2 hi.se (h1 X.s_0 X.H_0 0 [] []).se gw gwd (h2 X.s_0 X.H_0 0 [] []).se (h3 X.s_0 X.H_0 0 [] []).se (h4 X.s_0 X.H_0 0 [] []).se gw1 gwd1 (h5 X.s_0 X.H_0 0 [] []).se (h6 X.s_0 X.H_0 0 [] []).se⟩
/-- a reading that asks for less -/
theorem PDE.imp {e : Expr} {t : TE} {d d' : DE} (h : PDE X e t d) (q : ∀ ρ P, d' ρ P → d ρ P) : PDE X e t d' := ⟨h.pe, fun M G ρ σ H P Q rl hp k => h.se M G ρ σ H P Q rl (q _ _ hp) k⟩
end
section
variable {P : Program} {w : World} {K : PySem.W.Frag} {mg : Str → Option Value} {base : Heap} {k : Nat}
theorem tabd_nil : Tabd P w K mg base k [] := ⟨fun x n pre h => by simp at h⟩
theorem DefG.mono {x : Str} {ps : List Str} {j : Nat} {sp : Sp} (h : DefG P w K mg base x ps j sp) (l : j ≤ k) : DefG P w K mg base x ps k sp := by
  obtain ⟨f, fd, h1, h2, h3⟩ := h.ex
  exact ⟨⟨f, fd, h1, h2.mono l, h3⟩⟩
theorem tabd_cons {x : Str} {n j : Nat} {pre : Pre} {ps : List Str} {tb : FnTab} (hm : mg x = some (.ref (He.ga K x))) (h : DefG P w K mg base x ps j (spP K n pre)) (l : j ≤ k) (r : Tabd P w K mg base k tb) : Tabd P w K mg base k ((x, n, pre) :: tb) := ⟨fun y m pr e => by
  rw [List.lookup_cons] at e
  split at e
  · rename_i q
    have q : y = x := by simpa using q
    subst q
    cases e
    exact ⟨hm, ps, h.mono l⟩
  · exact r.ok y m pr e⟩
end
/-! ### three at once -/
section
variable {X : Cx} {K : PySem.W.Frag}
theorem set3 {α : Type} {l : List α} {i j k : Nat} {a b c : α} (h1 : i ≠ j) (h2 : i ≠ k) : ((l.set j b).set k c).set i a = ((l.set i a).set j b).set k c := by
  rw [List.set_comm _ _ h2.symm, List.set_comm _ _ h1.symm]
theorem three_x {i j l : Nat} (hij : i ≠ j) (hil : i ≠ l) (hjl : j ≠ l) {ta tb tc : TE} {da db dc : DX} (ha : SX K ta da) (hb : SX K tb db) (hc : SX K tc dc) (M : Fm) (G : Hp) (ρ : Env) (σ : L2.St) (H : Hp) (P : Sl → Sl → Sl → Prop) (Q : V → V → V → Hp → Prop) (rl : Rel K M G ρ σ H) (hp : da ρ fun s => db ρ fun t => dc ρ fun u => P s t u)
    (k : ∀ s t u x y z G' H', P s t u → Same G G' → Rel K M G' (((ρ.set i s).set j t).set l u) (((σ.set i (some x)).set j (some y)).set l (some z)) H' → Q x y z H') : ta σ H fun x H1 => tb σ H1 fun y H2 => tc σ H2 fun z H3 => Q x y z H3 := by
  refine ha M G ρ σ H _ _ rl hp fun s x G1 H1 p1 n1 s1 => ?_
  cases s with
  | no => exact n1.elim
  | ur => exact n1.elim
  | fz d =>
    obtain ⟨r1, q1⟩ := n1
    refine two_x hb hc M G1 ρ σ H1 _ (fun y z H3 => Q x y z H3) r1 p1 fun t u y z G2 H2 p2 s2 rel => ?_
    have := (rel j l hjl).setF (q1.mono s2) i
    rw [set3 hij hil, set3 hij hil] at this
    exact k _ _ _ _ _ _ G2 H2 p2 (s1.trans s2) this
  | ow ds =>
    obtain ⟨p, vs, H0, rfl, rfl, hn, r1, q1⟩ := n1
    have hF : M.F p = none := r1.frm.fs.free hn
    refine two_x hb hc (M.hold p (.lst vs)) G1 ρ σ _ _ (fun y z H3 => Q (.ref p) y z H3) (r1.hold hn) p1 fun t u y z G2 H2 p2 s2 rel => ?_
    have r2 := rel j l hjl
    have e2 : H2 p = some (.lst vs) := r2.held
    have r3 := (r2.take hF rl.frm.lf).own rem_same (q1.mono s2) i
    rw [upd_rem e2, set3 hij hil, set3 hij hil] at r3
    exact k _ _ _ _ _ _ G2 H2 p2 (s1.trans s2) r3
def dPar3 (i j l : Nat) (a b c : DX) : DS := fun P ρ => a ρ fun s => b ρ fun t => c ρ fun u => P.nx (((ρ.set i s).set j t).set l u)
theorem s_par3 {i j l : Nat} {x y z : Str} {a b c : Expr} {ta tb tc : TE} {da db dc : DX} {px py pz pt pos : Pos} {kt k2 pt2} (hc : X.calm = true) (hN : X.N.Nodup) (ha : PDX X a ta da) (hb : PDX X b tb db) (hcc : PDX X c tc dc) (hi : X.N[i]? = some x := by rfl) (hj : X.N[j]? = some y := by rfl) (hl : X.N[l]? = some z := by rfl)
    (hij : i ≠ j := by decide) (hil : i ≠ l := by decide) (hjl : j ≠ l := by decide)
    (hx : X.env.scope.names.lookup x = some .local := by rfl) (hy : X.env.scope.names.lookup y = some .local := by rfl) (hz : X.env.scope.names.lookup z = some .local := by rfl) (hsa : starEach [a, b, c] X.env = (false, eval a X.env) :: starEach [b, c] X.env := by rfl) (hsb : starEach [b, c] X.env = (false, eval b X.env) :: starEach [c] X.env := by rfl) (hsc : starEach [c] X.env = (false, eval c X.env) :: starEach [] X.env := by rfl)
    (hw : swappedStores [.Tuple [.Name x px, .Name y py, .Name z pz] kt pt] (.Tuple [a, b, c] k2 pt2) X.env = pure (some [x, y, z]) := by rfl)
    (hs : swapsWithSole [.Tuple [.Name x px, .Name y py, .Name z pz] kt pt] (.Tuple [a, b, c] k2 pt2) pos.line X.env = pure false := by rfl) :
    PDS X (.Assign [.Tuple [.Name x px, .Name y py, .Name z pz] kt pt] (.Tuple [a, b, c] k2 pt2) pos) (tPar3 i j l (tCons ta (tCons tb (tCons tc tNil)))) (dPar3 i j l da db dc) :=
  ⟨ps_par3 hc hN hi hj hl hij hil hjl hx hy hz (pa_cons ha.pe (pa_cons hb.pe (pa_cons hcc.pe pa_nil hsc) hsb) hsa) hw hs, fun M G ρ σ H P D rl hp lk =>
    three_x hij hil hjl ha.se hb.se hcc.se M G ρ σ H _ (fun u v w H2 => ∃ u' v' w', [u, v, w] = [u', v', w'] ∧ D.nx (((σ.set i (some u')).set j (some v')).set l (some w')) H2) rl hp fun s t u x y z G' H' p s' r => ⟨x, y, z, rfl, lk.nx _ _ G' H' p r s'⟩⟩
/-- x, y = a, b where a name is a cell -/
theorem s_parC {i j : Nat} {x y : Str} {a b : Expr} {ta tb : TE} {da db : DX} {px py pt pos : Pos} {kt k2 pt2} (hc : X.calm = true) (hN : X.N.Nodup) (ha : PDX X a ta da) (hb : PDX X b tb db) (hi : X.N[i]? = some x := by rfl) (hj : X.N[j]? = some y := by rfl) (hij : i ≠ j := by decide)
    (hx : Loc X.env.scope x := by first | exact Or.inl rfl | exact Or.inr rfl) (hy : Loc X.env.scope y := by first | exact Or.inl rfl | exact Or.inr rfl) (fx : X.fn x = true ∨ X.env.scope.names.lookup x = some .local := by first | exact .inl rfl | exact .inr rfl) (fy : X.fn y = true ∨ X.env.scope.names.lookup y = some .local := by first | exact .inl rfl | exact .inr rfl)
    (hsa : starEach [a, b] X.env = (false, eval a X.env) :: starEach [b] X.env := by rfl) (hsb : starEach [b] X.env = (false, eval b X.env) :: starEach [] X.env := by rfl)
    (hn : (assignEach [.Name x px, .Name y py] X.env).length = 2 := by rfl) (hst : (assignEach [.Name x px, .Name y py] X.env).findIdx? (·.1) = none := by rfl)
    (h1 : (assignEach [.Name x px, .Name y py] X.env).map (·.2) = assign (.Name x px) X.env :: (assignEach [.Name y py] X.env).map (·.2) := by rfl) (h2 : (assignEach [.Name y py] X.env).map (·.2) = assign (.Name y py) X.env :: (assignEach [] X.env).map (·.2) := by rfl)
    (hs : swapsWithSole [.Tuple [.Name x px, .Name y py] kt pt] (.Tuple [a, b] k2 pt2) pos.line X.env = pure false := by rfl) (hw : swappedStores [.Tuple [.Name x px, .Name y py] kt pt] (.Tuple [a, b] k2 pt2) X.env = pure none := by rfl)
    (h3 : (assignEach [.Tuple [.Name x px, .Name y py] kt pt] X.env).map (·.2) = [assign (.Tuple [.Name x px, .Name y py] kt pt) X.env] := by rfl) :
    PDS X (.Assign [.Tuple [.Name x px, .Name y py] kt pt] (.Tuple [a, b] k2 pt2) pos) (tAsg (tTup (tCons ta (tCons tb tNil))) (gTup X.K 2 (gCons (gName i) (gCons (gName j) gNil)))) (dPar i j da db) :=
  ⟨ps_asg (pe_tup (pa_cons ha.pe (pa_cons hb.pe pa_nil hsb) hsa)) (pg_tup hc (pgs_cons (pg_name hN hi hx fx) (pgs_cons (pg_name hN hj hy fy) pgs_nil h2) h1) hn hst) hs hw h3, fun M G ρ σ H P D rl hp l => by
    refine two_x ha.se hb.se M G ρ σ H _ (fun v w H2 => [v, w].length ≤ sizeLine ∧ ∀ p, H2 p = none → gTup X.K 2 (gCons (gName i) (gCons (gName j) gNil)) (.ref p) σ (upd H2 p (.tup [v, w])) D.nx) rl hp fun s t v w G' H' p s' r => ⟨by rw [sizeLine_eq]; simp, fun q hq => ?_⟩
    refine ⟨q, [v, w], rfl, .inl (.inl upd_same), rfl, v, [w], rfl, w, [], rfl, rfl, ?_⟩
    exact l.nx _ _ G' _ p ((r i j hij).out hq) s'⟩
end
end PD

namespace PD
open PySem PySem.Spec PyProof.Rows L2
def top (i : Nat) : Stmt := PySem.Challenge.pw_facenumbers_k35_claims_of_m_sequences.main.body.getD i (.Pass ⟨0, 0, 0, 0⟩)
abbrev st_is_whole : Stmt := top 4
abbrev st_is_between : Stmt := top 5
abbrev st_is_form_of : Stmt := top 33
abbrev st_greatest_top : Stmt := top 47
abbrev st_expansion_by : Stmt := top 48
abbrev st_most_next_by : Stmt := top 49
abbrev st_is_monomial : Stmt := top 50
abbrev st_place_of : Stmt := top 51
abbrev st_less_one : Stmt := top 53
abbrev st_is_ideal : Stmt := top 54
abbrev st_is_sequence_claim : Stmt := top 119
abbrev st_shows_sequence : Stmt := top 120
abbrev st_shows_no_sequence : Stmt := top 121
abbrev st_accepts_of : Stmt := top 126
abbrev st_accepts : Stmt := top 127
abbrev st__law_urn : Stmt := top 129
abbrev st__law_pull : Stmt := top 130
abbrev st__law_one : Stmt := top 131
abbrev st__law_is : Stmt := top 132
abbrev st__law_shuffled : Stmt := top 133
abbrev st__law_choose : Stmt := top 134
abbrev st__law_monomials : Stmt := top 135
abbrev st__law_is_whole : Stmt := top 136
abbrev st__law_is_monomial : Stmt := top 137
abbrev st__law_odd : Stmt := top 138
abbrev st__law_bent : Stmt := top 139
abbrev st__law_judged : Stmt := top 140
abbrev st__law_most_next : Stmt := top 141
abbrev st__law_is_sequence : Stmt := top 142
abbrev st__law_fails_at : Stmt := top 143
abbrev st__law_is_order_ideal : Stmt := top 144
abbrev st__law_compressed : Stmt := top 145
abbrev st__law_growth : Stmt := top 146
abbrev st__law_takes : Stmt := top 147
abbrev st__law_other_ideal : Stmt := top 148
abbrev st__law_with_other : Stmt := top 149
abbrev st__law_great : Stmt := top 150
abbrev st__law_turned : Stmt := top 151
abbrev st__law_great_right : Stmt := top 152
abbrev st__law_right : Stmt := top 153
abbrev st_law : Stmt := top 154
def ts_NUMBERS : List (Str × List Str) := [("face row", ["is_row_claim", "shows_row"]), ("no face row", ["is_row_claim", "shows_no_row"]), ("M-sequence", ["is_sequence_claim", "shows_sequence"]), ("no M-sequence", ["is_sequence_claim", "shows_no_sequence"])]
abbrev es_NUMBERS : List (Str × D) := ts_NUMBERS.map fun q => (q.1, D.tup (q.2.map D.fn))
def ts_POLYTOPES : List (Str × List Str) := [("row of", ["is_face_numbers", "shows_face_numbers"]), ("face", ["is_lot", "shows_face"]), ("no face", ["is_lot", "shows_no_face"]), ("counted by", ["is_some_ideal", "shows_counted"]), ("shelling", ["is_some_ordering", "shows_shelling"]), ("no shelling", ["is_some_ordering", "shows_no_shelling"]), ("stacked", ["is_some_number", "shows_stacked"]), ("not stacked", ["is_some_number", "shows_not_stacked"]), ("stress", ["are_shares", "shows_stress"]), ("no stress", ["are_shares", "shows_no_stress"])]
abbrev es_POLYTOPES : List (Str × D) := ts_POLYTOPES.map fun q => (q.1, D.tup (q.2.map D.fn))
structure Fx (K : PySem.W.Frag) (w : World) (mg : Str → Option Value) : Prop where
  f_isinstance : mg "isinstance" = none
  f_int : mg "int" = none
  f_bool : mg "bool" = none
  a_is_whole : At K mg "is_whole" st_is_whole
  a_is_between : At K mg "is_between" st_is_between
  f_tuple : mg "tuple" = none
  f_len : mg "len" = none
  i_MOST_DIMENSION : ∃ t, mg "MOST_DIMENSION" = some (.int 7 t)
  i_LEAST_DIMENSION : ∃ t, mg "LEAST_DIMENSION" = some (.int 2 t)
  i_MOST_MORE : ∃ t, mg "MOST_MORE" = some (.int 4 t)
  a_is_form_of : At K mg "is_form_of" st_is_form_of
  c_comb : mg "comb" = some (.builtin "math.comb")
  a_greatest_top : At K mg "greatest_top" st_greatest_top
  a_expansion_by : At K mg "expansion_by" st_expansion_by
  f_enumerate : mg "enumerate" = none
  f_sum : mg "sum" = none
  a_most_next_by : At K mg "most_next_by" st_most_next_by
  f_all : mg "all" = none
  f_zip : mg "zip" = none
  a_is_monomial : At K mg "is_monomial" st_is_monomial
  a_place_of : At K mg "place_of" st_place_of
  f_range : mg "range" = none
  a_less_one : At K mg "less_one" st_less_one
  f_set : mg "set" = none
  a_is_ideal : At K mg "is_ideal" st_is_ideal
  i_MOST_LENGTH : ∃ t, mg "MOST_LENGTH" = some (.int 8 t)
  i_MOST_NUMBER : ∃ t, mg "MOST_NUMBER" = some (.int 1000000 t)
  a_is_sequence_claim : At K mg "is_sequence_claim" st_is_sequence_claim
  i_MOST_VARIABLES : ∃ t, mg "MOST_VARIABLES" = some (.int 6 t)
  f_max : mg "max" = none
  a_shows_sequence : At K mg "shows_sequence" st_shows_sequence
  a_shows_no_sequence : At K mg "shows_no_sequence" st_shows_no_sequence
  a_accepts_of : At K mg "accepts_of" st_accepts_of
  g_is_sequence_claim : mg "is_sequence_claim" = some (.ref (He.ga K "is_sequence_claim"))
  g_shows_no_sequence : mg "shows_no_sequence" = some (.ref (He.ga K "shows_no_sequence"))
  g_shows_sequence : mg "shows_sequence" = some (.ref (He.ga K "shows_sequence"))
  f_str : mg "str" = none
  b_NUMBERS : TblAt K w mg "NUMBERS" es_NUMBERS
  b_POLYTOPES : TblAt K w mg "POLYTOPES" es_POLYTOPES
  s_SUMS : ∃ t, mg "SUMS" = some (.str "told by" t)
  a_accepts : At K mg "accepts" st_accepts
  f_abs : mg "abs" = none
  a__law_urn : At K mg "_law_urn" st__law_urn
  f_divmod : mg "divmod" = none
  a__law_pull : At K mg "_law_pull" st__law_pull
  a__law_one : At K mg "_law_one" st__law_one
  f_repr : mg "repr" = none
  a__law_is : At K mg "_law_is" st__law_is
  f_list : mg "list" = none
  a__law_shuffled : At K mg "_law_shuffled" st__law_shuffled
  a__law_choose : At K mg "_law_choose" st__law_choose
  f_sorted : mg "sorted" = none
  a__law_monomials : At K mg "_law_monomials" st__law_monomials
  a__law_is_whole : At K mg "_law_is_whole" st__law_is_whole
  a__law_is_monomial : At K mg "_law_is_monomial" st__law_is_monomial
  a__law_odd : At K mg "_law_odd" st__law_odd
  a__law_bent : At K mg "_law_bent" st__law_bent
  a__law_is_sequence : At K mg "_law_is_sequence" st__law_is_sequence
  a__law_most_next : At K mg "_law_most_next" st__law_most_next
  a__law_fails_at : At K mg "_law_fails_at" st__law_fails_at
  a__law_is_order_ideal : At K mg "_law_is_order_ideal" st__law_is_order_ideal
  a__law_takes : At K mg "_law_takes" st__law_takes
  a__law_judged : At K mg "_law_judged" st__law_judged
  a__law_compressed : At K mg "_law_compressed" st__law_compressed
  f_min : mg "min" = none
  a__law_growth : At K mg "_law_growth" st__law_growth
  a__law_other_ideal : At K mg "_law_other_ideal" st__law_other_ideal
  a__law_with_other : At K mg "_law_with_other" st__law_with_other
  a__law_great : At K mg "_law_great" st__law_great
  a__law_turned : At K mg "_law_turned" st__law_turned
  a__law_great_right : At K mg "_law_great_right" st__law_great_right
  a__law_right : At K mg "_law_right" st__law_right
  a_law : At K mg "law" st_law
theorem bt_isinstance : bootBuiltins "isinstance" = some (.builtin "isinstance") := by first | rfl | decide +kernel
theorem bt_int : bootBuiltins "int" = some (.type "int") := by first | rfl | decide +kernel
theorem bt_bool : bootBuiltins "bool" = some (.type "bool") := by first | rfl | decide +kernel
theorem bt_tuple : bootBuiltins "tuple" = some (.type "tuple") := by first | rfl | decide +kernel
theorem bt_len : bootBuiltins "len" = some (.builtin "len") := by first | rfl | decide +kernel
theorem bt_enumerate : bootBuiltins "enumerate" = some (.type "enumerate") := by first | rfl | decide +kernel
theorem bt_sum : bootBuiltins "sum" = some (.builtin "sum") := by first | rfl | decide +kernel
theorem bt_all : bootBuiltins "all" = some (.builtin "all") := by first | rfl | decide +kernel
theorem bt_zip : bootBuiltins "zip" = some (.type "zip") := by first | rfl | decide +kernel
theorem bt_range : bootBuiltins "range" = some (.type "range") := by first | rfl | decide +kernel
theorem bt_set : bootBuiltins "set" = some (.type "set") := by first | rfl | decide +kernel
theorem bt_max : bootBuiltins "max" = some (.builtin "max") := by first | rfl | decide +kernel
theorem bt_str : bootBuiltins "str" = some (.type "str") := by first | rfl | decide +kernel
theorem bt_abs : bootBuiltins "abs" = some (.builtin "abs") := by first | rfl | decide +kernel
theorem bt_divmod : bootBuiltins "divmod" = some (.builtin "divmod") := by first | rfl | decide +kernel
theorem bt_repr : bootBuiltins "repr" = some (.builtin "repr") := by first | rfl | decide +kernel
theorem bt_list : bootBuiltins "list" = some (.type "list") := by first | rfl | decide +kernel
theorem bt_sorted : bootBuiltins "sorted" = some (.builtin "sorted") := by first | rfl | decide +kernel
theorem bt_min : bootBuiltins "min" = some (.builtin "min") := by first | rfl | decide +kernel

def nm_is_whole : List Str := ["value"]
def d_is_whole : DS :=
    (dRet (dAndV (dCB cIsi (dCons (dVar 0) (dCons (dC (.ty "int")) dNil))) (dUn (fun x P => x.blP fun i => P (.bl (!i))) (dCB cIsi (dCons (dVar 0) (dCons (dC (.ty "bool")) dNil))))))
def pre_is_whole : Pre := fun ds P => d_is_whole { nx := fun _ => P .non, rt := P } (startD nm_is_whole ds)
def nm_is_between : List Str := ["value", "least", "most"]
def d_is_between : DS :=
    (dRet (dAndV (dCall 1 pre_is_whole (dCons (dVar 0) dNil)) (dCh oLe oLe (dVar 1) (dVar 0) (dVar 2))))
def pre_is_between : Pre := fun ds P => d_is_between { nx := fun _ => P .non, rt := P } (startD nm_is_between ds)
def nm_is_form_of : List Str := ["value", "dimension", "points", "each"]
def d_is_form_of : DS :=
    (dSeq (dIfS (dTOr (dTNot (dTest (dCB cIsi (dCons (dVar 0) (dCons (dC (.ty "tuple")) dNil))))) (dTOr (dTest (dBin oNe (dCB cLen (dCons (dVar 0) dNil)) (dC (.int 2)))) (dTNot (dTest (dCall 3 pre_is_between (dCons (dBin oIx (dVar 0) (dC (.int 0))) (dCons (dC (.int 2)) (dCons (dC (.int 7)) dNil)))))))) (dRet (dC (.bl false))) dNext)
    (dSeq (dAsg (dVar 0) (dGTup 2 (dGCons (dName 1) (dGCons (dName 2) dGNil))))
    (dSeq (dIfS (dTOr (dTNot (dTest (dCB cIsi (dCons (dVar 2) (dCons (dC (.ty "tuple")) dNil))))) (dTNot (dTest (dCh oLe oLe (dBin oAdd (dVar 1) (dC (.int 1))) (dCB cLen (dCons (dVar 2) dNil)) (dBin oAdd (dVar 1) (dC (.int 4))))))) (dRet (dC (.bl false))) dNext)
    (fun _ _ => False))))
def pre_is_form_of : Pre := fun ds P => d_is_form_of { nx := fun _ => P .non, rt := P } (startD nm_is_form_of ds)
def nm_greatest_top : List Str := ["number", "degree", "least", "most", "middle"]
def d_greatest_top : DS :=
    (dSeq (dPar 2 3 (xE (dVar 1)) (xE (dVar 1)))
    (dSeq (dWhile (dTest (dBin oLe (dCB cComb (dCons (dVar 3) (dCons (dVar 1) dNil))) (dVar 0))) (dPar 2 3 (xE (dVar 3)) (xE (dBin oMul (dC (.int 2)) (dVar 3)))))
    (dSeq (dWhile (dTest (dBin oGt (dBin oSub (dVar 3) (dVar 2)) (dC (.int 1)))) (dSeq (dSet 4 (xE (dBin oDiv (dBin oAdd (dVar 2) (dVar 3)) (dC (.int 2)))))
    (dIfS (dTest (dBin oLe (dCB cComb (dCons (dVar 4) (dCons (dVar 1) dNil))) (dVar 0))) (dSet 2 (xE (dVar 4))) (dSet 3 (xE (dVar 4))))))
    (dRet (dVar 2)))))
def pre_greatest_top : Pre := fun ds P => d_greatest_top { nx := fun _ => P .non, rt := P } (startD nm_greatest_top ds)
def nm_expansion_by : List Str := ["number", "degree", "found", "left", "at"]
def d_expansion_by : DS :=
    (dSeq (dPar3 2 3 4 (xF (dLstF dNil)) (xE (dVar 0)) (xE (dVar 1)))
    (dSeq (dWhile (dTest (dBin oGt (dVar 3) (dC (.int 0)))) (dSeq (dApp 2 (dCall 2 pre_greatest_top (dCons (dVar 3) (dCons (dVar 4) dNil))))
    (dPar 3 4 (xE (dBin oSub (dVar 3) (dCB cComb (dCons (dIxO 2 (dUn (fun x P => x.intP fun i => P (.int (-i))) (dC (.int 1)))) (dCons (dVar 4) dNil))))) (xE (dBin oSub (dVar 4) (dC (.int 1)))))))
    (dRet (dLend (dCB cTup (dCons (dVar 2) dNil))))))
def pre_expansion_by : Pre := fun ds P => d_expansion_by { nx := fun _ => P .non, rt := P } (startD nm_expansion_by ds)
def nm_most_next_by : List Str := ["number", "degree", "parts", "place", "top"]
def d_most_next_by : DS :=
    (dSeq (dSet 2 (xE (dF (dComp (dEnI (dCall 2 pre_expansion_by (dCons (dVar 0) (dCons (dVar 1) dNil)))) (dGTup 2 (dGCons (dName 3) (dGCons (dName 4) dGNil))) dYes (dCB cComb (dCons (dBin oAdd (dVar 4) (dC (.int 1))) (dCons (dBin oAdd (dBin oSub (dVar 1) (dVar 3)) (dC (.int 1))) dNil))) [3, 4]))))
    (dRet (dCB cSum (dCons (dVar 2) dNil))))
def pre_most_next_by : Pre := fun ds P => d_most_next_by { nx := fun _ => P .non, rt := P } (startD nm_most_next_by ds)
def nm_is_monomial : List Str := ["variables", "value", "one", "two", "each"]
def d_is_monomial : DS :=
    (dSeq (dIfS (dTOr (dTNot (dTest (dCB cIsi (dCons (dVar 1) (dCons (dC (.ty "tuple")) dNil))))) (dTNot (dTest (dCB cAll (dCons (dF (dComp (dSeqI (dVar 1)) (dName 4) dYes (dCall 3 pre_is_between (dCons (dVar 4) (dCons (dC (.int 1)) (dCons (dVar 0) dNil)))) [4])) dNil))))) (dRet (dC (.bl false))) dNext)
    (dRet (dCB cAll (dCons (dF (dComp (dZpI (dVar 1) (dSl (dVar 1) (dPart (dC (.int 1))) dNoP)) (dGTup 2 (dGCons (dName 2) (dGCons (dName 3) dGNil))) dYes (dBin oLe (dVar 2) (dVar 3)) [2, 3])) dNil))))
def pre_is_monomial : Pre := fun ds P => d_is_monomial { nx := fun _ => P .non, rt := P } (startD nm_is_monomial ds)
def nm_place_of : List Str := ["monomial"]
def d_place_of : DS :=
    (dRet (dTup (dCons (dCB cLen (dCons (dVar 0) dNil)) (dCons (dBack (dVar 0)) dNil))))
def pre_place_of : Pre := fun ds P => d_place_of { nx := fun _ => P .non, rt := P } (startD nm_place_of ds)
def nm_less_one : List Str := ["monomial", "place"]
def d_less_one : DS :=
    (dRet (dF (dComp (dRg1 (dCB cLen (dCons (dVar 0) dNil))) (dName 1) dYes (dBin oAdd (dSl (dVar 0) dNoP (dPart (dVar 1))) (dSl (dVar 0) (dPart (dBin oAdd (dVar 1) (dC (.int 1)))) dNoP)) [1])))
def pre_less_one : Pre := fun ds P => d_less_one { nx := fun _ => P .non, rt := P } (startD nm_less_one ds)
def nm_is_ideal : List Str := ["variables", "value", "known", "one", "each", "two"]
def d_is_ideal : DS :=
    (dSeq (dIfS (dTOr (dTNot (dTest (dCB cIsi (dCons (dVar 1) (dCons (dC (.ty "tuple")) dNil))))) (dTNot (dTest (dCB cAll (dCons (dF (dComp (dSeqI (dVar 1)) (dName 4) dYes (dCall 2 pre_is_monomial (dCons (dVar 0) (dCons (dVar 4) dNil))) [4])) dNil))))) (dRet (dC (.bl false))) dNext)
    (dSeq (dIfS (dTOr (dTest (dBin oEq (dVar 1) (dTup dNil))) (dTest (dBin oNe (dBin oIx (dVar 1) (dC (.int 0))) (dTup dNil)))) (dRet (dC (.bl false))) dNext)
    (dSeq (dIfS (dTNot (dTest (dCB cAll (dCons (dF (dComp (dZpI (dVar 1) (dSl (dVar 1) (dPart (dC (.int 1))) dNoP)) (dGTup 2 (dGCons (dName 3) (dGCons (dName 5) dGNil))) dYes (dBin oLtD (dCall 1 pre_place_of (dCons (dVar 3) dNil)) (dCall 1 pre_place_of (dCons (dVar 5) dNil))) [3, 5])) dNil)))) (dRet (dC (.bl false))) dNext)
    (dSeq (dSet 2 (xE (dCB cSet (dCons (dVar 1) dNil))))
    (dRet (dCB cAll (dCons (dF (dComp2 (dSeqI (dVar 1)) (dName 3) dYes (dSeqI (dCall 1 pre_less_one (dCons (dVar 3) dNil))) (dName 4) dYes (dBin (oInS fun b => b) (dVar 4) (dVar 2)) [3, 4] [4])) dNil)))))))
def pre_is_ideal : Pre := fun ds P => d_is_ideal { nx := fun _ => P .non, rt := P } (startD nm_is_ideal ds)
def nm_is_sequence_claim : List Str := ["claim", "each"]
def d_is_sequence_claim : DS :=
    (dSeq (dIfS (dTOr (dTest (dBin oNe (dCB cLen (dCons (dVar 0) dNil)) (dC (.int 2)))) (dTOr (dTNot (dTest (dCB cIsi (dCons (dBin oIx (dVar 0) (dC (.int 1))) (dCons (dC (.ty "tuple")) dNil))))) (dTNot (dTest (dCh oLe oLe (dC (.int 1)) (dCB cLen (dCons (dBin oIx (dVar 0) (dC (.int 1))) dNil)) (dC (.int 8))))))) (dRet (dC (.bl false))) dNext)
    (dRet (dCB cAll (dCons (dF (dComp (dSeqI (dBin oIx (dVar 0) (dC (.int 1)))) (dName 1) dYes (dCall 3 pre_is_between (dCons (dVar 1) (dCons (dUn (fun x P => x.intP fun i => P (.int (-i))) (dC (.int 1000000))) (dCons (dC (.int 1000000)) dNil)))) [1])) dNil))))
def pre_is_sequence_claim : Pre := fun ds P => d_is_sequence_claim { nx := fun _ => P .non, rt := P } (startD nm_is_sequence_claim ds)
def nm_shows_sequence : List Str := ["claim", "paper", "sequence", "variables", "degrees", "each", "degree", "many"]
def d_shows_sequence : DS :=
    (dSeq (dSet 2 (xE (dBin oIx (dVar 0) (dC (.int 1)))))
    (dSeq (dSet 3 (xE (dIf (dTest (dBin oGt (dCB cLen (dCons (dVar 2) dNil)) (dC (.int 1)))) (dBin oIx (dVar 2) (dC (.int 1))) (dC (.int 0)))))
    (dSeq (dIfS (dTOr (dTNot (dTest (dCh oLe oLe (dC (.int 0)) (dVar 3) (dC (.int 6))))) (dTNot (dTest (dCall 2 pre_is_ideal (dCons (dVar 3) (dCons (dVar 1) dNil)))))) (dRet (dC (.bl false))) dNext)
    (dSeq (dSet 4 (xE (dF (dComp (dSeqI (dVar 1)) (dName 5) dYes (dCB cLen (dCons (dVar 5) dNil)) [5]))))
    (dSeq (dIfS (dTest (dBin oGe (dCB cMaxL (dCons (dVar 4) dNil)) (dCB cLen (dCons (dVar 2) dNil)))) (dRet (dC (.bl false))) dNext)
    (dRet (dCB cAll (dCons (dF (dComp (dEnI (dVar 2)) (dGTup 2 (dGCons (dName 6) (dGCons (dName 7) dGNil))) dYes (dBin oEq (dCnt (dVar 4) (dVar 6)) (dVar 7)) [6, 7])) dNil))))))))
def pre_shows_sequence : Pre := fun ds P => d_shows_sequence { nx := fun _ => P .non, rt := P } (startD nm_shows_sequence ds)
def nm_shows_no_sequence : List Str := ["claim", "paper", "sequence"]
def d_shows_no_sequence : DS :=
    (dSeq (dSet 2 (xE (dBin oIx (dVar 0) (dC (.int 1)))))
    (dSeq (dIfS (dTNot (dTest (dCall 3 pre_is_between (dCons (dVar 1) (dCons (dC (.int 0)) (dCons (dBin oSub (dCB cLen (dCons (dVar 2) dNil)) (dC (.int 1))) dNil)))))) (dRet (dC (.bl false))) dNext)
    (dSeq (dIfS (dTest (dBin oEq (dVar 1) (dC (.int 0)))) (dRet (dBin oNe (dBin oIx (dVar 2) (dC (.int 0))) (dC (.int 1)))) dNext)
    (dSeq (dIfS (dTest (dBin oLt (dBin oIx (dVar 2) (dVar 1)) (dC (.int 0)))) (dRet (dC (.bl true))) dNext)
    (dSeq (dIfS (dTOr (dTest (dBin oLt (dVar 1) (dC (.int 2)))) (dTest (dBin oLt (dBin oIx (dVar 2) (dBin oSub (dVar 1) (dC (.int 1)))) (dC (.int 0))))) (dRet (dC (.bl false))) dNext)
    (dRet (dBin oGt (dBin oIx (dVar 2) (dVar 1)) (dCall 2 pre_most_next_by (dCons (dBin oIx (dVar 2) (dBin oSub (dVar 1) (dC (.int 1)))) (dCons (dBin oSub (dVar 1) (dC (.int 1))) dNil))))))))))
def pre_shows_no_sequence : Pre := fun ds P => d_shows_no_sequence { nx := fun _ => P .non, rt := P } (startD nm_shows_no_sequence ds)
def nm_accepts_of : List Str := ["claim", "paper", "facets", "is_right", "shows"]
def d_accepts_of : DS :=
    (dSeq (dSet 2 (xE (dIf (dTest (dCall 1 pre_is_form_of (dCons (dBin oIx (dVar 0) (dC (.int 1))) dNil))) dNv (dF (dLstF dNil)))))
    (dSeq (dIfS (dTest (dBin oEq (dVar 2) (dF (dLstF dNil)))) (dRet (dC (.bl false))) dNext)
    (fun _ _ => False)))
def pre_accepts_of : Pre := fun ds P => d_accepts_of { nx := fun _ => P .non, rt := P } (startD nm_accepts_of ds)
def ft_right : FnTab := [("is_sequence_claim", 1, pre_is_sequence_claim)]
def ft_shows : FnTab := [("shows_sequence", 2, pre_shows_sequence), ("shows_no_sequence", 2, pre_shows_no_sequence)]
def nm_accepts : List Str := ["claim", "paper", "is_right", "shows"]
def d_accepts : DS :=
    (dSeq (dIfS (dTOr (dTNot (dTest (dCB cIsi (dCons (dVar 0) (dCons (dC (.ty "tuple")) dNil))))) (dTOr (dTest (dBin oLt (dCB cLen (dCons (dVar 0) dNil)) (dC (.int 2)))) (dTNot (dTest (dCB cIsi (dCons (dBin oIx (dVar 0) (dC (.int 0))) (dCons (dC (.ty "str")) dNil))))))) (dRet (dC (.bl false))) dNext)
    (dSeq (dIfS (dTest (dBin (oInT "NUMBERS" es_NUMBERS) (dBin oIx (dVar 0) (dC (.int 0))) (dC (.fn "NUMBERS")))) (dSeq (dAsg (dBin (oIxTb "NUMBERS" es_NUMBERS) (dC (.fn "NUMBERS")) (dBin oIx (dVar 0) (dC (.int 0)))) (dGTup 2 (dGCons (dName 2) (dGCons (dName 3) dGNil))))
    (dRet (dAndV (dCallV 2 ft_right (dCons (dVar 0) dNil)) (dCallV 3 ft_shows (dCons (dVar 0) (dCons (dVar 1) dNil)))))) dNext)
    (dSeq (dIfS (dTOr (dTest (dBin (oInT "POLYTOPES" es_POLYTOPES) (dBin oIx (dVar 0) (dC (.int 0))) (dC (.fn "POLYTOPES")))) (dTest (dBin oEq (dBin oIx (dVar 0) (dC (.int 0))) (dC (.str "told by"))))) (dRet (dCall 2 pre_accepts_of (dCons (dVar 0) (dCons (dVar 1) dNil)))) dNext)
    (dRet (dC (.bl false))))))
def pre_accepts : Pre := fun ds P => d_accepts { nx := fun _ => P .non, rt := P } (startD nm_accepts ds)
def nm__law_urn : List Str := ["script", "turn", "mixed", "cell", "own"]
def d__law_urn : DS :=
    (dSeq (dSet 2 (xE (dBin oAdd (dC (.int 820013)) (dBin oMul (dC (.int 7547)) (dVar 1)))))
    (dSeq (dFor (dSeqI (dSlS 0 10)) (dName 3) (dSet 2 (xE (dBin oMod (dCB cInt (dCons (dBin oAdd (dBin oAdd (dBin oMul (dVar 2) (dC (.int 45007))) (dBin oMul (dBin oMod (dCB cInt (dCons (dVar 3) dNil)) (dC (.int 2147483423))) (dC (.int 5)))) (dC (.int 13))) dNil)) (dC (.int 2147483423))))))
    (dSeq (dSet 4 (xE (dIf (dTest (dBin oLt (dVar 1) (dLenS 0))) (dCB cInt (dCons (dIxS 0 (dVar 1)) dNil)) (dC (.int 0)))))
    (dSeq (dSet 2 (xE (dBin oMod (dCB cInt (dCons (dBin oAdd (dBin oAdd (dBin oMul (dVar 2) (dC (.int 61))) (dBin oMul (dBin oMod (dCB cInt (dCons (dVar 4) dNil)) (dC (.int 2147483423))) (dC (.int 19997)))) (dC (.int 3))) dNil)) (dC (.int 2147483423)))))
    (dRetF (dLstF (dCons (dIf (dTOr (dTest (dBin oLt (dVar 4) (dC (.int 0)))) (dTest (dBin oGe (dVar 4) (dBin oPow (dC (.int 10)) (dC (.int 15)))))) (dCB cAbs (dCons (dVar 4) dNil)) (dC (.int 0))) (dCons (dVar 2) (dCons (dC (.int 0)) dNil)))))))))
def pre__law_urn : PreF := fun ds P => d__law_urn { nx := fun _ => False, rt := fun _ => False, rf := P } (startD nm__law_urn ds)
def nm__law_pull : List Str := ["urn", "many", "mixed", "figure"]
def d__law_pull : DS :=
    (dSeq (dIfS (dTest (dBin oGt (dUIx 0) (dC (.int 0)))) (dSeq (dUDiv 0 3 (dCB cDivmod (dCons (dUIx 0) (dCons (dVar 1) dNil))))
    (dRet (dVar 3))) dNext)
    (dSeq (dUSet 0 (dBin oAdd (dUIx 0) (dC (.int 1))))
    (dSeq (dSet 2 (xE (dBin oMod (dCB cInt (dCons (dBin oAdd (dBin oMul (dUIx 0) (dC (.int 40009))) (dBin oMul (dC (.int 60013)) (dUIx 0))) dNil)) (dC (.int 2147483423)))))
    (dSeq (dUSet 0 (dBin oMod (dCB cInt (dCons (dBin oAdd (dBin oMul (dVar 2) (dBin oAdd (dBin oMod (dCB cInt (dCons (dVar 2) dNil)) (dC (.int 5009))) (dC (.int 20011)))) (dBin oMul (dC (.int 37)) (dUIx 0))) dNil)) (dC (.int 2147483423))))
    (dRet (dBin oMod (dCB cInt (dCons (dBin oDiv (dUIx 0) (dC (.int 733))) dNil)) (dVar 1)))))))
def pre__law_pull : Pre := fun ds P => d__law_pull { nx := fun _ => P .non, rt := P } (startU nm__law_pull ds)
def nm__law_one : List Str := ["urn", "some"]
def d__law_one : DS :=
    (dRet (dBin oIx (dVar 1) (dCall 1 pre__law_pull (dUrn 0 (dCons (dCB cLen (dCons (dVar 1) dNil)) dNil)))))
def pre__law_one : Pre := fun ds P => d__law_one { nx := fun _ => P .non, rt := P } (startU nm__law_one ds)
def nm__law_is : List Str := ["told", "due"]
def d__law_is : DS :=
    (dRet (dBin oEq (dCB cRepr (dCons (dVar 0) dNil)) (dCB cRepr (dCons (dVar 1) dNil))))
def pre__law_is : Pre := fun ds P => d__law_is { nx := fun _ => P .non, rt := P } (startD nm__law_is ds)
def nm__law_shuffled : List Str := ["urn", "things", "left", "found"]
def d__law_shuffled : DS :=
    (dSeq (dPar 2 3 (xF (dListF (dCons (dVar 1) dNil))) (xF (dLstF dNil)))
    (dSeq (dWhile (dLendT (dTest (dBin oNe (dVar 2) (dF (dLstF dNil))))) (dAppPop 3 2 (dCall 1 pre__law_pull (dUrn 0 (dCons (dLenO 2) dNil)))))
    (dRetO 3)))
def pre__law_shuffled : Pre := fun ds P => d__law_shuffled { nx := fun _ => P .non, rt := P } (startU nm__law_shuffled ds)
def nm__law_choose : List Str := ["few", "many", "found", "at"]
def d__law_choose : DS :=
    (dSeq (dIfS (dTOr (dTest (dBin oLt (dVar 1) (dC (.int 0)))) (dTest (dBin oGt (dVar 1) (dVar 0)))) (dRet (dC (.int 0))) dNext)
    (dSeq (dSet 2 (xE (dC (.int 1))))
    (dSeq (dFor (dRg1 (dVar 1)) (dName 3) (dSet 2 (xE (dBin oDiv (dBin oMul (dVar 2) (dBin oSub (dVar 0) (dVar 3))) (dBin oAdd (dVar 3) (dC (.int 1)))))))
    (dRet (dVar 2)))))
def pre__law_choose : Pre := fun ds P => d__law_choose { nx := fun _ => P .non, rt := P } (startD nm__law_choose ds)
def nm__law_monomials : List Str := ["variables", "degree", "found", "turn", "longer", "each", "v", "one"]
def d__law_monomials : DS :=
    (dSeq (dSet 2 (xE (dF (dLstF (dCons (dTup dNil) dNil)))))
    (dSeq (dFor (dRg1 (dVar 1)) (dName 3) (dSeq (dSet 4 (xE (dF (dLstF dNil))))
    (dSeq (dFor (dSeqI (dVar 2)) (dName 5) (dSet 4 (xE (dF (dCatF (dVar 4) (dF (dComp (dRg2 (dIf (dTest (dBin oNe (dVar 5) (dTup dNil))) (dBin oIx (dVar 5) (dUn (fun x P => x.intP fun i => P (.int (-i))) (dC (.int 1)))) (dC (.int 1))) (dBin oAdd (dVar 0) (dC (.int 1)))) (dName 6) dYes (dBin oAdd (dVar 5) (dTup (dCons (dVar 6) dNil))) [6])))))))
    (dSet 2 (xE (dVar 4))))))
    (dRet (dF (dComp (dSeqI (dF (dSrtA (dCons (dF (dComp (dSeqI (dVar 2)) (dName 7) dYes (dBack (dVar 7)) [7])) dNil)))) (dName 5) dYes (dBack (dVar 5)) [5])))))
def pre__law_monomials : Pre := fun ds P => d__law_monomials { nx := fun _ => P .non, rt := P } (startD nm__law_monomials ds)
def nm__law_is_whole : List Str := ["thing", "low", "high"]
def d__law_is_whole : DS :=
    (dRet (dAndV (dCB cIsi (dCons (dVar 0) (dCons (dC (.ty "int")) dNil))) (dAndV (dUn (fun x P => x.blP fun i => P (.bl (!i))) (dCB cIsi (dCons (dVar 0) (dCons (dC (.ty "bool")) dNil)))) (dCh oLe oLe (dVar 1) (dVar 0) (dVar 2)))))
def pre__law_is_whole : Pre := fun ds P => d__law_is_whole { nx := fun _ => P .non, rt := P } (startD nm__law_is_whole ds)
def nm__law_is_monomial : List Str := ["variables", "thing", "most", "each"]
def d__law_is_monomial : DS :=
    (dSeq (dIfS (dTOr (dTNot (dTest (dCB cIsi (dCons (dVar 1) (dCons (dC (.ty "tuple")) dNil))))) (dTest (dBin oGt (dCB cLen (dCons (dVar 1) dNil)) (dVar 2)))) (dRet (dC (.bl false))) dNext)
    (dRet (dAndV (dCB cAll (dCons (dF (dComp (dSeqI (dVar 1)) (dName 3) dYes (dCall 3 pre__law_is_whole (dCons (dVar 3) (dCons (dC (.int 1)) (dCons (dVar 0) dNil)))) [3])) dNil)) (dBin oEq (dF (dSrtA (dCons (dVar 1) dNil))) (dF (dListF (dCons (dVar 1) dNil)))))))
def pre__law_is_monomial : Pre := fun ds P => d__law_is_monomial { nx := fun _ => P .non, rt := P } (startD nm__law_is_monomial ds)
def nm__law_odd : List Str := ["urn", "some", "more"]
def d__law_odd : DS :=
    (dSeq (dSet 1 (xE (dTup (dCons (dC .non) (dCons (dC (.bl true)) (dCons (dC (.bl false)) (dCons (dC (.int 0)) (dCons (dC (.int 1)) (dCons (dC (.int 2)) (dCons (dUn (fun x P => x.intP fun i => P (.int (-i))) (dC (.int 1))) (dCons (dC (.int 7)) (dCons (dC (.str "")) (dCons (dC (.str "a")) (dCons (dC (.str "face")) (dCons (dTup dNil) (dCons (dTup (dCons (dC (.int 0)) dNil)) (dCons (dTup (dCons (dC (.int 1)) dNil)) (dCons (dTup (dCons (dC (.int 0)) (dCons (dC (.int 1)) dNil))) (dCons (dTup (dCons (dC (.int 1)) (dCons (dC (.int 0)) dNil))) (dCons (dTup (dCons (dC (.int 1)) (dCons (dC (.int 1)) dNil))) (dCons (dTup (dCons (dC (.int 0)) (dCons (dC (.int 0)) dNil))) (dCons (dTup (dCons (dC (.int 2)) (dCons (dC (.int 4)) dNil))) dNil))))))))))))))))))))))
    (dSeq (dSet 2 (xE (dTup (dCons (dTup (dCons (dC (.bl true)) (dCons (dC (.int 1)) dNil))) (dCons (dTup (dCons (dTup (dCons (dC (.int 0)) (dCons (dC (.int 1)) dNil))) dNil)) (dCons (dTup (dCons (dTup (dCons (dC (.int 0)) (dCons (dC (.int 1)) dNil))) (dCons (dTup (dCons (dC (.int 1)) (dCons (dC (.int 1)) dNil))) dNil))) (dCons (dTup (dCons (dTup dNil) dNil)) (dCons (dTup (dCons (dC .non) dNil)) (dCons (dF (dLstF dNil)) (dCons (dF (dLstF (dCons (dC (.int 0)) dNil))) (dCons (dC .dct) (dCons (dC .dct) (dCons (dTup (dCons (dC (.int 1)) (dCons (dC (.int 2)) (dCons (dC (.int 1)) dNil)))) (dCons (dTup (dCons (dTup (dCons (dC (.int 1)) dNil)) (dCons (dTup (dCons (dC (.int 0)) (dCons (dC (.int 1)) dNil))) dNil))) dNil))))))))))))))
    (dRet (dCall 1 pre__law_one (dUrn 0 (dCons (dBin oAdd (dBin oAdd (dVar 1) (dVar 2)) (dTup (dCons (dTup (dCons (dC (.str "below")) (dCons (dC (.int 1)) dNil))) (dCons (dTup (dCons (dC (.str "unlike")) (dCons (dC (.int 0)) dNil))) (dCons (dTup (dCons (dC (.str "too many")) (dCons (dC (.int 2)) dNil))) (dCons (dTup (dCons (dC (.int 0)) (dCons (dC (.int 1)) (dCons (dC (.int 2)) dNil)))) (dCons (dBin oPow (dC (.int 10)) (dC (.int 12))) (dCons (dTup (dCons (dC (.int 3)) (dCons (dTup dNil) dNil))) dNil)))))))) dNil))))))
def pre__law_odd : Pre := fun ds P => d__law_odd { nx := fun _ => P .non, rt := P } (startU nm__law_odd ds)
def nm__law_bent : List Str := ["urn", "thing", "left", "way", "at"]
def d__law_bent (rec : Pre) : DS :=
    (dSeq (dIfS (dTAnd (dTest (dCB cIsi (dCons (dVar 1) (dCons (dC (.ty "tuple")) dNil)))) (dTAnd (dTest (dBin oGt (dCB cLen (dCons (dVar 1) dNil)) (dC (.int 0)))) (dTAnd (dTest (dBin oGt (dVar 2) (dC (.int 0)))) (dTest (dBin oGt (dCall 1 pre__law_pull (dUrn 0 (dCons (dC (.int 5)) dNil))) (dC (.int 0))))))) (dSeq (dSet 4 (xE (dCall 1 pre__law_pull (dUrn 0 (dCons (dCB cLen (dCons (dVar 1) dNil)) dNil)))))
    (dRet (dBin oAdd (dBin oAdd (dSl (dVar 1) dNoP (dPart (dVar 4))) (dTup (dCons (dCall 2 rec (dUrn 0 (dCons (dBin oIx (dVar 1) (dVar 4)) (dCons (dBin oSub (dVar 2) (dC (.int 1))) dNil)))) dNil))) (dSl (dVar 1) (dPart (dBin oAdd (dVar 4) (dC (.int 1)))) dNoP)))) dNext)
    (dSeq (dSet 3 (xE (dCall 1 pre__law_pull (dUrn 0 (dCons (dC (.int 9)) dNil)))))
    (dSeq (dIfS (dTAnd (dTest (dCB cIsi (dCons (dVar 1) (dCons (dC (.ty "tuple")) dNil)))) (dTest (dBin oLt (dVar 3) (dC (.int 7))))) (dRet (dBin oIx (dTup (dCons (dF (dListF (dCons (dVar 1) dNil))) (dCons (dSl (dVar 1) dNoP (dPart (dUn (fun x P => x.intP fun i => P (.int (-i))) (dC (.int 1))))) (dCons (dSl (dVar 1) (dPart (dC (.int 1))) dNoP) (dCons (dBin oAdd (dVar 1) (dSl (dVar 1) (dPart (dUn (fun x P => x.intP fun i => P (.int (-i))) (dC (.int 1)))) dNoP)) (dCons (dBack (dVar 1)) (dCons (dBin oAdd (dVar 1) (dTup (dCons (dC (.int 0)) dNil))) (dCons (dTup (dCons (dVar 1) dNil)) dNil)))))))) (dVar 3))) dNext)
    (dSeq (dIfS (dTAnd (dTest (dCB cIsi (dCons (dVar 1) (dCons (dC (.ty "int")) dNil)))) (dTAnd (dTNot (dTest (dCB cIsi (dCons (dVar 1) (dCons (dC (.ty "bool")) dNil))))) (dTest (dBin oLt (dVar 3) (dC (.int 7)))))) (dRet (dBin oIx (dTup (dCons (dBin oAdd (dVar 1) (dC (.int 1))) (dCons (dBin oSub (dVar 1) (dC (.int 1))) (dCons (dBin oSub (dC (.int 0)) (dVar 1)) (dCons (dBin oMul (dVar 1) (dC (.int 2))) (dCons (dBin oGt (dVar 1) (dC (.int 0))) (dCons (dCB cStrI (dCons (dVar 1) dNil)) (dCons (dBin oAdd (dVar 1) (dC (.int 3))) dNil)))))))) (dVar 3))) dNext)
    (dRet (dCall 0 pre__law_odd (dUrn 0 dNil)))))))
def pre__law_bent : Nat → Pre
  | 0 => fun _ _ => False
  | n + 1 => fun ds P => d__law_bent (pre__law_bent n) { nx := fun _ => P .non, rt := P } (startU nm__law_bent ds)
def nm__law_is_sequence : List Str := ["thing", "each"]
def d__law_is_sequence : DS :=
    (dSeq (dIfS (dTOr (dTNot (dTest (dCB cIsi (dCons (dVar 0) (dCons (dC (.ty "tuple")) dNil))))) (dTNot (dTest (dCh oLe oLe (dC (.int 1)) (dCB cLen (dCons (dVar 0) dNil)) (dC (.int 8)))))) (dRet (dC (.bl false))) dNext)
    (dRet (dCB cAll (dCons (dF (dComp (dSeqI (dVar 0)) (dName 1) dYes (dCall 3 pre__law_is_whole (dCons (dVar 1) (dCons (dBin oSub (dC (.int 0)) (dBin oPow (dC (.int 10)) (dC (.int 6)))) (dCons (dBin oPow (dC (.int 10)) (dC (.int 6))) dNil)))) [1])) dNil))))
def pre__law_is_sequence : Pre := fun ds P => d__law_is_sequence { nx := fun _ => P .non, rt := P } (startD nm__law_is_sequence ds)
def nm__law_most_next : List Str := ["number", "degree", "k", "found", "left", "top"]
def d__law_most_next : DS :=
    (dSeq (dPar 3 4 (xE (dC (.int 0))) (xE (dVar 0)))
    (dSeq (dFor (dRgD (dVar 1) (dC (.int 0))) (dName 2) (dSeq (dIfS (dTest (dBin oLt (dVar 4) (dC (.int 1)))) dBreak dNext)
    (dSeq (dSet 5 (xE (dIf (dTest (dBin oEq (dVar 2) (dC (.int 1)))) (dVar 4) (dVar 2))))
    (dSeq (dWhile (dTest (dBin oLe (dCall 2 pre__law_choose (dCons (dBin oAdd (dVar 5) (dC (.int 1))) (dCons (dVar 2) dNil))) (dVar 4))) (dSet 5 (xE (dBin oAdd (dVar 5) (dC (.int 1))))))
    (dSeq (dSet 4 (xE (dBin oSub (dVar 4) (dCall 2 pre__law_choose (dCons (dVar 5) (dCons (dVar 2) dNil))))))
    (dSet 3 (xE (dBin oAdd (dVar 3) (dCall 2 pre__law_choose (dCons (dBin oAdd (dVar 5) (dC (.int 1))) (dCons (dBin oAdd (dVar 2) (dC (.int 1))) dNil)))))))))))
    (dRet (dVar 3))))
def pre__law_most_next : Pre := fun ds P => d__law_most_next { nx := fun _ => P .non, rt := P } (startD nm__law_most_next ds)
def nm__law_fails_at : List Str := ["growth", "k"]
def d__law_fails_at : DS :=
    (dSeq (dIfS (dTest (dBin oEq (dVar 1) (dC (.int 0)))) (dRet (dBin oNe (dBin oIx (dVar 0) (dC (.int 0))) (dC (.int 1)))) dNext)
    (dSeq (dIfS (dTest (dBin oLt (dBin oIx (dVar 0) (dVar 1)) (dC (.int 0)))) (dRet (dC (.bl true))) dNext)
    (dRet (dAndV (dBin oGt (dVar 1) (dC (.int 1))) (dAndV (dBin oGe (dBin oIx (dVar 0) (dBin oSub (dVar 1) (dC (.int 1)))) (dC (.int 0))) (dBin oGt (dBin oIx (dVar 0) (dVar 1)) (dCall 2 pre__law_most_next (dCons (dBin oIx (dVar 0) (dBin oSub (dVar 1) (dC (.int 1)))) (dCons (dBin oSub (dVar 1) (dC (.int 1))) dNil)))))))))
def pre__law_fails_at : Pre := fun ds P => d__law_fails_at { nx := fun _ => P .non, rt := P } (startD nm__law_fails_at ds)
def nm__law_is_order_ideal : List Str := ["variables", "thing", "order", "each", "at"]
def d__law_is_order_ideal : DS :=
    (dSeq (dIfS (dTOr (dTNot (dTest (dCB cIsi (dCons (dVar 1) (dCons (dC (.ty "tuple")) dNil))))) (dTNot (dTest (dCB cAll (dCons (dF (dComp (dSeqI (dVar 1)) (dName 3) dYes (dCall 3 pre__law_is_monomial (dCons (dVar 0) (dCons (dVar 3) (dCons (dC (.int 400)) dNil)))) [3])) dNil))))) (dRet (dC (.bl false))) dNext)
    (dSeq (dIfS (dTOr (dTest (dBin oNotIn (dTup dNil) (dVar 1))) (dTest (dBin oLt (dCB cLenS (dCons (dCB cSet (dCons (dVar 1) dNil)) dNil)) (dCB cLen (dCons (dVar 1) dNil))))) (dRet (dC (.bl false))) dNext)
    (dSeq (dSet 2 (xE (dF (dComp (dSeqI (dVar 1)) (dName 3) dYes (dTup (dCons (dCB cLen (dCons (dVar 3) dNil)) (dCons (dBack (dVar 3)) dNil))) [3]))))
    (dSeq (dIfS (dTest (dBin oNe (dF (dSrtA (dCons (dVar 2) dNil))) (dVar 2))) (dRet (dC (.bl false))) dNext)
    (dSeq (dFor (dSeqI (dVar 1)) (dName 3) (dIfS (dTNot (dTest (dCB cAll (dCons (dF (dComp (dRg1 (dCB cLen (dCons (dVar 3) dNil))) (dName 4) dYes (dBin oIn (dBin oAdd (dSl (dVar 3) dNoP (dPart (dVar 4))) (dSl (dVar 3) (dPart (dBin oAdd (dVar 4) (dC (.int 1)))) dNoP)) (dVar 1)) [4])) dNil)))) (dRet (dC (.bl false))) dNext))
    (dRet (dC (.bl true))))))))
def pre__law_is_order_ideal : Pre := fun ds P => d__law_is_order_ideal { nx := fun _ => P .non, rt := P } (startD nm__law_is_order_ideal ds)
def nm__law_takes : List Str := ["claim", "paper", "variables", "counts", "word", "growth", "degree", "each"]
def d__law_takes : DS :=
    (dSeq (dIfS (dTOr (dTNot (dTest (dCB cIsi (dCons (dVar 0) (dCons (dC (.ty "tuple")) dNil))))) (dTOr (dTest (dBin oNe (dCB cLen (dCons (dVar 0) dNil)) (dC (.int 2)))) (dTNot (dTest (dCB cIsi (dCons (dBin oIx (dVar 0) (dC (.int 0))) (dCons (dC (.ty "str")) dNil))))))) (dRet (dC (.bl false))) dNext)
    (dSeq (dIfS (dTNot (dTest (dCall 1 pre__law_is_sequence (dCons (dBin oIx (dVar 0) (dC (.int 1))) dNil)))) (dRet (dC (.bl false))) dNext)
    (dSeq (dAsg (dVar 0) (dGTup 2 (dGCons (dName 4) (dGCons (dName 5) dGNil))))
    (dSeq (dIfS (dTest (dBin oEq (dVar 4) (dC (.str "no M-sequence")))) (dRet (dAndV (dCall 3 pre__law_is_whole (dCons (dVar 1) (dCons (dC (.int 0)) (dCons (dBin oSub (dCB cLen (dCons (dVar 5) dNil)) (dC (.int 1))) dNil)))) (dCall 2 pre__law_fails_at (dCons (dVar 5) (dCons (dVar 1) dNil))))) dNext)
    (dSeq (dSet 2 (xE (dIf (dTest (dBin oGt (dCB cLen (dCons (dVar 5) dNil)) (dC (.int 1)))) (dBin oIx (dVar 5) (dC (.int 1))) (dC (.int 0)))))
    (dSeq (dIfS (dTOr (dTest (dBin oNe (dVar 4) (dC (.str "M-sequence")))) (dTOr (dTNot (dTest (dCh oLe oLe (dC (.int 0)) (dVar 2) (dC (.int 6))))) (dTNot (dTest (dCall 2 pre__law_is_order_ideal (dCons (dVar 2) (dCons (dVar 1) dNil))))))) (dRet (dC (.bl false))) dNext)
    (dSeq (dSet 3 (xE (dF (dComp (dRg1 (dCB cLen (dCons (dVar 5) dNil))) (dName 6) dYes (dCB cLen (dCons (dF (dComp (dSeqI (dVar 1)) (dName 7) (dTest (dBin oEq (dCB cLen (dCons (dVar 7) dNil)) (dVar 6))) (dVar 7) [7])) dNil)) [6]))))
    (dRet (dAndV (dBin oEq (dCB cSum (dCons (dVar 3) dNil)) (dCB cLen (dCons (dVar 1) dNil))) (dBin oEq (dVar 3) (dF (dListF (dCons (dVar 5) dNil)))))))))))))
def pre__law_takes : Pre := fun ds P => d__law_takes { nx := fun _ => P .non, rt := P } (startD nm__law_takes ds)
def perm_accepts_paper_claim : {α : Type} → List α → List α := fun {α} l => match l with | [a0, a1] => [a1, a0] | l => l
def nm__law_judged : List Str := ["urn", "rows", "said", "sheet", "due", "one", "two"]
def d__law_judged : DS :=
    (dSeq (dFor (dSeqI (dVar 1)) (dGTup 3 (dGCons (dName 2) (dGCons (dName 3) (dGCons (dName 4) dGNil)))) (dIfS (dTNot (dTest (dCall 2 pre__law_is (dCons (dCall 2 pre_accepts (dCons (dVar 2) (dCons (dVar 3) dNil))) (dCons (dVar 4) dNil))))) (dRet (dC (.bl false))) dNext))
    (dSeq (dAsg (dCall 1 pre__law_one (dUrn 0 (dCons (dVar 1) dNil))) (dGTup 3 (dGCons (dName 2) (dGCons (dName 3) (dGCons (dName 4) dGNil)))))
    (dSeq (dIfS (dTNot (dTest (dCall 2 pre__law_is (dCons (dKw 2 perm_accepts_paper_claim (dCall 2 pre_accepts) (dCons (dVar 3) (dCons (dVar 2) dNil))) (dCons (dVar 4) dNil))))) (dRet (dC (.bl false))) dNext)
    (dSeq (dFor (dSeqI (dTup (dCons (dTup (dCons (dCall 2 (pre__law_bent 10) (dUrn 0 (dCons (dVar 2) (dCons (dC (.int 9)) dNil)))) (dCons (dVar 3) dNil))) (dCons (dTup (dCons (dVar 2) (dCons (dCall 2 (pre__law_bent 10) (dUrn 0 (dCons (dVar 3) (dCons (dC (.int 9)) dNil)))) dNil))) (dCons (dTup (dCons (dVar 2) (dCons (dCall 0 pre__law_odd (dUrn 0 dNil)) dNil))) dNil))))) (dGTup 2 (dGCons (dName 5) (dGCons (dName 6) dGNil))) (dIfS (dTNot (dTest (dCall 2 pre__law_is (dCons (dCall 2 pre_accepts (dCons (dVar 5) (dCons (dVar 6) dNil))) (dCons (dCall 2 pre__law_takes (dCons (dVar 5) (dCons (dVar 6) dNil))) dNil))))) (dRet (dC (.bl false))) dNext))
    (dRet (dC (.bl true)))))))
def pre__law_judged : Pre := fun ds P => d__law_judged { nx := fun _ => P .non, rt := P } (startU nm__law_judged ds)
def nm__law_compressed : List Str := ["growth", "found", "degree", "many"]
def d__law_compressed : DS :=
    (dSeq (dSet 1 (xE (dF (dLstF dNil))))
    (dSeq (dFor (dEnI (dVar 0)) (dGTup 2 (dGCons (dName 2) (dGCons (dName 3) dGNil))) (dSet 1 (xE (dF (dCatF (dVar 1) (dSl (dCall 2 pre__law_monomials (dCons (dIf (dTest (dBin oGt (dCB cLen (dCons (dVar 0) dNil)) (dC (.int 1)))) (dBin oIx (dVar 0) (dC (.int 1))) (dC (.int 0))) (dCons (dVar 2) dNil))) dNoP (dPart (dVar 3))))))))
    (dRet (dCB cTup (dCons (dVar 1) dNil)))))
def pre__law_compressed : Pre := fun ds P => d__law_compressed { nx := fun _ => P .non, rt := P } (startD nm__law_compressed ds)
def nm__law_growth : List Str := ["urn", "long", "top", "found", "k", "most"]
def d__law_growth : DS :=
    (dSeq (dSet 3 (xF (dLstF (dCons (dC (.int 1)) dNil))))
    (dSeq (dFor (dRg2 (dC (.int 1)) (dVar 1)) (dName 4) (dSeq (dSet 5 (xE (dIf (dTest (dBin oEq (dVar 4) (dC (.int 1)))) (dVar 2) (dCB cMin2 (dCons (dCall 2 pre__law_most_next (dCons (dIxO 3 (dUn (fun x P => x.intP fun i => P (.int (-i))) (dC (.int 1)))) (dCons (dBin oSub (dVar 4) (dC (.int 1))) dNil))) (dCons (dC (.int 16)) dNil))))))
    (dApp 3 (dIf (dTest (dBin oEq (dCall 1 pre__law_pull (dUrn 0 (dCons (dC (.int 3)) dNil))) (dC (.int 0)))) (dVar 5) (dCall 1 pre__law_pull (dUrn 0 (dCons (dBin oAdd (dVar 5) (dC (.int 1))) dNil)))))))
    (dRetO 3)))
def pre__law_growth : Pre := fun ds P => d__law_growth { nx := fun _ => P .non, rt := P } (startU nm__law_growth ds)
def nm__law_other_ideal : List Str := ["urn", "ideal", "variables", "each", "turned", "found", "late", "degree", "v"]
def d__law_other_ideal : DS :=
    (dSeq (dPar 4 5 (xE (dCall 1 pre__law_shuffled (dUrn 0 (dCons (dF (dLRg2 (dC (.int 1)) (dBin oAdd (dVar 2) (dC (.int 1))))) dNil)))) (xF (dLstF dNil)))
    (dSeq (dFor (dSeqI (dVar 1)) (dName 3) (dSeq (dSet 6 (xE (dCB cTup (dCons (dF (dSrtA (dCons (dF (dComp (dSeqI (dVar 3)) (dName 8) dYes (dBin oIx (dVar 4) (dBin oSub (dVar 8) (dC (.int 1)))) [8])) dNil))) dNil))))
    (dApp 5 (dTup (dCons (dCB cLen (dCons (dVar 6) dNil)) (dCons (dBack (dVar 6)) dNil))))))
    (dRet (dCB cTup (dCons (dF (dComp (dSeqI (dF (dLendF (dSrtA (dCons (dVar 5) dNil))))) (dGTup 2 (dGCons (dName 7) (dGCons (dName 3) dGNil))) dYes (dBack (dVar 3)) [7, 3])) dNil)))))
def pre__law_other_ideal : Pre := fun ds P => d__law_other_ideal { nx := fun _ => P .non, rt := P } (startU nm__law_other_ideal ds)
def nm__law_with_other : List Str := ["urn", "ideal", "variables", "gone", "fresh", "late", "each", "degree"]
def d__law_with_other : DS :=
    (dSeq (dSet 3 (xE (dCall 1 pre__law_one (dUrn 0 (dCons (dVar 1) dNil)))))
    (dSeq (dSet 4 (xE (dF (dComp (dSeqI (dCall 2 pre__law_monomials (dCons (dVar 2) (dCons (dCB cLen (dCons (dVar 3) dNil)) dNil)))) (dName 6) (dTest (dBin oNotIn (dVar 6) (dVar 1))) (dVar 6) [6]))))
    (dSeq (dIfS (dTest (dBin oEq (dVar 4) (dF (dLstF dNil)))) (dRet (dVar 1)) dNext)
    (dSeq (dSet 5 (xE (dF (dCatF (dF (dComp (dSeqI (dVar 1)) (dName 6) (dTest (dBin oNe (dVar 6) (dVar 3))) (dVar 6) [6])) (dF (dLstF (dCons (dCall 1 pre__law_one (dUrn 0 (dCons (dVar 4) dNil))) dNil)))))))
    (dRet (dCB cTup (dCons (dF (dComp (dSeqI (dF (dSrtA (dCons (dF (dComp (dSeqI (dVar 5)) (dName 6) dYes (dTup (dCons (dCB cLen (dCons (dVar 6) dNil)) (dCons (dBack (dVar 6)) dNil))) [6])) dNil)))) (dGTup 2 (dGCons (dName 7) (dGCons (dName 6) dGNil))) dYes (dBack (dVar 6)) [7, 6])) dNil)))))))
def pre__law_with_other : Pre := fun ds P => d__law_with_other { nx := fun _ => P .non, rt := P } (startU nm__law_with_other ds)
def nm__law_great : List Str := ["urn", "found", "most", "few"]
def d__law_great : DS :=
    (dSeq (dSet 1 (xF (dLstF (dCons (dC (.int 1)) (dCons (dCall 1 pre__law_one (dUrn 0 (dCons (dTup (dCons (dC (.int 3)) (dCons (dC (.int 4)) (dCons (dC (.int 5)) (dCons (dC (.int 6)) dNil))))) dNil))) dNil)))))
    (dSeq (dWhile (dTAnd (dTest (dBin oLt (dLenO 1) (dC (.int 8)))) (dTest (dBin oLt (dLend (dCB cSum (dCons (dVar 1) dNil))) (dC (.int 200))))) (dSeq (dSet 2 (xE (dCB cMin2 (dCons (dCall 2 pre__law_most_next (dCons (dIxO 1 (dUn (fun x P => x.intP fun i => P (.int (-i))) (dC (.int 1)))) (dCons (dBin oSub (dLenO 1) (dC (.int 1))) dNil))) (dCons (dBin oSub (dC (.int 200)) (dLend (dCB cSum (dCons (dVar 1) dNil)))) dNil)))))
    (dSeq (dSet 3 (xE (dCall 1 pre__law_pull (dUrn 0 (dCons (dBin oAdd (dVar 2) (dC (.int 1))) dNil)))))
    (dApp 1 (dIf (dTOr (dTest (dBin oLt (dBin oAdd (dLend (dCB cSum (dCons (dVar 1) dNil))) (dVar 3)) (dC (.int 81)))) (dTest (dBin oEq (dCall 1 pre__law_pull (dUrn 0 (dCons (dC (.int 3)) dNil))) (dC (.int 0))))) (dVar 2) (dVar 3))))))
    (dRetO 1)))
def pre__law_great : Pre := fun ds P => d__law_great { nx := fun _ => P .non, rt := P } (startU nm__law_great ds)
def nm__law_turned : List Str := ["urn", "ideal", "variables", "at", "some", "one", "two"]
def d__law_turned : DS :=
    (dSeq (dSet 3 (xE (dCall 1 pre__law_pull (dUrn 0 (dCons (dBin oSub (dCB cLen (dCons (dVar 1) dNil)) (dC (.int 1))) dNil)))))
    (dSeq (dPar 5 6 (xE (dBin oIx (dVar 1) (dVar 3))) (xE (dBin oIx (dVar 1) (dBin oAdd (dVar 3) (dC (.int 1))))))
    (dSeq (dSet 4 (xF (dLstF (dCons (dBin oAdd (dSl (dVar 1) dNoP (dPart (dVar 3))) (dSl (dVar 1) (dPart (dBin oAdd (dVar 3) (dC (.int 1)))) dNoP)) (dCons (dBin oAdd (dBin oAdd (dSl (dVar 1) dNoP (dPart (dVar 3))) (dTup (dCons (dVar 5) dNil))) (dSl (dVar 1) (dPart (dVar 3)) dNoP)) (dCons (dBin oAdd (dBin oAdd (dSl (dVar 1) dNoP (dPart (dVar 3))) (dTup (dCons (dVar 6) (dCons (dVar 5) dNil)))) (dSl (dVar 1) (dPart (dBin oAdd (dVar 3) (dC (.int 2)))) dNoP)) dNil))))))
    (dSeq (dSet 4 (xF (dCatO 4 (dF (dLstF (dCons (dBin oAdd (dBin oAdd (dSl (dVar 1) dNoP (dPart (dVar 3))) (dTup (dCons (dF (dListF (dCons (dVar 5) dNil))) dNil))) (dSl (dVar 1) (dPart (dBin oAdd (dVar 3) (dC (.int 1)))) dNoP)) (dCons (dCall 2 pre__law_with_other (dUrn 0 (dCons (dVar 1) (dCons (dVar 2) dNil)))) (dCons (dSl (dVar 1) dNoP (dPart (dUn (fun x P => x.intP fun i => P (.int (-i))) (dC (.int 1))))) dNil))))))))
    (dSeq (dApp 4 (dBin oAdd (dBin oAdd (dSl (dVar 1) dNoP (dPart (dBin oAdd (dVar 3) (dC (.int 1))))) (dTup (dCons (dBin oAdd (dSl (dVar 6) dNoP (dPart (dUn (fun x P => x.intP fun i => P (.int (-i))) (dC (.int 1))))) (dTup (dCons (dBin oAdd (dVar 2) (dC (.int 1))) dNil))) dNil))) (dSl (dVar 1) (dPart (dBin oAdd (dVar 3) (dC (.int 2)))) dNoP)))
    (dSeq (dApp 4 (dBin oAdd (dBin oAdd (dSl (dVar 1) dNoP (dPart (dBin oAdd (dVar 3) (dC (.int 1))))) (dTup (dCons (dBin oAdd (dSl (dVar 6) dNoP (dPart (dUn (fun x P => x.intP fun i => P (.int (-i))) (dC (.int 1))))) (dTup (dCons (dC (.bl true)) dNil))) dNil))) (dSl (dVar 1) (dPart (dBin oAdd (dVar 3) (dC (.int 2)))) dNoP)))
    (dRet (dF (dCatO 4 (dF (dLstF (dCons (dBin oAdd (dBin oAdd (dSl (dVar 1) dNoP (dPart (dBin oAdd (dVar 3) (dC (.int 1))))) (dTup (dCons (dBack (dVar 6)) dNil))) (dSl (dVar 1) (dPart (dBin oAdd (dVar 3) (dC (.int 2)))) dNoP)) (dCons (dBin oAdd (dVar 1) (dTup (dCons (dBin oAdd (dSl (dBin oIx (dVar 1) (dUn (fun x P => x.intP fun i => P (.int (-i))) (dC (.int 1)))) dNoP (dPart (dUn (fun x P => x.intP fun i => P (.int (-i))) (dC (.int 1))))) (dTup (dCons (dVar 2) dNil))) dNil))) dNil)))))))))))))
def pre__law_turned : Pre := fun ds P => d__law_turned { nx := fun _ => P .non, rt := P } (startU nm__law_turned ds)
def nm__law_great_right : List Str := ["urn", "growth", "near", "papers", "some", "ideal", "at", "late", "said", "claim", "paper", "each"]
def d__law_great_right : DS :=
    (dSeq (dSet 1 (xE (dCall 0 pre__law_great (dUrn 0 dNil))))
    (dSeq (dPar 5 6 (xE (dCall 1 pre__law_compressed (dCons (dVar 1) dNil))) (xE (dBin oAdd (dC (.int 1)) (dCall 1 pre__law_pull (dUrn 0 (dCons (dBin oSub (dCB cLen (dCons (dVar 1) dNil)) (dC (.int 1))) dNil))))))
    (dSeq (dSet 2 (xE (dCB cTup (dCons (dF (dCatF (dF (dCatF (dSl (dVar 1) dNoP (dPart (dVar 6))) (dF (dLstF (dCons (dBin oAdd (dBin oIx (dVar 1) (dVar 6)) (dCall 1 pre__law_one (dUrn 0 (dCons (dTup (dCons (dC (.int 1)) (dCons (dUn (fun x P => x.intP fun i => P (.int (-i))) (dC (.int 1))) dNil))) dNil)))) dNil))))) (dSl (dVar 1) (dPart (dBin oAdd (dVar 6) (dC (.int 1)))) dNoP))) dNil))))
    (dSeq (dPar 7 8 (xE (dCB cTup (dCons (dF (dCatF (dSl (dVar 1) dNoP (dPart (dUn (fun x P => x.intP fun i => P (.int (-i))) (dC (.int 1))))) (dF (dLstF (dCons (dC (.int 200000)) dNil))))) dNil))) (xE (dTup (dCons (dC (.str "M-sequence")) (dCons (dCB cTup (dCons (dVar 1) dNil)) dNil)))))
    (dSeq (dSet 3 (xE (dF (dCatF (dF (dLstF (dCons (dVar 5) (dCons (dCall 2 pre__law_other_ideal (dUrn 0 (dCons (dVar 5) (dCons (dBin oIx (dVar 1) (dC (.int 1))) dNil)))) dNil)))) (dCall 2 pre__law_turned (dUrn 0 (dCons (dVar 5) (dCons (dBin oIx (dVar 1) (dC (.int 1))) dNil))))))))
    (dSeq (dSet 4 (xE (dF (dComp (dSeqI (dVar 3)) (dName 11) dYes (dTup (dCons (dVar 8) (dCons (dVar 11) dNil))) [11]))))
    (dSeq (dSet 4 (xE (dF (dCatF (dVar 4) (dF (dComp (dSeqI (dTup (dCons (dVar 2) (dCons (dVar 7) (dCons (dCB cTup (dCons (dSl (dVar 1) dNoP (dPart (dUn (fun x P => x.intP fun i => P (.int (-i))) (dC (.int 1))))) dNil)) (dCons (dBin oAdd (dCB cTup (dCons (dVar 1) dNil)) (dTup (dCons (dC (.int 0)) dNil))) dNil)))))) (dName 11) dYes (dTup (dCons (dTup (dCons (dC (.str "M-sequence")) (dCons (dVar 11) dNil))) (dCons (dVar 5) dNil))) [11]))))))
    (dSeq (dSet 4 (xE (dF (dCatF (dVar 4) (dF (dComp (dSeqI (dTup (dCons (dVar 2) (dCons (dVar 7) (dCons (dCB cTup (dCons (dVar 1) dNil)) dNil))))) (dName 11) dYes (dTup (dCons (dTup (dCons (dC (.str "no M-sequence")) (dCons (dVar 11) dNil))) (dCons (dVar 6) dNil))) [11]))))))
    (dSeq (dSet 4 (xE (dF (dCatF (dVar 4) (dF (dComp (dSeqI (dTup (dCons (dVar 2) (dCons (dVar 7) (dCons (dCB cTup (dCons (dVar 1) dNil)) dNil))))) (dName 11) dYes (dTup (dCons (dTup (dCons (dC (.str "no M-sequence")) (dCons (dVar 11) dNil))) (dCons (dBin oSub (dCB cLen (dCons (dVar 1) dNil)) (dC (.int 1))) dNil))) [11]))))))
    (dSeq (dFor (dSeqI (dVar 4)) (dGTup 2 (dGCons (dName 9) (dGCons (dName 10) dGNil))) (dIfS (dTNot (dTest (dCall 2 pre__law_is (dCons (dCall 2 pre_accepts (dCons (dVar 9) (dCons (dVar 10) dNil))) (dCons (dCall 2 pre__law_takes (dCons (dVar 9) (dCons (dVar 10) dNil))) dNil))))) (dRet (dC (.bl false))) dNext))
    (dRet (dC (.bl true)))))))))))))
def pre__law_great_right : Pre := fun ds P => d__law_great_right { nx := fun _ => P .non, rt := P } (startU nm__law_great_right ds)
def nm__law_right : List Str := ["urn", "growth", "variables", "ideal", "wild", "papers", "order", "far", "spot", "most", "number", "fails", "rows", "row", "some", "few", "other", "at", "more", "word", "each", "long", "v", "claim", "paper", "degree"]
def d__law_right : DS :=
    (dSeq (dSet 1 (xE (dCall 2 pre__law_growth (dUrn 0 (dCons (dBin oAdd (dC (.int 1)) (dCall 1 pre__law_pull (dUrn 0 (dCons (dC (.int 6)) dNil)))) (dCons (dCall 1 pre__law_one (dUrn 0 (dCons (dTup (dCons (dC (.int 1)) (dCons (dC (.int 2)) (dCons (dC (.int 3)) (dCons (dC (.int 4)) (dCons (dC (.int 6)) dNil)))))) dNil))) dNil))))))
    (dSeq (dSet 2 (xE (dIf (dTest (dBin oGt (dCB cLen (dCons (dVar 1) dNil)) (dC (.int 1)))) (dBin oIx (dVar 1) (dC (.int 1))) (dC (.int 0)))))
    (dSeq (dSet 3 (xE (dCall 1 pre__law_compressed (dCons (dVar 1) dNil))))
    (dSeq (dPar 16 17 (xE (dCall 2 pre__law_other_ideal (dUrn 0 (dCons (dVar 3) (dCons (dVar 2) dNil))))) (xE (dCall 1 pre__law_pull (dUrn 0 (dCons (dCB cLen (dCons (dVar 3) dNil)) dNil)))))
    (dSeq (dSet 4 (xE (dCall 1 pre__law_one (dUrn 0 (dCons (dCall 2 pre__law_monomials (dCons (dBin oAdd (dVar 2) (dC (.int 1))) (dCons (dCall 1 pre__law_pull (dUrn 0 (dCons (dBin oAdd (dCB cLen (dCons (dVar 1) dNil)) (dC (.int 1))) dNil))) dNil))) dNil)))))
    (dSeq (dSet 5 (xF (dLstF (dCons (dVar 3) (dCons (dVar 16) (dCons (dBin oAdd (dSl (dVar 3) dNoP (dPart (dVar 17))) (dSl (dVar 3) (dPart (dBin oAdd (dVar 17) (dC (.int 1)))) dNoP)) (dCons (dBack (dVar 3)) (dCons (dBin oAdd (dVar 3) (dTup (dCons (dVar 4) dNil))) (dCons (dF (dListF (dCons (dVar 3) dNil))) dNil)))))))))
    (dSeq (dApp 5 (dBin oAdd (dVar 3) (dSl (dVar 3) (dPart (dVar 17)) (dPart (dBin oAdd (dVar 17) (dC (.int 1)))))))
    (dSeq (dSet 5 (xF (dCatO 5 (dF (dLstF (dCons (dBin oAdd (dBin oAdd (dSl (dVar 3) dNoP (dPart (dVar 17))) (dTup (dCons (dVar 4) dNil))) (dSl (dVar 3) (dPart (dBin oAdd (dVar 17) (dC (.int 1)))) dNoP)) (dCons (dSl (dVar 3) (dPart (dC (.int 1))) dNoP) (dCons (dSl (dVar 16) dNoP (dPart (dUn (fun x P => x.intP fun i => P (.int (-i))) (dC (.int 1))))) (dCons (dTup dNil) (dCons (dTup (dCons (dTup dNil) dNil)) (dCons (dC .non) (dCons (dC (.int 0)) (dCons (dC (.int 1)) dNil)))))))))))))
    (dSeq (dSet 5 (xF (dCatO 5 (dF (dLstF (dCons (dC (.bl true)) (dCons (dUn (fun x P => x.intP fun i => P (.int (-i))) (dC (.int 1))) dNil)))))))
    (dSeq (dSet 6 (xE (dF (dSrtA (dCons (dF (dComp (dSeqI (dBin oAdd (dBin oAdd (dSl (dVar 3) dNoP (dPart (dVar 17))) (dTup (dCons (dVar 4) dNil))) (dSl (dVar 3) (dPart (dBin oAdd (dVar 17) (dC (.int 1)))) dNoP))) (dName 20) dYes (dTup (dCons (dCB cLen (dCons (dVar 20) dNil)) (dCons (dBack (dVar 20)) dNil))) [20])) dNil)))))
    (dSeq (dSet 5 (xF (dCatF (dF (dCatO 5 (dF (dLstF (dCons (dCB cTup (dCons (dF (dComp (dSeqI (dVar 6)) (dGTup 2 (dGCons (dName 25) (dGCons (dName 20) dGNil))) dYes (dBack (dVar 20)) [25, 20])) dNil)) dNil))))) (dF (dLRg2 (dC (.int 2)) (dBin oAdd (dCB cLen (dCons (dVar 1) dNil)) (dC (.int 1))))))))
    (dSeq (dSet 7 (xE (dF (dComp (dSeqI (dVar 3)) (dName 20) dYes (dCB cTup (dCons (dF (dComp (dSeqI (dVar 20)) (dName 22) dYes (dIf (dTest (dBin oEq (dVar 22) (dVar 2))) (dBin oAdd (dVar 2) (dC (.int 1))) (dVar 22)) [22])) dNil)) [20]))))
    (dSeq (dSet 5 (xF (dCatO 5 (dF (dLstF (dCons (dCB cTup (dCons (dVar 7) dNil)) (dCons (dCall 2 pre__law_with_other (dUrn 0 (dCons (dVar 3) (dCons (dVar 2) dNil)))) (dCons (dCall 2 pre__law_with_other (dUrn 0 (dCons (dVar 16) (dCons (dVar 2) dNil)))) dNil))))))))
    (dSeq (dApp 5 (dCall 1 pre__law_compressed (dCons (dF (dCatF (dVar 1) (dF (dLstF (dCons (dIf (dTAnd (dTest (dBin oGt (dVar 2) (dC (.int 0)))) (dTest (dBin oGt (dBin oIx (dVar 1) (dUn (fun x P => x.intP fun i => P (.int (-i))) (dC (.int 1)))) (dC (.int 0))))) (dC (.int 1)) (dC (.int 0))) dNil))))) dNil)))
    (dSeq (dSet 8 (xE (dCall 1 pre__law_pull (dUrn 0 (dCons (dCB cLen (dCons (dVar 1) dNil)) dNil)))))
    (dSeq (dSet 9 (xE (dIf (dTest (dBin oGt (dVar 8) (dC (.int 1)))) (dCall 2 pre__law_most_next (dCons (dBin oIx (dVar 1) (dBin oSub (dVar 8) (dC (.int 1)))) (dCons (dBin oSub (dVar 8) (dC (.int 1))) dNil))) (dC (.int 7)))))
    (dSeq (dSet 10 (xE (dCall 1 pre__law_one (dUrn 0 (dCons (dTup (dCons (dUn (fun x P => x.intP fun i => P (.int (-i))) (dC (.int 1))) (dCons (dBin oAdd (dBin oIx (dVar 1) (dVar 8)) (dC (.int 1))) (dCons (dBin oAdd (dVar 9) (dC (.int 1))) (dCons (dVar 9) (dCons (dBin oPow (dC (.int 10)) (dC (.int 6))) (dCons (dBin oAdd (dBin oPow (dC (.int 10)) (dC (.int 6))) (dC (.int 1))) (dCons (dC (.int 0)) (dCons (dC (.int 2)) (dCons (dC (.bl true)) dNil)))))))))) dNil)))))
    (dSeq (dSet 11 (xE (dF (dCatF (dF (dCatF (dSl (dVar 1) dNoP (dPart (dVar 8))) (dF (dLstF (dCons (dVar 10) dNil))))) (dSl (dVar 1) (dPart (dBin oAdd (dVar 8) (dC (.int 1)))) dNoP)))))
    (dSeq (dPar 18 14 (xE (dCall 1 pre__law_one (dUrn 0 (dCons (dF (dLRg2 (dUn (fun x P => x.intP fun i => P (.int (-i))) (dC (.int 3))) (dC (.int 4)))) dNil)))) (xF (dLstF dNil)))
    (dFreeze 5 (dSeq (dSet 12 (xE (dF (dLstF (dCons (dCB cTup (dCons (dVar 1) dNil)) (dCons (dCB cTup (dCons (dVar 11) dNil)) (dCons (dCB cTup (dCons (dF (dCatF (dSl (dVar 11) dNoP (dPart (dUn (fun x P => x.intP fun i => P (.int (-i))) (dC (.int 1))))) (dF (dLstF (dCons (dVar 18) dNil))))) dNil)) (dCons (dCB cTup (dCons (dF (dCatF (dVar 1) (dF (dLstF (dCons (dC (.int 1)) dNil))))) dNil)) (dCons (dCB cTup (dCons (dSl (dVar 1) (dPart (dC (.int 1))) dNoP) dNil)) (dCons (dVar 1) dNil))))))))))
    (dSeq (dFor (dSeqI (dVar 12)) (dName 13) (dFor (dSeqI (dTup (dCons (dC (.str "M-sequence")) (dCons (dC (.str "no M-sequence")) dNil)))) (dName 19) (dSet 14 (xF (dCatO 14 (dF (dComp (dSeqI (dVar 5)) (dName 24) dYes (dTup (dCons (dTup (dCons (dVar 19) (dCons (dVar 13) dNil))) (dCons (dVar 24) dNil))) [24])))))))
    (dSeq (dSet 14 (xF (dCatO 14 (dF (dLstF (dCons (dTup (dCons (dTup (dCons (dC (.str "M-sequence")) (dCons (dCB cTup (dCons (dVar 1) dNil)) (dCons (dTup dNil) dNil)))) (dCons (dVar 3) dNil))) (dCons (dTup (dCons (dTup (dCons (dC (.str "sequence")) (dCons (dCB cTup (dCons (dVar 1) dNil)) dNil))) (dCons (dVar 3) dNil))) dNil)))))))
    (dSeq (dFor (dSeqI (dTup (dCons (dC (.int 6)) (dCons (dC (.int 7)) dNil)))) (dName 15) (dApp 14 (dTup (dCons (dTup (dCons (dC (.str "M-sequence")) (dCons (dTup (dCons (dC (.int 1)) (dCons (dVar 15) dNil))) dNil))) (dCons (dBin oAdd (dTup (dCons (dTup dNil) dNil)) (dCB cTup (dCons (dF (dComp (dRg2 (dC (.int 1)) (dBin oAdd (dVar 15) (dC (.int 1)))) (dName 22) dYes (dTup (dCons (dVar 22) dNil)) [22])) dNil))) dNil)))))
    (dSeq (dSet 14 (xF (dCatO 14 (dF (dComp (dSeqI (dTup (dCons (dC (.int 8)) (dCons (dC (.int 9)) dNil)))) (dName 21) dYes (dTup (dCons (dTup (dCons (dC (.str "no M-sequence")) (dCons (dBin oMul (dTup (dCons (dC (.int 0)) dNil)) (dVar 21)) dNil))) (dCons (dC (.int 0)) dNil))) [21])))))
    (dFreeze 14 (dRet (dCall 1 pre__law_judged (dUrn 0 (dCons (dF (dComp (dSeqI (dVar 14)) (dGTup 2 (dGCons (dName 23) (dGCons (dName 24) dGNil))) dYes (dTup (dCons (dVar 23) (dCons (dVar 24) (dCons (dCall 2 pre__law_takes (dCons (dVar 23) (dCons (dVar 24) dNil))) dNil)))) [23, 24])) dNil))))))))))))))))))))))))))))))
def pre__law_right : Pre := fun ds P => d__law_right { nx := fun _ => P .non, rt := P } (startU nm__law_right ds)
def nm_law : List Str := ["script", "turn"]
def d_law : DS :=
    (dSeq (dFor (dRg1 (dCB cMax2 (dCons (dC (.int 3)) (dCons (dCB cMin2 (dCons (dLenS 0) (dCons (dC (.int 5)) dNil))) dNil)))) (dName 1) (dIfS (dTNot (dTest (dCallM 0 pre__law_right (dCallF 2 pre__law_urn (dCons (dVar 0) (dCons (dVar 1) dNil)))))) (dRet (dC (.bl false))) dNext))
    (dRet (dCallM 0 pre__law_great_right (dCallF 2 pre__law_urn (dCons (dVar 0) (dCons (dC (.int 5)) dNil))))))
def pre_law : Pre := fun ds P => d_law { nx := fun _ => P .non, rt := P } (startD nm_law ds)

section
variable {P : Program} {w : World} {K : PySem.W.Frag} {mg : Str → Option Value} {base : Heap}
theorem sc_is_whole : FnScope nm_is_whole ["value"] (defScope st_is_whole) := ⟨rfl, rfl, rfl, by decide +kernel, rfl, by decide +kernel, by decide +kernel⟩
theorem bn_is_whole : Bnd "is_whole" st_is_whole ["value"] := fun _ _ _ _ _ _ us hl => match us, hl with | [_], _ => rfl
theorem ok_is_whole (F : Fx K w mg) : DefG P w K mg base "is_whole" ["value"] 1 (spP K 1 pre_is_whole) := defP F.a_is_whole sc_is_whole bn_is_whole pre_is_whole (d := d_is_whole) (fun f cdv A out s H E hr => ⟨_, (ss_one (s_ret (d_and (d_blt c_isi rfl F.f_isinstance bt_isinstance (a_cons (dv 0) (a_cons (d_bltn rfl F.f_int bt_int) a_nil))) (d_one (d_not (d_blt c_isi rfl F.f_isinstance bt_isinstance (a_cons (dv 0) (a_cons (d_bltn rfl F.f_bool bt_bool) a_nil))))))))⟩) fun ds Pd _ h => h
theorem sc_is_between : FnScope nm_is_between ["value", "least", "most"] (defScope st_is_between) := ⟨rfl, rfl, rfl, by decide +kernel, rfl, by decide +kernel, by decide +kernel⟩
theorem bn_is_between : Bnd "is_between" st_is_between ["value", "least", "most"] := fun _ _ _ _ _ _ us hl => match us, hl with | [_, _, _], _ => rfl
theorem ok_is_between (F : Fx K w mg) : DefG P w K mg base "is_between" ["value", "least", "most"] 2 (spP K 3 pre_is_between) := defP F.a_is_between sc_is_between bn_is_between pre_is_between (d := d_is_between) (fun f cdv A out s H E hr => ⟨_, (ss_one (s_ret (d_and (dg_call (ok_is_whole F) (hr.mono (by decide)) rfl (a_cons (dv 0) a_nil)) (d_one (d_chain do_le do_le (dv 1) (dv 0) (dv 2))))))⟩) fun ds Pd _ h => h
theorem sc_is_form_of : FnScope nm_is_form_of ["value"] (defScope st_is_form_of) := ⟨rfl, rfl, rfl, by decide +kernel, rfl, by decide +kernel, by decide +kernel⟩
theorem bn_is_form_of : Bnd "is_form_of" st_is_form_of ["value"] := fun _ _ _ _ _ _ us hl => match us, hl with | [_], _ => rfl
theorem ok_is_form_of (F : Fx K w mg) : DefG P w K mg base "is_form_of" ["value"] 3 (spP K 1 pre_is_form_of) := defP F.a_is_form_of sc_is_form_of bn_is_form_of pre_is_form_of (d := d_is_form_of) (fun f cdv A out s H E hr => ⟨_, (ss_cons (s_if (PDW.t (w_or (t_not (t_val (d_blt c_isi rfl F.f_isinstance bt_isinstance (a_cons (dv 0) (a_cons (d_bltn rfl F.f_tuple bt_tuple) a_nil))))) (w_or (t_cmp (do_ne hr.u64) (d_blt c_len rfl F.f_len bt_len (a_cons (dv 0) a_nil)) d_int (by rfl)) (w_or1 (t_not (t_val (dg_call (ok_is_between F) (hr.mono (by decide)) rfl (a_cons (d_ix (dv 0) d_int) (a_cons (d_ci rfl F.i_LEAST_DIMENSION) (a_cons (d_ci rfl F.i_MOST_DIMENSION) a_nil)))))))))) (ss_one (s_ret d_bl)) ss_nil)
    (ss_cons (s_asg (dv 0) (g_tup rfl (gs_cons (g_name sc_is_form_of.nd (i := 1)) (gs_cons (g_name sc_is_form_of.nd (i := 2)) gs_nil))))
    (ss_cons (s_if (PDW.t (w_or (t_not (t_val (d_blt c_isi rfl F.f_isinstance bt_isinstance (a_cons (dv 2) (a_cons (d_bltn rfl F.f_tuple bt_tuple) a_nil))))) (w_or1 (t_not (t_chain do_le do_le (d_op do_add (dv 1) d_int) (d_blt c_len rfl F.f_len bt_len (a_cons (dv 2) a_nil)) (d_op do_add (dv 1) (d_ci rfl F.i_MOST_MORE))))))) (ss_one (s_ret d_bl)) ss_nil)
    ss_nv)))⟩) fun ds Pd _ h => h
theorem sc_greatest_top : FnScope nm_greatest_top ["number", "degree"] (defScope st_greatest_top) := ⟨rfl, rfl, rfl, by decide +kernel, rfl, by decide +kernel, by decide +kernel⟩
theorem bn_greatest_top : Bnd "greatest_top" st_greatest_top ["number", "degree"] := fun _ _ _ _ _ _ us hl => match us, hl with | [_, _], _ => rfl
theorem ok_greatest_top (F : Fx K w mg) : DefG P w K mg base "greatest_top" ["number", "degree"] 1 (spP K 2 pre_greatest_top) := defP F.a_greatest_top sc_greatest_top bn_greatest_top pre_greatest_top (d := d_greatest_top) (fun f cdv A out s H E hr => ⟨_, (ss_cons (s_par (i := 2) (j := 3) rfl sc_greatest_top.nd (PDE.x (dv 1)) (PDE.x (dv 1)))
    (ss_cons (s_while PassesOwn.never (t_cmp do_le (d_cfun c_comb rfl F.c_comb (a_cons (dv 3) (a_cons (dv 1) a_nil))) (dv 0) (by rfl)) (ss_one (s_par (i := 2) (j := 3) rfl sc_greatest_top.nd (PDE.x (dv 3)) (PDE.x (d_op do_mul d_int (dv 3))))))
    (ss_cons (s_while PassesOwn.never (t_cmp do_gt (d_op do_sub (dv 3) (dv 2)) d_int (by rfl)) (ss_cons (s_set (i := 4) sc_greatest_top.nd (PDE.x (d_op do_div (d_op do_add (dv 2) (dv 3)) d_int)))
    (ss_one (s_if (t_cmp do_le (d_cfun c_comb rfl F.c_comb (a_cons (dv 4) (a_cons (dv 1) a_nil))) (dv 0) (by rfl)) (ss_one (s_set (i := 2) sc_greatest_top.nd (PDE.x (dv 4)))) (ss_one (s_set (i := 3) sc_greatest_top.nd (PDE.x (dv 4))))))))
    (ss_one (s_ret (dv 2))))))⟩) fun ds Pd _ h => h
theorem sc_expansion_by : FnScope nm_expansion_by ["number", "degree"] (defScope st_expansion_by) := ⟨rfl, rfl, rfl, by decide +kernel, rfl, by decide +kernel, by decide +kernel⟩
theorem bn_expansion_by : Bnd "expansion_by" st_expansion_by ["number", "degree"] := fun _ _ _ _ _ _ us hl => match us, hl with | [_, _], _ => rfl
theorem ok_expansion_by (F : Fx K w mg) : DefG P w K mg base "expansion_by" ["number", "degree"] 2 (spP K 2 pre_expansion_by) := defP F.a_expansion_by sc_expansion_by bn_expansion_by pre_expansion_by (d := d_expansion_by) (fun f cdv A out s H E hr => ⟨_, (ss_cons (s_par3 (i := 2) (j := 3) (l := 4) rfl sc_expansion_by.nd (PDF.x (f_lst a_nil)) (PDE.x (dv 0)) (PDE.x (dv 1)))
    (ss_cons (s_while PassesOwn.never (t_cmp do_gt (dv 3) d_int (by rfl)) (ss_cons (s_app 2 (dg_call (ok_greatest_top F) (hr.mono (by decide)) rfl (a_cons (dv 3) (a_cons (dv 4) a_nil))))
    (ss_one (s_par (i := 3) (j := 4) rfl sc_expansion_by.nd (PDE.x (d_op do_sub (dv 3) (d_cfun c_comb rfl F.c_comb (a_cons (d_ixO 2 (d_neg d_int)) (a_cons (dv 4) a_nil))))) (PDE.x (d_op do_sub (dv 4) d_int))))))
    (ss_one (s_ret (d_lend (d_bty c_tup rfl F.f_tuple bt_tuple (a_cons (dv 2) a_nil)))))))⟩) fun ds Pd _ h => h
theorem sc_most_next_by : FnScope nm_most_next_by ["number", "degree"] (defScope st_most_next_by) := ⟨rfl, rfl, rfl, by decide +kernel, rfl, by decide +kernel, by decide +kernel⟩
theorem bn_most_next_by : Bnd "most_next_by" st_most_next_by ["number", "degree"] := fun _ _ _ _ _ _ us hl => match us, hl with | [_, _], _ => rfl
theorem ok_most_next_by (F : Fx K w mg) : DefG P w K mg base "most_next_by" ["number", "degree"] 3 (spP K 2 pre_most_next_by) := defP F.a_most_next_by sc_most_next_by bn_most_next_by pre_most_next_by (d := d_most_next_by) (fun f cdv A out s H E hr => ⟨_, (ss_cons (PDS.of (sb_lcE (i := 2) rfl sc_most_next_by.nd (i_en rfl F.f_enumerate (dg_call (ok_expansion_by F) (hr.mono (by decide)) rfl (a_cons (dv 0) (a_cons (dv 1) a_nil)))) (own := [("place", 3), ("top", 4)]) (blkOk_by (by kernel_rfl)) (fun _ _ _ _ _ => ⟨_, (g_tup rfl (gs_cons (g_name sc_most_next_by.nd (i := 3)) (gs_cons (g_name sc_most_next_by.nd (i := 4)) gs_nil))), (gw_tup (gw_cons (gw_name (by decide)) (gw_cons (gw_name (by decide)) gw_nil)))⟩) ((gwd_tup (gwd_cons (gwd_name (by decide)) (gwd_cons (gwd_name (by decide)) gwd_nil)))) (fun _ _ _ _ _ => ⟨_, ts_nil⟩) (fun _ _ _ _ _ => ⟨_, (d_cfun c_comb rfl F.c_comb (a_cons (d_op do_add (dv 4) d_int) (a_cons (d_op do_add (d_op do_sub (dv 1) (dv 3)) d_int) a_nil)))⟩) rfl))
    (ss_one (s_ret (d_blt (c_sum rfl) rfl F.f_sum bt_sum (a_cons (dv 2) a_nil)))))⟩) fun ds Pd _ h => h
theorem sc_is_monomial : FnScope nm_is_monomial ["variables", "value"] (defScope st_is_monomial) := ⟨rfl, rfl, rfl, by decide +kernel, rfl, by decide +kernel, by decide +kernel⟩
theorem bn_is_monomial : Bnd "is_monomial" st_is_monomial ["variables", "value"] := fun _ _ _ _ _ _ us hl => match us, hl with | [_, _], _ => rfl
theorem ok_is_monomial (F : Fx K w mg) : DefG P w K mg base "is_monomial" ["variables", "value"] 3 (spP K 2 pre_is_monomial) := defP F.a_is_monomial sc_is_monomial bn_is_monomial pre_is_monomial (d := d_is_monomial) (fun f cdv A out s H E hr => ⟨_, (ss_cons (s_if (PDW.t (w_or (t_not (t_val (d_blt c_isi rfl F.f_isinstance bt_isinstance (a_cons (dv 1) (a_cons (d_bltn rfl F.f_tuple bt_tuple) a_nil))))) (w_or1 (t_not (t_val (d_blt (c_all rfl) rfl F.f_all bt_all (a_cons (PDF.e (PDF.of (fb_lc rfl sc_is_monomial.nd (i_seq (dv 1)) (own := [("each", 4)]) (blkOk_by (by kernel_rfl)) (fun _ _ _ _ _ => ⟨_, (g_name sc_is_monomial.nd (i := 4)), gw_name (by decide)⟩) (gwd_name (by decide)) (fun _ _ _ _ _ => ⟨_, ts_nil⟩) (fun _ _ _ _ _ => ⟨_, (dg_call (ok_is_between F) (hr.mono (by decide)) rfl (a_cons (dv 4) (a_cons d_int (a_cons (dv 0) a_nil))))⟩)))) a_nil))))))) (ss_one (s_ret d_bl)) ss_nil)
    (ss_one (s_ret (d_blt (c_all rfl) rfl F.f_all bt_all (a_cons (PDF.e (PDF.of (fb_lc rfl sc_is_monomial.nd (i_zip rfl F.f_zip (dv 1) (d_sl (dv 1) (p_some d_int) p_none)) (own := [("one", 2), ("two", 3)]) (blkOk_by (by kernel_rfl)) (fun _ _ _ _ _ => ⟨_, (g_tup rfl (gs_cons (g_name sc_is_monomial.nd (i := 2)) (gs_cons (g_name sc_is_monomial.nd (i := 3)) gs_nil))), (gw_tup (gw_cons (gw_name (by decide)) (gw_cons (gw_name (by decide)) gw_nil)))⟩) ((gwd_tup (gwd_cons (gwd_name (by decide)) (gwd_cons (gwd_name (by decide)) gwd_nil)))) (fun _ _ _ _ _ => ⟨_, ts_nil⟩) (fun _ _ _ _ _ => ⟨_, (d_cmp do_le (dv 2) (dv 3) (by rfl))⟩)))) a_nil)))))⟩) fun ds Pd _ h => h
theorem sc_place_of : FnScope nm_place_of ["monomial"] (defScope st_place_of) := ⟨rfl, rfl, rfl, by decide +kernel, rfl, by decide +kernel, by decide +kernel⟩
theorem bn_place_of : Bnd "place_of" st_place_of ["monomial"] := fun _ _ _ _ _ _ us hl => match us, hl with | [_], _ => rfl
theorem ok_place_of (F : Fx K w mg) : DefG P w K mg base "place_of" ["monomial"] 1 (spP K 1 pre_place_of) := defP F.a_place_of sc_place_of bn_place_of pre_place_of (d := d_place_of) (fun f cdv A out s H E hr => ⟨_, (ss_one (s_ret (d_tup (a_cons (d_blt c_len rfl F.f_len bt_len (a_cons (dv 0) a_nil)) (a_cons (d_back (dv 0)) a_nil)))))⟩) fun ds Pd _ h => h
theorem sc_less_one : FnScope nm_less_one ["monomial"] (defScope st_less_one) := ⟨rfl, rfl, rfl, by decide +kernel, rfl, by decide +kernel, by decide +kernel⟩
theorem bn_less_one : Bnd "less_one" st_less_one ["monomial"] := fun _ _ _ _ _ _ us hl => match us, hl with | [_], _ => rfl
theorem ok_less_one (F : Fx K w mg) : DefG P w K mg base "less_one" ["monomial"] 1 (spP K 1 pre_less_one) := defP F.a_less_one sc_less_one bn_less_one pre_less_one (d := d_less_one) (fun f cdv A out s H E hr => ⟨_, (ss_one (s_ret (PDF.e (PDF.of (fb_lc rfl sc_less_one.nd (i_rg1 rfl F.f_range (d_blt c_len rfl F.f_len bt_len (a_cons (dv 0) a_nil))) (own := [("place", 1)]) (blkOk_by (by kernel_rfl)) (fun _ _ _ _ _ => ⟨_, (g_name sc_less_one.nd (i := 1)), gw_name (by decide)⟩) (gwd_name (by decide)) (fun _ _ _ _ _ => ⟨_, ts_nil⟩) (fun _ _ _ _ _ => ⟨_, (d_op do_add (d_sl (dv 0) p_none (p_some (dv 1))) (d_sl (dv 0) (p_some (d_op do_add (dv 1) d_int)) p_none))⟩))))))⟩) fun ds Pd _ h => h
theorem sc_is_ideal : FnScope nm_is_ideal ["variables", "value"] (defScope st_is_ideal) := ⟨rfl, rfl, rfl, by decide +kernel, rfl, by decide +kernel, by decide +kernel⟩
theorem bn_is_ideal : Bnd "is_ideal" st_is_ideal ["variables", "value"] := fun _ _ _ _ _ _ us hl => match us, hl with | [_, _], _ => rfl
theorem ok_is_ideal (F : Fx K w mg) : DefG P w K mg base "is_ideal" ["variables", "value"] 4 (spP K 2 pre_is_ideal) := defP F.a_is_ideal sc_is_ideal bn_is_ideal pre_is_ideal (d := d_is_ideal) (fun f cdv A out s H E hr => ⟨_, (ss_cons (s_if (PDW.t (w_or (t_not (t_val (d_blt c_isi rfl F.f_isinstance bt_isinstance (a_cons (dv 1) (a_cons (d_bltn rfl F.f_tuple bt_tuple) a_nil))))) (w_or1 (t_not (t_val (d_blt (c_all rfl) rfl F.f_all bt_all (a_cons (PDF.e (PDF.of (fb_lc rfl sc_is_ideal.nd (i_seq (dv 1)) (own := [("each", 4)]) (blkOk_by (by kernel_rfl)) (fun _ _ _ _ _ => ⟨_, (g_name sc_is_ideal.nd (i := 4)), gw_name (by decide)⟩) (gwd_name (by decide)) (fun _ _ _ _ _ => ⟨_, ts_nil⟩) (fun _ _ _ _ _ => ⟨_, (dg_call (ok_is_monomial F) (hr.mono (by decide)) rfl (a_cons (dv 0) (a_cons (dv 4) a_nil)))⟩)))) a_nil))))))) (ss_one (s_ret d_bl)) ss_nil)
    (ss_cons (s_if (PDW.t (w_or (t_cmp (do_eq hr.u64) (dv 1) (d_tup a_nil) (by rfl)) (w_or1 (t_cmp (do_ne hr.u64) (d_ix (dv 1) d_int) (d_tup a_nil) (by rfl))))) (ss_one (s_ret d_bl)) ss_nil)
    (ss_cons (s_if (t_not (t_val (d_blt (c_all rfl) rfl F.f_all bt_all (a_cons (PDF.e (PDF.of (fb_lc rfl sc_is_ideal.nd (i_zip rfl F.f_zip (dv 1) (d_sl (dv 1) (p_some d_int) p_none)) (own := [("one", 3), ("two", 5)]) (blkOk_by (by kernel_rfl)) (fun _ _ _ _ _ => ⟨_, (g_tup rfl (gs_cons (g_name sc_is_ideal.nd (i := 3)) (gs_cons (g_name sc_is_ideal.nd (i := 5)) gs_nil))), (gw_tup (gw_cons (gw_name (by decide)) (gw_cons (gw_name (by decide)) gw_nil)))⟩) ((gwd_tup (gwd_cons (gwd_name (by decide)) (gwd_cons (gwd_name (by decide)) gwd_nil)))) (fun _ _ _ _ _ => ⟨_, ts_nil⟩) (fun _ _ _ _ _ => ⟨_, (d_cmp (do_ltD hr.u64) (dg_call (ok_place_of F) (hr.mono (by decide)) rfl (a_cons (dv 3) a_nil)) (dg_call (ok_place_of F) (hr.mono (by decide)) rfl (a_cons (dv 5) a_nil)) (by rfl))⟩)))) a_nil)))) (ss_one (s_ret d_bl)) ss_nil)
    (ss_cons (s_set (i := 2) sc_is_ideal.nd (PDE.x (d_bty (c_set rfl hr.u64) rfl F.f_set bt_set (a_cons (dv 1) a_nil))))
    (ss_one (s_ret (d_blt (c_all rfl) rfl F.f_all bt_all (a_cons (PDF.e (PDF.of (fb_lc2 rfl sc_is_ideal.nd (i_seq (dv 1)) (own := [("one", 3), ("each", 4)]) (vs1 := [4]) (blkOk_by (by kernel_rfl)) (by decide) (fun _ _ _ _ _ => ⟨_, (g_name sc_is_ideal.nd (i := 3)), gw_name (by decide)⟩) (gwd_name (by decide)) (fun _ _ _ _ _ => ⟨_, ts_nil⟩) (fun _ _ _ _ _ => ⟨_, (i_seq (dg_call (ok_less_one F) (hr.mono (by decide)) rfl (a_cons (dv 3) a_nil)))⟩) (fun _ _ _ _ _ => ⟨_, (g_name sc_is_ideal.nd (i := 4)), gw_name (by decide)⟩) (gwd_name (by decide)) (fun _ _ _ _ _ => ⟨_, ts_nil⟩) (fun _ _ _ _ _ => ⟨_, (d_cmp (do_inS hr.units) (dv 4) (dv 2) (by rfl))⟩)))) a_nil))))))))⟩) fun ds Pd _ h => h
theorem sc_is_sequence_claim : FnScope nm_is_sequence_claim ["claim"] (defScope st_is_sequence_claim) := ⟨rfl, rfl, rfl, by decide +kernel, rfl, by decide +kernel, by decide +kernel⟩
theorem bn_is_sequence_claim : Bnd "is_sequence_claim" st_is_sequence_claim ["claim"] := fun _ _ _ _ _ _ us hl => match us, hl with | [_], _ => rfl
theorem ok_is_sequence_claim (F : Fx K w mg) : DefG P w K mg base "is_sequence_claim" ["claim"] 3 (spP K 1 pre_is_sequence_claim) := defP F.a_is_sequence_claim sc_is_sequence_claim bn_is_sequence_claim pre_is_sequence_claim (d := d_is_sequence_claim) (fun f cdv A out s H E hr => ⟨_, (ss_cons (s_if (PDW.t (w_or (t_cmp (do_ne hr.u64) (d_blt c_len rfl F.f_len bt_len (a_cons (dv 0) a_nil)) d_int (by rfl)) (w_or (t_not (t_val (d_blt c_isi rfl F.f_isinstance bt_isinstance (a_cons (d_ix (dv 0) d_int) (a_cons (d_bltn rfl F.f_tuple bt_tuple) a_nil))))) (w_or1 (t_not (t_chain do_le do_le d_int (d_blt c_len rfl F.f_len bt_len (a_cons (d_ix (dv 0) d_int) a_nil)) (d_ci rfl F.i_MOST_LENGTH))))))) (ss_one (s_ret d_bl)) ss_nil)
    (ss_one (s_ret (d_blt (c_all rfl) rfl F.f_all bt_all (a_cons (PDF.e (PDF.of (fb_lc rfl sc_is_sequence_claim.nd (i_seq (d_ix (dv 0) d_int)) (own := [("each", 1)]) (blkOk_by (by kernel_rfl)) (fun _ _ _ _ _ => ⟨_, (g_name sc_is_sequence_claim.nd (i := 1)), gw_name (by decide)⟩) (gwd_name (by decide)) (fun _ _ _ _ _ => ⟨_, ts_nil⟩) (fun _ _ _ _ _ => ⟨_, (dg_call (ok_is_between F) (hr.mono (by decide)) rfl (a_cons (dv 1) (a_cons (d_neg (d_ci rfl F.i_MOST_NUMBER)) (a_cons (d_ci rfl F.i_MOST_NUMBER) a_nil))))⟩)))) a_nil)))))⟩) fun ds Pd _ h => h
theorem sc_shows_sequence : FnScope nm_shows_sequence ["claim", "paper"] (defScope st_shows_sequence) := ⟨rfl, rfl, rfl, by decide +kernel, rfl, by decide +kernel, by decide +kernel⟩
theorem bn_shows_sequence : Bnd "shows_sequence" st_shows_sequence ["claim", "paper"] := fun _ _ _ _ _ _ us hl => match us, hl with | [_, _], _ => rfl
theorem ok_shows_sequence (F : Fx K w mg) : DefG P w K mg base "shows_sequence" ["claim", "paper"] 5 (spP K 2 pre_shows_sequence) := defP F.a_shows_sequence sc_shows_sequence bn_shows_sequence pre_shows_sequence (d := d_shows_sequence) (fun f cdv A out s H E hr => ⟨_, (ss_cons (s_set (i := 2) sc_shows_sequence.nd (PDE.x (d_ix (dv 0) d_int)))
    (ss_cons (s_set (i := 3) sc_shows_sequence.nd (PDE.x (d_if (t_cmp do_gt (d_blt c_len rfl F.f_len bt_len (a_cons (dv 2) a_nil)) d_int (by rfl)) (d_ix (dv 2) d_int) d_int)))
    (ss_cons (s_if (PDW.t (w_or (t_not (t_chain do_le do_le d_int (dv 3) (d_ci rfl F.i_MOST_VARIABLES))) (w_or1 (t_not (t_val (dg_call (ok_is_ideal F) (hr.mono (by decide)) rfl (a_cons (dv 3) (a_cons (dv 1) a_nil)))))))) (ss_one (s_ret d_bl)) ss_nil)
    (ss_cons (s_set (i := 4) sc_shows_sequence.nd (PDE.x (PDF.e (PDF.of (fb_lc rfl sc_shows_sequence.nd (i_seq (dv 1)) (own := [("each", 5)]) (blkOk_by (by kernel_rfl)) (fun _ _ _ _ _ => ⟨_, (g_name sc_shows_sequence.nd (i := 5)), gw_name (by decide)⟩) (gwd_name (by decide)) (fun _ _ _ _ _ => ⟨_, ts_nil⟩) (fun _ _ _ _ _ => ⟨_, (d_blt c_len rfl F.f_len bt_len (a_cons (dv 5) a_nil))⟩))))))
    (ss_cons (s_if (t_cmp do_ge (d_blt (c_maxL rfl) rfl F.f_max bt_max (a_cons (dv 4) a_nil)) (d_blt c_len rfl F.f_len bt_len (a_cons (dv 2) a_nil)) (by rfl)) (ss_one (s_ret d_bl)) ss_nil)
    (ss_one (s_ret (d_blt (c_all rfl) rfl F.f_all bt_all (a_cons (PDF.e (PDF.of (fb_lc rfl sc_shows_sequence.nd (i_en rfl F.f_enumerate (dv 2)) (own := [("degree", 6), ("many", 7)]) (blkOk_by (by kernel_rfl)) (fun _ _ _ _ _ => ⟨_, (g_tup rfl (gs_cons (g_name sc_shows_sequence.nd (i := 6)) (gs_cons (g_name sc_shows_sequence.nd (i := 7)) gs_nil))), (gw_tup (gw_cons (gw_name (by decide)) (gw_cons (gw_name (by decide)) gw_nil)))⟩) ((gwd_tup (gwd_cons (gwd_name (by decide)) (gwd_cons (gwd_name (by decide)) gwd_nil)))) (fun _ _ _ _ _ => ⟨_, ts_nil⟩) (fun _ _ _ _ _ => ⟨_, (d_cmp (do_eq hr.u64) (d_cnt (dv 4) (dv 6)) (dv 7) (by rfl))⟩)))) a_nil)))))))))⟩) fun ds Pd _ h => h
theorem sc_shows_no_sequence : FnScope nm_shows_no_sequence ["claim", "paper"] (defScope st_shows_no_sequence) := ⟨rfl, rfl, rfl, by decide +kernel, rfl, by decide +kernel, by decide +kernel⟩
theorem bn_shows_no_sequence : Bnd "shows_no_sequence" st_shows_no_sequence ["claim", "paper"] := fun _ _ _ _ _ _ us hl => match us, hl with | [_, _], _ => rfl
theorem ok_shows_no_sequence (F : Fx K w mg) : DefG P w K mg base "shows_no_sequence" ["claim", "paper"] 4 (spP K 2 pre_shows_no_sequence) := defP F.a_shows_no_sequence sc_shows_no_sequence bn_shows_no_sequence pre_shows_no_sequence (d := d_shows_no_sequence) (fun f cdv A out s H E hr => ⟨_, (ss_cons (s_set (i := 2) sc_shows_no_sequence.nd (PDE.x (d_ix (dv 0) d_int)))
    (ss_cons (s_if (t_not (t_val (dg_call (ok_is_between F) (hr.mono (by decide)) rfl (a_cons (dv 1) (a_cons d_int (a_cons (d_op do_sub (d_blt c_len rfl F.f_len bt_len (a_cons (dv 2) a_nil)) d_int) a_nil)))))) (ss_one (s_ret d_bl)) ss_nil)
    (ss_cons (s_if (t_cmp (do_eq hr.u64) (dv 1) d_int (by rfl)) (ss_one (s_ret (d_cmp (do_ne hr.u64) (d_ix (dv 2) d_int) d_int (by rfl)))) ss_nil)
    (ss_cons (s_if (t_cmp do_lt (d_ix (dv 2) (dv 1)) d_int (by rfl)) (ss_one (s_ret d_bl)) ss_nil)
    (ss_cons (s_if (PDW.t (w_or (t_cmp do_lt (dv 1) d_int (by rfl)) (w_or1 (t_cmp do_lt (d_ix (dv 2) (d_op do_sub (dv 1) d_int)) d_int (by rfl))))) (ss_one (s_ret d_bl)) ss_nil)
    (ss_one (s_ret (d_cmp do_gt (d_ix (dv 2) (dv 1)) (dg_call (ok_most_next_by F) (hr.mono (by decide)) rfl (a_cons (d_ix (dv 2) (d_op do_sub (dv 1) d_int)) (a_cons (d_op do_sub (dv 1) d_int) a_nil))) (by rfl)))))))))⟩) fun ds Pd _ h => h
theorem sc_accepts_of : FnScope nm_accepts_of ["claim", "paper"] (defScope st_accepts_of) := ⟨rfl, rfl, rfl, by decide +kernel, rfl, by decide +kernel, by decide +kernel⟩
theorem bn_accepts_of : Bnd "accepts_of" st_accepts_of ["claim", "paper"] := fun _ _ _ _ _ _ us hl => match us, hl with | [_, _], _ => rfl
theorem ok_accepts_of (F : Fx K w mg) : DefG P w K mg base "accepts_of" ["claim", "paper"] 4 (spP K 2 pre_accepts_of) := defP F.a_accepts_of sc_accepts_of bn_accepts_of pre_accepts_of (d := d_accepts_of) (fun f cdv A out s H E hr => ⟨_, (ss_cons (s_set (i := 2) sc_accepts_of.nd (PDE.x (d_if (t_val (dg_call (ok_is_form_of F) (hr.mono (by decide)) rfl (a_cons (d_ix (dv 0) d_int) a_nil))) d_nv (PDF.e (f_lst a_nil)))))
    (ss_cons (s_if (t_cmp (do_eq hr.u64) (dv 2) (PDF.e (f_lst a_nil)) (by rfl)) (ss_one (s_ret d_bl)) ss_nil)
    ss_nv))⟩) fun ds Pd _ h => h
theorem tb_right (F : Fx K w mg) : Tabd P w K mg base 3 ft_right := (tabd_cons F.g_is_sequence_claim (ok_is_sequence_claim F) (by decide) tabd_nil)
theorem tb_shows (F : Fx K w mg) : Tabd P w K mg base 5 ft_shows := (tabd_cons F.g_shows_sequence (ok_shows_sequence F) (by decide) (tabd_cons F.g_shows_no_sequence (ok_shows_no_sequence F) (by decide) tabd_nil))
theorem sc_accepts : FnScope nm_accepts ["claim", "paper"] (defScope st_accepts) := ⟨rfl, rfl, rfl, by decide +kernel, rfl, by decide +kernel, by decide +kernel⟩
theorem bn_accepts : Bnd "accepts" st_accepts ["claim", "paper"] := fun _ _ _ _ _ _ us hl => match us, hl with | [_, _], _ => rfl
theorem ok_accepts (F : Fx K w mg) : DefG P w K mg base "accepts" ["claim", "paper"] 6 (spP K 2 pre_accepts) := defP F.a_accepts sc_accepts bn_accepts pre_accepts (d := d_accepts) (fun f cdv A out s H E hr => ⟨_, (ss_cons (s_if (PDW.t (w_or (t_not (t_val (d_blt c_isi rfl F.f_isinstance bt_isinstance (a_cons (dv 0) (a_cons (d_bltn rfl F.f_tuple bt_tuple) a_nil))))) (w_or (t_cmp do_lt (d_blt c_len rfl F.f_len bt_len (a_cons (dv 0) a_nil)) d_int (by rfl)) (w_or1 (t_not (t_val (d_blt c_isi rfl F.f_isinstance bt_isinstance (a_cons (d_ix (dv 0) d_int) (a_cons (d_bltn rfl F.f_str bt_str) a_nil))))))))) (ss_one (s_ret d_bl)) ss_nil)
    (ss_cons (s_if (t_cmp (do_inT F.b_NUMBERS) (d_ix (dv 0) d_int) (d_tbl F.b_NUMBERS rfl) (by rfl)) (ss_cons (s_asg (d_ixT F.b_NUMBERS (d_tbl F.b_NUMBERS rfl) (d_ix (dv 0) d_int)) (g_tup rfl (gs_cons (g_name sc_accepts.nd (i := 2)) (gs_cons (g_name sc_accepts.nd (i := 3)) gs_nil))))
    (ss_one (s_ret (d_and (dg_callV (i := 2) (tb_right F) (hr.mono (by decide)) (a_cons (dv 0) a_nil)) (d_one (dg_callV (i := 3) (tb_shows F) (hr.mono (by decide)) (a_cons (dv 0) (a_cons (dv 1) a_nil)))))))) ss_nil)
    (ss_cons (s_if (PDW.t (w_or (t_cmp (do_inT F.b_POLYTOPES) (d_ix (dv 0) d_int) (d_tbl F.b_POLYTOPES rfl) (by rfl)) (w_or1 (t_cmp (do_eq hr.u64) (d_ix (dv 0) d_int) (d_cs rfl F.s_SUMS) (by rfl))))) (ss_one (s_ret (dg_call (ok_accepts_of F) (hr.mono (by decide)) rfl (a_cons (dv 0) (a_cons (dv 1) a_nil))))) ss_nil)
    (ss_one (s_ret d_bl)))))⟩) fun ds Pd _ h => h
theorem sc__law_urn : FnScope nm__law_urn ["script", "turn"] (defScope st__law_urn) := ⟨rfl, rfl, rfl, by decide +kernel, rfl, by decide +kernel, by decide +kernel⟩
theorem bn__law_urn : Bnd "_law_urn" st__law_urn ["script", "turn"] := fun _ _ _ _ _ _ us hl => match us, hl with | [_, _], _ => rfl
theorem ok__law_urn (F : Fx K w mg) : DefG P w K mg base "_law_urn" ["script", "turn"] 1 (spF K 2 pre__law_urn) := defF F.a__law_urn sc__law_urn bn__law_urn pre__law_urn (d := d__law_urn) (fun f cdv A out s H E hr => ⟨_, (ss_cons (s_set (i := 2) sc__law_urn.nd (PDE.x (d_op do_add d_int (d_op do_mul d_int (dv 1)))))
    (ss_cons (s_for PassesOwn.never rfl (i_seq (d_slS 0)) (g_name sc__law_urn.nd (i := 3)) (ss_one (s_set (i := 2) sc__law_urn.nd (PDE.x (d_op do_mod (d_bty c_int rfl F.f_int bt_int (a_cons (d_op do_add (d_op do_add (d_op do_mul (dv 2) d_int) (d_op do_mul (d_op do_mod (d_bty c_int rfl F.f_int bt_int (a_cons (dv 3) a_nil)) d_int) d_int)) d_int) a_nil)) d_int)))))
    (ss_cons (s_set (i := 4) sc__law_urn.nd (PDE.x (d_if (t_cmp do_lt (dv 1) (d_lenS 0 rfl F.f_len bt_len) (by rfl)) (d_bty c_int rfl F.f_int bt_int (a_cons (d_ixS 0 (dv 1)) a_nil)) d_int)))
    (ss_cons (s_set (i := 2) sc__law_urn.nd (PDE.x (d_op do_mod (d_bty c_int rfl F.f_int bt_int (a_cons (d_op do_add (d_op do_add (d_op do_mul (dv 2) d_int) (d_op do_mul (d_op do_mod (d_bty c_int rfl F.f_int bt_int (a_cons (dv 4) a_nil)) d_int) d_int)) d_int) a_nil)) d_int)))
    (ss_one (s_retF (f_lst (a_cons (d_if (PDW.t (w_or (t_cmp do_lt (dv 4) d_int (by rfl)) (w_or1 (t_cmp do_ge (dv 4) (d_op do_pow d_int d_int) (by rfl))))) (d_blt c_abs rfl F.f_abs bt_abs (a_cons (dv 4) a_nil)) d_int) (a_cons (dv 2) (a_cons d_int a_nil))))))))))⟩) fun ds Pd _ h => h
theorem sc__law_pull : FnScope nm__law_pull ["urn", "many"] (defScope st__law_pull) := ⟨rfl, rfl, rfl, by decide +kernel, rfl, by decide +kernel, by decide +kernel⟩
theorem bn__law_pull : Bnd "_law_pull" st__law_pull ["urn", "many"] := fun _ _ _ _ _ _ us hl => match us, hl with | [_, _], _ => rfl
theorem ok__law_pull (F : Fx K w mg) : DefG P w K mg base "_law_pull" ["urn", "many"] 1 (spU K 1 pre__law_pull) := defU F.a__law_pull sc__law_pull bn__law_pull rfl pre__law_pull (d := d__law_pull) (fun f cdv A out s H E hr => ⟨_, (ss_cons (s_if (t_cmp do_gt (d_uIx 0 (by decide)) d_int (by rfl)) (ss_cons (s_uDiv 0 3 rfl (by decide) sc__law_pull.nd (d_blt c_divmod rfl F.f_divmod bt_divmod (a_cons (d_uIx 0 (by decide)) (a_cons (dv 1) a_nil))))
    (ss_one (s_ret (dv 3)))) ss_nil)
    (ss_cons (s_uSet 0 (by decide) (d_op do_add (d_uIx 0 (by decide)) d_int))
    (ss_cons (s_set (i := 2) sc__law_pull.nd (PDE.x (d_op do_mod (d_bty c_int rfl F.f_int bt_int (a_cons (d_op do_add (d_op do_mul (d_uIx 0 (by decide)) d_int) (d_op do_mul d_int (d_uIx 0 (by decide)))) a_nil)) d_int)))
    (ss_cons (s_uSet 0 (by decide) (d_op do_mod (d_bty c_int rfl F.f_int bt_int (a_cons (d_op do_add (d_op do_mul (dv 2) (d_op do_add (d_op do_mod (d_bty c_int rfl F.f_int bt_int (a_cons (dv 2) a_nil)) d_int) d_int)) (d_op do_mul d_int (d_uIx 0 (by decide)))) a_nil)) d_int))
    (ss_one (s_ret (d_op do_mod (d_bty c_int rfl F.f_int bt_int (a_cons (d_op do_div (d_uIx 0 (by decide)) d_int) a_nil)) (dv 1))))))))⟩) fun ds Pd _ h => h
theorem sc__law_one : FnScope nm__law_one ["urn", "some"] (defScope st__law_one) := ⟨rfl, rfl, rfl, by decide +kernel, rfl, by decide +kernel, by decide +kernel⟩
theorem bn__law_one : Bnd "_law_one" st__law_one ["urn", "some"] := fun _ _ _ _ _ _ us hl => match us, hl with | [_, _], _ => rfl
theorem ok__law_one (F : Fx K w mg) : DefG P w K mg base "_law_one" ["urn", "some"] 2 (spU K 1 pre__law_one) := defU F.a__law_one sc__law_one bn__law_one rfl pre__law_one (d := d__law_one) (fun f cdv A out s H E hr => ⟨_, (ss_one (s_ret (d_ix (dv 1) (dg_callU (ok__law_pull F) (hr.mono (by decide)) rfl (u_cons 0 (a_cons (d_blt c_len rfl F.f_len bt_len (a_cons (dv 1) a_nil)) a_nil))))))⟩) fun ds Pd _ h => h
theorem sc__law_is : FnScope nm__law_is ["told", "due"] (defScope st__law_is) := ⟨rfl, rfl, rfl, by decide +kernel, rfl, by decide +kernel, by decide +kernel⟩
theorem bn__law_is : Bnd "_law_is" st__law_is ["told", "due"] := fun _ _ _ _ _ _ us hl => match us, hl with | [_, _], _ => rfl
theorem ok__law_is (F : Fx K w mg) : DefG P w K mg base "_law_is" ["told", "due"] 1 (spP K 2 pre__law_is) := defP F.a__law_is sc__law_is bn__law_is pre__law_is (d := d__law_is) (fun f cdv A out s H E hr => ⟨_, (ss_one (s_ret (d_cmp (do_eq hr.u64) (d_blt (c_repr hr.gd hr.u64) rfl F.f_repr bt_repr (a_cons (dv 0) a_nil)) (d_blt (c_repr hr.gd hr.u64) rfl F.f_repr bt_repr (a_cons (dv 1) a_nil)) (by rfl))))⟩) fun ds Pd _ h => h
theorem sc__law_shuffled : FnScope nm__law_shuffled ["urn", "things"] (defScope st__law_shuffled) := ⟨rfl, rfl, rfl, by decide +kernel, rfl, by decide +kernel, by decide +kernel⟩
theorem bn__law_shuffled : Bnd "_law_shuffled" st__law_shuffled ["urn", "things"] := fun _ _ _ _ _ _ us hl => match us, hl with | [_, _], _ => rfl
theorem ok__law_shuffled (F : Fx K w mg) : DefG P w K mg base "_law_shuffled" ["urn", "things"] 2 (spU K 1 pre__law_shuffled) := defU F.a__law_shuffled sc__law_shuffled bn__law_shuffled rfl pre__law_shuffled (d := d__law_shuffled) (fun f cdv A out s H E hr => ⟨_, (ss_cons (s_par (i := 2) (j := 3) rfl sc__law_shuffled.nd (PDF.x (f_list rfl F.f_list bt_list (a_cons (dv 1) a_nil))) (PDF.x (f_lst a_nil)))
    (ss_cons (s_while PassesOwn.never (t_lend (t_cmp (do_ne hr.u64) (dv 2) (PDF.e (f_lst a_nil)) (by rfl))) (ss_one (s_appPop 3 2 (dg_callU (ok__law_pull F) (hr.mono (by decide)) rfl (u_cons 0 (a_cons (d_lenO 2 rfl F.f_len bt_len) a_nil))))))
    (ss_one (s_retO 3))))⟩) fun ds Pd _ h => h
theorem sc__law_choose : FnScope nm__law_choose ["few", "many"] (defScope st__law_choose) := ⟨rfl, rfl, rfl, by decide +kernel, rfl, by decide +kernel, by decide +kernel⟩
theorem bn__law_choose : Bnd "_law_choose" st__law_choose ["few", "many"] := fun _ _ _ _ _ _ us hl => match us, hl with | [_, _], _ => rfl
theorem ok__law_choose (F : Fx K w mg) : DefG P w K mg base "_law_choose" ["few", "many"] 1 (spP K 2 pre__law_choose) := defP F.a__law_choose sc__law_choose bn__law_choose pre__law_choose (d := d__law_choose) (fun f cdv A out s H E hr => ⟨_, (ss_cons (s_if (PDW.t (w_or (t_cmp do_lt (dv 1) d_int (by rfl)) (w_or1 (t_cmp do_gt (dv 1) (dv 0) (by rfl))))) (ss_one (s_ret d_int)) ss_nil)
    (ss_cons (s_set (i := 2) sc__law_choose.nd (PDE.x d_int))
    (ss_cons (s_for PassesOwn.never rfl (i_rg1 rfl F.f_range (dv 1)) (g_name sc__law_choose.nd (i := 3)) (ss_one (s_set (i := 2) sc__law_choose.nd (PDE.x (d_op do_div (d_op do_mul (dv 2) (d_op do_sub (dv 0) (dv 3))) (d_op do_add (dv 3) d_int))))))
    (ss_one (s_ret (dv 2))))))⟩) fun ds Pd _ h => h
theorem sc__law_monomials : FnScope nm__law_monomials ["variables", "degree"] (defScope st__law_monomials) := ⟨rfl, rfl, rfl, by decide +kernel, rfl, by decide +kernel, by decide +kernel⟩
theorem bn__law_monomials : Bnd "_law_monomials" st__law_monomials ["variables", "degree"] := fun _ _ _ _ _ _ us hl => match us, hl with | [_, _], _ => rfl
theorem ok__law_monomials (F : Fx K w mg) : DefG P w K mg base "_law_monomials" ["variables", "degree"] 1 (spP K 2 pre__law_monomials) := defP F.a__law_monomials sc__law_monomials bn__law_monomials pre__law_monomials (d := d__law_monomials) (fun f cdv A out s H E hr => ⟨_, (ss_cons (s_set (i := 2) sc__law_monomials.nd (PDE.x (PDF.e (f_lst (a_cons (d_tup a_nil) a_nil)))))
    (ss_cons (s_for PassesOwn.never rfl (i_rg1 rfl F.f_range (dv 1)) (g_name sc__law_monomials.nd (i := 3)) (ss_cons (s_set (i := 4) sc__law_monomials.nd (PDE.x (PDF.e (f_lst a_nil))))
    (ss_cons (s_for PassesOwn.never rfl (i_seq (dv 2)) (g_name sc__law_monomials.nd (i := 5)) (ss_one (s_set (i := 4) sc__law_monomials.nd (PDE.x (PDF.e (f_cat (dv 4) (PDF.e (PDF.of (fb_lc rfl sc__law_monomials.nd (i_rg2 rfl F.f_range (d_if (t_cmp (do_ne hr.u64) (dv 5) (d_tup a_nil) (by rfl)) (d_ix (dv 5) (d_neg d_int)) d_int) (d_op do_add (dv 0) d_int)) (own := [("v", 6)]) (blkOk_by (by kernel_rfl)) (fun _ _ _ _ _ => ⟨_, (g_name sc__law_monomials.nd (i := 6)), gw_name (by decide)⟩) (gwd_name (by decide)) (fun _ _ _ _ _ => ⟨_, ts_nil⟩) (fun _ _ _ _ _ => ⟨_, (d_op do_add (dv 5) (d_tup (a_cons (dv 6) a_nil)))⟩))))))))))
    (ss_one (s_set (i := 2) sc__law_monomials.nd (PDE.x (dv 4)))))))
    (ss_one (s_ret (PDF.e (PDF.of (fb_lc rfl sc__law_monomials.nd (i_seq (PDF.e (f_srtA hr.units rfl F.f_sorted bt_sorted (a_cons (PDF.e (PDF.of (fb_lc rfl sc__law_monomials.nd (i_seq (dv 2)) (own := [("one", 7)]) (blkOk_by (by kernel_rfl)) (fun _ _ _ _ _ => ⟨_, (g_name sc__law_monomials.nd (i := 7)), gw_name (by decide)⟩) (gwd_name (by decide)) (fun _ _ _ _ _ => ⟨_, ts_nil⟩) (fun _ _ _ _ _ => ⟨_, (d_back (dv 7))⟩)))) a_nil)))) (own := [("each", 5)]) (blkOk_by (by kernel_rfl)) (fun _ _ _ _ _ => ⟨_, (g_name sc__law_monomials.nd (i := 5)), gw_name (by decide)⟩) (gwd_name (by decide)) (fun _ _ _ _ _ => ⟨_, ts_nil⟩) (fun _ _ _ _ _ => ⟨_, (d_back (dv 5))⟩))))))))⟩) fun ds Pd _ h => h
theorem sc__law_is_whole : FnScope nm__law_is_whole ["thing", "low", "high"] (defScope st__law_is_whole) := ⟨rfl, rfl, rfl, by decide +kernel, rfl, by decide +kernel, by decide +kernel⟩
theorem bn__law_is_whole : Bnd "_law_is_whole" st__law_is_whole ["thing", "low", "high"] := fun _ _ _ _ _ _ us hl => match us, hl with | [_, _, _], _ => rfl
theorem ok__law_is_whole (F : Fx K w mg) : DefG P w K mg base "_law_is_whole" ["thing", "low", "high"] 1 (spP K 3 pre__law_is_whole) := defP F.a__law_is_whole sc__law_is_whole bn__law_is_whole pre__law_is_whole (d := d__law_is_whole) (fun f cdv A out s H E hr => ⟨_, (ss_one (s_ret (d_and (d_blt c_isi rfl F.f_isinstance bt_isinstance (a_cons (dv 0) (a_cons (d_bltn rfl F.f_int bt_int) a_nil))) (d_and (d_not (d_blt c_isi rfl F.f_isinstance bt_isinstance (a_cons (dv 0) (a_cons (d_bltn rfl F.f_bool bt_bool) a_nil)))) (d_one (d_chain do_le do_le (dv 1) (dv 0) (dv 2)))))))⟩) fun ds Pd _ h => h
theorem sc__law_is_monomial : FnScope nm__law_is_monomial ["variables", "thing", "most"] (defScope st__law_is_monomial) := ⟨rfl, rfl, rfl, by decide +kernel, rfl, by decide +kernel, by decide +kernel⟩
theorem bn__law_is_monomial : Bnd "_law_is_monomial" st__law_is_monomial ["variables", "thing", "most"] := fun _ _ _ _ _ _ us hl => match us, hl with | [_, _, _], _ => rfl
theorem ok__law_is_monomial (F : Fx K w mg) : DefG P w K mg base "_law_is_monomial" ["variables", "thing", "most"] 2 (spP K 3 pre__law_is_monomial) := defP F.a__law_is_monomial sc__law_is_monomial bn__law_is_monomial pre__law_is_monomial (d := d__law_is_monomial) (fun f cdv A out s H E hr => ⟨_, (ss_cons (s_if (PDW.t (w_or (t_not (t_val (d_blt c_isi rfl F.f_isinstance bt_isinstance (a_cons (dv 1) (a_cons (d_bltn rfl F.f_tuple bt_tuple) a_nil))))) (w_or1 (t_cmp do_gt (d_blt c_len rfl F.f_len bt_len (a_cons (dv 1) a_nil)) (dv 2) (by rfl))))) (ss_one (s_ret d_bl)) ss_nil)
    (ss_one (s_ret (d_and (d_blt (c_all rfl) rfl F.f_all bt_all (a_cons (PDF.e (PDF.of (fb_lc rfl sc__law_is_monomial.nd (i_seq (dv 1)) (own := [("each", 3)]) (blkOk_by (by kernel_rfl)) (fun _ _ _ _ _ => ⟨_, (g_name sc__law_is_monomial.nd (i := 3)), gw_name (by decide)⟩) (gwd_name (by decide)) (fun _ _ _ _ _ => ⟨_, ts_nil⟩) (fun _ _ _ _ _ => ⟨_, (dg_call (ok__law_is_whole F) (hr.mono (by decide)) rfl (a_cons (dv 3) (a_cons d_int (a_cons (dv 0) a_nil))))⟩)))) a_nil)) (d_one (d_cmp (do_eq hr.u64) (PDF.e (f_srtA hr.units rfl F.f_sorted bt_sorted (a_cons (dv 1) a_nil))) (PDF.e (f_list rfl F.f_list bt_list (a_cons (dv 1) a_nil))) (by rfl)))))))⟩) fun ds Pd _ h => h
theorem sc__law_odd : FnScope nm__law_odd ["urn"] (defScope st__law_odd) := ⟨rfl, rfl, rfl, by decide +kernel, rfl, by decide +kernel, by decide +kernel⟩
theorem bn__law_odd : Bnd "_law_odd" st__law_odd ["urn"] := fun _ _ _ _ _ _ us hl => match us, hl with | [_], _ => rfl
theorem ok__law_odd (F : Fx K w mg) : DefG P w K mg base "_law_odd" ["urn"] 3 (spU K 0 pre__law_odd) := defU F.a__law_odd sc__law_odd bn__law_odd rfl pre__law_odd (d := d__law_odd) (fun f cdv A out s H E hr => ⟨_, (ss_cons (s_set (i := 1) sc__law_odd.nd (PDE.x (d_tup (a_cons d_non (a_cons d_bl (a_cons d_bl (a_cons d_int (a_cons d_int (a_cons d_int (a_cons (d_neg d_int) (a_cons d_int (a_cons d_str (a_cons d_str (a_cons d_str (a_cons (d_tup a_nil) (a_cons (d_tup (a_cons d_int a_nil)) (a_cons (d_tup (a_cons d_int a_nil)) (a_cons (d_tup (a_cons d_int (a_cons d_int a_nil))) (a_cons (d_tup (a_cons d_int (a_cons d_int a_nil))) (a_cons (d_tup (a_cons d_int (a_cons d_int a_nil))) (a_cons (d_tup (a_cons d_int (a_cons d_int a_nil))) (a_cons (d_tup (a_cons d_int (a_cons d_int a_nil))) a_nil))))))))))))))))))))))
    (ss_cons (s_set (i := 2) sc__law_odd.nd (PDE.x (d_tup (a_cons (d_tup (a_cons d_bl (a_cons d_int a_nil))) (a_cons (d_tup (a_cons (d_tup (a_cons d_int (a_cons d_int a_nil))) a_nil)) (a_cons (d_tup (a_cons (d_tup (a_cons d_int (a_cons d_int a_nil))) (a_cons (d_tup (a_cons d_int (a_cons d_int a_nil))) a_nil))) (a_cons (d_tup (a_cons (d_tup a_nil) a_nil)) (a_cons (d_tup (a_cons d_non a_nil)) (a_cons (PDF.e (f_lst a_nil)) (a_cons (PDF.e (f_lst (a_cons d_int a_nil))) (a_cons d_dct0 (a_cons d_dct1 (a_cons (d_tup (a_cons d_int (a_cons d_int (a_cons d_int a_nil)))) (a_cons (d_tup (a_cons (d_tup (a_cons d_int a_nil)) (a_cons (d_tup (a_cons d_int (a_cons d_int a_nil))) a_nil))) a_nil))))))))))))))
    (ss_one (s_ret (dg_callU (ok__law_one F) (hr.mono (by decide)) rfl (u_cons 0 (a_cons (d_op do_add (d_op do_add (dv 1) (dv 2)) (d_tup (a_cons (d_tup (a_cons d_str (a_cons d_int a_nil))) (a_cons (d_tup (a_cons d_str (a_cons d_int a_nil))) (a_cons (d_tup (a_cons d_str (a_cons d_int a_nil))) (a_cons (d_tup (a_cons d_int (a_cons d_int (a_cons d_int a_nil)))) (a_cons (d_op do_pow d_int d_int) (a_cons (d_tup (a_cons d_int (a_cons (d_tup a_nil) a_nil))) a_nil)))))))) a_nil)))))))⟩) fun ds Pd _ h => h
theorem sc__law_bent : FnScope nm__law_bent ["urn", "thing", "left"] (defScope st__law_bent) := ⟨rfl, rfl, rfl, by decide +kernel, rfl, by decide +kernel, by decide +kernel⟩
theorem bn__law_bent : Bnd "_law_bent" st__law_bent ["urn", "thing", "left"] := fun _ _ _ _ _ _ us hl => match us, hl with | [_, _, _], _ => rfl
theorem okr__law_bent (F : Fx K w mg) : ∀ n : Nat, DefG P w K mg base "_law_bent" ["urn", "thing", "left"] (4 + n) (spU K 2 (pre__law_bent n))
  | 0 => defU F.a__law_bent sc__law_bent bn__law_bent rfl (pre__law_bent 0) (d := fun _ _ => False) (fun f cdv A out s H E hr => ⟨_, ss_nv⟩) fun ds Pd _ h => h
  | n + 1 => by
    have ih := okr__law_bent F n
    exact defU F.a__law_bent sc__law_bent bn__law_bent rfl (pre__law_bent (n + 1)) (d := d__law_bent (pre__law_bent n)) (fun f cdv A out s H E hr => ⟨_, (ss_cons (s_if (PDW.t (w_and (t_val (d_blt c_isi rfl F.f_isinstance bt_isinstance (a_cons (dv 1) (a_cons (d_bltn rfl F.f_tuple bt_tuple) a_nil)))) (w_and (t_cmp do_gt (d_blt c_len rfl F.f_len bt_len (a_cons (dv 1) a_nil)) d_int (by rfl)) (w_and (t_cmp do_gt (dv 2) d_int (by rfl)) (w_and1 (t_cmp do_gt (dg_callU (ok__law_pull F) (hr.mono (Nat.le_trans (by decide) (Nat.le_add_right 4 n))) rfl (u_cons 0 (a_cons d_int a_nil))) d_int (by rfl))))))) (ss_cons (s_set (i := 4) sc__law_bent.nd (PDE.x (dg_callU (ok__law_pull F) (hr.mono (Nat.le_trans (by decide) (Nat.le_add_right 4 n))) rfl (u_cons 0 (a_cons (d_blt c_len rfl F.f_len bt_len (a_cons (dv 1) a_nil)) a_nil)))))
    (ss_one (s_ret (d_op do_add (d_op do_add (d_sl (dv 1) p_none (p_some (dv 4))) (d_tup (a_cons (dg_callU ih (hr.mono (Nat.le_refl _)) rfl (u_cons 0 (a_cons (d_ix (dv 1) (dv 4)) (a_cons (d_op do_sub (dv 2) d_int) a_nil)))) a_nil))) (d_sl (dv 1) (p_some (d_op do_add (dv 4) d_int)) p_none))))) ss_nil)
    (ss_cons (s_set (i := 3) sc__law_bent.nd (PDE.x (dg_callU (ok__law_pull F) (hr.mono (Nat.le_trans (by decide) (Nat.le_add_right 4 n))) rfl (u_cons 0 (a_cons d_int a_nil)))))
    (ss_cons (s_if (PDW.t (w_and (t_val (d_blt c_isi rfl F.f_isinstance bt_isinstance (a_cons (dv 1) (a_cons (d_bltn rfl F.f_tuple bt_tuple) a_nil)))) (w_and1 (t_cmp do_lt (dv 3) d_int (by rfl))))) (ss_one (s_ret (d_ix (d_tup (a_cons (PDF.e (f_list rfl F.f_list bt_list (a_cons (dv 1) a_nil))) (a_cons (d_sl (dv 1) p_none (p_some (d_neg d_int))) (a_cons (d_sl (dv 1) (p_some d_int) p_none) (a_cons (d_op do_add (dv 1) (d_sl (dv 1) (p_some (d_neg d_int)) p_none)) (a_cons (d_back (dv 1)) (a_cons (d_op do_add (dv 1) (d_tup (a_cons d_int a_nil))) (a_cons (d_tup (a_cons (dv 1) a_nil)) a_nil)))))))) (dv 3)))) ss_nil)
    (ss_cons (s_if (PDW.t (w_and (t_val (d_blt c_isi rfl F.f_isinstance bt_isinstance (a_cons (dv 1) (a_cons (d_bltn rfl F.f_int bt_int) a_nil)))) (w_and (t_not (t_val (d_blt c_isi rfl F.f_isinstance bt_isinstance (a_cons (dv 1) (a_cons (d_bltn rfl F.f_bool bt_bool) a_nil))))) (w_and1 (t_cmp do_lt (dv 3) d_int (by rfl)))))) (ss_one (s_ret (d_ix (d_tup (a_cons (d_op do_add (dv 1) d_int) (a_cons (d_op do_sub (dv 1) d_int) (a_cons (d_op do_sub d_int (dv 1)) (a_cons (d_op do_mul (dv 1) d_int) (a_cons (d_cmp do_gt (dv 1) d_int (by rfl)) (a_cons (d_bty c_strI rfl F.f_str bt_str (a_cons (dv 1) a_nil)) (a_cons (d_op do_add (dv 1) d_int) a_nil)))))))) (dv 3)))) ss_nil)
    (ss_one (s_ret (dg_callU (ok__law_odd F) (hr.mono (Nat.le_trans (by decide) (Nat.le_add_right 4 n))) rfl (u_cons 0 a_nil))))))))⟩) fun ds Pd _ h => h
theorem ok__law_bent (F : Fx K w mg) : DefG P w K mg base "_law_bent" ["urn", "thing", "left"] 14 (spU K 2 (pre__law_bent 10)) := okr__law_bent F 10
theorem sc__law_is_sequence : FnScope nm__law_is_sequence ["thing"] (defScope st__law_is_sequence) := ⟨rfl, rfl, rfl, by decide +kernel, rfl, by decide +kernel, by decide +kernel⟩
theorem bn__law_is_sequence : Bnd "_law_is_sequence" st__law_is_sequence ["thing"] := fun _ _ _ _ _ _ us hl => match us, hl with | [_], _ => rfl
theorem ok__law_is_sequence (F : Fx K w mg) : DefG P w K mg base "_law_is_sequence" ["thing"] 2 (spP K 1 pre__law_is_sequence) := defP F.a__law_is_sequence sc__law_is_sequence bn__law_is_sequence pre__law_is_sequence (d := d__law_is_sequence) (fun f cdv A out s H E hr => ⟨_, (ss_cons (s_if (PDW.t (w_or (t_not (t_val (d_blt c_isi rfl F.f_isinstance bt_isinstance (a_cons (dv 0) (a_cons (d_bltn rfl F.f_tuple bt_tuple) a_nil))))) (w_or1 (t_not (t_chain do_le do_le d_int (d_blt c_len rfl F.f_len bt_len (a_cons (dv 0) a_nil)) d_int))))) (ss_one (s_ret d_bl)) ss_nil)
    (ss_one (s_ret (d_blt (c_all rfl) rfl F.f_all bt_all (a_cons (PDF.e (PDF.of (fb_lc rfl sc__law_is_sequence.nd (i_seq (dv 0)) (own := [("each", 1)]) (blkOk_by (by kernel_rfl)) (fun _ _ _ _ _ => ⟨_, (g_name sc__law_is_sequence.nd (i := 1)), gw_name (by decide)⟩) (gwd_name (by decide)) (fun _ _ _ _ _ => ⟨_, ts_nil⟩) (fun _ _ _ _ _ => ⟨_, (dg_call (ok__law_is_whole F) (hr.mono (by decide)) rfl (a_cons (dv 1) (a_cons (d_op do_sub d_int (d_op do_pow d_int d_int)) (a_cons (d_op do_pow d_int d_int) a_nil))))⟩)))) a_nil)))))⟩) fun ds Pd _ h => h
theorem sc__law_most_next : FnScope nm__law_most_next ["number", "degree"] (defScope st__law_most_next) := ⟨rfl, rfl, rfl, by decide +kernel, rfl, by decide +kernel, by decide +kernel⟩
theorem bn__law_most_next : Bnd "_law_most_next" st__law_most_next ["number", "degree"] := fun _ _ _ _ _ _ us hl => match us, hl with | [_, _], _ => rfl
theorem ok__law_most_next (F : Fx K w mg) : DefG P w K mg base "_law_most_next" ["number", "degree"] 2 (spP K 2 pre__law_most_next) := defP F.a__law_most_next sc__law_most_next bn__law_most_next pre__law_most_next (d := d__law_most_next) (fun f cdv A out s H E hr => ⟨_, (ss_cons (s_par (i := 3) (j := 4) rfl sc__law_most_next.nd (PDE.x d_int) (PDE.x (dv 0)))
    (ss_cons (s_for PassesOwn.never rfl (i_rgD rfl F.f_range (dv 1) d_int) (g_name sc__law_most_next.nd (i := 2)) (ss_cons (s_if (t_cmp do_lt (dv 4) d_int (by rfl)) (ss_one s_break) ss_nil)
    (ss_cons (s_set (i := 5) sc__law_most_next.nd (PDE.x (d_if (t_cmp (do_eq hr.u64) (dv 2) d_int (by rfl)) (dv 4) (dv 2))))
    (ss_cons (s_while PassesOwn.never (t_cmp do_le (dg_call (ok__law_choose F) (hr.mono (by decide)) rfl (a_cons (d_op do_add (dv 5) d_int) (a_cons (dv 2) a_nil))) (dv 4) (by rfl)) (ss_one (s_set (i := 5) sc__law_most_next.nd (PDE.x (d_op do_add (dv 5) d_int)))))
    (ss_cons (s_set (i := 4) sc__law_most_next.nd (PDE.x (d_op do_sub (dv 4) (dg_call (ok__law_choose F) (hr.mono (by decide)) rfl (a_cons (dv 5) (a_cons (dv 2) a_nil))))))
    (ss_one (s_set (i := 3) sc__law_most_next.nd (PDE.x (d_op do_add (dv 3) (dg_call (ok__law_choose F) (hr.mono (by decide)) rfl (a_cons (d_op do_add (dv 5) d_int) (a_cons (d_op do_add (dv 2) d_int) a_nil))))))))))))
    (ss_one (s_ret (dv 3)))))⟩) fun ds Pd _ h => h
theorem sc__law_fails_at : FnScope nm__law_fails_at ["growth", "k"] (defScope st__law_fails_at) := ⟨rfl, rfl, rfl, by decide +kernel, rfl, by decide +kernel, by decide +kernel⟩
theorem bn__law_fails_at : Bnd "_law_fails_at" st__law_fails_at ["growth", "k"] := fun _ _ _ _ _ _ us hl => match us, hl with | [_, _], _ => rfl
theorem ok__law_fails_at (F : Fx K w mg) : DefG P w K mg base "_law_fails_at" ["growth", "k"] 3 (spP K 2 pre__law_fails_at) := defP F.a__law_fails_at sc__law_fails_at bn__law_fails_at pre__law_fails_at (d := d__law_fails_at) (fun f cdv A out s H E hr => ⟨_, (ss_cons (s_if (t_cmp (do_eq hr.u64) (dv 1) d_int (by rfl)) (ss_one (s_ret (d_cmp (do_ne hr.u64) (d_ix (dv 0) d_int) d_int (by rfl)))) ss_nil)
    (ss_cons (s_if (t_cmp do_lt (d_ix (dv 0) (dv 1)) d_int (by rfl)) (ss_one (s_ret d_bl)) ss_nil)
    (ss_one (s_ret (d_and (d_cmp do_gt (dv 1) d_int (by rfl)) (d_and (d_cmp do_ge (d_ix (dv 0) (d_op do_sub (dv 1) d_int)) d_int (by rfl)) (d_one (d_cmp do_gt (d_ix (dv 0) (dv 1)) (dg_call (ok__law_most_next F) (hr.mono (by decide)) rfl (a_cons (d_ix (dv 0) (d_op do_sub (dv 1) d_int)) (a_cons (d_op do_sub (dv 1) d_int) a_nil))) (by rfl)))))))))⟩) fun ds Pd _ h => h
theorem sc__law_is_order_ideal : FnScope nm__law_is_order_ideal ["variables", "thing"] (defScope st__law_is_order_ideal) := ⟨rfl, rfl, rfl, by decide +kernel, rfl, by decide +kernel, by decide +kernel⟩
theorem bn__law_is_order_ideal : Bnd "_law_is_order_ideal" st__law_is_order_ideal ["variables", "thing"] := fun _ _ _ _ _ _ us hl => match us, hl with | [_, _], _ => rfl
theorem ok__law_is_order_ideal (F : Fx K w mg) : DefG P w K mg base "_law_is_order_ideal" ["variables", "thing"] 3 (spP K 2 pre__law_is_order_ideal) := defP F.a__law_is_order_ideal sc__law_is_order_ideal bn__law_is_order_ideal pre__law_is_order_ideal (d := d__law_is_order_ideal) (fun f cdv A out s H E hr => ⟨_, (ss_cons (s_if (PDW.t (w_or (t_not (t_val (d_blt c_isi rfl F.f_isinstance bt_isinstance (a_cons (dv 1) (a_cons (d_bltn rfl F.f_tuple bt_tuple) a_nil))))) (w_or1 (t_not (t_val (d_blt (c_all rfl) rfl F.f_all bt_all (a_cons (PDF.e (PDF.of (fb_lc rfl sc__law_is_order_ideal.nd (i_seq (dv 1)) (own := [("each", 3)]) (blkOk_by (by kernel_rfl)) (fun _ _ _ _ _ => ⟨_, (g_name sc__law_is_order_ideal.nd (i := 3)), gw_name (by decide)⟩) (gwd_name (by decide)) (fun _ _ _ _ _ => ⟨_, ts_nil⟩) (fun _ _ _ _ _ => ⟨_, (dg_call (ok__law_is_monomial F) (hr.mono (by decide)) rfl (a_cons (dv 0) (a_cons (dv 3) (a_cons d_int a_nil))))⟩)))) a_nil))))))) (ss_one (s_ret d_bl)) ss_nil)
    (ss_cons (s_if (PDW.t (w_or (t_cmp (do_notIn hr.units) (d_tup a_nil) (dv 1) (by rfl)) (w_or1 (t_cmp do_lt (d_blt c_lenS rfl F.f_len bt_len (a_cons (d_bty (c_set rfl hr.u64) rfl F.f_set bt_set (a_cons (dv 1) a_nil)) a_nil)) (d_blt c_len rfl F.f_len bt_len (a_cons (dv 1) a_nil)) (by rfl))))) (ss_one (s_ret d_bl)) ss_nil)
    (ss_cons (PDS.of (sb_lcE (i := 2) rfl sc__law_is_order_ideal.nd (i_seq (dv 1)) (own := [("each", 3)]) (blkOk_by (by kernel_rfl)) (fun _ _ _ _ _ => ⟨_, (g_name sc__law_is_order_ideal.nd (i := 3)), gw_name (by decide)⟩) (gwd_name (by decide)) (fun _ _ _ _ _ => ⟨_, ts_nil⟩) (fun _ _ _ _ _ => ⟨_, (d_tup (a_cons (d_blt c_len rfl F.f_len bt_len (a_cons (dv 3) a_nil)) (a_cons (d_back (dv 3)) a_nil)))⟩) rfl))
    (ss_cons (s_if (t_cmp (do_ne hr.u64) (PDF.e (f_srtA hr.units rfl F.f_sorted bt_sorted (a_cons (dv 2) a_nil))) (dv 2) (by rfl)) (ss_one (s_ret d_bl)) ss_nil)
    (ss_cons (s_for PassesOwn.never rfl (i_seq (dv 1)) (g_name sc__law_is_order_ideal.nd (i := 3)) (ss_one (s_if (t_not (t_val (d_blt (c_all rfl) rfl F.f_all bt_all (a_cons (PDF.e (PDF.of (fb_lc rfl sc__law_is_order_ideal.nd (i_rg1 rfl F.f_range (d_blt c_len rfl F.f_len bt_len (a_cons (dv 3) a_nil))) (own := [("at", 4)]) (blkOk_by (by kernel_rfl)) (fun _ _ _ _ _ => ⟨_, (g_name sc__law_is_order_ideal.nd (i := 4)), gw_name (by decide)⟩) (gwd_name (by decide)) (fun _ _ _ _ _ => ⟨_, ts_nil⟩) (fun _ _ _ _ _ => ⟨_, (d_cmp (do_in hr.units) (d_op do_add (d_sl (dv 3) p_none (p_some (dv 4))) (d_sl (dv 3) (p_some (d_op do_add (dv 4) d_int)) p_none)) (dv 1) (by rfl))⟩)))) a_nil)))) (ss_one (s_ret d_bl)) ss_nil)))
    (ss_one (s_ret d_bl)))))))⟩) fun ds Pd _ h => h
theorem sc__law_takes : FnScope nm__law_takes ["claim", "paper"] (defScope st__law_takes) := ⟨rfl, rfl, rfl, by decide +kernel, rfl, by decide +kernel, by decide +kernel⟩
theorem bn__law_takes : Bnd "_law_takes" st__law_takes ["claim", "paper"] := fun _ _ _ _ _ _ us hl => match us, hl with | [_, _], _ => rfl
theorem ok__law_takes (F : Fx K w mg) : DefG P w K mg base "_law_takes" ["claim", "paper"] 4 (spP K 2 pre__law_takes) := defP F.a__law_takes sc__law_takes bn__law_takes pre__law_takes (d := d__law_takes) (fun f cdv A out s H E hr => ⟨_, (ss_cons (s_if (PDW.t (w_or (t_not (t_val (d_blt c_isi rfl F.f_isinstance bt_isinstance (a_cons (dv 0) (a_cons (d_bltn rfl F.f_tuple bt_tuple) a_nil))))) (w_or (t_cmp (do_ne hr.u64) (d_blt c_len rfl F.f_len bt_len (a_cons (dv 0) a_nil)) d_int (by rfl)) (w_or1 (t_not (t_val (d_blt c_isi rfl F.f_isinstance bt_isinstance (a_cons (d_ix (dv 0) d_int) (a_cons (d_bltn rfl F.f_str bt_str) a_nil))))))))) (ss_one (s_ret d_bl)) ss_nil)
    (ss_cons (s_if (t_not (t_val (dg_call (ok__law_is_sequence F) (hr.mono (by decide)) rfl (a_cons (d_ix (dv 0) d_int) a_nil)))) (ss_one (s_ret d_bl)) ss_nil)
    (ss_cons (s_asg (dv 0) (g_tup rfl (gs_cons (g_name sc__law_takes.nd (i := 4)) (gs_cons (g_name sc__law_takes.nd (i := 5)) gs_nil))))
    (ss_cons (s_if (t_cmp (do_eq hr.u64) (dv 4) d_str (by rfl)) (ss_one (s_ret (d_and (dg_call (ok__law_is_whole F) (hr.mono (by decide)) rfl (a_cons (dv 1) (a_cons d_int (a_cons (d_op do_sub (d_blt c_len rfl F.f_len bt_len (a_cons (dv 5) a_nil)) d_int) a_nil)))) (d_one (dg_call (ok__law_fails_at F) (hr.mono (by decide)) rfl (a_cons (dv 5) (a_cons (dv 1) a_nil))))))) ss_nil)
    (ss_cons (s_set (i := 2) sc__law_takes.nd (PDE.x (d_if (t_cmp do_gt (d_blt c_len rfl F.f_len bt_len (a_cons (dv 5) a_nil)) d_int (by rfl)) (d_ix (dv 5) d_int) d_int)))
    (ss_cons (s_if (PDW.t (w_or (t_cmp (do_ne hr.u64) (dv 4) d_str (by rfl)) (w_or (t_not (t_chain do_le do_le d_int (dv 2) d_int)) (w_or1 (t_not (t_val (dg_call (ok__law_is_order_ideal F) (hr.mono (by decide)) rfl (a_cons (dv 2) (a_cons (dv 1) a_nil))))))))) (ss_one (s_ret d_bl)) ss_nil)
    (ss_cons (PDS.of (sb_lcE (i := 3) rfl sc__law_takes.nd (i_rg1 rfl F.f_range (d_blt c_len rfl F.f_len bt_len (a_cons (dv 5) a_nil))) (own := [("degree", 6)]) (blkOk_by (by kernel_rfl)) (fun _ _ _ _ _ => ⟨_, (g_name sc__law_takes.nd (i := 6)), gw_name (by decide)⟩) (gwd_name (by decide)) (fun _ _ _ _ _ => ⟨_, ts_nil⟩) (fun _ _ _ _ _ => ⟨_, (d_blt c_len rfl F.f_len bt_len (a_cons (PDF.e (PDF.of (fb_lc rfl sc__law_takes.nd (i_seq (dv 1)) (own := [("each", 7)]) (blkOk_by (by kernel_rfl)) (fun _ _ _ _ _ => ⟨_, (g_name sc__law_takes.nd (i := 7)), gw_name (by decide)⟩) (gwd_name (by decide)) (fun _ _ _ _ _ => ⟨_, (ts_one (t_cmp (do_eq hr.u64) (d_blt c_len rfl F.f_len bt_len (a_cons (dv 7) a_nil)) (dv 6) (by rfl)))⟩) (fun _ _ _ _ _ => ⟨_, (dv 7)⟩)))) a_nil))⟩) rfl))
    (ss_one (s_ret (d_and (d_cmp (do_eq hr.u64) (d_blt (c_sum rfl) rfl F.f_sum bt_sum (a_cons (dv 3) a_nil)) (d_blt c_len rfl F.f_len bt_len (a_cons (dv 1) a_nil)) (by rfl)) (d_one (d_cmp (do_eq hr.u64) (dv 3) (PDF.e (f_list rfl F.f_list bt_list (a_cons (dv 5) a_nil))) (by rfl)))))))))))))⟩) fun ds Pd _ h => h
theorem sc__law_judged : FnScope nm__law_judged ["urn", "rows"] (defScope st__law_judged) := ⟨rfl, rfl, rfl, by decide +kernel, rfl, by decide +kernel, by decide +kernel⟩
theorem bn__law_judged : Bnd "_law_judged" st__law_judged ["urn", "rows"] := fun _ _ _ _ _ _ us hl => match us, hl with | [_, _], _ => rfl
theorem pm_accepts_paper_claim : PermL perm_accepts_paper_claim := by
  intro α β R xs ys t0
  cases t0 with
  | nil => exact .nil
  | cons h0 t1 =>
    cases t1 with
    | nil => exact (.cons h0 .nil)
    | cons h1 t2 =>
      cases t2 with
      | nil => exact (.cons h1 (.cons h0 .nil))
      | cons h2 t3 => exact (.cons h0 (.cons h1 (.cons h2 t3)))
theorem kw_accepts_paper_claim : KwBnd "accepts" st_accepts ["claim", "paper"] ["paper", "claim"] perm_accepts_paper_claim := fun _ _ _ _ _ _ us hl => match us, hl with | [_, _], _ => rfl
theorem ok__law_judged (F : Fx K w mg) : DefG P w K mg base "_law_judged" ["urn", "rows"] 15 (spU K 1 pre__law_judged) := defU F.a__law_judged sc__law_judged bn__law_judged rfl pre__law_judged (d := d__law_judged) (fun f cdv A out s H E hr => ⟨_, (ss_cons (s_for PassesOwn.never rfl (i_seq (dv 1)) (g_tup rfl (gs_cons (g_name sc__law_judged.nd (i := 2)) (gs_cons (g_name sc__law_judged.nd (i := 3)) (gs_cons (g_name sc__law_judged.nd (i := 4)) gs_nil)))) (ss_one (s_if (t_not (t_val (dg_call (ok__law_is F) (hr.mono (by decide)) rfl (a_cons (dg_call (ok_accepts F) (hr.mono (by decide)) rfl (a_cons (dv 2) (a_cons (dv 3) a_nil))) (a_cons (dv 4) a_nil))))) (ss_one (s_ret d_bl)) ss_nil)))
    (ss_cons (s_asg (dg_callU (ok__law_one F) (hr.mono (by decide)) rfl (u_cons 0 (a_cons (dv 1) a_nil))) (g_tup rfl (gs_cons (g_name sc__law_judged.nd (i := 2)) (gs_cons (g_name sc__law_judged.nd (i := 3)) (gs_cons (g_name sc__law_judged.nd (i := 4)) gs_nil)))))
    (ss_cons (s_if (t_not (t_val (dg_call (ok__law_is F) (hr.mono (by decide)) rfl (a_cons (dg_callK (ok_accepts F) F.a_accepts kw_accepts_paper_claim pm_accepts_paper_claim (hr.mono (by decide)) rfl (k_cons (dv 3) (k_cons (dv 2) k_nil))) (a_cons (dv 4) a_nil))))) (ss_one (s_ret d_bl)) ss_nil)
    (ss_cons (s_for PassesOwn.never rfl (i_seq (d_tup (a_cons (d_tup (a_cons (dg_callU (ok__law_bent F) (hr.mono (by decide)) rfl (u_cons 0 (a_cons (dv 2) (a_cons d_int a_nil)))) (a_cons (dv 3) a_nil))) (a_cons (d_tup (a_cons (dv 2) (a_cons (dg_callU (ok__law_bent F) (hr.mono (by decide)) rfl (u_cons 0 (a_cons (dv 3) (a_cons d_int a_nil)))) a_nil))) (a_cons (d_tup (a_cons (dv 2) (a_cons (dg_callU (ok__law_odd F) (hr.mono (by decide)) rfl (u_cons 0 a_nil)) a_nil))) a_nil))))) (g_tup rfl (gs_cons (g_name sc__law_judged.nd (i := 5)) (gs_cons (g_name sc__law_judged.nd (i := 6)) gs_nil))) (ss_one (s_if (t_not (t_val (dg_call (ok__law_is F) (hr.mono (by decide)) rfl (a_cons (dg_call (ok_accepts F) (hr.mono (by decide)) rfl (a_cons (dv 5) (a_cons (dv 6) a_nil))) (a_cons (dg_call (ok__law_takes F) (hr.mono (by decide)) rfl (a_cons (dv 5) (a_cons (dv 6) a_nil))) a_nil))))) (ss_one (s_ret d_bl)) ss_nil)))
    (ss_one (s_ret d_bl))))))⟩) fun ds Pd _ h => h
theorem sc__law_compressed : FnScope nm__law_compressed ["growth"] (defScope st__law_compressed) := ⟨rfl, rfl, rfl, by decide +kernel, rfl, by decide +kernel, by decide +kernel⟩
theorem bn__law_compressed : Bnd "_law_compressed" st__law_compressed ["growth"] := fun _ _ _ _ _ _ us hl => match us, hl with | [_], _ => rfl
theorem ok__law_compressed (F : Fx K w mg) : DefG P w K mg base "_law_compressed" ["growth"] 2 (spP K 1 pre__law_compressed) := defP F.a__law_compressed sc__law_compressed bn__law_compressed pre__law_compressed (d := d__law_compressed) (fun f cdv A out s H E hr => ⟨_, (ss_cons (s_set (i := 1) sc__law_compressed.nd (PDE.x (PDF.e (f_lst a_nil))))
    (ss_cons (s_for PassesOwn.never rfl (i_en rfl F.f_enumerate (dv 0)) (g_tup rfl (gs_cons (g_name sc__law_compressed.nd (i := 2)) (gs_cons (g_name sc__law_compressed.nd (i := 3)) gs_nil))) (ss_one (s_set (i := 1) sc__law_compressed.nd (PDE.x (PDF.e (f_cat (dv 1) (d_sl (dg_call (ok__law_monomials F) (hr.mono (by decide)) rfl (a_cons (d_if (t_cmp do_gt (d_blt c_len rfl F.f_len bt_len (a_cons (dv 0) a_nil)) d_int (by rfl)) (d_ix (dv 0) d_int) d_int) (a_cons (dv 2) a_nil))) p_none (p_some (dv 3)))))))))
    (ss_one (s_ret (d_bty c_tup rfl F.f_tuple bt_tuple (a_cons (dv 1) a_nil))))))⟩) fun ds Pd _ h => h
theorem sc__law_growth : FnScope nm__law_growth ["urn", "long", "top"] (defScope st__law_growth) := ⟨rfl, rfl, rfl, by decide +kernel, rfl, by decide +kernel, by decide +kernel⟩
theorem bn__law_growth : Bnd "_law_growth" st__law_growth ["urn", "long", "top"] := fun _ _ _ _ _ _ us hl => match us, hl with | [_, _, _], _ => rfl
theorem ok__law_growth (F : Fx K w mg) : DefG P w K mg base "_law_growth" ["urn", "long", "top"] 3 (spU K 2 pre__law_growth) := defU F.a__law_growth sc__law_growth bn__law_growth rfl pre__law_growth (d := d__law_growth) (fun f cdv A out s H E hr => ⟨_, (ss_cons (s_set (i := 3) sc__law_growth.nd (PDF.x (f_lst (a_cons d_int a_nil))))
    (ss_cons (s_for PassesOwn.never rfl (i_rg2 rfl F.f_range d_int (dv 1)) (g_name sc__law_growth.nd (i := 4)) (ss_cons (s_set (i := 5) sc__law_growth.nd (PDE.x (d_if (t_cmp (do_eq hr.u64) (dv 4) d_int (by rfl)) (dv 2) (d_blt (c_min2 rfl) rfl F.f_min bt_min (a_cons (dg_call (ok__law_most_next F) (hr.mono (by decide)) rfl (a_cons (d_ixO 3 (d_neg d_int)) (a_cons (d_op do_sub (dv 4) d_int) a_nil))) (a_cons d_int a_nil))))))
    (ss_one (s_app 3 (d_if (t_cmp (do_eq hr.u64) (dg_callU (ok__law_pull F) (hr.mono (by decide)) rfl (u_cons 0 (a_cons d_int a_nil))) d_int (by rfl)) (dv 5) (dg_callU (ok__law_pull F) (hr.mono (by decide)) rfl (u_cons 0 (a_cons (d_op do_add (dv 5) d_int) a_nil))))))))
    (ss_one (s_retO 3))))⟩) fun ds Pd _ h => h
theorem sc__law_other_ideal : FnScope nm__law_other_ideal ["urn", "ideal", "variables"] (defScope st__law_other_ideal) := ⟨rfl, rfl, rfl, by decide +kernel, rfl, by decide +kernel, by decide +kernel⟩
theorem bn__law_other_ideal : Bnd "_law_other_ideal" st__law_other_ideal ["urn", "ideal", "variables"] := fun _ _ _ _ _ _ us hl => match us, hl with | [_, _, _], _ => rfl
theorem ok__law_other_ideal (F : Fx K w mg) : DefG P w K mg base "_law_other_ideal" ["urn", "ideal", "variables"] 3 (spU K 2 pre__law_other_ideal) := defU F.a__law_other_ideal sc__law_other_ideal bn__law_other_ideal rfl pre__law_other_ideal (d := d__law_other_ideal) (fun f cdv A out s H E hr => ⟨_, (ss_cons (s_parC (i := 4) (j := 5) rfl sc__law_other_ideal.nd (PDE.x (dg_callU (ok__law_shuffled F) (hr.mono (by decide)) rfl (u_cons 0 (a_cons (PDF.e (f_lrg2 rfl rfl F.f_list rfl F.f_range d_int (d_op do_add (dv 2) d_int))) a_nil)))) (PDF.x (f_lst a_nil)))
    (ss_cons (s_for PassesOwn.never rfl (i_seq (dv 1)) (g_name sc__law_other_ideal.nd (i := 3)) (ss_cons (s_set (i := 6) sc__law_other_ideal.nd (PDE.x (d_bty c_tup rfl F.f_tuple bt_tuple (a_cons (PDF.e (f_srtA hr.units rfl F.f_sorted bt_sorted (a_cons (PDF.e (PDF.of (fb_lc rfl sc__law_other_ideal.nd (i_seq (dv 3)) (own := [("v", 8)]) (blkOk_by (by kernel_rfl)) (fun _ _ _ _ _ => ⟨_, (g_name sc__law_other_ideal.nd (i := 8)), gw_name (by decide)⟩) (gwd_name (by decide)) (fun _ _ _ _ _ => ⟨_, ts_nil⟩) (fun _ _ _ _ _ => ⟨_, (d_ix (dv 4) (d_op do_sub (dv 8) d_int))⟩)))) a_nil))) a_nil))))
    (ss_one (s_app 5 (d_tup (a_cons (d_blt c_len rfl F.f_len bt_len (a_cons (dv 6) a_nil)) (a_cons (d_back (dv 6)) a_nil)))))))
    (ss_one (s_ret (d_bty c_tup rfl F.f_tuple bt_tuple (a_cons (PDF.e (PDF.of (fb_lc rfl sc__law_other_ideal.nd (i_seq (PDF.e (f_lend (f_srtA hr.units rfl F.f_sorted bt_sorted (a_cons (dv 5) a_nil))))) (own := [("degree", 7), ("each", 3)]) (blkOk_by (by kernel_rfl)) (fun _ _ _ _ _ => ⟨_, (g_tup rfl (gs_cons (g_name sc__law_other_ideal.nd (i := 7)) (gs_cons (g_name sc__law_other_ideal.nd (i := 3)) gs_nil))), (gw_tup (gw_cons (gw_name (by decide)) (gw_cons (gw_name (by decide)) gw_nil)))⟩) ((gwd_tup (gwd_cons (gwd_name (by decide)) (gwd_cons (gwd_name (by decide)) gwd_nil)))) (fun _ _ _ _ _ => ⟨_, ts_nil⟩) (fun _ _ _ _ _ => ⟨_, (d_back (dv 3))⟩)))) a_nil))))))⟩) fun ds Pd _ h => h
theorem sc__law_with_other : FnScope nm__law_with_other ["urn", "ideal", "variables"] (defScope st__law_with_other) := ⟨rfl, rfl, rfl, by decide +kernel, rfl, by decide +kernel, by decide +kernel⟩
theorem bn__law_with_other : Bnd "_law_with_other" st__law_with_other ["urn", "ideal", "variables"] := fun _ _ _ _ _ _ us hl => match us, hl with | [_, _, _], _ => rfl
theorem ok__law_with_other (F : Fx K w mg) : DefG P w K mg base "_law_with_other" ["urn", "ideal", "variables"] 3 (spU K 2 pre__law_with_other) := defU F.a__law_with_other sc__law_with_other bn__law_with_other rfl pre__law_with_other (d := d__law_with_other) (fun f cdv A out s H E hr => ⟨_, (ss_cons (s_set (i := 3) sc__law_with_other.nd (PDE.x (dg_callU (ok__law_one F) (hr.mono (by decide)) rfl (u_cons 0 (a_cons (dv 1) a_nil)))))
    (ss_cons (PDS.of (sb_lcE (i := 4) rfl sc__law_with_other.nd (i_seq (dg_call (ok__law_monomials F) (hr.mono (by decide)) rfl (a_cons (dv 2) (a_cons (d_blt c_len rfl F.f_len bt_len (a_cons (dv 3) a_nil)) a_nil)))) (own := [("each", 6)]) (blkOk_by (by kernel_rfl)) (fun _ _ _ _ _ => ⟨_, (g_name sc__law_with_other.nd (i := 6)), gw_name (by decide)⟩) (gwd_name (by decide)) (fun _ _ _ _ _ => ⟨_, (ts_one (t_cmp (do_notIn hr.units) (dv 6) (dv 1) (by rfl)))⟩) (fun _ _ _ _ _ => ⟨_, (dv 6)⟩) rfl))
    (ss_cons (s_if (t_cmp (do_eq hr.u64) (dv 4) (PDF.e (f_lst a_nil)) (by rfl)) (ss_one (s_ret (dv 1))) ss_nil)
    (ss_cons (s_set (i := 5) sc__law_with_other.nd (PDE.x (PDF.e (f_cat (PDF.e (PDF.of (fb_lc rfl sc__law_with_other.nd (i_seq (dv 1)) (own := [("each", 6)]) (blkOk_by (by kernel_rfl)) (fun _ _ _ _ _ => ⟨_, (g_name sc__law_with_other.nd (i := 6)), gw_name (by decide)⟩) (gwd_name (by decide)) (fun _ _ _ _ _ => ⟨_, (ts_one (t_cmp (do_ne hr.u64) (dv 6) (dv 3) (by rfl)))⟩) (fun _ _ _ _ _ => ⟨_, (dv 6)⟩)))) (PDF.e (f_lst (a_cons (dg_callU (ok__law_one F) (hr.mono (by decide)) rfl (u_cons 0 (a_cons (dv 4) a_nil))) a_nil)))))))
    (ss_one (s_ret (d_bty c_tup rfl F.f_tuple bt_tuple (a_cons (PDF.e (PDF.of (fb_lc rfl sc__law_with_other.nd (i_seq (PDF.e (f_srtA hr.units rfl F.f_sorted bt_sorted (a_cons (PDF.e (PDF.of (fb_lc rfl sc__law_with_other.nd (i_seq (dv 5)) (own := [("each", 6)]) (blkOk_by (by kernel_rfl)) (fun _ _ _ _ _ => ⟨_, (g_name sc__law_with_other.nd (i := 6)), gw_name (by decide)⟩) (gwd_name (by decide)) (fun _ _ _ _ _ => ⟨_, ts_nil⟩) (fun _ _ _ _ _ => ⟨_, (d_tup (a_cons (d_blt c_len rfl F.f_len bt_len (a_cons (dv 6) a_nil)) (a_cons (d_back (dv 6)) a_nil)))⟩)))) a_nil)))) (own := [("degree", 7), ("each", 6)]) (blkOk_by (by kernel_rfl)) (fun _ _ _ _ _ => ⟨_, (g_tup rfl (gs_cons (g_name sc__law_with_other.nd (i := 7)) (gs_cons (g_name sc__law_with_other.nd (i := 6)) gs_nil))), (gw_tup (gw_cons (gw_name (by decide)) (gw_cons (gw_name (by decide)) gw_nil)))⟩) ((gwd_tup (gwd_cons (gwd_name (by decide)) (gwd_cons (gwd_name (by decide)) gwd_nil)))) (fun _ _ _ _ _ => ⟨_, ts_nil⟩) (fun _ _ _ _ _ => ⟨_, (d_back (dv 6))⟩)))) a_nil))))))))⟩) fun ds Pd _ h => h
theorem sc__law_great : FnScope nm__law_great ["urn"] (defScope st__law_great) := ⟨rfl, rfl, rfl, by decide +kernel, rfl, by decide +kernel, by decide +kernel⟩
theorem bn__law_great : Bnd "_law_great" st__law_great ["urn"] := fun _ _ _ _ _ _ us hl => match us, hl with | [_], _ => rfl
theorem ok__law_great (F : Fx K w mg) : DefG P w K mg base "_law_great" ["urn"] 3 (spU K 0 pre__law_great) := defU F.a__law_great sc__law_great bn__law_great rfl pre__law_great (d := d__law_great) (fun f cdv A out s H E hr => ⟨_, (ss_cons (s_set (i := 1) sc__law_great.nd (PDF.x (f_lst (a_cons d_int (a_cons (dg_callU (ok__law_one F) (hr.mono (by decide)) rfl (u_cons 0 (a_cons (d_tup (a_cons d_int (a_cons d_int (a_cons d_int (a_cons d_int a_nil))))) a_nil))) a_nil)))))
    (ss_cons (s_while PassesOwn.never (PDW.t (w_and (t_cmp do_lt (d_lenO 1 rfl F.f_len bt_len) d_int (by rfl)) (w_and1 (t_cmp do_lt (d_lend (d_blt (c_sum rfl) rfl F.f_sum bt_sum (a_cons (dv 1) a_nil))) d_int (by rfl))))) (ss_cons (s_set (i := 2) sc__law_great.nd (PDE.x (d_blt (c_min2 rfl) rfl F.f_min bt_min (a_cons (dg_call (ok__law_most_next F) (hr.mono (by decide)) rfl (a_cons (d_ixO 1 (d_neg d_int)) (a_cons (d_op do_sub (d_lenO 1 rfl F.f_len bt_len) d_int) a_nil))) (a_cons (d_op do_sub d_int (d_lend (d_blt (c_sum rfl) rfl F.f_sum bt_sum (a_cons (dv 1) a_nil)))) a_nil)))))
    (ss_cons (s_set (i := 3) sc__law_great.nd (PDE.x (dg_callU (ok__law_pull F) (hr.mono (by decide)) rfl (u_cons 0 (a_cons (d_op do_add (dv 2) d_int) a_nil)))))
    (ss_one (s_app 1 (d_if (PDW.t (w_or (t_cmp do_lt (d_op do_add (d_lend (d_blt (c_sum rfl) rfl F.f_sum bt_sum (a_cons (dv 1) a_nil))) (dv 3)) d_int (by rfl)) (w_or1 (t_cmp (do_eq hr.u64) (dg_callU (ok__law_pull F) (hr.mono (by decide)) rfl (u_cons 0 (a_cons d_int a_nil))) d_int (by rfl))))) (dv 2) (dv 3)))))))
    (ss_one (s_retO 1))))⟩) fun ds Pd _ h => h
theorem sc__law_turned : FnScope nm__law_turned ["urn", "ideal", "variables"] (defScope st__law_turned) := ⟨rfl, rfl, rfl, by decide +kernel, rfl, by decide +kernel, by decide +kernel⟩
theorem bn__law_turned : Bnd "_law_turned" st__law_turned ["urn", "ideal", "variables"] := fun _ _ _ _ _ _ us hl => match us, hl with | [_, _, _], _ => rfl
theorem ok__law_turned (F : Fx K w mg) : DefG P w K mg base "_law_turned" ["urn", "ideal", "variables"] 4 (spU K 2 pre__law_turned) := defU F.a__law_turned sc__law_turned bn__law_turned rfl pre__law_turned (d := d__law_turned) (fun f cdv A out s H E hr => ⟨_, (ss_cons (s_set (i := 3) sc__law_turned.nd (PDE.x (dg_callU (ok__law_pull F) (hr.mono (by decide)) rfl (u_cons 0 (a_cons (d_op do_sub (d_blt c_len rfl F.f_len bt_len (a_cons (dv 1) a_nil)) d_int) a_nil)))))
    (ss_cons (s_par (i := 5) (j := 6) rfl sc__law_turned.nd (PDE.x (d_ix (dv 1) (dv 3))) (PDE.x (d_ix (dv 1) (d_op do_add (dv 3) d_int))))
    (ss_cons (s_set (i := 4) sc__law_turned.nd (PDF.x (f_lst (a_cons (d_op do_add (d_sl (dv 1) p_none (p_some (dv 3))) (d_sl (dv 1) (p_some (d_op do_add (dv 3) d_int)) p_none)) (a_cons (d_op do_add (d_op do_add (d_sl (dv 1) p_none (p_some (dv 3))) (d_tup (a_cons (dv 5) a_nil))) (d_sl (dv 1) (p_some (dv 3)) p_none)) (a_cons (d_op do_add (d_op do_add (d_sl (dv 1) p_none (p_some (dv 3))) (d_tup (a_cons (dv 6) (a_cons (dv 5) a_nil)))) (d_sl (dv 1) (p_some (d_op do_add (dv 3) d_int)) p_none)) a_nil))))))
    (ss_cons (s_set (i := 4) sc__law_turned.nd (PDF.x (f_catO 4 (PDF.e (f_lst (a_cons (d_op do_add (d_op do_add (d_sl (dv 1) p_none (p_some (dv 3))) (d_tup (a_cons (PDF.e (f_list rfl F.f_list bt_list (a_cons (dv 5) a_nil))) a_nil))) (d_sl (dv 1) (p_some (d_op do_add (dv 3) d_int)) p_none)) (a_cons (dg_callU (ok__law_with_other F) (hr.mono (by decide)) rfl (u_cons 0 (a_cons (dv 1) (a_cons (dv 2) a_nil)))) (a_cons (d_sl (dv 1) p_none (p_some (d_neg d_int))) a_nil))))))))
    (ss_cons (s_app 4 (d_op do_add (d_op do_add (d_sl (dv 1) p_none (p_some (d_op do_add (dv 3) d_int))) (d_tup (a_cons (d_op do_add (d_sl (dv 6) p_none (p_some (d_neg d_int))) (d_tup (a_cons (d_op do_add (dv 2) d_int) a_nil))) a_nil))) (d_sl (dv 1) (p_some (d_op do_add (dv 3) d_int)) p_none)))
    (ss_cons (s_app 4 (d_op do_add (d_op do_add (d_sl (dv 1) p_none (p_some (d_op do_add (dv 3) d_int))) (d_tup (a_cons (d_op do_add (d_sl (dv 6) p_none (p_some (d_neg d_int))) (d_tup (a_cons d_bl a_nil))) a_nil))) (d_sl (dv 1) (p_some (d_op do_add (dv 3) d_int)) p_none)))
    (ss_one (s_ret (PDF.e (f_catO 4 (PDF.e (f_lst (a_cons (d_op do_add (d_op do_add (d_sl (dv 1) p_none (p_some (d_op do_add (dv 3) d_int))) (d_tup (a_cons (d_back (dv 6)) a_nil))) (d_sl (dv 1) (p_some (d_op do_add (dv 3) d_int)) p_none)) (a_cons (d_op do_add (dv 1) (d_tup (a_cons (d_op do_add (d_sl (d_ix (dv 1) (d_neg d_int)) p_none (p_some (d_neg d_int))) (d_tup (a_cons (dv 2) a_nil))) a_nil))) a_nil))))))))))))))⟩) fun ds Pd _ h => h
theorem sc__law_great_right : FnScope nm__law_great_right ["urn"] (defScope st__law_great_right) := ⟨rfl, rfl, rfl, by decide +kernel, rfl, by decide +kernel, by decide +kernel⟩
theorem bn__law_great_right : Bnd "_law_great_right" st__law_great_right ["urn"] := fun _ _ _ _ _ _ us hl => match us, hl with | [_], _ => rfl
theorem ok__law_great_right (F : Fx K w mg) : DefG P w K mg base "_law_great_right" ["urn"] 7 (spU K 0 pre__law_great_right) := defU F.a__law_great_right sc__law_great_right bn__law_great_right rfl pre__law_great_right (d := d__law_great_right) (fun f cdv A out s H E hr => ⟨_, (ss_cons (s_set (i := 1) sc__law_great_right.nd (PDE.x (dg_callU (ok__law_great F) (hr.mono (by decide)) rfl (u_cons 0 a_nil))))
    (ss_cons (s_parC (i := 5) (j := 6) rfl sc__law_great_right.nd (PDE.x (dg_call (ok__law_compressed F) (hr.mono (by decide)) rfl (a_cons (dv 1) a_nil))) (PDE.x (d_op do_add d_int (dg_callU (ok__law_pull F) (hr.mono (by decide)) rfl (u_cons 0 (a_cons (d_op do_sub (d_blt c_len rfl F.f_len bt_len (a_cons (dv 1) a_nil)) d_int) a_nil))))))
    (ss_cons (s_set (i := 2) sc__law_great_right.nd (PDE.x (d_bty c_tup rfl F.f_tuple bt_tuple (a_cons (PDF.e (f_cat (PDF.e (f_cat (d_sl (dv 1) p_none (p_some (dv 6))) (PDF.e (f_lst (a_cons (d_op do_add (d_ix (dv 1) (dv 6)) (dg_callU (ok__law_one F) (hr.mono (by decide)) rfl (u_cons 0 (a_cons (d_tup (a_cons d_int (a_cons (d_neg d_int) a_nil))) a_nil)))) a_nil))))) (d_sl (dv 1) (p_some (d_op do_add (dv 6) d_int)) p_none))) a_nil))))
    (ss_cons (s_parC (i := 7) (j := 8) rfl sc__law_great_right.nd (PDE.x (d_bty c_tup rfl F.f_tuple bt_tuple (a_cons (PDF.e (f_cat (d_sl (dv 1) p_none (p_some (d_neg d_int))) (PDF.e (f_lst (a_cons d_int a_nil))))) a_nil))) (PDE.x (d_tup (a_cons d_str (a_cons (d_bty c_tup rfl F.f_tuple bt_tuple (a_cons (dv 1) a_nil)) a_nil)))))
    (ss_cons (s_set (i := 3) sc__law_great_right.nd (PDE.x (PDF.e (f_cat (PDF.e (f_lst (a_cons (dv 5) (a_cons (dg_callU (ok__law_other_ideal F) (hr.mono (by decide)) rfl (u_cons 0 (a_cons (dv 5) (a_cons (d_ix (dv 1) d_int) a_nil)))) a_nil)))) (dg_callU (ok__law_turned F) (hr.mono (by decide)) rfl (u_cons 0 (a_cons (dv 5) (a_cons (d_ix (dv 1) d_int) a_nil))))))))
    (ss_cons (PDS.of (sb_lcE (i := 4) rfl sc__law_great_right.nd (i_seq (dv 3)) (own := [("each", 11)]) (blkOk_by (by kernel_rfl)) (fun _ _ _ _ _ => ⟨_, (g_name sc__law_great_right.nd (i := 11)), gw_name (by decide)⟩) (gwd_name (by decide)) (fun _ _ _ _ _ => ⟨_, ts_nil⟩) (fun _ _ _ _ _ => ⟨_, (d_tup (a_cons (dv 8) (a_cons (dv 11) a_nil)))⟩) rfl))
    (ss_cons (s_set (i := 4) sc__law_great_right.nd (PDE.x (PDF.e (f_cat (dv 4) (PDF.e (PDF.of (fb_lc rfl sc__law_great_right.nd (i_seq (d_tup (a_cons (dv 2) (a_cons (dv 7) (a_cons (d_bty c_tup rfl F.f_tuple bt_tuple (a_cons (d_sl (dv 1) p_none (p_some (d_neg d_int))) a_nil)) (a_cons (d_op do_add (d_bty c_tup rfl F.f_tuple bt_tuple (a_cons (dv 1) a_nil)) (d_tup (a_cons d_int a_nil))) a_nil)))))) (own := [("each", 11)]) (blkOk_by (by kernel_rfl)) (fun _ _ _ _ _ => ⟨_, (g_name sc__law_great_right.nd (i := 11)), gw_name (by decide)⟩) (gwd_name (by decide)) (fun _ _ _ _ _ => ⟨_, ts_nil⟩) (fun _ _ _ _ _ => ⟨_, (d_tup (a_cons (d_tup (a_cons d_str (a_cons (dv 11) a_nil))) (a_cons (dv 5) a_nil)))⟩))))))))
    (ss_cons (s_set (i := 4) sc__law_great_right.nd (PDE.x (PDF.e (f_cat (dv 4) (PDF.e (PDF.of (fb_lc rfl sc__law_great_right.nd (i_seq (d_tup (a_cons (dv 2) (a_cons (dv 7) (a_cons (d_bty c_tup rfl F.f_tuple bt_tuple (a_cons (dv 1) a_nil)) a_nil))))) (own := [("each", 11)]) (blkOk_by (by kernel_rfl)) (fun _ _ _ _ _ => ⟨_, (g_name sc__law_great_right.nd (i := 11)), gw_name (by decide)⟩) (gwd_name (by decide)) (fun _ _ _ _ _ => ⟨_, ts_nil⟩) (fun _ _ _ _ _ => ⟨_, (d_tup (a_cons (d_tup (a_cons d_str (a_cons (dv 11) a_nil))) (a_cons (dv 6) a_nil)))⟩))))))))
    (ss_cons (s_set (i := 4) sc__law_great_right.nd (PDE.x (PDF.e (f_cat (dv 4) (PDF.e (PDF.of (fb_lc rfl sc__law_great_right.nd (i_seq (d_tup (a_cons (dv 2) (a_cons (dv 7) (a_cons (d_bty c_tup rfl F.f_tuple bt_tuple (a_cons (dv 1) a_nil)) a_nil))))) (own := [("each", 11)]) (blkOk_by (by kernel_rfl)) (fun _ _ _ _ _ => ⟨_, (g_name sc__law_great_right.nd (i := 11)), gw_name (by decide)⟩) (gwd_name (by decide)) (fun _ _ _ _ _ => ⟨_, ts_nil⟩) (fun _ _ _ _ _ => ⟨_, (d_tup (a_cons (d_tup (a_cons d_str (a_cons (dv 11) a_nil))) (a_cons (d_op do_sub (d_blt c_len rfl F.f_len bt_len (a_cons (dv 1) a_nil)) d_int) a_nil)))⟩))))))))
    (ss_cons (s_for PassesOwn.never rfl (i_seq (dv 4)) (g_tup rfl (gs_cons (g_name sc__law_great_right.nd (i := 9)) (gs_cons (g_name sc__law_great_right.nd (i := 10)) gs_nil))) (ss_one (s_if (t_not (t_val (dg_call (ok__law_is F) (hr.mono (by decide)) rfl (a_cons (dg_call (ok_accepts F) (hr.mono (by decide)) rfl (a_cons (dv 9) (a_cons (dv 10) a_nil))) (a_cons (dg_call (ok__law_takes F) (hr.mono (by decide)) rfl (a_cons (dv 9) (a_cons (dv 10) a_nil))) a_nil))))) (ss_one (s_ret d_bl)) ss_nil)))
    (ss_one (s_ret d_bl))))))))))))⟩) fun ds Pd _ h => h
theorem sc__law_right : FnScope nm__law_right ["urn"] (defScope st__law_right) := ⟨rfl, rfl, rfl, by decide +kernel, rfl, by decide +kernel, by decide +kernel⟩
theorem bn__law_right : Bnd "_law_right" st__law_right ["urn"] := fun _ _ _ _ _ _ us hl => match us, hl with | [_], _ => rfl
theorem ok__law_right (F : Fx K w mg) : DefG P w K mg base "_law_right" ["urn"] 16 (spU K 0 pre__law_right) := defU F.a__law_right sc__law_right bn__law_right rfl pre__law_right (d := d__law_right) (fun f cdv A out s H E hr => ⟨_, (ss_cons (s_set (i := 1) sc__law_right.nd (PDE.x (dg_callU (ok__law_growth F) (hr.mono (by decide)) rfl (u_cons 0 (a_cons (d_op do_add d_int (dg_callU (ok__law_pull F) (hr.mono (by decide)) rfl (u_cons 0 (a_cons d_int a_nil)))) (a_cons (dg_callU (ok__law_one F) (hr.mono (by decide)) rfl (u_cons 0 (a_cons (d_tup (a_cons d_int (a_cons d_int (a_cons d_int (a_cons d_int (a_cons d_int a_nil)))))) a_nil))) a_nil))))))
    (ss_cons (s_set (i := 2) sc__law_right.nd (PDE.x (d_if (t_cmp do_gt (d_blt c_len rfl F.f_len bt_len (a_cons (dv 1) a_nil)) d_int (by rfl)) (d_ix (dv 1) d_int) d_int)))
    (ss_cons (s_set (i := 3) sc__law_right.nd (PDE.x (dg_call (ok__law_compressed F) (hr.mono (by decide)) rfl (a_cons (dv 1) a_nil))))
    (ss_cons (s_par (i := 16) (j := 17) rfl sc__law_right.nd (PDE.x (dg_callU (ok__law_other_ideal F) (hr.mono (by decide)) rfl (u_cons 0 (a_cons (dv 3) (a_cons (dv 2) a_nil))))) (PDE.x (dg_callU (ok__law_pull F) (hr.mono (by decide)) rfl (u_cons 0 (a_cons (d_blt c_len rfl F.f_len bt_len (a_cons (dv 3) a_nil)) a_nil)))))
    (ss_cons (s_set (i := 4) sc__law_right.nd (PDE.x (dg_callU (ok__law_one F) (hr.mono (by decide)) rfl (u_cons 0 (a_cons (dg_call (ok__law_monomials F) (hr.mono (by decide)) rfl (a_cons (d_op do_add (dv 2) d_int) (a_cons (dg_callU (ok__law_pull F) (hr.mono (by decide)) rfl (u_cons 0 (a_cons (d_op do_add (d_blt c_len rfl F.f_len bt_len (a_cons (dv 1) a_nil)) d_int) a_nil))) a_nil))) a_nil)))))
    (ss_cons (s_set (i := 5) sc__law_right.nd (PDF.x (f_lst (a_cons (dv 3) (a_cons (dv 16) (a_cons (d_op do_add (d_sl (dv 3) p_none (p_some (dv 17))) (d_sl (dv 3) (p_some (d_op do_add (dv 17) d_int)) p_none)) (a_cons (d_back (dv 3)) (a_cons (d_op do_add (dv 3) (d_tup (a_cons (dv 4) a_nil))) (a_cons (PDF.e (f_list rfl F.f_list bt_list (a_cons (dv 3) a_nil))) a_nil)))))))))
    (ss_cons (s_app 5 (d_op do_add (dv 3) (d_sl (dv 3) (p_some (dv 17)) (p_some (d_op do_add (dv 17) d_int)))))
    (ss_cons (s_set (i := 5) sc__law_right.nd (PDF.x (f_catO 5 (PDF.e (f_lst (a_cons (d_op do_add (d_op do_add (d_sl (dv 3) p_none (p_some (dv 17))) (d_tup (a_cons (dv 4) a_nil))) (d_sl (dv 3) (p_some (d_op do_add (dv 17) d_int)) p_none)) (a_cons (d_sl (dv 3) (p_some d_int) p_none) (a_cons (d_sl (dv 16) p_none (p_some (d_neg d_int))) (a_cons (d_tup a_nil) (a_cons (d_tup (a_cons (d_tup a_nil) a_nil)) (a_cons d_non (a_cons d_int (a_cons d_int a_nil)))))))))))))
    (ss_cons (s_set (i := 5) sc__law_right.nd (PDF.x (f_catO 5 (PDF.e (f_lst (a_cons d_bl (a_cons (d_neg d_int) a_nil)))))))
    (ss_cons (s_set (i := 6) sc__law_right.nd (PDE.x (PDF.e (f_srtA hr.units rfl F.f_sorted bt_sorted (a_cons (PDF.e (PDF.of (fb_lc rfl sc__law_right.nd (i_seq (d_op do_add (d_op do_add (d_sl (dv 3) p_none (p_some (dv 17))) (d_tup (a_cons (dv 4) a_nil))) (d_sl (dv 3) (p_some (d_op do_add (dv 17) d_int)) p_none))) (own := [("each", 20)]) (blkOk_by (by kernel_rfl)) (fun _ _ _ _ _ => ⟨_, (g_name sc__law_right.nd (i := 20)), gw_name (by decide)⟩) (gwd_name (by decide)) (fun _ _ _ _ _ => ⟨_, ts_nil⟩) (fun _ _ _ _ _ => ⟨_, (d_tup (a_cons (d_blt c_len rfl F.f_len bt_len (a_cons (dv 20) a_nil)) (a_cons (d_back (dv 20)) a_nil)))⟩)))) a_nil)))))
    (ss_cons (s_set (i := 5) sc__law_right.nd (PDF.x (f_cat (PDF.e (f_catO 5 (PDF.e (f_lst (a_cons (d_bty c_tup rfl F.f_tuple bt_tuple (a_cons (PDF.e (PDF.of (fb_lc rfl sc__law_right.nd (i_seq (dv 6)) (own := [("degree", 25), ("each", 20)]) (blkOk_by (by kernel_rfl)) (fun _ _ _ _ _ => ⟨_, (g_tup rfl (gs_cons (g_name sc__law_right.nd (i := 25)) (gs_cons (g_name sc__law_right.nd (i := 20)) gs_nil))), (gw_tup (gw_cons (gw_name (by decide)) (gw_cons (gw_name (by decide)) gw_nil)))⟩) ((gwd_tup (gwd_cons (gwd_name (by decide)) (gwd_cons (gwd_name (by decide)) gwd_nil)))) (fun _ _ _ _ _ => ⟨_, ts_nil⟩) (fun _ _ _ _ _ => ⟨_, (d_back (dv 20))⟩)))) a_nil)) a_nil))))) (PDF.e (f_lrg2 rfl rfl F.f_list rfl F.f_range d_int (d_op do_add (d_blt c_len rfl F.f_len bt_len (a_cons (dv 1) a_nil)) d_int))))))
    (ss_cons (PDS.of (sb_lcE (i := 7) rfl sc__law_right.nd (i_seq (dv 3)) (own := [("each", 20)]) (blkOk_by (by kernel_rfl)) (fun _ _ _ _ _ => ⟨_, (g_name sc__law_right.nd (i := 20)), gw_name (by decide)⟩) (gwd_name (by decide)) (fun _ _ _ _ _ => ⟨_, ts_nil⟩) (fun _ _ _ _ _ => ⟨_, (d_bty c_tup rfl F.f_tuple bt_tuple (a_cons (PDF.e (PDF.of (fb_lc rfl sc__law_right.nd (i_seq (dv 20)) (own := [("v", 22)]) (blkOk_by (by kernel_rfl)) (fun _ _ _ _ _ => ⟨_, (g_name sc__law_right.nd (i := 22)), gw_name (by decide)⟩) (gwd_name (by decide)) (fun _ _ _ _ _ => ⟨_, ts_nil⟩) (fun _ _ _ _ _ => ⟨_, (d_if (t_cmp (do_eq hr.u64) (dv 22) (dv 2) (by rfl)) (d_op do_add (dv 2) d_int) (dv 22))⟩)))) a_nil))⟩) rfl))
    (ss_cons (s_set (i := 5) sc__law_right.nd (PDF.x (f_catO 5 (PDF.e (f_lst (a_cons (d_bty c_tup rfl F.f_tuple bt_tuple (a_cons (dv 7) a_nil)) (a_cons (dg_callU (ok__law_with_other F) (hr.mono (by decide)) rfl (u_cons 0 (a_cons (dv 3) (a_cons (dv 2) a_nil)))) (a_cons (dg_callU (ok__law_with_other F) (hr.mono (by decide)) rfl (u_cons 0 (a_cons (dv 16) (a_cons (dv 2) a_nil)))) a_nil))))))))
    (ss_cons (s_app 5 (dg_call (ok__law_compressed F) (hr.mono (by decide)) rfl (a_cons (PDF.e (f_cat (dv 1) (PDF.e (f_lst (a_cons (d_if (PDW.t (w_and (t_cmp do_gt (dv 2) d_int (by rfl)) (w_and1 (t_cmp do_gt (d_ix (dv 1) (d_neg d_int)) d_int (by rfl))))) d_int d_int) a_nil))))) a_nil)))
    (ss_cons (s_set (i := 8) sc__law_right.nd (PDE.x (dg_callU (ok__law_pull F) (hr.mono (by decide)) rfl (u_cons 0 (a_cons (d_blt c_len rfl F.f_len bt_len (a_cons (dv 1) a_nil)) a_nil)))))
    (ss_cons (s_set (i := 9) sc__law_right.nd (PDE.x (d_if (t_cmp do_gt (dv 8) d_int (by rfl)) (dg_call (ok__law_most_next F) (hr.mono (by decide)) rfl (a_cons (d_ix (dv 1) (d_op do_sub (dv 8) d_int)) (a_cons (d_op do_sub (dv 8) d_int) a_nil))) d_int)))
    (ss_cons (s_set (i := 10) sc__law_right.nd (PDE.x (dg_callU (ok__law_one F) (hr.mono (by decide)) rfl (u_cons 0 (a_cons (d_tup (a_cons (d_neg d_int) (a_cons (d_op do_add (d_ix (dv 1) (dv 8)) d_int) (a_cons (d_op do_add (dv 9) d_int) (a_cons (dv 9) (a_cons (d_op do_pow d_int d_int) (a_cons (d_op do_add (d_op do_pow d_int d_int) d_int) (a_cons d_int (a_cons d_int (a_cons d_bl a_nil)))))))))) a_nil)))))
    (ss_cons (s_set (i := 11) sc__law_right.nd (PDE.x (PDF.e (f_cat (PDF.e (f_cat (d_sl (dv 1) p_none (p_some (dv 8))) (PDF.e (f_lst (a_cons (dv 10) a_nil))))) (d_sl (dv 1) (p_some (d_op do_add (dv 8) d_int)) p_none)))))
    (ss_cons (s_par (i := 18) (j := 14) rfl sc__law_right.nd (PDE.x (dg_callU (ok__law_one F) (hr.mono (by decide)) rfl (u_cons 0 (a_cons (PDF.e (f_lrg2 rfl rfl F.f_list rfl F.f_range (d_neg d_int) d_int)) a_nil)))) (PDF.x (f_lst a_nil)))
    (ss_freeze 5 (ss_cons (s_set (i := 12) sc__law_right.nd (PDE.x (PDF.e (f_lst (a_cons (d_bty c_tup rfl F.f_tuple bt_tuple (a_cons (dv 1) a_nil)) (a_cons (d_bty c_tup rfl F.f_tuple bt_tuple (a_cons (dv 11) a_nil)) (a_cons (d_bty c_tup rfl F.f_tuple bt_tuple (a_cons (PDF.e (f_cat (d_sl (dv 11) p_none (p_some (d_neg d_int))) (PDF.e (f_lst (a_cons (dv 18) a_nil))))) a_nil)) (a_cons (d_bty c_tup rfl F.f_tuple bt_tuple (a_cons (PDF.e (f_cat (dv 1) (PDF.e (f_lst (a_cons d_int a_nil))))) a_nil)) (a_cons (d_bty c_tup rfl F.f_tuple bt_tuple (a_cons (d_sl (dv 1) (p_some d_int) p_none) a_nil)) (a_cons (dv 1) a_nil))))))))))
    (ss_cons (s_for PassesOwn.never rfl (i_seq (dv 12)) (g_name sc__law_right.nd (i := 13)) (ss_one (s_for PassesOwn.never rfl (i_seq (d_tup (a_cons d_str (a_cons d_str a_nil)))) (g_name sc__law_right.nd (i := 19)) (ss_one (s_set (i := 14) sc__law_right.nd (PDF.x (f_catO 14 (PDF.e (PDF.of (fb_lc rfl sc__law_right.nd (i_seq (dv 5)) (own := [("paper", 24)]) (blkOk_by (by kernel_rfl)) (fun _ _ _ _ _ => ⟨_, (g_name sc__law_right.nd (i := 24)), gw_name (by decide)⟩) (gwd_name (by decide)) (fun _ _ _ _ _ => ⟨_, ts_nil⟩) (fun _ _ _ _ _ => ⟨_, (d_tup (a_cons (d_tup (a_cons (dv 19) (a_cons (dv 13) a_nil))) (a_cons (dv 24) a_nil)))⟩)))))))))))
    (ss_cons (s_set (i := 14) sc__law_right.nd (PDF.x (f_catO 14 (PDF.e (f_lst (a_cons (d_tup (a_cons (d_tup (a_cons d_str (a_cons (d_bty c_tup rfl F.f_tuple bt_tuple (a_cons (dv 1) a_nil)) (a_cons (d_tup a_nil) a_nil)))) (a_cons (dv 3) a_nil))) (a_cons (d_tup (a_cons (d_tup (a_cons d_str (a_cons (d_bty c_tup rfl F.f_tuple bt_tuple (a_cons (dv 1) a_nil)) a_nil))) (a_cons (dv 3) a_nil))) a_nil)))))))
    (ss_cons (s_for PassesOwn.never rfl (i_seq (d_tup (a_cons d_int (a_cons d_int a_nil)))) (g_name sc__law_right.nd (i := 15)) (ss_one (s_app 14 (d_tup (a_cons (d_tup (a_cons d_str (a_cons (d_tup (a_cons d_int (a_cons (dv 15) a_nil))) a_nil))) (a_cons (d_op do_add (d_tup (a_cons (d_tup a_nil) a_nil)) (d_bty c_tup rfl F.f_tuple bt_tuple (a_cons (PDF.e (PDF.of (fb_lc rfl sc__law_right.nd (i_rg2 rfl F.f_range d_int (d_op do_add (dv 15) d_int)) (own := [("v", 22)]) (blkOk_by (by kernel_rfl)) (fun _ _ _ _ _ => ⟨_, (g_name sc__law_right.nd (i := 22)), gw_name (by decide)⟩) (gwd_name (by decide)) (fun _ _ _ _ _ => ⟨_, ts_nil⟩) (fun _ _ _ _ _ => ⟨_, (d_tup (a_cons (dv 22) a_nil))⟩)))) a_nil))) a_nil))))))
    (ss_cons (s_set (i := 14) sc__law_right.nd (PDF.x (f_catO 14 (PDF.e (PDF.of (fb_lc rfl sc__law_right.nd (i_seq (d_tup (a_cons d_int (a_cons d_int a_nil)))) (own := [("long", 21)]) (blkOk_by (by kernel_rfl)) (fun _ _ _ _ _ => ⟨_, (g_name sc__law_right.nd (i := 21)), gw_name (by decide)⟩) (gwd_name (by decide)) (fun _ _ _ _ _ => ⟨_, ts_nil⟩) (fun _ _ _ _ _ => ⟨_, (d_tup (a_cons (d_tup (a_cons d_str (a_cons (d_op do_mul (d_tup (a_cons d_int a_nil)) (dv 21)) a_nil))) (a_cons d_int a_nil)))⟩)))))))
    (ss_freeze 14 (ss_one (s_ret (dg_callU (ok__law_judged F) (hr.mono (by decide)) rfl (u_cons 0 (a_cons (PDF.e (PDF.of (fb_lc rfl sc__law_right.nd (i_seq (dv 14)) (own := [("claim", 23), ("paper", 24)]) (blkOk_by (by kernel_rfl)) (fun _ _ _ _ _ => ⟨_, (g_tup rfl (gs_cons (g_name sc__law_right.nd (i := 23)) (gs_cons (g_name sc__law_right.nd (i := 24)) gs_nil))), (gw_tup (gw_cons (gw_name (by decide)) (gw_cons (gw_name (by decide)) gw_nil)))⟩) ((gwd_tup (gwd_cons (gwd_name (by decide)) (gwd_cons (gwd_name (by decide)) gwd_nil)))) (fun _ _ _ _ _ => ⟨_, ts_nil⟩) (fun _ _ _ _ _ => ⟨_, (d_tup (a_cons (dv 23) (a_cons (dv 24) (a_cons (dg_call (ok__law_takes F) (hr.mono (by decide)) rfl (a_cons (dv 23) (a_cons (dv 24) a_nil))) a_nil))))⟩)))) a_nil)))))))))))))))))))))))))))))))⟩) fun ds Pd _ h => h
theorem sc_law : FnScope nm_law ["script"] (defScope st_law) := ⟨rfl, rfl, rfl, by decide +kernel, rfl, by decide +kernel, by decide +kernel⟩
theorem bn_law : Bnd "law" st_law ["script"] := fun _ _ _ _ _ _ us hl => match us, hl with | [_], _ => rfl
theorem ok_law (F : Fx K w mg) : DefG P w K mg base "law" ["script"] 17 (spP K 1 pre_law) := defP F.a_law sc_law bn_law pre_law (d := d_law) (fun f cdv A out s H E hr => ⟨_, (ss_cons (s_for PassesOwn.never rfl (i_rg1 rfl F.f_range (d_blt (c_max2 rfl) rfl F.f_max bt_max (a_cons d_int (a_cons (d_blt (c_min2 rfl) rfl F.f_min bt_min (a_cons (d_lenS 0 rfl F.f_len bt_len) (a_cons d_int a_nil))) a_nil)))) (g_name sc_law.nd (i := 1)) (ss_one (s_if (t_not (t_val (dg_callM (ok__law_right F) (hr.mono (by decide)) rfl (df_call (ok__law_urn F) (hr.mono (by decide)) rfl (a_cons (dv 0) (a_cons (dv 1) a_nil)))))) (ss_one (s_ret d_bl)) ss_nil)))
    (ss_one (s_ret (dg_callM (ok__law_great_right F) (hr.mono (by decide)) rfl (df_call (ok__law_urn F) (hr.mono (by decide)) rfl (a_cons (dv 0) (a_cons d_int a_nil)))))))⟩) fun ds Pd _ h => h

end
end PD
namespace PD
open PySem PySem.Spec PyProof.Rows L2
/-! ### the readings, opened -/
section
variable {ρ : Env} {P : D → Prop} {R : List D → Prop} {S : DEnds} {s : Sl} {i j : Nat} {a b c : DE} {t u : DT} {xs ys : List D} {d e : D} {m n : Int} {A B : DA} {x y : DS} {g : DG}
@[simp] theorem sat_0 : sat (s :: ρ) 0 = s := rfl
@[simp] theorem sat_s : sat (s :: ρ) (i + 1) = sat ρ i := rfl
@[simp] theorem fzP_fz : Sl.fzP P (.fz d) ↔ (P d) := Iff.rfl
@[simp] theorem owP_ow : Sl.owP R (.ow xs) ↔ (R xs) := Iff.rfl
@[simp] theorem urP_ur {p : Prop} : Sl.urP p .ur ↔ (p) := Iff.rfl
@[simp] theorem scP_sc {ns : List Int} {Q : List Int → Prop} : Sl.scP Q (.fz (.scr ns)) ↔ (Q ns) := Iff.rfl
@[simp] theorem e_var : dVar i ρ P ↔ ((sat ρ i).fzP P) := Iff.rfl
@[simp] theorem e_c : dC d ρ P ↔ (P d) := Iff.rfl
@[simp] theorem e_bin {f : DO} : dBin f a b ρ P ↔ (a ρ fun x => b ρ fun y => f x y P) := Iff.rfl
@[simp] theorem e_un {f : D → (D → Prop) → Prop} : dUn f a ρ P ↔ (a ρ fun x => f x P) := Iff.rfl
@[simp] theorem e_ch {f f' : DO} : dCh f f' a b c ρ P ↔ (a ρ fun x => b ρ fun y => f x y fun z => z.blP fun t => if t = true then c ρ fun w => f' y w P else P (.bl false)) := Iff.rfl
@[simp] theorem e_and : dAndV a b ρ P ↔ (a ρ fun x => x.blP fun c => if c = true then b ρ P else P (.bl false)) := Iff.rfl
@[simp] theorem e_or : dOrV a b ρ P ↔ (a ρ fun x => x.blP fun c => if c = true then P (.bl true) else b ρ P) := Iff.rfl
@[simp] theorem e_if : dIf t a b ρ P ↔ (t ρ fun c => if c = true then a ρ P else b ρ P) := Iff.rfl
@[simp] theorem e_tup : dTup A ρ P ↔ (A ρ fun xs => xs.length ≤ sizeLine ∧ P (.tup xs)) := Iff.rfl
@[simp] theorem e_f : dF A ρ P ↔ (A ρ fun xs => P (.lst xs)) := Iff.rfl
@[simp] theorem e_call {k : Nat} {pre : Pre} : dCall k pre A ρ P ↔ (A ρ fun ds => ds.length = k ∧ pre ds P) := Iff.rfl
@[simp] theorem e_callF {k : Nat} {pre : PreF} : dCallF k pre A ρ R ↔ (A ρ fun ds => ds.length = k ∧ pre ds R) := Iff.rfl
@[simp] theorem e_callM {k : Nat} {pre : Pre} : dCallM k pre A ρ P ↔ (A ρ fun us => urn3 us ∧ k = 0 ∧ pre [] P) := Iff.rfl
@[simp] theorem e_cb {f : DC} : dCB f A ρ P ↔ (A ρ fun ds => f ds P) := Iff.rfl
@[simp] theorem e_kw {k : Nat} {h : {α : Type} → List α → List α} {q : DA → DE} : dKw k h q A ρ P ↔ (q (fun ρ P => A ρ fun ds => ds.length = k ∧ P (h ds)) ρ P) := Iff.rfl
@[simp] theorem e_uix : dUIx i ρ P ↔ ((sat ρ i).urP (∀ n : Int, P (.int n))) := Iff.rfl
@[simp] theorem e_lenO : dLenO i ρ P ↔ ((sat ρ i).owP fun ds => P (.int ds.length)) := Iff.rfl
@[simp] theorem e_ixO : dIxO i a ρ P ↔ ((sat ρ i).owP fun ds => a ρ fun x => x.intP fun k => optP P (atI ds k)) := Iff.rfl
@[simp] theorem e_lenS : dLenS i ρ P ↔ ((sat ρ i).scP fun ns => P (.int ns.length)) := Iff.rfl
@[simp] theorem e_ixS : dIxS i a ρ P ↔ ((sat ρ i).scP fun ns => a ρ fun x => x.intP fun k => optP (fun n => P (.int n)) (atI ns k)) := Iff.rfl
@[simp] theorem e_slS : dSlS i m ρ P ↔ ((sat ρ i).scP fun ns => P (.lst ((cut ns none (some m)).map D.int))) := Iff.rfl
@[simp] theorem a_nl : dNil ρ R ↔ (R []) := Iff.rfl
@[simp] theorem a_cs : dCons a A ρ R ↔ (a ρ fun x => A ρ fun xs => R (x :: xs)) := Iff.rfl
@[simp] theorem a_st : dStar a A ρ R ↔ (a ρ fun x => x.seqP fun ys => A ρ fun xs => R (ys ++ xs)) := Iff.rfl
@[simp] theorem a_urn : dUrn i A ρ R ↔ ((sat ρ i).urP (A ρ R)) := Iff.rfl
@[simp] theorem l_lst : dLstF A ρ R ↔ (A ρ fun xs => xs.length ≤ sizeLine ∧ R xs) := Iff.rfl
@[simp] theorem l_cat : dCatF a b ρ R ↔ a ρ fun x => b ρ fun y => x.lstP fun u => y.lstP fun v => u.length + v.length ≤ sizeLine ∧ R (u ++ v) := by
  refine Iff.of_eq ?_
  unfold dCatF
  congr 1; funext x
  congr 1; funext y
  cases x <;> try rfl
  cases y <;> rfl
@[simp] theorem l_rep : dRepF A b ρ R ↔ A ρ fun xs => b ρ fun y => y.intP fun k => (-(2 ^ 63) ≤ k ∧ k < 2 ^ 63 ∧ xs.length * k.toNat ≤ sizeLine) ∧ R (flatRep k.toNat xs) := by
  refine Iff.of_eq ?_
  unfold dRepF
  rfl
def listP (R : List D → Prop) : List D → Prop
  | [x] => x.seqP R
  | _ => False
@[simp] theorem l_list : dListF A ρ R ↔ A ρ fun ds => listP R ds := by
  refine Iff.of_eq ?_
  unfold dListF listP
  rfl
@[simp] theorem listP_1 : listP R [d] ↔ d.seqP R := Iff.rfl
@[simp] theorem p_no {Q : Option Int → Prop} : dNoP ρ Q ↔ (Q none) := Iff.rfl
@[simp] theorem p_pt {Q : Option Int → Prop} : dPart a ρ Q ↔ (a ρ fun x => x.intP fun i => Q (some i)) := Iff.rfl
def slO (d : D) (lo hi : Option Int) (P : D → Prop) : Prop := match d with
  | .tup xs => P (.tup (cut xs lo hi))
  | .lst xs => P (.lst (cut xs lo hi))
  | _ => False
@[simp] theorem e_sl {l h : DP} : dSl a l h ρ P ↔ (a ρ fun x => l ρ fun lo => h ρ fun hi => slO x lo hi P) := Iff.rfl
@[simp] theorem slO_tup {lo hi : Option Int} : slO (.tup xs) lo hi P ↔ (P (.tup (cut xs lo hi))) := Iff.rfl
@[simp] theorem slO_lst {lo hi : Option Int} : slO (.lst xs) lo hi P ↔ (P (.lst (cut xs lo hi))) := Iff.rfl
@[simp] theorem t_test {Q : Bool → Prop} : dTest a ρ Q ↔ (a ρ fun x => x.blP Q) := Iff.rfl
@[simp] theorem t_nt {Q : Bool → Prop} : dTNot t ρ Q ↔ (t ρ fun c => Q (!c)) := Iff.rfl
@[simp] theorem t_an {Q : Bool → Prop} : dTAnd t u ρ Q ↔ (t ρ fun c => if c = true then u ρ Q else Q false) := Iff.rfl
@[simp] theorem t_or {Q : Bool → Prop} : dTOr t u ρ Q ↔ (t ρ fun c => if c = true then Q true else u ρ Q) := Iff.rfl
@[simp] theorem t_yes {Q : Bool → Prop} : dYes ρ Q ↔ (Q true) := Iff.rfl
@[simp] theorem x_e {Q : Sl → Prop} : xE a ρ Q ↔ (a ρ fun x => Q (.fz x)) := Iff.rfl
@[simp] theorem x_f {Q : Sl → Prop} : xF A ρ Q ↔ (A ρ fun x => Q (.ow x)) := Iff.rfl
@[simp] theorem s_nx : dNext S ρ ↔ (S.nx ρ) := Iff.rfl
@[simp] theorem s_sq : dSeq x y S ρ ↔ (x { S with nx := fun ρ' => y S ρ' } ρ) := Iff.rfl
@[simp] theorem s_dr : dDrop a S ρ ↔ (a ρ fun _ => S.nx ρ) := Iff.rfl
@[simp] theorem s_rt : dRet a S ρ ↔ (a ρ S.rt) := Iff.rfl
@[simp] theorem s_rn : dRetN S ρ ↔ (S.rt .non) := Iff.rfl
@[simp] theorem s_rO : dRetO i S ρ ↔ ((sat ρ i).owP fun ds => S.rt (.lst ds)) := Iff.rfl
@[simp] theorem s_rF : dRetF A S ρ ↔ (A ρ S.rf) := Iff.rfl
@[simp] theorem s_rOF : dRetOF i S ρ ↔ ((sat ρ i).owP S.rf) := Iff.rfl
@[simp] theorem s_iff : dIfS t x y S ρ ↔ (t ρ fun b => if b = true then x S ρ else y S ρ) := Iff.rfl
@[simp] theorem s_bk : dBreak S ρ ↔ (S.bk ρ) := Iff.rfl
@[simp] theorem s_ct : dCont S ρ ↔ (S.ct ρ) := Iff.rfl
@[simp] theorem s_nv : dNever S ρ ↔ (False) := Iff.rfl
@[simp] theorem s_st {q : DX} : dSet i q S ρ ↔ (q ρ fun s => S.nx (ρ.set i s)) := Iff.rfl
@[simp] theorem s_as : dAsg a g S ρ ↔ (a ρ fun d => g d ρ S.nx) := Iff.rfl
@[simp] theorem s_pr {q r : DX} : dPar i j q r S ρ ↔ (q ρ fun s => r ρ fun t => S.nx ((ρ.set i s).set j t)) := Iff.rfl
@[simp] theorem s_ap : dApp i a S ρ ↔ ((sat ρ i).owP fun ds => a ρ fun d => ds.length < sizeLine ∧ S.nx (ρ.set i (.ow (ds ++ [d])))) := Iff.rfl
@[simp] theorem s_us : dUSet i a S ρ ↔ (a ρ fun d => d.intP fun _ => (sat ρ i).urP (S.nx ρ)) := Iff.rfl
@[simp] theorem s_ud : dUDiv i j a S ρ ↔ (a ρ fun d => d.tupP (pairI fun b => (sat ρ i).urP (S.nx (ρ.set j (.fz b))))) := Iff.rfl
@[simp] theorem s_so : dSetO i a b S ρ ↔ (b ρ fun d => (sat ρ i).owP fun ds => a ρ fun x => x.intP fun k => optP (fun j => S.nx (ρ.set i (.ow (ds.set j d)))) (ixN ds.length k)) := Iff.rfl
@[simp] theorem s_fo {q : DI} : dFor q g x S ρ ↔ (q ρ fun ds => forP g x S ds ρ) := Iff.rfl
@[simp] theorem s_fz : dFreeze i x S ρ ↔ ((sat ρ i).owP fun ds => x S (ρ.set i (.fz (.lst ds)))) := Iff.rfl
@[simp] theorem f_nil : forP g x S [] ρ ↔ (S.nx ρ) := Iff.rfl
theorem f_cons : forP g x S (d :: xs) ρ ↔ (g d ρ fun ρ' => x { S with nx := forP g x S xs, ct := forP g x S xs, bk := S.nx } ρ') := Iff.rfl
@[simp] theorem i_sq : dSeqI a ρ R ↔ (a ρ fun x => x.seqP R) := Iff.rfl
@[simp] theorem i_r1 : dRg1 a ρ R ↔ (a ρ fun x => x.intP fun j => (-(2 ^ 62) ≤ j ∧ j < 2 ^ 62) ∧ R (rgI 0 j)) := Iff.rfl
@[simp] theorem i_r2 : dRg2 a b ρ R ↔ (a ρ fun x => b ρ fun y => x.intP fun i => y.intP fun j => (-(2 ^ 62) ≤ i ∧ i < 2 ^ 62 ∧ -(2 ^ 62) ≤ j ∧ j < 2 ^ 62) ∧ R (rgI i j)) := Iff.rfl
@[simp] theorem i_ei : dEnI a ρ R ↔ (a ρ fun x => x.seqP fun xs => R (enI xs)) := Iff.rfl
@[simp] theorem g_nm {Q : Env → Prop} : dName i d ρ Q ↔ (Q (ρ.set i (.fz d))) := Iff.rfl
@[simp] theorem g_tp {k : Nat} {h : DGs} {Q : Env → Prop} : dGTup k h d ρ Q ↔ (d.tupP fun ds => ds.length = k ∧ h ds ρ Q) := Iff.rfl
@[simp] theorem g_nl {Q : Env → Prop} : dGNil [] ρ Q ↔ (Q ρ) := Iff.rfl
@[simp] theorem g_cs {h : DGs} {Q : Env → Prop} : dGCons g h (d :: xs) ρ Q ↔ (g d ρ fun ρ' => h xs ρ' Q) := Iff.rfl
@[simp] theorem intP_i {Q : Int → Prop} : D.intP Q (.int n) ↔ (Q n) := Iff.rfl
@[simp] theorem blP_b {Q : Bool → Prop} {q : Bool} : D.blP Q (.bl q) ↔ (Q q) := Iff.rfl
@[simp] theorem seqP_l : D.seqP R (.lst xs) ↔ (R xs) := Iff.rfl
@[simp] theorem seqP_t : D.seqP R (.tup xs) ↔ (R xs) := Iff.rfl
@[simp] theorem lstP_l : D.lstP R (.lst xs) ↔ (R xs) := Iff.rfl
@[simp] theorem tupP_t : D.tupP R (.tup xs) ↔ (R xs) := Iff.rfl
@[simp] theorem pairI_p : pairI P [.int n, d] ↔ (P d) := Iff.rfl
@[simp] theorem optP_s {α : Type} {Q : α → Prop} {z : α} : optP Q (some z) ↔ (Q z) := Iff.rfl
@[simp] theorem one1_1 {f : D → (D → Prop) → Prop} : one1 f [d] P ↔ (f d P) := Iff.rfl
@[simp] theorem two2_2 {f : DO} : two2 f [d, e] P ↔ (f d e P) := Iff.rfl
@[simp] theorem oI_i {C : Int → Int → Prop} {q : Int → Int → D} : oI C q (.int m) (.int n) P ↔ ((C m n ∧ P (q m n))) := Iff.rfl
@[simp] theorem oI0_i {q : Int → Int → D} : oI0 q (.int m) (.int n) P ↔ (P (q m n)) := Iff.rfl
@[simp] theorem oAdd_i : oAdd (.int m) (.int n) P ↔ (P (.int (m + n))) := Iff.rfl
@[simp] theorem oAdd_t : oAdd (.tup xs) (.tup ys) P ↔ ((xs.length + ys.length ≤ sizeLine ∧ P (.tup (xs ++ ys)))) := Iff.rfl
@[simp] theorem oAdd_l : oAdd (.lst xs) (.lst ys) P ↔ ((xs.length + ys.length ≤ sizeLine ∧ P (.lst (xs ++ ys)))) := Iff.rfl
@[simp] theorem oMul_i : oMul (.int m) (.int n) P ↔ ((IntMulOk m n ∧ P (.int (m * n)))) := Iff.rfl
@[simp] theorem oEq_e : oEq d e P ↔ (((d.fit 60 = true ∧ e.fit 60 = true) ∧ P (.bl (d.eqv e)))) := Iff.rfl
@[simp] theorem oNe_e : oNe d e P ↔ (((d.fit 60 = true ∧ e.fit 60 = true) ∧ P (.bl (!d.eqv e)))) := Iff.rfl
@[simp] theorem oIx_e : oIx d (.int n) P ↔ (d.seqP fun xs => optP P (atI xs n)) := Iff.rfl
@[simp] theorem cInt_i : cInt [.int n] P ↔ (P (.int n)) := Iff.rfl
@[simp] theorem cInt_b {q : Bool} : cInt [.bl q] P ↔ (P (.int (if q then 1 else 0))) := Iff.rfl
@[simp] theorem cIsi_t {T : String} : cIsi [d, .ty T] P ↔ ((d.norm = true ∧ T ∈ plainTys ∧ P (.bl (isT d T)))) := Iff.rfl
@[simp] theorem fit_int {k : Nat} : (D.int n).fit k = true := by cases k <;> rfl
@[simp] theorem fit_bl {k : Nat} {q : Bool} : (D.bl q).fit k = true := by cases k <;> rfl
@[simp] theorem fit_non {k : Nat} : D.non.fit k = true := by cases k <;> rfl
@[simp] theorem fit_tup {k : Nat} : (D.tup xs).fit (k + 1) = xs.all (D.fit k) := rfl
@[simp] theorem fit_lst {k : Nat} : (D.lst xs).fit (k + 1) = xs.all (D.fit k) := rfl
@[simp] theorem fit_str {k : Nat} {z : Str} : (D.str z).fit k = PyData.strOk z := by cases k <;> rfl
@[simp] theorem c_nil {ρ : Env} : compP g t a ρ [] R ↔ (R []) := Iff.rfl
theorem c_cons : compP g t a ρ (d :: xs) R ↔ (g d ρ fun ρ1 => t ρ1 fun b => if b = true then a ρ1 fun y => compP g t a ρ xs fun ys => R (y :: ys) else compP g t a ρ xs R) := Iff.rfl
@[simp] theorem c_all' {q : DI} {vs : List Nat} : dComp q g t a vs ρ R ↔ (q ρ fun ds => ((vs.all fun v => (sat ρ v).still) = true ∧ ds.length ≤ sizeLine) ∧ compP g t a (wipeE ρ vs) ds R) := Iff.rfl
end
@[simp] theorem sizeLine_eq : sizeLine = 16777216 := by unfold sizeLine; rfl
/-! ### == of data -/
@[simp] theorem eqv_ii {m n : Int} : (D.int m).eqv (.int n) = (m == n) := by
  simp [D.eqv, D.py, PyData.eqv]
end PD

namespace PD
open PySem PySem.Spec PyProof.Rows L2
/-! ### more readings, opened -/
section
variable {ρ : Env} {P : D → Prop} {R : List D → Prop} {S : DEnds} {s : Sl} {i j k : Nat} {a b c : DE} {t u : DT} {xs ys : List D} {d e : D} {m n : Int} {A B : DA} {x y : DS} {g : DG} {q q1 q2 : DX}
@[simp] theorem lentE_c : lentE (s :: ρ) = s.lent :: lentE ρ := rfl
@[simp] theorem lentE_n : lentE [] = [] := rfl
@[simp] theorem lent_o : Sl.lent (.ow xs) = .fz (.lst xs) := rfl
@[simp] theorem lent_f : Sl.lent (.fz d) = .fz d := rfl
@[simp] theorem lent_n : Sl.lent .no = .no := rfl
@[simp] theorem lent_u : Sl.lent .ur = .ur := rfl
@[simp] theorem e_lend : dLend a ρ P ↔ a (lentE ρ) fun x => x.noL = true ∧ P x := Iff.rfl
@[simp] theorem f_lend' : dLendF A ρ R ↔ A (lentE ρ) fun x => noLs x = true ∧ R x := Iff.rfl
@[simp] theorem t_lend' {Q : Bool → Prop} : dLendT t ρ Q ↔ t (lentE ρ) Q := Iff.rfl
@[simp] theorem noL_i : D.noL (.int n) = true := rfl
@[simp] theorem noL_b {z : Bool} : D.noL (.bl z) = true := rfl
@[simp] theorem noL_t : D.noL (.tup xs) = noLs xs := rfl
@[simp] theorem noLs_n : noLs [] = true := rfl
@[simp] theorem noLs_c : noLs (d :: xs) = (d.noL && noLs xs) := rfl
@[simp] theorem e_back : dBack a ρ P ↔ a ρ (backP P) := Iff.rfl
@[simp] theorem back_t : backP P (.tup xs) ↔ P (.tup xs.reverse) := Iff.rfl
@[simp] theorem back_l : backP P (.lst xs) ↔ P (.lst xs.reverse) := Iff.rfl
@[simp] theorem l_srt : dSrtA A ρ R ↔ A ρ (srtP R) := Iff.rfl
@[simp] theorem srt_l : srtP R [.lst xs] ↔ SrtOk xs ∧ R (srt xs) := Iff.rfl
@[simp] theorem srt_t : srtP R [.tup xs] ↔ (xs.length ≤ sizeLine ∧ (∀ x ∈ xs, ∀ y ∈ xs, x.alike y = true) ∧ (∀ x ∈ xs, x.fit 59 = true) ∧ ((∀ x ∈ xs, ∃ y ys, x = .tup (y :: ys)) ∨ ∀ x ∈ xs, x ≠ .non ∧ ∀ ys, x ≠ .tup ys)) ∧ R (srt xs) := Iff.rfl
@[simp] theorem l_catO : dCatO i a ρ R ↔ (sat ρ i).owP fun us => a ρ fun y => y.lstP fun vs => us.length + vs.length ≤ sizeLine ∧ R (us ++ vs) := Iff.rfl
@[simp] theorem s_p3 : dPar3 i j k q q1 q2 S ρ ↔ q ρ fun s => q1 ρ fun t => q2 ρ fun u => S.nx (((ρ.set i s).set j t).set k u) := Iff.rfl
@[simp] theorem i_rd : dRgD a b ρ R ↔ a ρ fun x => b ρ fun y => x.intP fun i => y.intP fun j => (-(2 ^ 62) ≤ i ∧ i < 2 ^ 62 ∧ -(2 ^ 62) ≤ j ∧ j < 2 ^ 62) ∧ R (rgD i j) := Iff.rfl
@[simp] theorem l_rg1 : dLRg1 a ρ R ↔ a ρ fun x => x.intP fun j => RgOk 0 j ∧ R (rgI 0 j) := Iff.rfl
@[simp] theorem l_rg2 : dLRg2 a b ρ R ↔ a ρ fun x => b ρ fun y => x.intP fun i => y.intP fun j => RgOk i j ∧ R (rgI i j) := Iff.rfl
@[simp] theorem e_cnt : dCnt a b ρ P ↔ a ρ fun x => x.lstP fun xs => optP (fun ns => b ρ fun y => y.intP fun k => P (.int ((ns.count k : Nat) : Int))) (intsOf xs) := Iff.rfl
@[simp] theorem oInS_t {f : Bool → Bool} {ks : List (List Int)} : oInS f (.tup xs) (.st ks) P ↔ optP (fun k => P (.bl (f (decide (k ∈ ks))))) (intsOf xs) := Iff.rfl
@[simp] theorem stP_s {ks : List (List Int)} {Q : List (List Int) → Prop} : D.stP Q (.st ks) ↔ Q ks := Iff.rfl
@[simp] theorem oLtD_e : oLtD d e P ↔ d.ord e ∧ P (.bl (d.lt e)) := Iff.rfl
@[simp] theorem oInT_s {T : Str} {es : List (Str × D)} {z : Str} {f : Str} : oInT T es (.str z) (.fn f) P ↔ f = T ∧ P (.bl (es.lookup z).isSome) := Iff.rfl
@[simp] theorem oIxT_s {T : Str} {es : List (Str × D)} {z : Str} {f : Str} : oIxTb T es (.fn f) (.str z) P ↔ f = T ∧ optP P (es.lookup z) := Iff.rfl
@[simp] theorem e_callV {tb : FnTab} : dCallV i tb A ρ P ↔ (sat ρ i).fzP (fnP fun x => optP (fun q => A ρ fun ds => ds.length = q.1 ∧ q.2 ds P) (tb.lookup x)) := Iff.rfl
@[simp] theorem fnP_f {Q : Str → Prop} {z : Str} : fnP Q (.fn z) ↔ Q z := Iff.rfl
@[simp] theorem e_nv : dNv ρ P ↔ False := Iff.rfl
@[simp] theorem t_nv' {Q : Bool → Prop} : dNvT ρ Q ↔ False := Iff.rfl
@[simp] theorem c_all2 {i1 i2 : DI} {g1 : DG} {vs v1 : List Nat} : dComp2 i1 g t i2 g1 u a vs v1 ρ R ↔ i1 ρ fun ds => (vs.all fun v => (sat ρ v).still) = true ∧ compP2 g t i2 g1 u a (wipeE ρ vs) v1 0 ds R := Iff.rfl
@[simp] theorem c2_nil {i2 : DI} {g1 : DG} {v1 : List Nat} : compP2 g t i2 g1 u a ρ v1 i [] R ↔ R [] := Iff.rfl
theorem c2_cons {i2 : DI} {g1 : DG} {v1 : List Nat} : compP2 g t i2 g1 u a ρ v1 i (d :: xs) R ↔ (g d ρ fun ρ1 => t ρ1 fun b => if b = true then i2 ρ1 fun es => ((v1.all fun v => (sat ρ1 v).still) = true ∧ i + es.length ≤ sizeLine) ∧ compP g1 u a (wipeE ρ1 v1) es fun ys => ys.length ≤ es.length ∧ compP2 g t i2 g1 u a ρ v1 (i + ys.length) xs fun zs => R (ys ++ zs)
    else compP2 g t i2 g1 u a ρ v1 i xs R) := Iff.rfl
@[simp] theorem cStr_i : cStrI [.int n] P ↔ n.natAbs.log2 < 1920 ∧ P (.str (toString n)) := Iff.rfl
end
end PD

namespace PD
open PySem PySem.Spec PyProof.Rows L2
/-! ### what is reckoned, without a choice -/
abbrev Ev (e : DE) (ρ : Env) (v : D) : Prop := ∀ P : D → Prop, P v → e ρ P
abbrev EvT (t : DT) (ρ : Env) (b : Bool) : Prop := ∀ P : Bool → Prop, P b → t ρ P
abbrev EvF (a : DA) (ρ : Env) (xs : List D) : Prop := ∀ P : List D → Prop, P xs → a ρ P
abbrev Fn (pre : Pre) (ds : List D) (v : D) : Prop := ∀ P : D → Prop, P v → pre ds P
section
variable {ρ : Env} {v x y z : D} {xs ys : List D} {a b c : DE} {t u : DT} {A B : DA} {S : DEnds} {p q : Bool} {s r : DS} {i j : Nat}
theorem ev_var (h : sat ρ i = .fz v) : Ev (dVar i) ρ v := fun P k => by show (sat ρ i).fzP P; rw [h]; exact k
theorem ev_c : Ev (dC v) ρ v := fun P k => k
theorem ev_bin {f : DO} (ha : Ev a ρ x) (hb : Ev b ρ y) (h : ∀ P : D → Prop, P z → f x y P) : Ev (dBin f a b) ρ z := fun P k => ha _ (hb _ (h P k))
theorem ev_call {n : Nat} {pre : Pre} (hA : EvF A ρ xs) (hn : xs.length = n) (h : Fn pre xs v) : Ev (dCall n pre A) ρ v := fun P k => hA _ ⟨hn, h P k⟩
theorem ev_cb {f : DC} (hA : EvF A ρ xs) (h : ∀ P : D → Prop, P v → f xs P) : Ev (dCB f A) ρ v := fun P k => hA _ (h P k)
theorem ev_f (hA : EvF A ρ xs) : Ev (dF A) ρ (.lst xs) := fun P k => hA _ k
theorem ev_tup (hA : EvF A ρ xs) (h : xs.length ≤ sizeLine) : Ev (dTup A) ρ (.tup xs) := fun P k => hA _ ⟨h, k⟩
theorem ev_if (ht : EvT t ρ p) (ha : p = true → Ev a ρ v) (hb : p = false → Ev b ρ v) : Ev (dIf t a b) ρ v := fun P k => ht _ (by
  cases p with
  | true => exact ha rfl P k
  | false => exact hb rfl P k)
theorem ev_and (ha : Ev a ρ (.bl p)) (hb : p = true → Ev b ρ (.bl q)) : Ev (dAndV a b) ρ (.bl (p && q)) := fun P k => ha _ (by
  cases p with
  | true => exact hb rfl P k
  | false => exact k)
theorem ev_or (ha : Ev a ρ (.bl p)) (hb : p = false → Ev b ρ (.bl q)) : Ev (dOrV a b) ρ (.bl (p || q)) := fun P k => ha _ (by
  cases p with
  | false => exact hb rfl P k
  | true => exact k)
theorem ev_not (ha : Ev a ρ (.bl p)) : Ev (dUn (fun x P => x.blP fun i => P (.bl (!i))) a) ρ (.bl (!p)) := fun P k => ha _ k
theorem et_v (ha : Ev a ρ (.bl p)) : EvT (dTest a) ρ p := fun P k => ha _ k
theorem et_not (ht : EvT t ρ p) : EvT (dTNot t) ρ (!p) := fun P k => ht _ k
theorem et_and (ha : EvT t ρ p) (hb : p = true → EvT u ρ q) : EvT (dTAnd t u) ρ (p && q) := fun P k => ha _ (by
  cases p with
  | true => exact hb rfl P k
  | false => exact k)
theorem et_or (ha : EvT t ρ p) (hb : p = false → EvT u ρ q) : EvT (dTOr t u) ρ (p || q) := fun P k => ha _ (by
  cases p with
  | false => exact hb rfl P k
  | true => exact k)
theorem ef_nil : EvF dNil ρ [] := fun P k => k
theorem ef_cons (ha : Ev a ρ x) (hA : EvF A ρ xs) : EvF (dCons a A) ρ (x :: xs) := fun P k => ha _ (hA _ k)
theorem ef_seq (ha : Ev a ρ x) (h : x = .lst xs ∨ x = .tup xs) : EvF (dSeqI a) ρ xs := fun P k => ha _ (by rcases h with rfl | rfl <;> exact k)
theorem ef_lst (hA : EvF A ρ xs) (h : xs.length ≤ sizeLine) : EvF (dLstF A) ρ xs := fun P k => hA _ ⟨h, k⟩
/-! statements -/
theorem si_t (ht : EvT t ρ p) (h : if p = true then s S ρ else r S ρ) : dIfS t s r S ρ := ht _ h
theorem si_f (ht : EvT t ρ false) (h : r S ρ) : dIfS t s r S ρ := ht _ h
theorem si_y (ht : EvT t ρ true) (h : s S ρ) : dIfS t s r S ρ := ht _ h
theorem ss_e (ha : Ev a ρ v) (h : S.nx (ρ.set i (.fz v))) : dSet i (xE a) S ρ := ha _ h
theorem ss_F (hA : EvF A ρ xs) (h : S.nx (ρ.set i (.ow xs))) : dSet i (xF A) S ρ := hA _ h
theorem sr_e (ha : Ev a ρ v) (h : S.rt v) : dRet a S ρ := ha _ h
theorem sr_F (hA : EvF A ρ xs) (h : S.rf xs) : dRetF A S ρ := hA _ h
/-! comprehensions -/
theorem ef_comp {I : DI} {w : Nat} {e : DE} {vs : List Nat} (f : D → D) (hi : EvF I ρ xs) (hs : (vs.all fun v => (sat ρ v).still) = true) (hl : xs.length ≤ sizeLine) (he : ∀ d ∈ xs, Ev e ((wipeE ρ vs).set w (.fz d)) (f d)) : EvF (dComp I (dName w) dYes e vs) ρ (xs.map f) := fun P k => hi _ ⟨⟨hs, hl⟩, by
  have go : ∀ (xs : List D) (R : List D → Prop), (∀ d ∈ xs, Ev e ((wipeE ρ vs).set w (.fz d)) (f d)) → R (xs.map f) → compP (dName w) dYes e (wipeE ρ vs) xs R := by
    intro xs
    induction xs with
    | nil => intro R _ h; exact h
    | cons d xs ih =>
      intro R he h
      rw [c_cons]
      show e ((wipeE ρ vs).set w (.fz d)) _
      exact he d List.mem_cons_self _ (ih _ (fun x hx => he x (List.mem_cons_of_mem _ hx)) h)
  exact go xs P he k⟩
theorem ef_fil {I : DI} {w : Nat} {e : DE} {vs : List Nat} (g : D → Bool) (f : D → D) (hi : EvF I ρ xs) (hs : (vs.all fun v => (sat ρ v).still) = true) (hl : xs.length ≤ sizeLine) (ht : ∀ d ∈ xs, EvT t ((wipeE ρ vs).set w (.fz d)) (g d)) (he : ∀ d ∈ xs, g d = true → Ev e ((wipeE ρ vs).set w (.fz d)) (f d)) : EvF (dComp I (dName w) t e vs) ρ ((xs.filter g).map f) := fun P k => hi _ ⟨⟨hs, hl⟩, by
  have go : ∀ (xs : List D) (R : List D → Prop), (∀ d ∈ xs, EvT t ((wipeE ρ vs).set w (.fz d)) (g d)) → (∀ d ∈ xs, g d = true → Ev e ((wipeE ρ vs).set w (.fz d)) (f d)) → R ((xs.filter g).map f) → compP (dName w) t e (wipeE ρ vs) xs R := by
    intro xs
    induction xs with
    | nil => intro R _ _ h; exact h
    | cons d xs ih =>
      intro R ht he h
      rw [c_cons]
      show t ((wipeE ρ vs).set w (.fz d)) _
      refine ht d List.mem_cons_self _ ?_
      have ht' := fun x hx => ht x (List.mem_cons_of_mem d hx)
      have he' := fun x hx => he x (List.mem_cons_of_mem d hx)
      rw [List.filter_cons] at h
      by_cases q : g d = true
      · rw [if_pos q] at h ⊢
        exact he d List.mem_cons_self q _ (ih _ ht' he' h)
      · rw [if_neg q] at h ⊢
        exact ih _ ht' he' h
  exact go xs P ht he k⟩
/-- two names -/
theorem ef_comp2 {I : DI} {w w' : Nat} {e : DE} {vs : List Nat} (ps : List (D × D)) (f : D → D → D) (hi : EvF I ρ (ps.map fun p => .tup [p.1, p.2])) (hs : (vs.all fun v => (sat ρ v).still) = true) (hl : ps.length ≤ sizeLine) (he : ∀ p ∈ ps, Ev e (((wipeE ρ vs).set w (.fz p.1)).set w' (.fz p.2)) (f p.1 p.2)) : EvF (dComp I (dGTup 2 (dGCons (dName w) (dGCons (dName w') dGNil))) dYes e vs) ρ (ps.map fun p => f p.1 p.2) := fun P k => hi _ ⟨⟨hs, by rw [List.length_map]; exact hl⟩, by
  have go : ∀ (ps : List (D × D)) (R : List D → Prop), (∀ p ∈ ps, Ev e (((wipeE ρ vs).set w (.fz p.1)).set w' (.fz p.2)) (f p.1 p.2)) → R (ps.map fun p => f p.1 p.2) → compP (dGTup 2 (dGCons (dName w) (dGCons (dName w') dGNil))) dYes e (wipeE ρ vs) (ps.map fun p => .tup [p.1, p.2]) R := by
    intro ps
    induction ps with
    | nil => intro R _ h; exact h
    | cons d ps ih =>
      intro R he h
      rw [List.map_cons, c_cons]
      refine ⟨rfl, ?_⟩
      show e (((wipeE ρ vs).set w (.fz d.1)).set w' (.fz d.2)) _
      exact he d List.mem_cons_self _ (ih _ (fun x hx => he x (List.mem_cons_of_mem _ hx)) h)
  exact go ps P he k⟩
theorem zpI_map (xs ys : List D) : zpI xs ys = (xs.zip ys).map fun p => D.tup [p.1, p.2] := by
  unfold zpI
  rw [List.zip, List.map_zipWith]
theorem enI_map (xs : List D) : enI xs = (xs.zipIdx.map fun p => (D.int (p.2 : Nat), p.1)).map fun p => D.tup [p.1, p.2] := by
  unfold enI
  have go : ∀ (xs : List D) (s : Nat), (List.range' s xs.length).zipWith (fun i x => D.tup [.int (i : Nat), x]) xs = ((xs.zipIdx s).map fun p => (D.int (p.2 : Nat), p.1)).map fun p => D.tup [p.1, p.2] := by
    intro xs
    induction xs with
    | nil => intro s; rfl
    | cons x xs ih =>
      intro s
      rw [List.length_cons, List.range'_succ, List.zipWith_cons_cons, List.zipIdx_cons, List.map_cons, List.map_cons, ih]
  rw [List.range_eq_range']
  exact go xs 0
/-! all, any -/
theorem bls_map {α : Type} (f : α → Bool) (xs : List α) : blsOf (xs.map fun d => D.bl (f d)) = some (xs.map f) := by
  have e : (xs.map fun d => D.bl (f d)) = (xs.map f).map D.bl := by rw [List.map_map]; rfl
  rw [e, blsOf_map]
theorem ev_all {α : Type} {us : List α} (f : α → Bool) (hA : EvF A ρ (us.map fun d => D.bl (f d))) : Ev (dCB cAll (dCons (dF A) dNil)) ρ (.bl (us.all f)) := fun P k => hA _ (by
  show optP _ (blsOf _)
  rw [bls_map]
  show P _
  rw [List.all_map]
  exact k)
theorem ev_any {α : Type} {us : List α} (f : α → Bool) (hA : EvF A ρ (us.map fun d => D.bl (f d))) : Ev (dCB cAny (dCons (dF A) dNil)) ρ (.bl (us.any f)) := fun P k => hA _ (by
  show optP _ (blsOf _)
  rw [bls_map]
  show P _
  rw [List.any_map]
  exact k)
/-! isinstance, len -/
theorem isT_tup (d : D) : isT d "tuple" = match d with | .tup _ => true | _ => false := by cases d <;> simp [isT, D.cls, clsT]
theorem isT_str (d : D) : isT d "str" = match d with | .str _ => true | _ => false := by cases d <;> simp [isT, D.cls, clsT]
def D.isTup : D → Bool
  | .tup _ => true
  | _ => false
def D.isStr : D → Bool
  | .str _ => true
  | _ => false
theorem ev_isTup (ha : Ev a ρ x) (hn : x.norm = true) : Ev (dCB cIsi (dCons a (dCons (dC (.ty "tuple")) dNil))) ρ (.bl x.isTup) := fun P k => ha _ ⟨hn, by decide, by rw [isT_tup]; cases x <;> exact k⟩
theorem ev_isStr (ha : Ev a ρ x) (hn : x.norm = true) : Ev (dCB cIsi (dCons a (dCons (dC (.ty "str")) dNil))) ρ (.bl x.isStr) := fun P k => ha _ ⟨hn, by decide, by rw [isT_str]; cases x <;> exact k⟩
theorem ev_len (ha : Ev a ρ x) (h : x = .lst xs ∨ x = .tup xs) : Ev (dCB cLen (dCons a dNil)) ρ (.int xs.length) := fun P k => ha _ (by rcases h with rfl | rfl <;> exact k)
theorem ev_ix {n : Int} (ha : Ev a ρ x) (hb : Ev b ρ (.int n)) (h : x = .lst xs ∨ x = .tup xs) (hg : atI xs n = some v) : Ev (dBin oIx a b) ρ v := ev_bin ha hb fun P k => by
  show D.seqP (fun xs => optP P (atI xs n)) x
  rcases h with rfl | rfl <;> (show optP P (atI xs n); rw [hg]; exact k)
theorem ev_eq (ha : Ev a ρ x) (hb : Ev b ρ y) (hx : x.fit 60 = true) (hy : y.fit 60 = true) : Ev (dBin oEq a b) ρ (.bl (x.eqv y)) := ev_bin ha hb fun P k => ⟨⟨hx, hy⟩, k⟩
theorem ev_ne (ha : Ev a ρ x) (hb : Ev b ρ y) (hx : x.fit 60 = true) (hy : y.fit 60 = true) : Ev (dBin oNe a b) ρ (.bl (!x.eqv y)) := ev_bin ha hb fun P k => ⟨⟨hx, hy⟩, k⟩
theorem ev_ch {m n k : Int} (ha : Ev a ρ (.int m)) (hb : Ev b ρ (.int n)) (hc : Ev c ρ (.int k)) : Ev (dCh oLe oLe a b c) ρ (.bl (decide (m ≤ n) && decide (n ≤ k))) := fun P h => ha _ (hb _ (by
  show if decide (m ≤ n) = true then _ else _
  cases q : decide (m ≤ n) with
  | true => rw [q] at h; exact hc _ h
  | false => rw [q] at h; exact h))
theorem si_go (ht : EvT t ρ false) (h : S.nx ρ) : dIfS t s dNext S ρ := ht _ h
theorem sq_go (ht : EvT t ρ false) (h : r S ρ) : dSeq (dIfS t s dNext) r S ρ := ht _ h
theorem sq_y (ht : EvT t ρ true) (h : s { S with nx := fun ρ' => r S ρ' } ρ) : dSeq (dIfS t s dNext) r S ρ := ht _ h
theorem sq_ret (ht : EvT t ρ true) (ha : Ev a ρ v) (h : S.rt v) : dSeq (dIfS t (dRet a) dNext) r S ρ := ht _ (ha _ h)
theorem sq_e (ha : Ev a ρ v) (h : r S (ρ.set i (.fz v))) : dSeq (dSet i (xE a)) r S ρ := ha _ h
theorem sq_F (hA : EvF A ρ xs) (h : r S (ρ.set i (.ow xs))) : dSeq (dSet i (xF A)) r S ρ := hA _ h
theorem tup_cases (d : D) : (∃ xs, d = .tup xs) ∨ d.isTup = false := by cases d <;> first | exact .inl ⟨_, rfl⟩ | exact .inr rfl
theorem et_orL (ha : EvT t ρ true) : EvT (dTOr t u) ρ true := fun P k => ha _ k
theorem et_orR (ha : EvT t ρ false) (hb : EvT u ρ p) : EvT (dTOr t u) ρ p := fun P k => ha _ (hb P k)
theorem et_andL (ha : EvT t ρ false) : EvT (dTAnd t u) ρ false := fun P k => ha _ k
theorem et_andR (ha : EvT t ρ true) (hb : EvT u ρ p) : EvT (dTAnd t u) ρ p := fun P k => ha _ (hb P k)
theorem et_noTup (ha : Ev a ρ x) (hn : x.norm = true) (h : x.isTup = false) : EvT (dTNot (dTest (dCB cIsi (dCons a (dCons (dC (.ty "tuple")) dNil))))) ρ true := fun P k => by
  have := et_not (et_v (ev_isTup ha hn)) P
  rw [h] at this
  exact this k
theorem et_aTup (ha : Ev a ρ (.tup xs)) : EvT (dTNot (dTest (dCB cIsi (dCons a (dCons (dC (.ty "tuple")) dNil))))) ρ false := fun P k => et_not (et_v (ev_isTup ha rfl)) P k
theorem et_is {b : Bool} (ht : EvT t ρ p) (h : p = b) : EvT t ρ b := h ▸ ht
theorem ev_is (ha : Ev a ρ x) (h : x = y) : Ev a ρ y := h ▸ ha
end
end PD

namespace BN
open PySem PySem.W
/-- lots of k out of n things -/
def bin : Nat → Nat → Nat
  | _, 0 => 1
  | 0, _ + 1 => 0
  | n + 1, k + 1 => bin n k + bin n (k + 1)
@[simp] theorem bin_0 (n : Nat) : bin n 0 = 1 := by cases n <;> rfl
@[simp] theorem bin_z (k : Nat) : bin 0 (k + 1) = 0 := rfl
theorem bin_s (n k : Nat) : bin (n + 1) (k + 1) = bin n k + bin n (k + 1) := rfl
theorem bin_gt : ∀ {n k : Nat}, n < k → bin n k = 0
  | 0, 0, h => absurd h (Nat.lt_irrefl _)
  | 0, k + 1, _ => rfl
  | n + 1, 0, h => absurd h (Nat.not_lt_zero _)
  | n + 1, k + 1, h => by rw [bin_s, bin_gt (Nat.lt_of_succ_lt_succ h), bin_gt (Nat.lt_of_succ_lt h)]
theorem bin_self : ∀ n : Nat, bin n n = 1
  | 0 => rfl
  | n + 1 => by rw [bin_s, bin_self n, bin_gt (Nat.lt_succ_self n)]
theorem bin_1 : ∀ n : Nat, bin n 1 = n
  | 0 => rfl
  | n + 1 => by rw [bin_s, bin_0, bin_1 n, Nat.add_comm]
theorem bin_pos : ∀ {n k : Nat}, k ≤ n → 0 < bin n k
  | n, 0, _ => by rw [bin_0]; decide
  | 0, k + 1, h => absurd h (Nat.not_succ_le_zero _)
  | n + 1, k + 1, h => by rw [bin_s]; exact Nat.add_pos_left (bin_pos (Nat.le_of_succ_le_succ h)) _
/-- one factor more -/
theorem bin_mul : ∀ n k : Nat, bin n (k + 1) * (k + 1) = bin n k * (n - k)
  | 0, 0 => rfl
  | 0, k + 1 => by simp
  | n + 1, 0 => by rw [bin_1, bin_0]; simp
  | n + 1, k + 1 => by
    have h1 := bin_mul n k
    have h2 := bin_mul n (k + 1)
    rw [bin_s n (k + 1), bin_s n k, Nat.add_mul, Nat.add_mul, h2]
    by_cases h : k + 1 ≤ n
    · have e1 : n + 1 - (k + 1) = n - k := by omega
      have e2 : n - k = (n - (k + 1)) + 1 := by omega
      rw [e1, ← h1, Nat.mul_add (bin n (k + 1)) (k + 1) 1, e2, Nat.mul_add (bin n (k + 1)) (n - (k + 1)) 1]
      omega
    · by_cases h' : k = n
      · subst h'
        rw [bin_gt (Nat.lt_succ_self k)]
        simp
      · have z1 : bin n (k + 1) = 0 := bin_gt (by omega)
        have z0 : bin n k = 0 := bin_gt (by omega)
        rw [z1, z0]
        simp
theorem bin_sym : ∀ {n k : Nat}, k ≤ n → bin n k = bin n (n - k)
  | n, 0, _ => by rw [bin_0, Nat.sub_zero, bin_self]
  | 0, k + 1, h => absurd h (Nat.not_succ_le_zero _)
  | n + 1, k + 1, h => by
    rw [Nat.add_sub_add_right]
    by_cases h' : k = n
    · subst h'; rw [Nat.sub_self, bin_0, bin_self]
    · obtain ⟨j, hj⟩ : ∃ j, n - k = j + 1 := ⟨n - k - 1, by omega⟩
      have e1 := bin_sym (n := n) (k := k) (by omega)
      have e2 := bin_sym (n := n) (k := k + 1) (by omega)
      have e3 : n - (k + 1) = j := by omega
      rw [bin_s, hj, bin_s, e1, e2, hj, e3, Nat.add_comm]
theorem bin_mono {n m k : Nat} (h : n ≤ m) : bin n k ≤ bin m k := by
  induction h with
  | refl => exact Nat.le_refl _
  | step h ih =>
    refine Nat.le_trans ih ?_
    cases k with
    | zero => rw [bin_0, bin_0]; exact Nat.le_refl _
    | succ k => rw [bin_s]; exact Nat.le_add_left _ _
/-- at least as far as it goes -/
theorem bin_far : ∀ {n k : Nat}, 1 ≤ k → n + 1 ≤ bin n k + k
  | 0, k, h => by omega
  | n + 1, 1, _ => by rw [bin_1]; omega
  | n + 1, k + 2, _ => by
    rw [bin_s]
    have h1 := bin_far (n := n) (k := k + 1) (by omega)
    omega
/-! ### the library's own -/
def fac : Nat → Nat
  | 0 => 1
  | n + 1 => fac n * (n + 1)
theorem fac_pos : ∀ n, 0 < fac n
  | 0 => Nat.one_pos
  | n + 1 => Nat.mul_pos (fac_pos n) (Nat.succ_pos n)
theorem fp_eq (n : Nat) : ∀ k : Nat, k ≤ n → Builtin.Math.fallingProduct (n : Int) k = ((bin n k * fac k : Nat) : Int)
  | 0, _ => by rw [mc_fp_zero, bin_0]; rfl
  | k + 1, h => by
    rw [mc_fp_succ, fp_eq n k (by omega)]
    have e : ((n : Int) - (k : Nat)) = ((n - k : Nat) : Int) := by omega
    rw [e, ← Int.natCast_mul]
    congr 1
    show bin n k * fac k * (n - k) = bin n (k + 1) * (fac k * (k + 1))
    have := bin_mul n k
    calc bin n k * fac k * (n - k) = bin n k * (n - k) * fac k := by rw [Nat.mul_assoc, Nat.mul_comm (fac k), ← Nat.mul_assoc]
      _ = bin n (k + 1) * (k + 1) * fac k := by rw [this]
      _ = bin n (k + 1) * (fac k * (k + 1)) := by rw [Nat.mul_assoc, Nat.mul_comm (k + 1)]
theorem fp_div (n k : Nat) (h : k ≤ n) : Builtin.Math.fallingProduct (n : Int) k / Builtin.Math.fallingProduct (k : Int) k = (bin n k : Nat) := by
  rw [fp_eq n k h, fp_eq k k (Nat.le_refl k), bin_self, Nat.one_mul, ← Int.natCast_ediv, Nat.mul_div_cancel _ (fac_pos k)]
theorem comb_eq (n k : Nat) : mcComb (n : Int) (k : Int) = (bin n k : Nat) := by
  by_cases h : n < k
  · rw [mcComb_above (by omega), bin_gt h]; rfl
  · have hle : k ≤ n := by omega
    by_cases h2 : k ≤ n - k
    · have hm : min (k : Int) ((n : Int) - k) = (k : Nat) := by omega
      rw [mcComb_at (by omega) (by omega) hm, Int.toNat_natCast]
      exact fp_div n k hle
    · have hm : min (k : Int) ((n : Int) - k) = ((n - k : Nat) : Int) := by omega
      rw [mcComb_at (by omega) (by omega) hm, Int.toNat_natCast, bin_sym hle]
      exact fp_div n (n - k) (by omega)
/-! ### most next -/
/-- the greatest top -/
def Top (n k t : Nat) : Prop := bin t k ≤ n ∧ n < bin (t + 1) k
theorem Top.uniq {n k t u : Nat} (h : Top n k t) (h' : Top n k u) : t = u := by
  rcases Nat.lt_trichotomy t u with c | c | c
  · have := bin_mono (k := k) (show t + 1 ≤ u by omega)
    have h1 := h.2; have h2 := h'.1
    omega
  · exact c
  · have := bin_mono (k := k) (show u + 1 ≤ t by omega)
    have h1 := h'.2; have h2 := h.1
    omega
inductive MN : Nat → Nat → Nat → Prop where
  | zero (k : Nat) : MN 0 k 0
  | step {n k t r : Nat} : 0 < n → Top n (k + 1) t → MN (n - bin t (k + 1)) k r → MN n (k + 1) (bin (t + 1) (k + 2) + r)
theorem MN.uniq : ∀ {n k r r' : Nat}, MN n k r → MN n k r' → r = r'
  | _, _, _, _, .zero _, .zero _ => rfl
  | _, _, _, _, .zero _, .step h _ _ => absurd h (Nat.lt_irrefl _)
  | _, _, _, _, .step h _ _, .zero _ => absurd h (Nat.lt_irrefl _)
  | _, _, _, _, .step _ t m, .step _ t' m' => by
    have := t.uniq t'
    subst this
    rw [MN.uniq m m']
/-- there is a top -/
theorem top_ex {n k : Nat} (hk : 1 ≤ k) (hn : 1 ≤ n) : ∃ t, k ≤ t ∧ Top n k t := by
  have far : ∃ u, n < bin u k := ⟨n + k, by have := bin_far (n := n + k) hk; omega⟩
  have go : ∀ d u, u = k + d → n < bin u k → ∃ t, k ≤ t ∧ Top n k t := by
    intro d
    induction d with
    | zero => intro u hu h; have hu : u = k := hu; rw [hu, bin_self] at h; omega
    | succ d ih =>
      intro u hu h
      subst hu
      by_cases c : n < bin (k + d) k
      · exact ih _ rfl c
      · exact ⟨k + d, Nat.le_add_right _ _, by omega, h⟩
  obtain ⟨u, hu⟩ := far
  by_cases c : k ≤ u
  · exact go (u - k) u (by omega) hu
  · rw [bin_gt (by omega)] at hu; omega
theorem top_1 (n : Nat) : Top n 1 n := by unfold Top; rw [bin_1, bin_1]; omega
theorem mn_ex : ∀ (k n : Nat), (k = 0 → n = 0) → ∃ r, MN n k r
  | 0, n, h => ⟨0, by rw [h rfl]; exact .zero 0⟩
  | k + 1, n, _ => by
    by_cases hn : n = 0
    · subst hn; exact ⟨0, .zero _⟩
    · obtain ⟨t, _, ht⟩ := top_ex (k := k + 1) (by omega) (show 1 ≤ n by omega)
      obtain ⟨r, hr⟩ := mn_ex k (n - bin t (k + 1)) fun e => by
        subst e
        have := ht.uniq (top_1 n)
        subst this
        rw [bin_1]; omega
      exact ⟨_, .step (by omega) ht hr⟩
open Classical in
/-- most next -/
noncomputable def mn (n k : Nat) : Nat := if h : ∃ r, MN n k r then h.choose else 0
theorem mn_is {n k : Nat} (h : k = 0 → n = 0) : MN n k (mn n k) := by
  unfold mn
  rw [dif_pos (mn_ex k n h)]
  exact (mn_ex k n h).choose_spec
theorem MN.eq {n k r : Nat} (h : MN n k r) : r = mn n k := by
  unfold mn
  have e : ∃ r, MN n k r := ⟨r, h⟩
  rw [dif_pos e]
  exact h.uniq e.choose_spec
end BN

namespace PD
open PySem PySem.Spec PyProof.Rows L2 BN
/-! ### tools -/
theorem mul_l {i j : Int} (h : -(2 ^ 64) < i ∧ i < 2 ^ 64) : IntMulOk i j := (CMul.ok (.inl h))
theorem mul_r {i j : Int} (h : -(2 ^ 64) < j ∧ j < 2 ^ 64) : IntMulOk i j := (CMul.ok (.inr h))
theorem comp_map {v : Nat} {e : DE} {ρ : Env} {R : List D → Prop} (f : D → D) : ∀ {ds : List D}, (∀ d ∈ ds, ∀ P : D → Prop, P (f d) → e (ρ.set v (.fz d)) P) → R (ds.map f) → compP (dName v) dYes e ρ ds R
  | [], _, h => h
  | d :: ds, he, h => by
    rw [c_cons]
    simp
    exact he d List.mem_cons_self _ (comp_map (R := fun ys => R (f d :: ys)) f (fun x hx => he x (List.mem_cons_of_mem _ hx)) h)
theorem comp_fil {v : Nat} {t : DT} {e : DE} {ρ : Env} {R : List D → Prop} (c : D → Bool) (f : D → D) : ∀ {ds : List D}, (∀ d ∈ ds, ∀ Q : Bool → Prop, Q (c d) → t (ρ.set v (.fz d)) Q) → (∀ d ∈ ds, ∀ P : D → Prop, P (f d) → e (ρ.set v (.fz d)) P) → R ((ds.filter c).map f) → compP (dName v) t e ρ ds R
  | [], _, _, h => h
  | d :: ds, ht, he, h => by
    rw [c_cons]
    simp
    refine ht d List.mem_cons_self _ ?_
    have ht' := fun x hx => ht x (List.mem_cons_of_mem d hx)
    have he' := fun x hx => he x (List.mem_cons_of_mem d hx)
    rw [List.filter_cons] at h
    by_cases q : c d = true
    · rw [if_pos q] at h ⊢
      exact he d List.mem_cons_self _ (comp_fil (R := fun ys => R (f d :: ys)) c f ht' he' h)
    · rw [if_neg q] at h ⊢
      exact comp_fil c f ht' he' h
theorem all_id {α : Type} (f : α → Bool) (xs : List α) : (xs.map f).all id = xs.all f := by rw [List.all_map]; rfl
/-! ### whole numbers -/
def D.isI : D → Bool
  | .int _ => true
  | _ => false
def D.btw (lo hi : Int) : D → Bool
  | .int i => decide (lo ≤ i) && decide (i ≤ hi)
  | _ => false
theorem whole_ok {d : D} {P : D → Prop} (hn : d.norm = true) (h : P (.bl d.isI)) : pre_is_whole [d] P := by
  simp [pre_is_whole, d_is_whole, startD, nm_is_whole, hn]
  cases d <;> simp_all [isT, D.cls, clsT, D.isI, D.norm]
theorem btw_ok {d : D} {lo hi : Int} {P : D → Prop} (hn : d.norm = true) (h : P (.bl (d.btw lo hi))) : pre_is_between [d, .int lo, .int hi] P := by
  simp [pre_is_between, d_is_between, startD, nm_is_between]
  refine whole_ok hn ?_
  cases d <;> simp_all [D.isI, D.btw]
  split <;> simp_all
theorem lbtw_ok {d : D} {lo hi : Int} {P : D → Prop} (hn : d.norm = true) (h : P (.bl (d.btw lo hi))) : pre__law_is_whole [d, .int lo, .int hi] P := by
  simp [pre__law_is_whole, d__law_is_whole, startD, nm__law_is_whole, hn]
  cases d <;> simp_all [isT, D.cls, clsT, D.btw, D.norm]
  split <;> simp_all
/-! ### lots -/
theorem comb_ok {n k : Nat} {f : D → Prop} (h : f (.int (bin n k))) (hn : n < 2 ^ 64) (hk : k ≤ 9000) : cComb [.int n, .int k] f := by
  simp only [two2_2, oI_i]
  refine ⟨⟨by omega, by omega, by omega, by omega⟩, ?_⟩
  rw [comb_eq]; exact h
theorem choose_for {n : Nat} {S : DEnds} {a b : Sl} : ∀ (js : List Nat) (i : Nat) (c : Sl), js = List.range' i js.length → i + js.length ≤ n → n < 2 ^ 63 → (∀ c, S.nx [.fz (.int n), b, .fz (.int (bin n (i + js.length))), c]) →
    forP (dName 3) (dSet 2 (xE (dBin oDiv (dBin oMul (dVar 2) (dBin oSub (dVar 0) (dVar 3))) (dBin oAdd (dVar 3) (dC (.int 1)))))) S (js.map fun j => D.int (0 + (j : Nat))) [.fz (.int n), b, .fz (.int (bin n i)), c]
  | [], i, c, _, _, _, h => by simpa using h c
  | j :: js, i, c, e, hi, hn, h => by
    rw [List.map_cons, f_cons]
    rw [List.length_cons, List.range'_succ] at e
    injection e with e1 e2
    subst e1
    rw [List.length_cons] at hi h
    have m := bin_mul n j
    have d1 : ((bin n j : Nat) : Int) * ((n : Int) - (j : Nat)) = ((bin n (j + 1) * (j + 1) : Nat) : Int) := by
      rw [m, Int.natCast_mul]; congr 1; omega
    have d2 : ((bin n (j + 1) * (j + 1) : Nat) : Int).fdiv ((j : Nat) + 1) = ((bin n (j + 1) : Nat) : Int) := by
      rw [Int.natCast_mul]
      exact Int.mul_fdiv_cancel _ (by omega)
    have e3 : j + (js.length + 1) = j + 1 + js.length := by omega
    rw [e3] at h
    have ih := choose_for (S := S) (a := a) (b := b) js (j + 1) (.fz (.int (j : Nat))) e2 (by omega) hn h
    simp
    refine ⟨mul_r ⟨by omega, by omega⟩, ⟨by omega, ?_⟩, ?_⟩
    · have h1 := Nat.log2_le_self ((j : Int) + 1).natAbs
      have h2 : ((j : Int) + 1).natAbs.log2 < 63 + 1 := Nat.log2_lt (by omega) |>.mpr (by omega)
      omega
    · rw [d1, d2]
      simpa using ih
theorem choose_ok {n k : Nat} {P : D → Prop} (hn : n < 2 ^ 62) (hk : k < 2 ^ 62) (h : P (.int (bin n k))) : pre__law_choose [.int n, .int k] P := by
  simp [pre__law_choose, d__law_choose, startD, nm__law_choose]
  by_cases c : n < k
  · rw [bin_gt c] at h
    simpa [c] using h
  · have c1 : ¬ ((k : Int) < 0 ∨ (n : Int) < k) := by omega
    have c2 : ¬ ((k : Int) < 0) := by omega
    have c3 : ¬ ((n : Int) < k) := by omega
    simp [c2, c]
    refine ⟨by omega, ?_⟩
    have := choose_for (n := n) (a := .no) (b := .fz (.int k)) (S := { nx := fun ρ' => Sl.fzP P (sat ρ' 2), rt := P }) (List.range k) 0 .no (by simp [List.range_eq_range']) (by simp; omega) (by omega) (fun c => by simpa using h)
    simpa [rgI] using this
theorem choose_at {i j : Int} (n k : Nat) {P : D → Prop} (hi : i = (n : Nat)) (hj : j = (k : Nat)) (hn : n < 2 ^ 62) (hk : k < 2 ^ 62) (h : P (.int (bin n k))) : pre__law_choose [.int i, .int j] P := by
  subst hi hj
  exact choose_ok hn hk h
theorem comb_at {i j : Int} (n k : Nat) {f : D → Prop} (hi : i = (n : Nat)) (hj : j = (k : Nat)) (hn : n < 2 ^ 64) (hk : k ≤ 9000) (h : f (.int (bin n k))) : cComb [.int i, .int j] f := by
  subst hi hj
  exact comb_ok h hn hk
theorem atI_last {α : Type} (xs : List α) (x : α) : atI (xs ++ [x]) (-1) = some x := by
  unfold atI ixN
  have hl : (xs ++ [x]).length = xs.length + 1 := by simp
  rw [if_neg (by decide), if_pos (by omega), hl]
  have e : (-1 + ((xs.length + 1 : Nat) : Int)).toNat = xs.length := by omega
  have e' : (((xs.length + 1 : Nat) : Int) + -1).toNat = xs.length := by omega
  first
    | (show (xs ++ [x])[(-1 + ((xs.length + 1 : Nat) : Int)).toNat]? = some x; rw [e]; simp)
    | (show (xs ++ [x])[(((xs.length + 1 : Nat) : Int) + -1).toNat]? = some x; rw [e']; simp)
theorem ixN_at {n : Nat} {i : Int} (h0 : 0 ≤ i) (h1 : i < n) : ixN n i = some i.toNat := by
  unfold ixN
  rw [if_pos h0, if_pos h1]
theorem atI_nat {α : Type} {xs : List α} {i : Int} (n : Nat) (hi : i = (n : Nat)) (h : n < xs.length) : atI xs i = some xs[n] := by
  subst hi
  unfold atI
  rw [ixN_at (by omega) (by omega), Int.toNat_natCast]
  exact List.getElem?_eq_getElem h
end PD

namespace PD
open PySem PySem.Spec PyProof.Rows L2 BN
theorem s_wh {t : DT} {x : DS} {S : DEnds} {ρ : Env} : dWhile t x S ρ ↔ ∃ W : Nat → Env → Prop, (∃ m, W m ρ) ∧ ∀ m ρ, W m ρ → t ρ fun b => if b = true then x { S with nx := fun ρ' => ∃ m', m' < m ∧ W m' ρ', ct := fun ρ' => ∃ m', m' < m ∧ W m' ρ', bk := S.nx } ρ else S.nx ρ := Iff.rfl
theorem rgD_s (k : Nat) : rgD ((k + 1 : Nat) : Int) 0 = .int ((k + 1 : Nat) : Int) :: rgD (k : Nat) 0 := by
  unfold rgD
  have e1 : (((k + 1 : Nat) : Int) - 0).toNat = k + 1 := by omega
  have e2 : (((k : Nat) : Int) - 0).toNat = k := by omega
  rw [e1, e2, List.range_succ_eq_map, List.map_cons, List.map_map]
  have h1 : D.int (((k + 1 : Nat) : Int) + ((0 : Nat) : Int) * -1) = D.int ((k + 1 : Nat) : Int) := by congr 1
  rw [h1]
  congr 1
  refine List.map_congr_left fun j _ => ?_
  show D.int (((k + 1 : Nat) : Int) + ((j + 1 : Nat) : Int) * -1) = D.int ((k : Int) + (j : Int) * -1)
  congr 1
  omega
theorem rgD_0 : rgD ((0 : Nat) : Int) 0 = [] := rfl
theorem mn_0 (k : Nat) : mn 0 k = 0 := (MN.eq (.zero k)).symm
theorem mn_step {n k t : Nat} (h : 0 < n) (ht : Top n (k + 1) t) : mn n (k + 1) = bin (t + 1) (k + 2) + mn (n - bin t (k + 1)) k := by
  refine (MN.eq (.step h ht (mn_is fun e => ?_))).symm
  subst e
  have := ht.uniq (top_1 n)
  subst this
  rw [bin_1]; omega
def bodyMN : DS := (dSeq (dIfS (dTest (dBin oLt (dVar 4) (dC (.int 1)))) dBreak dNext)
    (dSeq (dSet 5 (xE (dIf (dTest (dBin oEq (dVar 2) (dC (.int 1)))) (dVar 4) (dVar 2))))
    (dSeq (dWhile (dTest (dBin oLe (dCall 2 pre__law_choose (dCons (dBin oAdd (dVar 5) (dC (.int 1))) (dCons (dVar 2) dNil))) (dVar 4))) (dSet 5 (xE (dBin oAdd (dVar 5) (dC (.int 1))))))
    (dSeq (dSet 4 (xE (dBin oSub (dVar 4) (dCall 2 pre__law_choose (dCons (dVar 5) (dCons (dVar 2) dNil))))))
    (dSet 3 (xE (dBin oAdd (dVar 3) (dCall 2 pre__law_choose (dCons (dBin oAdd (dVar 5) (dC (.int 1))) (dCons (dBin oAdd (dVar 2) (dC (.int 1))) dNil))))))))))
theorem top_le {l k t : Nat} (hk : 1 ≤ k) (h : bin t k ≤ l) : t ≤ l + k := by
  have := bin_far (n := t) hk
  omega
def whileMN : DS := dWhile (dTest (dBin oLe (dCall 2 pre__law_choose (dCons (dBin oAdd (dVar 5) (dC (.int 1))) (dCons (dVar 2) dNil))) (dVar 4))) (dSet 5 (xE (dBin oAdd (dVar 5) (dC (.int 1)))))
theorem while_mn {S : DEnds} {a b fd : Sl} {k l t : Nat} (hl : l ≤ 10 ^ 8) (hk : k ≤ 1000) (ht : bin t (k + 1) ≤ l) (h : ∀ t : Nat, Top l (k + 1) t → S.nx [a, b, .fz (.int ((k : Int) + 1)), fd, .fz (.int l), .fz (.int t)]) :
    whileMN S [a, b, .fz (.int ((k : Int) + 1)), fd, .fz (.int l), .fz (.int t)] := by
  unfold whileMN
  rw [s_wh]
  refine ⟨fun m ρ => ∃ u : Nat, ρ = [a, b, .fz (.int ((k : Int) + 1)), fd, .fz (.int l), .fz (.int u)] ∧ bin u (k + 1) ≤ l ∧ m = l + k + 2 - u, ⟨_, t, rfl, ht, rfl⟩, fun m ρ ⟨u, e1, e2, e3⟩ => ?_⟩
  subst e1
  have ul := top_le (by omega) e2
  simp
  refine choose_at (u + 1) (k + 1) (by omega) (by omega) (by omega) (by omega) ?_
  simp
  split
  · rename_i q
    have := top_le (by omega) q
    exact ⟨l + k + 2 - (u + 1), by omega, u + 1, by simp, q, rfl⟩
  · rename_i q
    exact h u ⟨e2, by omega⟩
theorem body_mn {S : DEnds} {a b c d : Sl} {k l f : Nat} (hl : l ≤ 10 ^ 8) (hk : k ≤ 1000) (l0 : l ≠ 0) (h : ∀ t : Nat, Top l (k + 1) t → S.nx [a, b, .fz (.int ((k + 1 : Nat) : Int)), .fz (.int ((f + bin (t + 1) (k + 2) : Nat) : Int)), .fz (.int ((l - bin t (k + 1) : Nat) : Int)), .fz (.int t)]) :
    bodyMN S [a, b, .fz (.int ((k + 1 : Nat) : Int)), .fz (.int f), .fz (.int l), d] := by
  have fin : ∀ t : Nat, Top l (k + 1) t → (dSeq (dSet 4 (xE (dBin oSub (dVar 4) (dCall 2 pre__law_choose (dCons (dVar 5) (dCons (dVar 2) dNil))))))
    (dSet 3 (xE (dBin oAdd (dVar 3) (dCall 2 pre__law_choose (dCons (dBin oAdd (dVar 5) (dC (.int 1))) (dCons (dBin oAdd (dVar 2) (dC (.int 1))) dNil))))))) S [a, b, .fz (.int ((k : Int) + 1)), .fz (.int f), .fz (.int l), .fz (.int t)] := fun t ht => by
    have tl := top_le (by omega) ht.1
    simp
    refine choose_at t (k + 1) rfl (by omega) (by omega) (by omega) ?_
    simp
    refine choose_at (t + 1) (k + 2) (by omega) (by omega) (by omega) (by omega) ?_
    simp
    have h1 := h t ht
    have h2 := ht.1
    have e1 : (((l - bin t (k + 1) : Nat) : Int)) = (l : Int) - (bin t (k + 1) : Nat) := by omega
    have e2 : ((f + bin (t + 1) (k + 2) : Nat) : Int) = (f : Int) + (bin (t + 1) (k + 2) : Nat) := by omega
    have e3 : ((k + 1 : Nat) : Int) = (k : Int) + 1 := by omega
    rw [e1, e2, e3] at h1
    exact h1
  have l1 : ¬ ((l : Int) < 1) := by omega
  have mid : ∀ t : Nat, bin t (k + 1) ≤ l → dSeq whileMN (dSeq (dSet 4 (xE (dBin oSub (dVar 4) (dCall 2 pre__law_choose (dCons (dVar 5) (dCons (dVar 2) dNil))))))
    (dSet 3 (xE (dBin oAdd (dVar 3) (dCall 2 pre__law_choose (dCons (dBin oAdd (dVar 5) (dC (.int 1))) (dCons (dBin oAdd (dVar 2) (dC (.int 1))) dNil))))))) S [a, b, .fz (.int ((k : Int) + 1)), .fz (.int f), .fz (.int l), .fz (.int t)] := fun t ht => by
    rw [s_sq]
    exact while_mn hl hk ht fun u hu => fin u hu
  have u1 : D.eqv (.int ((k : Int) + 1)) (.int 1) = decide (k = 0) := by
    rw [eqv_ii]
    by_cases q : k = 0
    · subst q; rfl
    · rw [decide_eq_false q, beq_eq_false_iff_ne]; omega
  unfold bodyMN
  rw [s_sq]
  simp only [s_iff, t_test, e_bin, e_var, sat_s, sat_0, fzP_fz, e_c, oI0_i, blP_b]
  rw [if_neg (by simpa using l1)]
  simp only [s_nx]
  rw [s_sq]
  simp only [s_st, x_e, e_if, t_test, e_bin, e_var, sat_s, sat_0, fzP_fz, e_c, oEq_e, blP_b, fit_int, true_and, List.set]
  have cast : ((k + 1 : Nat) : Int) = (k : Int) + 1 := by omega
  rw [cast, u1]
  by_cases k0 : k = 0
  · rw [if_pos (by simpa using k0)]
    exact mid l (by subst k0; rw [bin_1]; omega)
  · rw [if_neg (by simpa using k0)]
    have := mid (k + 1) (by rw [bin_self]; omega)
    rw [cast] at this
    exact this
theorem mn_for {S : DEnds} {a b : Sl} : ∀ (k l f : Nat) (c d : Sl), (k = 0 → l = 0) → l ≤ 10 ^ 8 → k ≤ 1000 → (∀ c e d, S.nx [a, b, c, .fz (.int ((f + mn l k : Nat) : Int)), e, d]) →
    forP (dName 2) bodyMN S (rgD (k : Nat) 0) [a, b, c, .fz (.int f), .fz (.int l), d]
  | 0, l, f, c, d, hz, _, _, h => by
    obtain rfl := hz rfl
    rw [rgD_0, f_nil]
    have := h c (.fz (.int (0 : Nat))) d
    rw [mn_0] at this
    exact this
  | k + 1, l, f, c, d, hz, hl, hk, h => by
    rw [rgD_s, f_cons]
    by_cases l0 : l = 0
    · subst l0
      rw [mn_0] at h
      simp [bodyMN]
      exact h _ _ _
    · refine body_mn (c := .no) hl (by omega) l0 fun t ht => ?_
      refine mn_for k (l - bin t (k + 1)) (f + bin (t + 1) (k + 2)) _ _ (fun e => ?_) (by omega) (by omega) fun c e d => ?_
      · subst e
        have := ht.uniq (top_1 l)
        subst this
        rw [bin_1]; omega
      · have := h c e d
        rw [mn_step (by omega) ht, ← Nat.add_assoc] at this
        exact this
theorem lmn_ok {i j : Int} (n k : Nat) {P : D → Prop} (hi : i = (n : Nat)) (hj : j = (k : Nat)) (hn : n ≤ 10 ^ 8) (hk : k ≤ 1000) (hz : 1 ≤ k) (h : P (.int (mn n k))) : pre__law_most_next [.int i, .int j] P := by
  subst hi hj
  simp [pre__law_most_next, d__law_most_next, startD, nm__law_most_next]
  refine ⟨by omega, ?_⟩
  refine mn_for k n 0 _ _ (by omega) hn hk fun c e d => ?_
  simpa using h
/-! ### the program's own -/
theorem gt_up {S : DEnds} {n k : Nat} {e : Sl} (hk : 1 ≤ k) (hk2 : k ≤ 1000) (hn : 1 ≤ n) (hn2 : n ≤ 10 ^ 8) (h : ∀ a b : Nat, 1 ≤ a → bin a k ≤ n → n < bin b k → b ≤ 10 ^ 9 → S.nx [.fz (.int n), .fz (.int k), .fz (.int a), .fz (.int b), e]) :
    dWhile (dTest (dBin oLe (dCB cComb (dCons (dVar 3) (dCons (dVar 1) dNil))) (dVar 0))) (dPar 2 3 (xE (dVar 3)) (xE (dBin oMul (dC (.int 2)) (dVar 3)))) S [.fz (.int n), .fz (.int k), .fz (.int k), .fz (.int k), e] := by
  rw [s_wh]
  refine ⟨fun m ρ => ∃ a b : Nat, ρ = [.fz (.int n), .fz (.int k), .fz (.int a), .fz (.int b), e] ∧ 1 ≤ a ∧ 1 ≤ b ∧ bin a k ≤ n ∧ b ≤ 2 * (n + k) ∧ m = 2 * (n + k) - b, ⟨_, k, k, rfl, hk, hk, by rw [bin_self]; exact hn, by omega, rfl⟩, fun m ρ ⟨a, b, e1, e2, e3, e4, e5, e6⟩ => ?_⟩
  subst e1
  simp only [t_test, e_bin, e_cb, a_cs, a_nl, e_var, sat_s, sat_0, fzP_fz]
  refine comb_at b k rfl rfl (by omega) (by omega) ?_
  simp only [oI0_i, blP_b]
  by_cases q : bin b k ≤ n
  · rw [if_pos (by simpa using q)]
    have := top_le hk q
    simp only [s_pr, x_e, e_var, e_bin, e_c, sat_s, sat_0, fzP_fz, oMul_i, List.set]
    refine ⟨mul_l ⟨by decide, by decide⟩, 2 * (n + k) - 2 * b, by omega, b, 2 * b, by simp, e3, by omega, q, by omega, rfl⟩
  · rw [if_neg (by simpa using q)]
    exact h a b e2 e4 (by omega) (by omega)
theorem gt_mid {S : DEnds} {n k : Nat} {a b : Nat} {e : Sl} (hk2 : k ≤ 1000) (ha : bin a k ≤ n) (hb : n < bin b k) (hb2 : b ≤ 10 ^ 9) (h : ∀ (t : Nat) (c d : Sl), Top n k t → S.nx [.fz (.int n), .fz (.int k), .fz (.int t), c, d]) :
    dWhile (dTest (dBin oGt (dBin oSub (dVar 3) (dVar 2)) (dC (.int 1)))) (dSeq (dSet 4 (xE (dBin oDiv (dBin oAdd (dVar 2) (dVar 3)) (dC (.int 2)))))
    (dIfS (dTest (dBin oLe (dCB cComb (dCons (dVar 4) (dCons (dVar 1) dNil))) (dVar 0))) (dSet 2 (xE (dVar 4))) (dSet 3 (xE (dVar 4))))) S [.fz (.int n), .fz (.int k), .fz (.int a), .fz (.int b), e] := by
  rw [s_wh]
  refine ⟨fun m ρ => ∃ (a b : Nat) (e : Sl), ρ = [.fz (.int n), .fz (.int k), .fz (.int a), .fz (.int b), e] ∧ bin a k ≤ n ∧ n < bin b k ∧ b ≤ 10 ^ 9 ∧ m = b - a, ⟨_, a, b, e, rfl, ha, hb, hb2, rfl⟩, fun m ρ ⟨a, b, e, e1, e2, e3, e4, e5⟩ => ?_⟩
  subst e1
  have lt : a < b := Classical.byContradiction fun z => by
    have := bin_mono (k := k) (show b ≤ a by omega)
    omega
  simp only [t_test, e_bin, e_var, e_c, sat_s, sat_0, fzP_fz, oI0_i, blP_b]
  by_cases q : a + 1 < b
  · rw [if_pos (by simp; omega)]
    have dv : ((a : Int) + (b : Int)).fdiv 2 = (((a + b) / 2 : Nat) : Int) := by
      rw [Int.fdiv_eq_ediv_of_nonneg _ (by decide)]
      omega
    rw [s_sq]
    simp only [s_st, x_e, e_bin, e_var, e_c, sat_s, sat_0, fzP_fz, oAdd_i, oI_i, List.set, dv]
    refine ⟨⟨by decide, by decide⟩, ?_⟩
    simp only [s_iff, t_test, e_bin, e_cb, a_cs, a_nl, e_var, sat_s, sat_0, fzP_fz]
    refine comb_at ((a + b) / 2) k rfl rfl (by omega) (by omega) ?_
    simp only [oI0_i, blP_b]
    by_cases z : bin ((a + b) / 2) k ≤ n
    · rw [if_pos (by simpa using z)]
      simp only [s_st, x_e, e_var, sat_s, sat_0, fzP_fz, List.set]
      exact ⟨b - (a + b) / 2, by omega, (a + b) / 2, b, _, rfl, z, e3, e4, rfl⟩
    · rw [if_neg (by simpa using z)]
      simp only [s_st, x_e, e_var, sat_s, sat_0, fzP_fz, List.set]
      exact ⟨(a + b) / 2 - a, by omega, a, (a + b) / 2, _, rfl, e2, by omega, by omega, rfl⟩
  · rw [if_neg (by simp; omega)]
    have : b = a + 1 := by omega
    subst this
    exact h a _ _ ⟨e2, e3⟩
theorem gt_ok {i j : Int} (n k : Nat) {P : D → Prop} (hi : i = (n : Nat)) (hj : j = (k : Nat)) (hk : 1 ≤ k) (hk2 : k ≤ 1000) (hn : 1 ≤ n) (hn2 : n ≤ 10 ^ 8) (h : ∀ t : Nat, Top n k t → P (.int t)) : pre_greatest_top [.int i, .int j] P := by
  subst hi hj
  unfold pre_greatest_top d_greatest_top
  rw [s_sq]
  simp only [startD, nm_greatest_top, s_pr, x_e, e_var, sat_s, sat_0, fzP_fz, List.set, List.map, List.length, List.replicate, List.cons_append, List.nil_append]
  rw [s_sq]
  refine gt_up hk hk2 hn hn2 fun a b _ h1 h2 h3 => ?_
  show dSeq _ _ _ _
  rw [s_sq]
  refine gt_mid hk2 h1 h2 h3 fun t c d ht => ?_
  simp
  exact h t ht
/-- the tops -/
inductive EX : Nat → Nat → List Nat → Prop where
  | zero (k : Nat) : EX 0 k []
  | step {n k t : Nat} {ts : List Nat} : 0 < n → Top n (k + 1) t → EX (n - bin t (k + 1)) k ts → EX n (k + 1) (t :: ts)
theorem EX.sum : ∀ {n k : Nat} {ts : List Nat}, EX n k ts → MN n k ((ts.zipIdx.map fun p => bin (p.1 + 1) (k - p.2 + 1)).sum)
  | _, k, _, .zero _ => by simpa using MN.zero k
  | _, k + 1, _, .step (t := t) (ts := ts) h ht hx => by
    have ih := EX.sum hx
    have e : ((t :: ts).zipIdx.map fun p => bin (p.1 + 1) (k + 1 - p.2 + 1)) = bin (t + 1) (k + 2) :: (ts.zipIdx.map fun p => bin (p.1 + 1) (k - p.2 + 1)) := by
      rw [List.zipIdx_cons, List.map_cons]
      congr 1
      rw [List.zipIdx_succ, List.map_map]
      refine List.map_congr_left fun p _ => ?_
      show bin (p.1 + 1) (k + 1 - (p.2 + 1) + 1) = _
      rw [Nat.add_sub_add_right]
    rw [e, List.sum_cons]
    exact .step h ht ih
theorem EX.len : ∀ {n k : Nat} {ts : List Nat}, EX n k ts → ts.length ≤ k
  | _, _, _, .zero _ => Nat.zero_le _
  | _, _, _, .step _ _ hx => by rw [List.length_cons]; exact Nat.succ_le_succ hx.len
theorem EX.le : ∀ {n k : Nat} {ts : List Nat}, EX n k ts → ∀ t ∈ ts, t ≤ n + k
  | _, _, _, .zero _, t, h => by cases h
  | _, k + 1, _, .step (n := n) _ ht hx, u, h => by
    rcases List.mem_cons.mp h with e | e
    · subst e; exact top_le (by omega) ht.1
    · have := hx.le u e
      omega
theorem exp_wh {S : DEnds} {n0 k0 : Sl} {n k : Nat} (hz : k = 0 → n = 0) (hk : k ≤ 1000) (hn : n ≤ 10 ^ 8) (h : ∀ (ts : List Nat) (c d : Sl), EX n k ts → S.nx [n0, k0, .ow (ts.map fun t => D.int (t : Nat)), c, d]) :
    dWhile (dTest (dBin oGt (dVar 3) (dC (.int 0)))) (dSeq (dApp 2 (dCall 2 pre_greatest_top (dCons (dVar 3) (dCons (dVar 4) dNil))))
    (dPar 3 4 (xE (dBin oSub (dVar 3) (dCB cComb (dCons (dIxO 2 (dUn (fun x P => x.intP fun i => P (.int (-i))) (dC (.int 1)))) (dCons (dVar 4) dNil))))) (xE (dBin oSub (dVar 4) (dC (.int 1)))))) S [n0, k0, .ow [], .fz (.int n), .fz (.int k)] := by
  rw [s_wh]
  refine ⟨fun m ρ => ∃ (ts : List Nat) (l : Nat), ρ = [n0, k0, .ow (ts.map fun t => D.int (t : Nat)), .fz (.int l), .fz (.int m)] ∧ (m = 0 → l = 0) ∧ l ≤ 10 ^ 8 ∧ m ≤ 1000 ∧ ts.length + m ≤ 1000 ∧ ∀ us, EX l m us → EX n k (ts ++ us), ⟨k, [], n, rfl, hz, hn, hk, by simpa using hk, fun us hu => hu⟩, fun m ρ ⟨ts, l, e1, e2, e3, e4, e6, e5⟩ => ?_⟩
  subst e1
  simp only [t_test, e_bin, e_var, e_c, sat_s, sat_0, fzP_fz, oI0_i, blP_b]
  by_cases q : l = 0
  · subst q
    rw [if_neg (by simp)]
    have := h (ts ++ []) (.fz (.int (0 : Nat))) (.fz (.int m)) (e5 [] (.zero m))
    rw [List.append_nil] at this
    exact this
  · rw [if_pos (by simp; omega)]
    obtain ⟨m, rfl⟩ : ∃ m', m = m' + 1 := ⟨m - 1, by omega⟩
    rw [s_sq]
    simp only [s_ap, e_call, a_cs, a_nl, e_var, sat_s, sat_0, fzP_fz, owP_ow, List.length_cons, List.length_nil, true_and]
    refine gt_ok l (m + 1) rfl rfl (by omega) e4 (by omega) e3 fun t ht => ?_
    refine ⟨by rw [List.length_map, sizeLine_eq]; omega, ?_⟩
    have tl := top_le (by omega) ht.1
    have last := atI_last (ts.map fun t => D.int (t : Nat)) (D.int (t : Nat))
    simp only [s_pr, x_e, e_bin, e_var, e_c, e_cb, a_cs, a_nl, e_ixO, e_un, intP_i, sat_s, sat_0, fzP_fz, owP_ow, List.set, last, optP_s]
    refine comb_at t (m + 1) rfl rfl (by omega) (by omega) ?_
    simp only [oI0_i]
    refine ⟨m, by omega, ts ++ [t], l - bin t (m + 1), ?_, fun e => ?_, by omega, by omega, by simp; omega, fun us hu => ?_⟩
    · have h1 := ht.1
      have c1 : (((l - bin t (m + 1) : Nat) : Int)) = (l : Int) - (bin t (m + 1) : Nat) := by omega
      have c2 : (((m + 1 : Nat) : Int) - 1) = (m : Nat) := by omega
      rw [c1, c2, List.map_append]
      rfl
    · subst e
      have := ht.uniq (top_1 l)
      subst this
      rw [bin_1]; omega
    · rw [List.append_assoc]
      exact e5 _ (.step (by omega) ht hu)
theorem exp_ok {i j : Int} (n k : Nat) {P : D → Prop} (hi : i = (n : Nat)) (hj : j = (k : Nat)) (hz : 1 ≤ k) (hk : k ≤ 1000) (hn : n ≤ 10 ^ 8) (h : ∀ ts : List Nat, EX n k ts → P (.tup (ts.map fun t => D.int (t : Nat)))) : pre_expansion_by [.int i, .int j] P := by
  subst hi hj
  unfold pre_expansion_by d_expansion_by
  rw [s_sq]
  simp only [startD, nm_expansion_by, s_p3, x_e, x_f, l_lst, a_nl, e_var, sat_s, sat_0, fzP_fz, List.set, List.map, List.length, List.replicate, List.cons_append, List.nil_append]
  refine ⟨by rw [sizeLine_eq]; omega, ?_⟩
  rw [s_sq]
  refine exp_wh (by omega) hk hn fun ts c d hx => ?_
  simp
  refine ⟨?_, h ts hx⟩
  have go : ∀ ts : List Nat, noLs (ts.map fun t => D.int (t : Nat)) = true := fun ts => by
    induction ts with
    | nil => rfl
    | cons t ts ih => simp [ih]
  exact go ts
theorem sum_cast : ∀ xs : List Nat, (xs.map fun x => ((x : Nat) : Int)).sum = ((xs.sum : Nat) : Int)
  | [] => rfl
  | x :: xs => by rw [List.map_cons, List.sum_cons, List.sum_cons, sum_cast xs]; omega
theorem mn_comp {k : Nat} {a b : Sl} {R : List D → Prop} : ∀ (ts : List Nat) (s : Nat), (∀ t ∈ ts, t ≤ 10 ^ 9) → s + ts.length ≤ k → k ≤ 1000 → R ((ts.zipIdx s).map fun p => D.int ((bin (p.1 + 1) (k - p.2 + 1) : Nat) : Int)) →
    compP (dGTup 2 (dGCons (dName 3) (dGCons (dName 4) dGNil))) dYes (dCB cComb (dCons (dBin oAdd (dVar 4) (dC (.int 1))) (dCons (dBin oAdd (dBin oSub (dVar 1) (dVar 3)) (dC (.int 1))) dNil))) [a, .fz (.int k), b, .no, .no] ((List.range' s ts.length).zipWith (fun i x => D.tup [.int (i : Nat), x]) (ts.map fun t => D.int (t : Nat))) R
  | [], s, _, _, _, h => h
  | t :: ts, s, ht, hs, hk, h => by
    rw [List.length_cons] at hs
    rw [List.length_cons, List.range'_succ, List.map_cons, List.zipWith_cons_cons, c_cons]
    have t9 := ht t List.mem_cons_self
    simp only [g_tp, tupP_t, List.length_cons, List.length_nil, true_and, g_cs, g_nm, g_nl, List.set, t_yes, if_true, e_cb, a_cs, a_nl, e_bin, e_var, e_c, sat_s, sat_0, fzP_fz, oAdd_i, oI0_i]
    refine comb_at (t + 1) (k - s + 1) (by omega) (by omega) (by omega) (by omega) ?_
    refine mn_comp (R := fun ys => R (D.int ((bin (t + 1) (k - s + 1) : Nat) : Int) :: ys)) ts (s + 1) (fun u hu => ht u (List.mem_cons_of_mem _ hu)) (by omega) hk ?_
    rw [List.zipIdx_cons, List.map_cons] at h
    exact h
theorem mn_ok {i j : Int} (n k : Nat) {P : D → Prop} (hi : i = (n : Nat)) (hj : j = (k : Nat)) (hz : 1 ≤ k) (hk : k ≤ 1000) (hn : n ≤ 10 ^ 8) (h : P (.int (mn n k))) : pre_most_next_by [.int i, .int j] P := by
  subst hi hj
  unfold pre_most_next_by d_most_next_by
  rw [s_sq]
  simp only [startD, nm_most_next_by, s_st, x_e, e_f, c_all', i_ei, e_call, a_cs, a_nl, e_var, sat_s, sat_0, fzP_fz, List.set, List.map, List.length, List.replicate, List.cons_append, List.nil_append]
  refine ⟨trivial, exp_ok n k rfl rfl hz hk hn fun ts hx => ?_⟩
  have hl := hx.len
  have hle := hx.le
  simp only [seqP_t]
  have e1 : enI (ts.map fun t => D.int (t : Nat)) = (List.range' 0 ts.length).zipWith (fun i x => D.tup [.int (i : Nat), x]) (ts.map fun t => D.int (t : Nat)) := by
    unfold enI
    rw [List.length_map, List.range_eq_range']
  refine ⟨⟨by simp [Sl.still], by rw [enI_len, List.length_map, sizeLine_eq]; omega⟩, ?_⟩
  rw [e1]
  refine mn_comp ts 0 (fun t ht => by have := hle t ht; omega) (by omega) hk ?_
  have e2 : (((ts.zipIdx 0).map fun p => bin (p.1 + 1) (k - p.2 + 1)).sum) = mn n k := MN.eq hx.sum
  have e3 : ((ts.zipIdx 0).map fun p => D.int ((bin (p.1 + 1) (k - p.2 + 1) : Nat) : Int)) = (((ts.zipIdx 0).map fun p => bin (p.1 + 1) (k - p.2 + 1)).map fun x => ((x : Nat) : Int)).map D.int := by
    rw [List.map_map, List.map_map]; rfl
  rw [e3]
  simp only [s_rt, e_cb, a_cs, a_nl, e_var, sat_s, sat_0, fzP_fz, one1_1, lstP_l, intsOf_map, optP_s]
  rw [sum_cast, e2]
  exact h
end PD

namespace PD
open PySem PySem.Spec PyProof.Rows L2 BN
/-! ### lists -/
def adjB {α : Type} (r : α → α → Bool) (l : List α) : Bool := (l.zip l.tail).all fun p => r p.1 p.2
theorem adjB_cons {α : Type} {r : α → α → Bool} {x y : α} {l : List α} : adjB r (x :: y :: l) = (r x y && adjB r (y :: l)) := rfl
theorem adj_pair {α : Type} {r : α → α → Bool} (tr : ∀ x y z, r x y = true → r y z = true → r x z = true) : ∀ l : List α, adjB r l = true ↔ l.Pairwise fun x y => r x y = true
  | [] => by simp [adjB]
  | [x] => by simp [adjB]
  | x :: y :: l => by
    rw [adjB_cons, Bool.and_eq_true, adj_pair tr (y :: l), List.pairwise_cons (a := x)]
    constructor
    · rintro ⟨h1, h2⟩
      refine ⟨fun z hz => ?_, h2⟩
      rcases List.mem_cons.mp hz with e | e
      · rw [e]; exact h1
      · exact tr x y z h1 ((List.pairwise_cons.mp h2).1 z e)
    · rintro ⟨h1, h2⟩
      exact ⟨h1 y List.mem_cons_self, h2⟩
theorem map_of_mem {α β : Type} (f : α → β) : ∀ {ys : List β}, (∀ y ∈ ys, ∃ x, f x = y) → ∃ zs : List α, ys = zs.map f
  | [], _ => ⟨[], rfl⟩
  | y :: ys, h => by
    obtain ⟨x, rfl⟩ := h y List.mem_cons_self
    obtain ⟨zs, rfl⟩ := map_of_mem f fun y hy => h y (List.mem_cons_of_mem _ hy)
    exact ⟨x :: zs, rfl⟩
/-! ### order of data -/
abbrev LO := PyProof.Rows.listOrd PyProof.Rows.itemOrd
def tk (d : D) : List (Int ⊕ List Nat) := PySem.W.keyToks d.py
theorem lt_eq (d e : D) : d.lt e = LO.blt (tk d) (tk e) := rfl
theorem lt_irr (d : D) : d.lt d = false := LO.irrefl _
theorem lt_tr {a b c : D} (h : a.lt b = true) (k : b.lt c = true) : a.lt c = true := LO.trans _ _ _ h k
theorem lt_neg {a b c : D} (h : b.lt a = false) (k : c.lt b = false) : c.lt a = false := by
  cases q : c.lt a with
  | false => rfl
  | true =>
    rcases LO.negTrans _ (tk b) _ q with z | z
    · have z : c.lt b = true := z
      rw [k] at z; cases z
    · have z : b.lt a = true := z
      rw [h] at z; cases z
theorem lt_tot {a b : D} (h : a.lt b = false) (k : b.lt a = false) : tk a = tk b := LO.total _ _ h k
theorem lt_anti {a b : D} (h : a.lt b = true) : b.lt a = false := by
  cases q : b.lt a with
  | false => rfl
  | true => have := lt_tr h q; rw [lt_irr] at this; cases this
theorem pyL_ints : ∀ ns : List Int, pyL (ns.map D.int) = ns.map PyData.int
  | [] => rfl
  | n :: ns => by rw [List.map_cons, pyL, pyL_ints ns, D.py]; rfl
theorem toks_ints : ∀ {ns ms : List Int} (a b : List (Int ⊕ List Nat)), PySem.W.keyToksAll (ns.map PyData.int) ++ a = PySem.W.keyToksAll (ms.map PyData.int) ++ b → ns = ms ∧ a = b
  | [], [], a, b, h => by
    simp only [List.map_nil, PySem.W.keyToksAll, List.cons_append, List.nil_append, List.cons.injEq, true_and] at h
    exact ⟨rfl, h⟩
  | [], m :: ms, a, b, h => by
    simp only [List.map_nil, List.map_cons, PySem.W.keyToksAll, List.cons_append, List.nil_append, List.cons.injEq, Sum.inl.injEq] at h
    exact absurd h.1 (by decide)
  | n :: ns, [], a, b, h => by
    simp only [List.map_nil, List.map_cons, PySem.W.keyToksAll, List.cons_append, List.nil_append, List.cons.injEq, Sum.inl.injEq] at h
    exact absurd h.1 (by decide)
  | n :: ns, m :: ms, a, b, h => by
    simp only [List.map_cons, PySem.W.keyToksAll, PySem.W.keyToks, List.cons_append, List.nil_append, List.cons.injEq, Sum.inl.injEq, true_and] at h
    obtain ⟨e1, e2⟩ := h
    obtain ⟨e3, e4⟩ := toks_ints a b e2
    exact ⟨by rw [e1, e3], e4⟩
theorem tk_tup (ns : List Int) : tk (.tup (ns.map D.int)) = PySem.W.keyToksAll (ns.map PyData.int) := by
  unfold tk
  rw [D.py, pyL_ints, PySem.W.keyToks]
theorem alike_ints : ∀ ns ms : List Int, PySem.W.alikeAll (ns.map PyData.int) (ms.map PyData.int) = true
  | [], _ => by simp [PySem.W.alikeAll]
  | _ :: _, [] => by simp [PySem.W.alikeAll]
  | n :: ns, m :: ms => by
    rw [List.map_cons, List.map_cons, PySem.W.alikeAll, alike_ints ns ms, Bool.and_true]
    simp [PySem.W.alike]
theorem eqvAll_ints (ns ms : List Int) : PyData.eqvAll (ns.map PyData.int) (ms.map PyData.int) = decide (ns = ms) := by
  by_cases h : ns = ms
  · subst h
    rw [decide_eq_true rfl]
    exact PySem.W.eqvAll_refl_alike _ (alike_ints ns ns)
  · rw [decide_eq_false h]
    cases q : PyData.eqvAll (ns.map PyData.int) (ms.map PyData.int) with
    | false => rfl
    | true =>
      have := (PySem.W.toksAll_eqv _ _ (alike_ints ns ms)).1 q
      have := toks_ints (ns := ns) (ms := ms) [] [] (by rw [List.append_nil, List.append_nil]; exact this)
      exact absurd this.1 h
@[simp] theorem eqv_tt (ns ms : List Int) : (D.tup (ns.map D.int)).eqv (.tup (ms.map D.int)) = decide (ns = ms) := by
  unfold D.eqv
  rw [D.py, D.py, pyL_ints, pyL_ints, PyData.eqv, eqvAll_ints]
@[simp] theorem eqv_ll (ns ms : List Int) : (D.lst (ns.map D.int)).eqv (.lst (ms.map D.int)) = decide (ns = ms) := by
  unfold D.eqv
  rw [D.py, D.py, pyL_ints, pyL_ints, PyData.eqv, eqvAll_ints]
theorem lt_ints (i j : Int) : (D.int i).lt (.int j) = decide (i < j) := by
  unfold D.lt
  rw [D.py, D.py]
  exact PySem.W.dataLt_int i j
/-! ### sorted rows of numbers -/
def nond (ns : List Int) : Bool := decide (ns.Pairwise (· ≤ ·))
theorem srt_pw (xs : List D) : (srt xs).Pairwise fun a b => (!b.lt a) = true := by
  unfold srt
  refine List.pairwise_mergeSort (fun a b c h k => ?_) (fun a b => ?_) xs
  · simp only [Bool.not_eq_true'] at h k ⊢
    exact lt_neg h k
  · cases q : b.lt a with
    | false => rfl
    | true => rw [lt_anti q]; rfl
theorem srt_perm (xs : List D) : (srt xs).Perm xs := List.mergeSort_perm _ _
theorem srt_same {xs : List D} (h : xs.Pairwise fun a b => (!b.lt a) = true) : srt xs = xs := List.mergeSort_of_pairwise h
theorem srt_ints (ns : List Int) : (D.lst (srt (ns.map D.int))).eqv (.lst (ns.map D.int)) = nond ns := by
  obtain ⟨ms, e⟩ := map_of_mem D.int (ys := srt (ns.map D.int)) fun y hy => by
    obtain ⟨x, _, rfl⟩ := List.mem_map.mp ((srt_perm _).mem_iff.mp hy)
    exact ⟨x, rfl⟩
  have pw : ∀ l : List Int, ((l.map D.int).Pairwise fun a b => (!b.lt a) = true) ↔ l.Pairwise (· ≤ ·) := fun l => by
    rw [List.pairwise_map]
    refine ⟨fun h => h.imp fun {a b} q => ?_, fun h => h.imp fun {a b} q => ?_⟩
    · rw [lt_ints] at q
      simpa using q
    · rw [lt_ints]
      simpa using q
  rw [e, eqv_ll]
  unfold nond
  by_cases h : ns.Pairwise (· ≤ ·)
  · rw [srt_same ((pw ns).mpr h)] at e
    have inj : ∀ a b : List Int, a.map D.int = b.map D.int → a = b := fun a b h => by
      have := congrArg intsOf h
      simpa using this
    rw [decide_eq_true h, decide_eq_true (inj _ _ e).symm]
  · rw [decide_eq_false h]
    refine decide_eq_false fun z => h ?_
    subst z
    rw [← pw, ← e]
    exact srt_pw _
/-! ### monomials -/
def D.ints : D → Option (List Int)
  | .tup xs => intsOf xs
  | _ => none
def D.isMon (v : Int) : D → Bool
  | .tup xs => xs.all (D.btw 1 v) && optB nond (intsOf xs)
  | _ => false
where optB (f : List Int → Bool) : Option (List Int) → Bool
  | some x => f x
  | none => false
theorem btw_ints {lo hi : Int} : ∀ {xs : List D}, xs.all (D.btw lo hi) = true → ∃ ns : List Int, xs = ns.map D.int ∧ ∀ n ∈ ns, lo ≤ n ∧ n ≤ hi
  | [], _ => ⟨[], rfl, fun n h => by cases h⟩
  | x :: xs, h => by
    rw [List.all_cons, Bool.and_eq_true] at h
    obtain ⟨ns, rfl, hn⟩ := btw_ints h.2
    cases x with
    | int i =>
      have h1 := h.1
      simp [D.btw] at h1
      refine ⟨i :: ns, rfl, fun n hm => ?_⟩
      rcases List.mem_cons.mp hm with e | e
      · rw [e]; exact h1
      · exact hn n e
    | _ => simp [D.btw] at h
inductive Ok (B : Nat) : D → Prop where
  | non : Ok B .non
  | bl (b : Bool) : Ok B (.bl b)
  | int (i : Int) : Ok B (.int i)
  | str (x : Str) : PyData.strOk x = true → Ok B (.str x)
  | dct : Ok B .dct
  | tup (xs : List D) : xs.length ≤ B → (∀ x ∈ xs, Ok B x) → Ok B (.tup xs)
  | lst (xs : List D) : xs.length ≤ B → (∀ x ∈ xs, Ok B x) → Ok B (.lst xs)
theorem Ok.norm {B : Nat} {d : D} (h : Ok B d) : d.norm = true := by cases h <;> rfl
theorem Ok.tupI {B : Nat} {xs : List D} (h : Ok B (.tup xs)) : xs.length ≤ B ∧ ∀ x ∈ xs, Ok B x := by cases h with | tup _ a b => exact ⟨a, b⟩
theorem Ok.lstI {B : Nat} {xs : List D} (h : Ok B (.lst xs)) : xs.length ≤ B ∧ ∀ x ∈ xs, Ok B x := by cases h with | lst _ a b => exact ⟨a, b⟩
end PD

namespace PD
open PySem PySem.Spec PyProof.Rows L2 BN
theorem cut_tail {α : Type} (xs : List α) : cut xs (some 1) none = xs.tail := by
  unfold cut HT.sIx
  cases xs with
  | nil => simp
  | cons x xs => simp
theorem whole_fn {d : D} (hn : d.norm = true) : Fn pre_is_whole [d] (.bl d.isI) := fun P h => whole_ok hn h
theorem btw_fn {d : D} {lo hi : Int} (hn : d.norm = true) : Fn pre_is_between [d, .int lo, .int hi] (.bl (d.btw lo hi)) := fun P h => btw_ok hn h
theorem lbtw_fn {d : D} {lo hi : Int} (hn : d.norm = true) : Fn pre__law_is_whole [d, .int lo, .int hi] (.bl (d.btw lo hi)) := fun P h => lbtw_ok hn h
theorem nond_adj (ns : List Int) : adjB (fun x y => decide (x ≤ y)) ns = nond ns := by
  have h := adj_pair (r := fun x y : Int => decide (x ≤ y)) (fun x y z a b => by simp at *; omega) ns
  unfold nond
  by_cases q : ns.Pairwise (· ≤ ·)
  · rw [decide_eq_true q, h.mpr (q.imp fun {a b} z => by simpa using z)]
  · rw [decide_eq_false q]
    cases z : adjB (fun x y : Int => decide (x ≤ y)) ns with
    | false => rfl
    | true => exact absurd ((h.mp z).imp fun {a b} z => by simpa using z) q
def leD : D → D → Bool
  | .int i, .int j => decide (i ≤ j)
  | _, _ => false
theorem zip_map2 {α β : Type} (f : α → β) : ∀ xs ys : List α, (xs.map f).zip (ys.map f) = (xs.zip ys).map fun p => (f p.1, f p.2)
  | [], _ => by simp
  | _ :: _, [] => by simp
  | x :: xs, y :: ys => by simp [zip_map2 f xs ys]
theorem zip_le (ns : List Int) : (((ns.map D.int).zip (ns.map D.int).tail).all fun p => leD p.1 p.2) = nond ns := by
  rw [← nond_adj, ← List.map_tail, zip_map2]
  unfold adjB
  rw [List.all_map]
  rfl
theorem mon_fn {B : Nat} {v : Int} {d : D} (hB : B ≤ 1000) (hd : Ok B d) : Fn pre_is_monomial [.int v, d] (.bl (d.isMon v)) := fun P h => by
  unfold pre_is_monomial d_is_monomial
  rw [s_sq]
  rcases tup_cases d with ⟨xs, rfl⟩ | hT
  · obtain ⟨hl, hx⟩ := hd.tupI
    refine si_t (et_orR (et_aTup (ev_var rfl)) (et_not (et_v (ev_all (fun x => D.btw 1 v x) (ef_comp (fun x => .bl (x.btw 1 v)) (ef_seq (ev_var rfl) (.inr rfl)) (by rfl) (by rw [sizeLine_eq]; omega) fun d hd => ev_call (ef_cons (ev_var rfl) (ef_cons ev_c (ef_cons (ev_var rfl) ef_nil))) rfl (btw_fn (hx d hd).norm)))))) ?_
    by_cases q : xs.all (D.btw 1 v) = true
    · obtain ⟨ns, rfl, hn⟩ := btw_ints q
      rw [if_neg (by rw [q]; decide)]
      simp only [s_nx]
      have hl' : ns.length ≤ 1000 := by rw [List.length_map] at hl; omega
      refine sr_e (ev_all (fun p : D × D => leD p.1 p.2) (ef_comp2 ((ns.map D.int).zip (ns.map D.int).tail) (fun x y => .bl (leD x y)) (fun P k => ?_) (by rfl) (by rw [List.length_zip, List.length_map, sizeLine_eq]; omega) fun p hp P k => ?_)) ?_
      · show dZpI _ _ _ _
        unfold dZpI
        simp only [e_var, sat_s, sat_0, startD, nm_is_monomial, List.map, List.length, List.replicate, List.cons_append, List.nil_append, fzP_fz, e_sl, p_pt, p_no, e_c, intP_i, slO_tup]
        rw [cut_tail, zpI_map]
        exact k
      · rw [← List.map_tail, zip_map2] at hp
        obtain ⟨⟨i, j⟩, _, rfl⟩ := List.mem_map.mp hp
        exact k
      · rw [zip_le]
        simpa [D.isMon, q, D.isMon.optB] using h
    · rw [if_pos (by simpa using q)]
      have q : xs.all (D.btw 1 v) = false := by simpa using q
      simpa [D.isMon, q] using h
  · refine si_y (et_orL (et_noTup (ev_var rfl) hd.norm hT)) ?_
    have e : d.isMon v = false := by cases d <;> first | rfl | cases hT
    rw [e] at h
    exact h
end PD

namespace PD
open PySem PySem.Spec PyProof.Rows L2 BN
/-! ### keys -/
abbrev tupI (k : List Int) : D := .tup (k.map D.int)
def keyD (d : D) : List Int := d.ints.getD []
@[simp] theorem keyD_t (k : List Int) : keyD (tupI k) = k := by
  show (intsOf (k.map D.int)).getD [] = k
  rw [intsOf_map]; rfl
def isMonK (v : Int) (k : List Int) : Bool := k.all (fun n => decide (1 ≤ n) && decide (n ≤ v)) && nond k
theorem isMon_k (v : Int) (k : List Int) : (tupI k).isMon v = isMonK v k := by
  show ((k.map D.int).all (D.btw 1 v) && D.isMon.optB nond (intsOf (k.map D.int))) = _
  rw [intsOf_map, List.all_map]
  rfl
theorem mon_key {v : Int} {d : D} (h : d.isMon v = true) : ∃ k, d = tupI k ∧ isMonK v k = true := by
  rcases tup_cases d with ⟨xs, rfl⟩ | hT
  · have h' : (xs.all (D.btw 1 v) && D.isMon.optB nond (intsOf xs)) = true := h
    rw [Bool.and_eq_true] at h'
    obtain ⟨ns, rfl, _⟩ := btw_ints h'.1
    exact ⟨ns, rfl, by rw [← isMon_k]; exact h⟩
  · have : d.isMon v = false := by cases d <;> first | rfl | cases hT
    rw [this] at h
    cases h
theorem mons_keys {v : Int} : ∀ {xs : List D}, xs.all (D.isMon v) = true → ∃ ks : List (List Int), xs = ks.map tupI ∧ ∀ k ∈ ks, isMonK v k = true
  | [], _ => ⟨[], rfl, fun k h => by cases h⟩
  | x :: xs, h => by
    rw [List.all_cons, Bool.and_eq_true] at h
    obtain ⟨k, rfl, hk⟩ := mon_key h.1
    obtain ⟨ks, rfl, hs⟩ := mons_keys h.2
    refine ⟨k :: ks, rfl, fun j hj => ?_⟩
    rcases List.mem_cons.mp hj with e | e
    · rw [e]; exact hk
    · exact hs j e
theorem keys_eq (ks : List (List Int)) : (ks.map tupI).map keyD = ks := by
  rw [List.map_map]
  have : (keyD ∘ tupI) = id := by funext k; exact keyD_t k
  rw [this, List.map_id]
def plc (k : List Int) : D := .tup [.int k.length, .tup (k.reverse.map D.int)]
def hd0 : List (List Int) → Bool
  | [] => false
  | k :: _ => k.isEmpty
def idl (ks : List (List Int)) : Bool := hd0 ks && (adjB (fun a b => (plc a).lt (plc b)) ks && ks.all fun k => (List.range k.length).all fun i => decide (k.eraseIdx i ∈ ks))
def D.idl (v : Int) : D → Bool
  | .tup xs => xs.all (D.isMon v) && PD.idl (xs.map keyD)
  | _ => false
/-! ### parts of rows -/
theorem cut_to {α : Type} (xs : List α) (i : Nat) : cut xs none (some (i : Int)) = xs.take i := by
  unfold cut
  rw [HT.sIx_nat, HT.sIx_none, List.drop_zero, Nat.sub_zero]
  by_cases h : i ≤ xs.length
  · rw [Nat.min_eq_left h]
  · rw [Nat.min_eq_right (by omega), List.take_length, List.take_of_length_le (by omega)]
theorem cut_from {α : Type} (xs : List α) (i : Nat) : cut xs (some (i : Int)) none = xs.drop i := by
  unfold cut
  rw [HT.sIx_nat, HT.sIx_none]
  by_cases h : i ≤ xs.length
  · rw [Nat.min_eq_left h]
    exact List.take_of_length_le (by rw [List.length_drop]; omega)
  · rw [Nat.min_eq_right (by omega), List.drop_length, List.drop_eq_nil_of_le (by omega), List.take_nil]
theorem erase_cut {α : Type} (xs : List α) (i : Nat) : xs.take i ++ xs.drop (i + 1) = xs.eraseIdx i := by
  rw [List.eraseIdx_eq_take_drop_succ]
theorem erase_map {α β : Type} (f : α → β) : ∀ (xs : List α) (i : Nat), (xs.map f).eraseIdx i = (xs.eraseIdx i).map f
  | [], _ => rfl
  | _ :: _, 0 => rfl
  | x :: xs, i + 1 => by rw [List.map_cons, List.eraseIdx_cons_succ, List.eraseIdx_cons_succ, List.map_cons, erase_map f xs i]
theorem rgI_nat (n : Nat) : rgI 0 (n : Int) = (List.range n).map fun i => D.int (i : Nat) := by
  unfold rgI
  rw [Int.sub_zero, Int.toNat_natCast]
  refine List.map_congr_left fun i _ => ?_
  rw [Int.zero_add]
theorem ev_slTo {ρ : Env} {a : DE} {b : DE} {xs : List D} {i : Nat} (ha : Ev a ρ (.tup xs)) (hb : Ev b ρ (.int (i : Nat))) : Ev (dSl a dNoP (dPart b)) ρ (.tup (xs.take i)) := fun P k => ha _ (hb _ (by
  show P (.tup (cut xs none (some (i : Int))))
  rw [cut_to]; exact k))
theorem ev_slFrom {ρ : Env} {a : DE} {b : DE} {xs : List D} {i : Nat} (ha : Ev a ρ (.tup xs)) (hb : Ev b ρ (.int (i : Nat))) : Ev (dSl a (dPart b) dNoP) ρ (.tup (xs.drop i)) := fun P k => ha _ (hb _ (by
  show P (.tup (cut xs (some (i : Int)) none))
  rw [cut_from]; exact k))
theorem ev_addI {ρ : Env} {a b : DE} {i j : Int} (ha : Ev a ρ (.int i)) (hb : Ev b ρ (.int j)) : Ev (dBin oAdd a b) ρ (.int (i + j)) := ev_bin ha hb fun P k => k
theorem ev_addT {ρ : Env} {a b : DE} {xs ys : List D} (ha : Ev a ρ (.tup xs)) (hb : Ev b ρ (.tup ys)) (h : xs.length + ys.length ≤ sizeLine) : Ev (dBin oAdd a b) ρ (.tup (xs ++ ys)) := ev_bin ha hb fun P k => ⟨h, k⟩
theorem ev_back {ρ : Env} {a : DE} {xs : List D} (ha : Ev a ρ (.tup xs)) : Ev (dBack a) ρ (.tup xs.reverse) := fun P k => ha _ k
/-- a row less one, at each place -/
theorem ev_less {ρ : Env} {k : List Int} {a b : DE} {i : Nat} (hk : k.length ≤ 1000) (ha : Ev a ρ (tupI k)) (hb : Ev b ρ (.int (i : Nat))) : Ev (dBin oAdd (dSl a dNoP (dPart b)) (dSl a (dPart (dBin oAdd b (dC (.int 1)))) dNoP)) ρ (tupI (k.eraseIdx i)) := by
  have h := ev_addT (ev_slTo ha hb) (ev_slFrom (i := i + 1) ha (ev_addI hb (ev_c (v := .int 1)))) (by rw [List.length_take, List.length_drop, List.length_map, sizeLine_eq]; omega)
  rw [erase_cut, erase_map] at h
  exact h
theorem place_fn {k : List Int} (hk : k.length ≤ 1000) : Fn pre_place_of [tupI k] (plc k) := fun P h => by
  unfold pre_place_of d_place_of
  refine sr_e (ev_tup (ef_cons (ev_len (ev_var rfl) (.inr rfl)) (ef_cons (ev_back (ev_var rfl)) ef_nil)) (by rw [sizeLine_eq]; simp)) ?_
  rw [List.length_map, ← List.map_reverse]
  exact h
theorem ef_rg {ρ : Env} {a : DE} {n : Nat} (ha : Ev a ρ (.int (n : Nat))) (h : n < 2 ^ 62) : EvF (dRg1 a) ρ ((List.range n).map fun i => D.int (i : Nat)) := fun P k => ha _ ⟨⟨by omega, by omega⟩, by rw [rgI_nat]; exact k⟩
theorem less_fn {k : List Int} (hk : k.length ≤ 1000) : Fn pre_less_one [tupI k] (.lst ((List.range k.length).map fun i => tupI (k.eraseIdx i))) := fun P h => by
  unfold pre_less_one d_less_one
  have e : ((List.range k.length).map fun i => tupI (k.eraseIdx i)) = ((List.range k.length).map fun i => D.int (i : Nat)).map fun d => match d with | .int i => tupI (k.eraseIdx i.toNat) | _ => .non := by
    rw [List.map_map]
    refine List.map_congr_left fun i _ => ?_
    show _ = tupI (k.eraseIdx ((i : Nat) : Int).toNat)
    rw [Int.toNat_natCast]
  rw [e] at h
  refine sr_e (ev_f (ef_comp _ (ef_rg (n := k.length) ?_ (by omega)) (by rfl) (by rw [List.length_map, List.length_range, sizeLine_eq]; omega) fun d hd => ?_)) h
  · have := ev_len (ρ := startD nm_less_one [tupI k]) (ev_var (i := 0) (v := tupI k) rfl) (.inr rfl)
    rw [List.length_map] at this
    exact this
  · obtain ⟨i, hi, rfl⟩ := List.mem_map.mp hd
    show Ev _ _ (tupI (k.eraseIdx ((i : Nat) : Int).toNat))
    rw [Int.toNat_natCast]
    exact ev_less hk (ev_var rfl) (ev_var rfl)
end PD

namespace PD
open PySem PySem.Spec PyProof.Rows L2 BN
/-! ### the order of monomials -/
theorem plc_py (k : List Int) : (plc k).py = .tuple [.int k.length, .tuple (k.reverse.map PyData.int)] := by
  unfold plc
  rw [D.py, pyL, pyL, pyL, D.py, D.py, pyL_ints]
theorem plc_tk {j k : List Int} (h : tk (plc j) = tk (plc k)) : j = k := by
  unfold tk at h
  rw [plc_py, plc_py] at h
  simp only [PySem.W.keyToks, PySem.W.keyToksAll, List.cons_append, List.nil_append, List.cons.injEq, true_and] at h
  have := (toks_ints _ _ h.2).1
  exact List.reverse_inj.mp this
theorem plc_alike (j k : List Int) : (plc j).alike (plc k) = true := by
  unfold D.alike
  rw [plc_py, plc_py]
  simp only [PySem.W.alike, PySem.W.alikeAll, alike_ints, Bool.and_true]
theorem fit_tupI {n : Nat} (k : List Int) : (tupI k).fit (n + 1) = true := by
  rw [fit_tup, List.all_eq_true]
  intro x hx
  obtain ⟨i, _, rfl⟩ := List.mem_map.mp hx
  exact fit_int
theorem plc_fit {n : Nat} (k : List Int) : (plc k).fit (n + 2) = true := by
  unfold plc
  rw [fit_tup, List.all_cons, List.all_cons, List.all_nil, fit_int, fit_tupI]
  rfl
theorem plc_ord (j k : List Int) : (plc j).ord (plc k) := ⟨plc_fit j, plc_fit k, plc_alike j k, by unfold plc; exact fun h => by cases h⟩
def pltB (a b : List Int) : Bool := (plc a).lt (plc b)
theorem plt_tr (a b c : List Int) (h : pltB a b = true) (k : pltB b c = true) : pltB a c = true := lt_tr h k
theorem plt_len {a b : List Int} (h : a.length < b.length) : pltB a b = true := by
  unfold pltB D.lt
  rw [plc_py, plc_py]
  have e : PySem.W.dataLt (.int (a.length : Nat)) (.int (b.length : Nat)) = true := by rw [PySem.W.dataLt_int]; simpa using h
  rw [PySem.W.dataLt_tuple]
  rw [PySem.W.dataLt_all_no (by simp [PySem.W.alike]) (by simp [PyData.eqv]; omega)]
  exact e
/-- ascending: sorted, each once -/
theorem asc_iff (ks : List (List Int)) : adjB pltB ks = true ↔ (ks.map plc).Pairwise (fun a b => (!b.lt a) = true) ∧ ks.Nodup := by
  rw [adj_pair plt_tr, List.pairwise_map]
  constructor
  · intro h
    refine ⟨h.imp fun {a b} q => ?_, h.imp fun {a b} q e => ?_⟩
    · have q : (plc a).lt (plc b) = true := q
      rw [lt_anti q]; rfl
    · subst e
      have q : (plc a).lt (plc a) = true := q
      rw [lt_irr] at q; cases q
  · rintro ⟨h1, h2⟩
    refine (h1.and h2).imp fun {a b} ⟨p, q⟩ => ?_
    show (plc a).lt (plc b) = true
    cases z : (plc a).lt (plc b) with
    | true => rfl
    | false =>
      have p : (plc b).lt (plc a) = false := by simpa using p
      exact absurd (plc_tk (lt_tot z p)) q
/-! ### is_ideal -/
theorem eqv_tn (k : List Int) : (tupI k).eqv (.tup []) = k.isEmpty := by
  have := eqv_tt k []
  rw [List.map_nil] at this
  show (D.tup (k.map D.int)).eqv (.tup []) = _
  rw [this]
  cases k <;> simp
theorem eqv_mn (ks : List (List Int)) : (D.tup (ks.map tupI)).eqv (.tup []) = ks.isEmpty := by
  cases ks with
  | nil => rfl
  | cons k ks =>
    show (D.tup (tupI k :: ks.map tupI)).eqv (.tup []) = false
    unfold D.eqv
    rw [D.py, D.py, pyL, pyL, PyData.eqv, PyData.eqvAll]
theorem keysOf_map : ∀ ks : List (List Int), keysOf (ks.map tupI) = some ks
  | [] => rfl
  | k :: ks => by
    rw [List.map_cons, keysOf, keysOf_map ks]
    have : keyOfD (tupI k) = some k := by show intsOf (k.map D.int) = some k; exact intsOf_map k
    rw [this]
theorem fit_mons {n : Nat} (ks : List (List Int)) : (D.tup (ks.map tupI)).fit (n + 2) = true := by
  rw [fit_tup, List.all_eq_true]
  intro x hx
  obtain ⟨k, _, rfl⟩ := List.mem_map.mp hx
  exact fit_tupI k
theorem comp2_in {B : Nat} {ks0 : List (List Int)} {v0 v1 w2 : Sl} (hB : ∀ k ∈ ks0, k.length ≤ B) : ∀ (ks : List (List Int)) (n : Nat) (R : List D → Prop), (∀ k ∈ ks, k ∈ ks0) → n + ks.length * B ≤ 10 ^ 7 → B ≤ 1000 →
    R (ks.flatMap fun k => (List.range k.length).map fun i => D.bl (decide (k.eraseIdx i ∈ ks0))) →
    compP2 (dName 3) dYes (dSeqI (dCall 1 pre_less_one (dCons (dVar 3) dNil))) (dName 4) dYes (dBin (oInS fun b => b) (dVar 4) (dVar 2)) [v0, v1, .fz (.st ks0), .no, .no, w2] [4] n (ks.map tupI) R
  | [], n, R, _, _, _, h => h
  | k :: ks, n, R, hm, hn, hB2, h => by
    have hk := hm k List.mem_cons_self
    have kl := hB k hk
    rw [List.map_cons, c2_cons]
    rw [List.length_cons, Nat.add_mul] at hn
    simp only [g_nm, List.set, t_yes, if_true, i_sq, e_call, a_cs, a_nl, e_var, sat_s, sat_0, fzP_fz]
    refine ⟨rfl, less_fn (by omega) _ ?_⟩
    simp only [seqP_l]
    refine ⟨⟨by rfl, by rw [List.length_map, List.length_range, sizeLine_eq]; omega⟩, ?_⟩
    have e : ((List.range k.length).map fun i => tupI (k.eraseIdx i)) = ((List.range k.length).map fun i => k.eraseIdx i).map tupI := by rw [List.map_map]; rfl
    rw [e]
    have go : ∀ (js : List (List Int)) (R : List D → Prop), R (js.map fun j => D.bl (decide (j ∈ ks0))) → compP (dName 4) dYes (dBin (oInS fun b => b) (dVar 4) (dVar 2)) [v0, v1, .fz (.st ks0), .fz (tupI k), .no, w2] (js.map tupI) R := by
      intro js
      induction js with
      | nil => intro R h; exact h
      | cons j js ih =>
        intro R h
        rw [List.map_cons, c_cons]
        simp only [g_nm, List.set, t_yes, if_true, e_bin, e_var, sat_s, sat_0, fzP_fz, oInS_t, intsOf_map, optP_s]
        exact ih _ h
    refine go _ _ ⟨by simp, ?_⟩
    refine comp2_in hB ks _ _ (fun j hj => hm j (List.mem_cons_of_mem _ hj)) ?_ hB2 ?_
    · rw [List.length_map, List.length_map, List.length_range]; omega
    · rw [List.flatMap_cons] at h
      have e2 : (((List.range k.length).map fun i => k.eraseIdx i).map fun j => D.bl (decide (j ∈ ks0))) = (List.range k.length).map fun i => D.bl (decide (k.eraseIdx i ∈ ks0)) := by rw [List.map_map]; rfl
      rw [e2]
      exact h
theorem atI_0 {α : Type} (x : α) (xs : List α) : atI (x :: xs) 0 = some x := by
  unfold atI
  rw [ixN_at (by decide) (by simp)]
  rfl
theorem ideal_fn {B : Nat} {v : Int} {d : D} (hB : B ≤ 306) (hd : Ok B d) : Fn pre_is_ideal [.int v, d] (.bl (d.idl v)) := fun P h => by
  unfold pre_is_ideal d_is_ideal
  rw [s_sq]
  rcases tup_cases d with ⟨xs, rfl⟩ | hT
  · obtain ⟨hl, hx⟩ := hd.tupI
    have ev1 : EvT (dTNot (dTest (dCB cAll (dCons (dF (dComp (dSeqI (dVar 1)) (dName 4) dYes (dCall 2 pre_is_monomial (dCons (dVar 0) (dCons (dVar 4) dNil))) [4])) dNil)))) (startD nm_is_ideal [.int v, .tup xs]) (!xs.all fun x => x.isMon v) :=
      et_not (et_v (ev_all (fun x => D.isMon v x) (ef_comp (fun x => .bl (x.isMon v)) (ef_seq (ev_var rfl) (.inr rfl)) (by rfl) (by rw [sizeLine_eq]; omega) fun d hd => ev_call (ef_cons (ev_var rfl) (ef_cons (ev_var rfl) ef_nil)) rfl (mon_fn (by omega) (hx d hd)))))
    by_cases q : xs.all (D.isMon v) = true
    · obtain ⟨ks, rfl, hks⟩ := mons_keys q
      have h : P (.bl (idl ks)) := by
        have e : (D.tup (ks.map tupI)).idl v = idl ks := by
          show ((ks.map tupI).all (D.isMon v) && PD.idl ((ks.map tupI).map keyD)) = _
          rw [q, keys_eq]; rfl
        rw [e] at h; exact h
      have kl : ∀ k ∈ ks, k.length ≤ B := fun k hk => by
        have := (hx (tupI k) (List.mem_map.mpr ⟨k, hk, rfl⟩)).tupI.1
        rwa [List.length_map] at this
      have hl' : ks.length ≤ B := by rwa [List.length_map] at hl
      refine si_go (et_orR (et_aTup (ev_var rfl)) (et_is ev1 (by rw [q]; rfl))) ?_
      simp only
      rw [s_sq]
      have fm : (D.tup (ks.map tupI)).fit 60 = true := fit_mons ks
      cases ks with
      | nil =>
        refine si_y (et_orL (et_is (et_v (ev_eq (ev_var rfl) (ev_tup ef_nil (by rw [sizeLine_eq]; simp)) fm (by rfl))) (eqv_mn []))) ?_
        exact h
      | cons k ks =>
        have e1 : EvT (dTest (dBin oEq (dVar 1) (dTup dNil))) (startD nm_is_ideal [.int v, .tup ((k :: ks).map tupI)]) false := et_is (et_v (ev_eq (ev_var rfl) (ev_tup ef_nil (by rw [sizeLine_eq]; simp)) fm (by rfl))) (eqv_mn (k :: ks))
        have e2 : EvT (dTest (dBin oNe (dBin oIx (dVar 1) (dC (.int 0))) (dTup dNil))) (startD nm_is_ideal [.int v, .tup ((k :: ks).map tupI)]) (!k.isEmpty) := et_is (et_v (ev_ne (ev_ix (ev_var rfl) ev_c (.inr rfl) (atI_0 _ _)) (ev_tup ef_nil (by rw [sizeLine_eq]; simp)) (fit_tupI k) (by rfl))) (by rw [eqv_tn])
        by_cases k0 : k.isEmpty = true
        · refine si_go (et_orR e1 (et_is e2 (by rw [k0]; rfl))) ?_
          simp only
          rw [s_sq]
          have e3 : EvT (dTNot (dTest (dCB cAll (dCons (dF (dComp (dZpI (dVar 1) (dSl (dVar 1) (dPart (dC (.int 1))) dNoP)) (dGTup 2 (dGCons (dName 3) (dGCons (dName 5) dGNil))) dYes (dBin oLtD (dCall 1 pre_place_of (dCons (dVar 3) dNil)) (dCall 1 pre_place_of (dCons (dVar 5) dNil))) [3, 5])) dNil)))) (startD nm_is_ideal [.int v, .tup ((k :: ks).map tupI)]) (!adjB pltB (k :: ks)) := by
            refine et_is (et_not (et_v (ev_all (fun p : D × D => pltB (keyD p.1) (keyD p.2)) (ef_comp2 (((k :: ks).map tupI).zip ((k :: ks).map tupI).tail) (fun x y => .bl (pltB (keyD x) (keyD y))) (fun P h => ?_) (by rfl) (by rw [List.length_zip, List.length_map, sizeLine_eq]; omega) fun p hp => ?_)))) ?_
            · unfold dZpI
              simp only [e_var, sat_s, sat_0, startD, nm_is_ideal, List.map, List.length, List.replicate, List.cons_append, List.nil_append, fzP_fz, e_sl, p_pt, p_no, e_c, intP_i, slO_tup]
              rw [cut_tail, zpI_map]
              exact h
            · rw [← List.map_tail, zip_map2] at hp
              obtain ⟨⟨a, b⟩, hab, rfl⟩ := List.mem_map.mp hp
              have ha := kl a (List.of_mem_zip hab).1
              have hb := kl b (List.mem_of_mem_tail (List.of_mem_zip hab).2)
              show Ev _ _ (.bl (pltB (keyD (tupI a)) (keyD (tupI b))))
              rw [keyD_t, keyD_t]
              exact ev_bin (ev_call (ef_cons (ev_var rfl) ef_nil) rfl (place_fn (k := a) (by omega))) (ev_call (ef_cons (ev_var rfl) ef_nil) rfl (place_fn (k := b) (by omega))) fun P h => ⟨plc_ord a b, h⟩
            · rw [← List.map_tail, zip_map2, List.all_map]
              unfold adjB
              congr 2
              funext p
              show pltB (keyD (tupI p.1)) (keyD (tupI p.2)) = _
              rw [keyD_t, keyD_t]
          by_cases ad : adjB pltB (k :: ks) = true
          · refine si_go (et_is e3 (by rw [ad]; rfl)) ?_
            simp only
            rw [s_sq]
            refine ss_e (ev_cb (ef_cons (ev_var rfl) ef_nil) (v := .st (k :: ks)) fun P h => ?_) ?_
            · show optP _ (keysOf _)
              rw [keysOf_map]
              exact ⟨by omega, h⟩
            · dsimp only
              refine sr_e (v := .bl (((k :: ks).flatMap fun k' => (List.range k'.length).map fun i => decide (k'.eraseIdx i ∈ k :: ks)).all id)) (fun P h => ?_) ?_
              · simp only [e_cb, a_cs, a_nl, e_f, c_all2, i_sq, e_var, sat_s, sat_0, startD, nm_is_ideal, List.map, List.length, List.replicate, List.cons_append, List.nil_append, List.set, fzP_fz, seqP_t]
                refine ⟨by rfl, ?_⟩
                refine comp2_in kl (k :: ks) 0 _ (fun j hj => hj) ?_ (by omega) ?_
                · have : (k :: ks).length * B ≤ 306 * 306 := Nat.mul_le_mul (by omega) hB
                  omega
                · show optP _ (blsOf _)
                  have e4 : ((k :: ks).flatMap fun k' => (List.range k'.length).map fun i => D.bl (decide (k'.eraseIdx i ∈ k :: ks))) = (((k :: ks).flatMap fun k' => (List.range k'.length).map fun i => decide (k'.eraseIdx i ∈ k :: ks))).map D.bl := by
                    rw [List.map_flatMap]
                    congr 1
                    funext k'
                    rw [List.map_map]; rfl
                  rw [e4, blsOf_map]
                  exact h
              · have e5 : idl (k :: ks) = ((k :: ks).flatMap fun k' => (List.range k'.length).map fun i => decide (k'.eraseIdx i ∈ k :: ks)).all id := by
                  show (k.isEmpty && (adjB (fun a b => (plc a).lt (plc b)) (k :: ks) && _)) = _
                  have ad' : adjB (fun a b => (plc a).lt (plc b)) (k :: ks) = true := ad
                  rw [ad', k0, Bool.true_and, Bool.true_and, List.all_flatMap]
                  congr 1
                  funext k'
                  rw [List.all_map]; rfl
                rw [e5] at h
                exact h
          · have ad : adjB pltB (k :: ks) = false := by simpa using ad
            refine si_y (et_is e3 (by rw [ad]; rfl)) ?_
            have e5 : idl (k :: ks) = false := by
              unfold idl
              have ad' : adjB (fun a b => (plc a).lt (plc b)) (k :: ks) = false := ad
              rw [ad', Bool.false_and, Bool.and_false]
            rw [e5] at h
            exact h
        · have k0 : k.isEmpty = false := by simpa using k0
          refine si_y (et_orR e1 (et_is e2 (by rw [k0]; rfl))) ?_
          have e5 : idl (k :: ks) = false := by
            show (k.isEmpty && _) = false
            rw [k0, Bool.false_and]
          rw [e5] at h
          exact h
    · have q : xs.all (D.isMon v) = false := by simpa using q
      refine si_y (et_orR (et_aTup (ev_var rfl)) (et_is ev1 (by rw [q]; rfl))) ?_
      have e : (D.tup xs).idl v = false := by show (xs.all (D.isMon v) && _) = false; rw [q]; rfl
      rw [e] at h
      exact h
  · refine si_y (et_orL (et_noTup (ev_var rfl) hd.norm hT)) ?_
    have e : d.idl v = false := by cases d <;> first | rfl | cases hT
    rw [e] at h
    exact h
end PD

namespace PD
open PySem PySem.Spec PyProof.Rows L2 BN
/-! ### the law's look at ideals -/
theorem ef_list {ρ : Env} {A : DA} {x : D} {xs : List D} (hA : EvF A ρ [x]) (h : x = .lst xs ∨ x = .tup xs) : EvF (dListF A) ρ xs := fun P k => hA _ (by rcases h with rfl | rfl <;> exact k)
theorem ef_srt {ρ : Env} {A : DA} {xs : List D} (hA : EvF A ρ [.lst xs]) (h : SrtOk xs) : EvF (dSrtA A) ρ (srt xs) := fun P k => hA _ ⟨h, k⟩
theorem ef_srtT {ρ : Env} {A : DA} {xs : List D} (hA : EvF A ρ [.tup xs]) (h : xs.length ≤ sizeLine ∧ (∀ x ∈ xs, ∀ y ∈ xs, x.alike y = true) ∧ (∀ x ∈ xs, x.fit 59 = true) ∧ ((∀ x ∈ xs, ∃ y ys, x = .tup (y :: ys)) ∨ ∀ x ∈ xs, x ≠ .non ∧ ∀ ys, x ≠ .tup ys)) : EvF (dSrtA A) ρ (srt xs) := fun P k => hA _ ⟨h, k⟩
theorem ints_ok {ns : List Int} (h : ns.length ≤ sizeLine) : (ns.map D.int).length ≤ sizeLine ∧ (∀ x ∈ ns.map D.int, ∀ y ∈ ns.map D.int, x.alike y = true) ∧ (∀ x ∈ ns.map D.int, x.fit 59 = true) ∧ ((∀ x ∈ ns.map D.int, ∃ y ys, x = .tup (y :: ys)) ∨ ∀ x ∈ ns.map D.int, x ≠ .non ∧ ∀ ys, x ≠ .tup ys) := by
  refine ⟨by rw [List.length_map]; exact h, fun x hx y hy => ?_, fun x hx => ?_, .inr fun x hx => ?_⟩
  · obtain ⟨i, _, rfl⟩ := List.mem_map.mp hx
    obtain ⟨j, _, rfl⟩ := List.mem_map.mp hy
    rfl
  · obtain ⟨i, _, rfl⟩ := List.mem_map.mp hx
    exact fit_int
  · obtain ⟨i, _, rfl⟩ := List.mem_map.mp hx
    exact ⟨(fun h => by cases h), (fun ys h => by cases h)⟩
theorem fit_ints {n : Nat} (ns : List Int) : (D.lst (ns.map D.int)).fit (n + 1) = true := by
  rw [fit_lst, List.all_eq_true]
  intro x hx
  obtain ⟨i, _, rfl⟩ := List.mem_map.mp hx
  exact fit_int
theorem fit_srt {n : Nat} (xs : List D) (h : (D.lst xs).fit (n + 1) = true) : (D.lst (srt xs)).fit (n + 1) = true := by
  rw [fit_lst, List.all_eq_true] at h ⊢
  exact fun x hx => h x ((srt_perm xs).mem_iff.mp hx)
theorem lmon_fn {B : Nat} {v m : Int} {d : D} (hB : B ≤ 306) (hm : (B : Int) ≤ m) (hd : Ok B d) : Fn pre__law_is_monomial [.int v, d, .int m] (.bl (d.isMon v)) := fun P h => by
  unfold pre__law_is_monomial d__law_is_monomial
  rcases tup_cases d with ⟨xs, rfl⟩ | hT
  · obtain ⟨hl, hx⟩ := hd.tupI
    refine sq_go (et_orR (et_aTup (ev_var rfl)) (et_is (et_v (ev_bin (ev_len (ev_var rfl) (.inr rfl)) (ev_var rfl) fun P k => k)) (by simp; omega))) ?_
    have ev1 : Ev (dCB cAll (dCons (dF (dComp (dSeqI (dVar 1)) (dName 3) dYes (dCall 3 pre__law_is_whole (dCons (dVar 3) (dCons (dC (.int 1)) (dCons (dVar 0) dNil)))) [3])) dNil)) (startD nm__law_is_monomial [.int v, .tup xs, .int m]) (.bl (xs.all fun x => x.btw 1 v)) :=
      ev_all (fun x => D.btw 1 v x) (ef_comp (fun x => .bl (x.btw 1 v)) (ef_seq (ev_var rfl) (.inr rfl)) (by rfl) (by rw [sizeLine_eq]; omega) fun d hd => ev_call (ef_cons (ev_var rfl) (ef_cons ev_c (ef_cons (ev_var rfl) ef_nil))) rfl (lbtw_fn (hx d hd).norm))
    refine sr_e (v := .bl ((xs.all fun x => x.btw 1 v) && D.isMon.optB nond (intsOf xs))) (ev_and ev1 fun q => ?_) h
    obtain ⟨ns, rfl, hn⟩ := btw_ints q
    rw [List.length_map] at hl
    rw [intsOf_map]
    have e := ev_eq (ev_f (ef_srtT (ef_cons (ev_var (ρ := startD nm__law_is_monomial [.int v, .tup (ns.map D.int), .int m]) (i := 1) rfl) ef_nil) (ints_ok (ns := ns) (by rw [sizeLine_eq]; omega)))) (ev_f (ef_list (ef_cons (ev_var (ρ := startD nm__law_is_monomial [.int v, .tup (ns.map D.int), .int m]) (i := 1) (v := .tup (ns.map D.int)) rfl) ef_nil) (.inr rfl))) (fit_srt _ (fit_ints ns)) (fit_ints ns)
    rw [srt_ints] at e
    exact e
  · refine sq_y (et_orL (et_noTup (ev_var rfl) hd.norm hT)) ?_
    have e : d.isMon v = false := by cases d <;> first | rfl | cases hT
    rw [e] at h
    exact h
/-- as many as there are -/
theorem nodup_len {α : Type} [DecidableEq α] : ∀ (us ks : List α), us.Nodup → (∀ k, k ∈ us ↔ k ∈ ks) → us.length ≤ ks.length ∧ (us.length = ks.length ↔ ks.Nodup)
  | us, [], hn, h => by
    have : us = [] := List.eq_nil_iff_forall_not_mem.mpr fun a ha => by simpa using (h a).mp ha
    subst this
    simp
  | us, k :: ks, hn, h => by
    have ku : k ∈ us := (h k).mpr List.mem_cons_self
    have el : (us.erase k).length = us.length - 1 := List.length_erase_of_mem ku
    have pos : 0 < us.length := List.length_pos_of_mem ku
    by_cases c : k ∈ ks
    · obtain ⟨h1, h2⟩ := nodup_len us ks hn fun j => ⟨fun z => by
        rcases List.mem_cons.mp ((h j).mp z) with e | e
        · rw [e]; exact c
        · exact e, fun z => (h j).mpr (List.mem_cons_of_mem _ z)⟩
      rw [List.length_cons]
      refine ⟨by omega, ⟨fun z => by omega, fun z => absurd c (List.nodup_cons.mp z).1⟩⟩
    · obtain ⟨h1, h2⟩ := nodup_len (us.erase k) ks (hn.erase k) fun j => ⟨fun z => by
        have hj := (hn.mem_erase_iff.mp z)
        rcases List.mem_cons.mp ((h j).mp hj.2) with e | e
        · exact absurd e hj.1
        · exact e, fun z => hn.mem_erase_iff.mpr ⟨fun e => c (e ▸ z), (h j).mpr (List.mem_cons_of_mem _ z)⟩⟩
      rw [List.length_cons, List.nodup_cons]
      rw [el] at h1 h2
      refine ⟨by omega, ⟨fun z => ⟨c, h2.mp (by omega)⟩, fun z => by have := h2.mpr z.2; omega⟩⟩
theorem plc_inj : ∀ {a b : List (List Int)}, a.map plc = b.map plc → a = b
  | [], [], _ => rfl
  | [], _ :: _, h => by cases h
  | _ :: _, [], h => by cases h
  | x :: a, y :: b, h => by
    rw [List.map_cons, List.map_cons] at h
    injection h with h1 h2
    rw [plc_tk (congrArg tk h1), plc_inj h2]
theorem srt_plc (ks : List (List Int)) : (D.lst (srt (ks.map plc))).eqv (.lst (ks.map plc)) = decide ((ks.map plc).Pairwise fun a b => (!b.lt a) = true) := by
  obtain ⟨js, e⟩ := map_of_mem plc (ys := srt (ks.map plc)) fun y hy => by
    obtain ⟨x, _, rfl⟩ := List.mem_map.mp ((srt_perm _).mem_iff.mp hy)
    exact ⟨x, rfl⟩
  rw [e]
  have pe : ∀ l : List (List Int), pyL (l.map plc) = l.map fun k => PyData.tuple [.int k.length, .tuple (k.reverse.map PyData.int)] := fun l => by
    induction l with
    | nil => rfl
    | cons k l ih => rw [List.map_cons, pyL, ih, plc_py, List.map_cons]
  have eq1 : ∀ a b : List (List Int), (D.lst (a.map plc)).eqv (.lst (b.map plc)) = decide (a = b) := fun a b => by
    unfold D.eqv
    rw [D.py, D.py, pe, pe, PyData.eqv]
    have one : ∀ j k : List Int, PyData.eqv (.tuple [.int j.length, .tuple (j.reverse.map PyData.int)]) (.tuple [.int k.length, .tuple (k.reverse.map PyData.int)]) = decide (j = k) := fun j k => by
      rw [PyData.eqv, PyData.eqvAll, PyData.eqvAll, PyData.eqvAll, PyData.eqv, PyData.eqv, eqvAll_ints, Bool.and_true]
      by_cases h : j = k
      · subst h; simp
      · have : ¬ j.reverse = k.reverse := fun z => h (List.reverse_inj.mp z)
        rw [decide_eq_false h, decide_eq_false this, Bool.and_false]
    induction a generalizing b with
    | nil =>
      cases b with
      | nil => rfl
      | cons k b => rw [List.map_nil, List.map_cons, PyData.eqvAll]; rfl
    | cons j a ih =>
      cases b with
      | nil => rw [List.map_nil, List.map_cons, PyData.eqvAll]; rfl
      | cons k b =>
        rw [List.map_cons, List.map_cons, PyData.eqvAll, one, ih]
        by_cases h : j = k
        · subst h
          by_cases h2 : a = b
          · subst h2; simp
          · rw [decide_eq_false h2, Bool.and_false, decide_eq_false fun z => h2 (List.cons.inj z).2]
        · rw [decide_eq_false h, Bool.false_and, decide_eq_false fun z => h (List.cons.inj z).1]
  rw [eq1]
  by_cases h : (ks.map plc).Pairwise fun a b => (!b.lt a) = true
  · rw [srt_same h] at e
    rw [decide_eq_true h, decide_eq_true (plc_inj e).symm]
  · rw [decide_eq_false h]
    refine decide_eq_false fun z => h ?_
    subst z
    have := srt_pw (js.map plc)
    rw [e] at this
    exact this
theorem plc_ok (ks : List (List Int)) : SrtOk (ks.map plc) := .inr ⟨fun x hx y hy => by
  obtain ⟨j, _, rfl⟩ := List.mem_map.mp hx
  obtain ⟨k, _, rfl⟩ := List.mem_map.mp hy
  exact plc_alike j k, fun x hx => by
  obtain ⟨j, _, rfl⟩ := List.mem_map.mp hx
  exact plc_fit j, .inl fun x hx => by
  obtain ⟨j, _, rfl⟩ := List.mem_map.mp hx
  exact ⟨_, _, rfl⟩⟩
theorem fit_plcs {n : Nat} (ks : List (List Int)) : (D.lst (ks.map plc)).fit (n + 3) = true := by
  rw [fit_lst, List.all_eq_true]
  intro x hx
  obtain ⟨j, _, rfl⟩ := List.mem_map.mp hx
  exact plc_fit j
/-- in a tuple of rows -/
theorem ev_inK {ρ : Env} {a b : DE} {k : List Int} {ks : List (List Int)} (ha : Ev a ρ (tupI k)) (hb : Ev b ρ (.tup (ks.map tupI))) : Ev (dBin oIn a b) ρ (.bl (decide (k ∈ ks))) := ev_bin ha hb fun P h => by
  refine ⟨fit_tupI k, ?_⟩
  show _ ∧ _
  refine ⟨?_, ?_⟩
  · rw [List.all_eq_true]
    intro x hx
    obtain ⟨j, _, rfl⟩ := List.mem_map.mp hx
    exact fit_tupI j
  · have e : (ks.map tupI).any (fun z => z.eqv (tupI k)) = decide (k ∈ ks) := by
      rw [List.any_map]
      have : ((fun z : D => z.eqv (tupI k)) ∘ tupI) = fun j => decide (j = k) := by funext j; exact eqv_tt j k
      rw [this]
      rw [Bool.eq_iff_iff, List.any_eq_true, decide_eq_true_eq]
      exact ⟨fun ⟨x, hx, e⟩ => by rw [← of_decide_eq_true e]; exact hx, fun h => ⟨k, h, decide_eq_true rfl⟩⟩
    rw [e]; exact h
theorem ev_notInK {ρ : Env} {a b : DE} {k : List Int} {ks : List (List Int)} (ha : Ev a ρ (tupI k)) (hb : Ev b ρ (.tup (ks.map tupI))) : Ev (dBin oNotIn a b) ρ (.bl (!decide (k ∈ ks))) := fun P h => ha _ (hb _ (by
  have := ev_inK (ρ := []) (a := dC (tupI k)) (b := dC (.tup (ks.map tupI))) ev_c ev_c (fun d => match d with | .bl q => P (.bl (!q)) | _ => False) h
  obtain ⟨h1, h2, h3⟩ := this
  exact ⟨h1, h2, h3⟩))
theorem loi_for {S : DEnds} {v0 o : Sl} {ks0 : List (List Int)} {B : Nat} (hB : B ≤ 306) (hl : ∀ k ∈ ks0, k.length ≤ B) : ∀ (ks : List (List Int)) (a b : Sl), a.still = true → b.still = true → (∀ k ∈ ks, k ∈ ks0) →
    ((ks.all fun k => (List.range k.length).all fun i => decide (k.eraseIdx i ∈ ks0)) = false → S.rt (.bl false)) →
    (((ks.all fun k => (List.range k.length).all fun i => decide (k.eraseIdx i ∈ ks0)) = true → (∀ a b, S.nx [v0, .fz (.tup (ks0.map tupI)), o, a, b]))) →
    forP (dName 3) (dIfS (dTNot (dTest (dCB cAll (dCons (dF (dComp (dRg1 (dCB cLen (dCons (dVar 3) dNil))) (dName 4) dYes (dBin oIn (dBin oAdd (dSl (dVar 3) dNoP (dPart (dVar 4))) (dSl (dVar 3) (dPart (dBin oAdd (dVar 4) (dC (.int 1)))) dNoP)) (dVar 1)) [4])) dNil)))) (dRet (dC (.bl false))) dNext) S (ks.map tupI) [v0, .fz (.tup (ks0.map tupI)), o, a, b]
  | [], a, b, _, _, _, _, h => h rfl a b
  | k :: ks, a, b, ha, hb, hm, hf, ht => by
    have kl := hl k (hm k List.mem_cons_self)
    rw [List.map_cons, f_cons]
    simp only [g_nm, List.set]
    have e1 : EvT (dTNot (dTest (dCB cAll (dCons (dF (dComp (dRg1 (dCB cLen (dCons (dVar 3) dNil))) (dName 4) dYes (dBin oIn (dBin oAdd (dSl (dVar 3) dNoP (dPart (dVar 4))) (dSl (dVar 3) (dPart (dBin oAdd (dVar 4) (dC (.int 1)))) dNoP)) (dVar 1)) [4])) dNil)))) [v0, .fz (.tup (ks0.map tupI)), o, .fz (tupI k), b] (!(List.range k.length).all fun i => decide (k.eraseIdx i ∈ ks0)) := by
      refine et_not (et_v (ev_is (ev_all (us := (List.range k.length).map fun i => D.int (i : Nat)) (fun d => match d with | .int i => decide (k.eraseIdx i.toNat ∈ ks0) | _ => false) (ef_comp (fun d => .bl (match d with | .int i => decide (k.eraseIdx i.toNat ∈ ks0) | _ => false)) (ef_rg (n := k.length) ?_ (by omega)) ?_ (by rw [List.length_map, List.length_range, sizeLine_eq]; omega) fun d hd => ?_)) ?_))
      · have := ev_len (ρ := [v0, .fz (.tup (ks0.map tupI)), o, .fz (tupI k), b]) (ev_var (i := 3) (v := tupI k) rfl) (.inr rfl)
        rw [List.length_map] at this
        exact this
      · simp [hb]
      · obtain ⟨i, _, rfl⟩ := List.mem_map.mp hd
        have e : ((i : Nat) : Int).toNat = i := Int.toNat_natCast i
        show Ev _ _ (.bl (decide (k.eraseIdx ((i : Nat) : Int).toNat ∈ ks0)))
        rw [e]
        exact ev_inK (ev_less (by omega) (ev_var rfl) (ev_var rfl)) (ev_var rfl)
      · rw [List.all_map]
        congr 1
    rw [List.all_cons] at hf ht
    cases q : (List.range k.length).all fun i => decide (k.eraseIdx i ∈ ks0) with
    | false =>
      refine si_y (et_is e1 (by rw [q]; rfl)) ?_
      rw [q] at hf
      exact hf rfl
    | true =>
      refine si_go (et_is e1 (by rw [q]; rfl)) ?_
      rw [q, Bool.true_and] at hf ht
      exact loi_for hB hl ks _ _ rfl hb (fun j hj => hm j (List.mem_cons_of_mem _ hj)) hf ht
theorem head_nil {ks : List (List Int)} (h : adjB pltB ks = true) : hd0 ks = decide (([] : List Int) ∈ ks) := by
  cases ks with
  | nil => rfl
  | cons k ks =>
    cases k with
    | nil => simp [hd0]
    | cons x k =>
      have hp := (adj_pair plt_tr _).mp h
      rw [List.pairwise_cons] at hp
      show false = _
      refine (decide_eq_false fun z => ?_).symm
      rcases List.mem_cons.mp z with e | e
      · cases e
      · have h1 : (plc (x :: k)).lt (plc []) = true := hp.1 _ e
        have h2 : (plc []).lt (plc (x :: k)) = true := plt_len (by simp)
        rw [lt_anti h1] at h2
        cases h2
theorem lideal_fn {B : Nat} {v : Int} {d : D} (hB : B ≤ 306) (hd : Ok B d) : Fn pre__law_is_order_ideal [.int v, d] (.bl (d.idl v)) := fun P h => by
  unfold pre__law_is_order_ideal d__law_is_order_ideal
  rcases tup_cases d with ⟨xs, rfl⟩ | hT
  · obtain ⟨hl, hx⟩ := hd.tupI
    have ev1 : EvT (dTNot (dTest (dCB cAll (dCons (dF (dComp (dSeqI (dVar 1)) (dName 3) dYes (dCall 3 pre__law_is_monomial (dCons (dVar 0) (dCons (dVar 3) (dCons (dC (.int 400)) dNil)))) [3])) dNil)))) (startD nm__law_is_order_ideal [.int v, .tup xs]) (!xs.all fun x => x.isMon v) :=
      et_not (et_v (ev_all (fun x => D.isMon v x) (ef_comp (fun x => .bl (x.isMon v)) (ef_seq (ev_var rfl) (.inr rfl)) (by rfl) (by rw [sizeLine_eq]; omega) fun d hd => ev_call (ef_cons (ev_var rfl) (ef_cons (ev_var rfl) (ef_cons ev_c ef_nil))) rfl (lmon_fn hB (by omega) (hx d hd)))))
    by_cases q : xs.all (D.isMon v) = true
    · obtain ⟨ks, rfl, hks⟩ := mons_keys q
      have h : P (.bl (idl ks)) := by
        have e : (D.tup (ks.map tupI)).idl v = idl ks := by
          show ((ks.map tupI).all (D.isMon v) && PD.idl ((ks.map tupI).map keyD)) = _
          rw [q, keys_eq]; rfl
        rw [e] at h; exact h
      have kl : ∀ k ∈ ks, k.length ≤ B := fun k hk => by
        have := (hx (tupI k) (List.mem_map.mpr ⟨k, hk, rfl⟩)).tupI.1
        rwa [List.length_map] at this
      have hl' : ks.length ≤ B := by rwa [List.length_map] at hl
      refine sq_go (et_orR (et_aTup (ev_var rfl)) (et_is ev1 (by rw [q]; rfl))) ?_
      have e1 : EvT (dTest (dBin oNotIn (dTup dNil) (dVar 1))) (startD nm__law_is_order_ideal [.int v, .tup (ks.map tupI)]) (!decide (([] : List Int) ∈ ks)) := et_v (ev_notInK (k := []) (ev_tup ef_nil (by rw [sizeLine_eq]; simp)) (ev_var rfl))
      have no : idl ks = false → P (.bl false) := fun e => by rw [e] at h; exact h
      by_cases n0 : ([] : List Int) ∈ ks
      · have e2 : EvT (dTest (dBin oLt (dCB cLenS (dCons (dCB cSet (dCons (dVar 1) dNil)) dNil)) (dCB cLen (dCons (dVar 1) dNil)))) (startD nm__law_is_order_ideal [.int v, .tup (ks.map tupI)]) (!decide ks.Nodup) := fun P h => by
          simp only [t_test, e_bin, e_cb, a_cs, a_nl, e_var, sat_s, sat_0, startD, nm__law_is_order_ideal, List.map, List.length, List.replicate, List.cons_append, List.nil_append, fzP_fz]
          show optP _ (keysOf _)
          rw [keysOf_map]
          refine ⟨by omega, fun us hn hu => ?_⟩
          obtain ⟨l1, l2⟩ := nodup_len us ks hn hu
          show P (decide ((us.length : Int) < (((ks.map tupI).length : Nat) : Int)))
          have : decide ((us.length : Int) < (((ks.map tupI).length : Nat) : Int)) = !decide ks.Nodup := by
            rw [List.length_map]
            by_cases nd : ks.Nodup
            · have := l2.mpr nd
              rw [decide_eq_true nd, decide_eq_false (by omega)]; rfl
            · have : us.length ≠ ks.length := fun z => nd (l2.mp z)
              rw [decide_eq_false nd, decide_eq_true (by omega)]; rfl
          rw [this]
          exact h
        by_cases nd : ks.Nodup
        · refine sq_go (et_orR (et_is e1 (by rw [decide_eq_true n0]; rfl)) (et_is e2 (by rw [decide_eq_true nd]; rfl))) ?_
          refine sq_e (v := .lst (ks.map plc)) (ev_is (ev_f (ef_comp (fun d => plc (keyD d)) (ef_seq (ev_var rfl) (.inr rfl)) (by rfl) (by rw [sizeLine_eq, List.length_map]; omega) fun d hd => ?_)) ?_) ?_
          · obtain ⟨k, hk, rfl⟩ := List.mem_map.mp hd
            rw [keyD_t]
            have a := ev_tup (ef_cons (ev_len (ρ := (wipeE (startD nm__law_is_order_ideal [.int v, .tup (ks.map tupI)]) [3]).set 3 (.fz (tupI k))) (ev_var (i := 3) (v := tupI k) rfl) (.inr rfl)) (ef_cons (ev_back (ev_var (i := 3) (v := tupI k) rfl)) ef_nil)) (by rw [sizeLine_eq]; simp)
            rw [List.length_map, ← List.map_reverse] at a
            exact a
          · rw [List.map_map]
            congr 1
            exact List.map_congr_left fun k _ => by show plc (keyD (tupI k)) = _; rw [keyD_t]
          · have e3 := et_v (ev_ne (ρ := (startD nm__law_is_order_ideal [.int v, .tup (ks.map tupI)]).set 2 (.fz (.lst (ks.map plc)))) (ev_f (ef_srt (ef_cons (ev_var (i := 2) rfl) ef_nil) (plc_ok ks))) (ev_var (i := 2) (v := .lst (ks.map plc)) rfl) (fit_srt _ (fit_plcs ks)) (fit_plcs ks))
            rw [srt_plc] at e3
            by_cases ad : adjB pltB ks = true
            · have pw := ((asc_iff ks).mp ad).1
              refine sq_go (et_is e3 (by rw [decide_eq_true pw]; rfl)) ?_
              have e5 : idl ks = ks.all fun k => (List.range k.length).all fun i => decide (k.eraseIdx i ∈ ks) := by
                unfold idl
                have ad' : adjB (fun a b => (plc a).lt (plc b)) ks = true := ad
                rw [head_nil ad, ad', decide_eq_true n0, Bool.true_and, Bool.true_and]
              rw [e5] at h
              rw [s_sq, s_fo]
              refine ef_seq (ev_var rfl) (.inr rfl) _ ?_
              refine loi_for hB kl ks _ _ rfl rfl (fun j hj => hj) (fun e => ?_) fun e a b => ?_
              · rw [e] at h; exact h
              · rw [e] at h; exact h
            · have ad0 : adjB pltB ks = false := by simpa using ad
              have pw : ¬ (ks.map plc).Pairwise fun a b => (!b.lt a) = true := fun z => ad ((asc_iff ks).mpr ⟨z, nd⟩)
              refine sq_y (et_is e3 (by rw [decide_eq_false pw]; rfl)) (no ?_)
              unfold idl
              have ad' : adjB (fun a b => (plc a).lt (plc b)) ks = false := ad0
              rw [ad', Bool.false_and, Bool.and_false]
        · refine sq_y (et_orR (et_is e1 (by rw [decide_eq_true n0]; rfl)) (et_is e2 (by rw [decide_eq_false nd]; rfl))) (no ?_)
          unfold idl
          have ad' : adjB (fun a b => (plc a).lt (plc b)) ks = false := by
            cases z : adjB (fun a b => (plc a).lt (plc b)) ks with
            | false => rfl
            | true => exact absurd ((asc_iff ks).mp z).2 nd
          rw [ad', Bool.false_and, Bool.and_false]
      · refine sq_y (et_orL (et_is e1 (by rw [decide_eq_false n0]; rfl))) (no ?_)
        unfold idl
        have : hd0 ks = false := by
          cases ks with
          | nil => rfl
          | cons k ks =>
            cases k with
            | nil => exact absurd List.mem_cons_self n0
            | cons x k => rfl
        rw [this, Bool.false_and]
    · have q : xs.all (D.isMon v) = false := by simpa using q
      refine sq_y (et_orR (et_aTup (ev_var rfl)) (et_is ev1 (by rw [q]; rfl))) ?_
      have e : (D.tup xs).idl v = false := by show (xs.all (D.isMon v) && _) = false; rw [q]; rfl
      rw [e] at h
      exact h
  · refine sq_y (et_orL (et_noTup (ev_var rfl) hd.norm hT)) ?_
    have e : d.idl v = false := by cases d <;> first | rfl | cases hT
    rw [e] at h
    exact h
end PD

namespace PD
open PySem PySem.Spec PyProof.Rows L2 BN
/-! ### sequences -/
def isSeq (xs : List D) : Bool := decide (1 ≤ xs.length) && decide (xs.length ≤ 8) && xs.all (D.btw (-1000000) 1000000)
def D.isSeq : D → Bool
  | .tup xs => PD.isSeq xs
  | _ => false
theorem lseq_fn {B : Nat} {d : D} (hB : B ≤ 306) (hd : Ok B d) : Fn pre__law_is_sequence [d] (.bl d.isSeq) := fun P h => by
  unfold pre__law_is_sequence d__law_is_sequence
  rcases tup_cases d with ⟨xs, rfl⟩ | hT
  · obtain ⟨hl, hx⟩ := hd.tupI
    have e1 : EvT (dTNot (dTest (dCh oLe oLe (dC (.int 1)) (dCB cLen (dCons (dVar 0) dNil)) (dC (.int 8))))) (startD nm__law_is_sequence [.tup xs]) (!(decide (1 ≤ xs.length) && decide (xs.length ≤ 8))) := et_is (et_not (et_v (ev_ch ev_c (ev_len (ev_var rfl) (.inr rfl)) ev_c))) (by
      have a : decide ((1 : Int) ≤ (xs.length : Nat)) = decide (1 ≤ xs.length) := by rw [decide_eq_decide]; omega
      have b : decide (((xs.length : Nat) : Int) ≤ 8) = decide (xs.length ≤ 8) := by rw [decide_eq_decide]; omega
      rw [a, b])
    cases q : (decide (1 ≤ xs.length) && decide (xs.length ≤ 8)) with
    | false =>
      refine sq_y (et_orR (et_aTup (ev_var rfl)) (et_is e1 (by rw [q]; rfl))) ?_
      have e : (D.tup xs).isSeq = false := by show ((decide (1 ≤ xs.length) && decide (xs.length ≤ 8)) && _) = false; rw [q]; rfl
      rw [e] at h
      exact h
    | true =>
      refine sq_go (et_orR (et_aTup (ev_var rfl)) (et_is e1 (by rw [q]; rfl))) ?_
      have e : (D.tup xs).isSeq = xs.all (D.btw (-1000000) 1000000) := by show ((decide (1 ≤ xs.length) && decide (xs.length ≤ 8)) && _) = _; rw [q]; rfl
      rw [e] at h
      have cp : CPow 10 6 := ⟨by decide, by decide, by decide⟩
      have pw : ∀ ρ, Ev (dBin oPow (dC (.int 10)) (dC (.int 6))) ρ (.int 1000000) := fun ρ => ev_bin ev_c ev_c fun P h => ⟨cp, h⟩
      refine sr_e (ev_all (fun x => D.btw (-1000000) 1000000 x) (ef_comp (fun x => .bl (x.btw (-1000000) 1000000)) (ef_seq (ev_var rfl) (.inr rfl)) (by rfl) (by rw [sizeLine_eq]; omega) fun d hd => ev_call (ef_cons (ev_var rfl) (ef_cons (ev_bin ev_c (pw _) fun P h => h) (ef_cons (pw _) ef_nil))) rfl (lbtw_fn (hx d hd).norm))) h
  · refine sq_y (et_orL (et_noTup (ev_var rfl) hd.norm hT)) ?_
    have e : d.isSeq = false := by cases d <;> first | rfl | cases hT
    rw [e] at h
    exact h
/-- whether a sequence fails at an index -/
noncomputable def fails (g : List Int) (k : Nat) : Bool :=
  if k = 0 then decide (g.getD 0 0 ≠ 1) else if g.getD k 0 < 0 then true else decide (1 < k) && (decide (0 ≤ g.getD (k - 1) 0) && decide (((mn (g.getD (k - 1) 0).toNat (k - 1) : Nat) : Int) < g.getD k 0))
theorem atI_int {g : List Int} {i : Int} (n : Nat) (hi : i = (n : Nat)) (h : n < g.length) : atI (g.map D.int) i = some (.int (g.getD n 0)) := by
  rw [atI_nat n hi (by rw [List.length_map]; exact h), List.getElem_map]
  congr 2
  rw [List.getD_eq_getElem?_getD, List.getElem?_eq_getElem h]; rfl
theorem ev_ixI {ρ : Env} {a b : DE} {g : List Int} {i : Int} (n : Nat) (ha : Ev a ρ (tupI g)) (hb : Ev b ρ (.int i)) (hi : i = (n : Nat)) (h : n < g.length) : Ev (dBin oIx a b) ρ (.int (g.getD n 0)) := ev_ix ha hb (.inr rfl) (atI_int n hi h)
theorem ev_I {ρ : Env} {a b : DE} {f : Int → Int → D} {i j : Int} (ha : Ev a ρ (.int i)) (hb : Ev b ρ (.int j)) : Ev (dBin (oI0 f) a b) ρ (f i j) := ev_bin ha hb fun P h => h
theorem lfails_fn {g : List Int} {k : Nat} (hk : k < g.length) (hg : ∀ x ∈ g, x ≤ 10 ^ 8) (hl : g.length ≤ 1000) : Fn pre__law_fails_at [tupI g, .int (k : Nat)] (.bl (fails g k)) := fun P h => by
  have gk : ∀ n, n < g.length → g.getD n 0 ≤ 10 ^ 8 := fun n hn => by
    rw [List.getD_eq_getElem?_getD, List.getElem?_eq_getElem hn]
    exact hg _ (List.getElem_mem hn)
  unfold pre__law_fails_at d__law_fails_at
  unfold fails at h
  by_cases k0 : k = 0
  · subst k0
    rw [if_pos rfl] at h
    refine sq_ret (et_is (et_v (ev_eq (ev_var rfl) ev_c (by rfl) (by rfl))) (by rw [eqv_ii]; rfl)) (ev_ne (ev_ixI 0 (ev_var rfl) ev_c rfl hk) ev_c (by rfl) (by rfl)) ?_
    rw [eqv_ii]
    have : (!(g.getD 0 0 == 1)) = decide (g.getD 0 0 ≠ 1) := by
      by_cases z : g.getD 0 0 = 1
      · rw [z]; rfl
      · rw [decide_eq_true z, beq_eq_false_iff_ne.mpr z]; rfl
    rw [this]
    exact h
  · rw [if_neg k0] at h
    refine sq_go (et_is (et_v (ev_eq (ev_var rfl) ev_c (by rfl) (by rfl))) (by rw [eqv_ii, beq_eq_false_iff_ne]; omega)) ?_
    by_cases neg : g.getD k 0 < 0
    · rw [if_pos neg] at h
      exact sq_ret (et_is (et_v (ev_I (ev_ixI k (ev_var rfl) (ev_var rfl) rfl hk) ev_c)) (decide_eq_true neg)) ev_c h
    · rw [if_neg neg] at h
      refine sq_go (et_is (et_v (ev_I (ev_ixI k (ev_var rfl) (ev_var rfl) rfl hk) ev_c)) (decide_eq_false neg)) ?_
      refine sr_e (ev_and (p := decide (1 < k)) (ev_is (ev_I (ev_var rfl) ev_c) (by congr 1; rw [decide_eq_decide]; omega)) fun k1 => ev_and (p := decide (0 ≤ g.getD (k - 1) 0)) (ev_I (ev_ixI (k - 1) (ev_var rfl) (ev_I (ev_var rfl) ev_c) (by omega) (by omega)) ev_c) fun p1 => ?_) h
      have k1 := of_decide_eq_true k1
      have p1 := of_decide_eq_true p1
      have g1 := gk (k - 1) (by omega)
      refine ev_I (ev_ixI k (ev_var rfl) (ev_var rfl) rfl hk) (ev_call (ef_cons (ev_ixI (k - 1) (ev_var rfl) (ev_I (ev_var rfl) ev_c) (by omega) (by omega)) (ef_cons (ev_I (ev_var rfl) ev_c) ef_nil)) rfl fun P h => ?_)
      exact lmn_ok (g.getD (k - 1) 0).toNat (k - 1) (by omega) (by omega) (by omega) (by omega) (by omega) h
def D.isIx (n : Nat) : D → Bool
  | .int i => decide (0 ≤ i) && decide (i ≤ (n : Int) - 1)
  | _ => false
noncomputable def D.fails (g : List Int) : D → Bool
  | .int i => PD.fails g i.toNat
  | _ => false
theorem shno_fn {g : List Int} {w : D} {p : D} (hp : p.norm = true) (hg : ∀ x ∈ g, x ≤ 10 ^ 8) (hl : g.length ≤ 1000) : Fn pre_shows_no_sequence [.tup [w, tupI g], p] (.bl (p.btw 0 ((g.length : Int) - 1) && p.fails g)) := fun P h => by
  have gk : ∀ n, n < g.length → g.getD n 0 ≤ 10 ^ 8 := fun n hn => by
    rw [List.getD_eq_getElem?_getD, List.getElem?_eq_getElem hn]
    exact hg _ (List.getElem_mem hn)
  unfold pre_shows_no_sequence d_shows_no_sequence
  refine sq_e (v := tupI g) (ev_ix (ev_var rfl) ev_c (.inr rfl) rfl) ?_
  have e1 : EvT (dTNot (dTest (dCall 3 pre_is_between (dCons (dVar 1) (dCons (dC (.int 0)) (dCons (dBin oSub (dCB cLen (dCons (dVar 2) dNil)) (dC (.int 1))) dNil)))))) ((startD nm_shows_no_sequence [.tup [w, tupI g], p]).set 2 (.fz (tupI g))) (!p.btw 0 ((g.length : Int) - 1)) := by
    have a := ev_len (ρ := (startD nm_shows_no_sequence [.tup [w, tupI g], p]).set 2 (.fz (tupI g))) (ev_var (i := 2) (v := tupI g) rfl) (.inr rfl)
    rw [List.length_map] at a
    exact et_not (et_v (ev_call (ef_cons (ev_var rfl) (ef_cons ev_c (ef_cons (ev_I a ev_c) ef_nil))) rfl (btw_fn hp)))
  cases q : p.btw 0 ((g.length : Int) - 1) with
  | false =>
    rw [q] at h
    exact sq_ret (et_is e1 (by rw [q]; rfl)) ev_c h
  | true =>
    rw [q, Bool.true_and] at h
    refine sq_go (et_is e1 (by rw [q]; rfl)) ?_
    cases p with
    | int i =>
      simp [D.btw] at q
      obtain ⟨k, rfl⟩ : ∃ k : Nat, i = (k : Nat) := ⟨i.toNat, by omega⟩
      have hk : k < g.length := by omega
      have h : P (.bl (fails g k)) := by
        have e : (D.int (k : Nat)).fails g = fails g k := by show fails g ((k : Nat) : Int).toNat = _; rw [Int.toNat_natCast]
        rw [e] at h; exact h
      unfold fails at h
      by_cases k0 : k = 0
      · subst k0
        rw [if_pos rfl] at h
        refine sq_ret (et_is (et_v (ev_eq (ev_var rfl) ev_c (by rfl) (by rfl))) (by rw [eqv_ii]; rfl)) (ev_ne (ev_ixI 0 (ev_var rfl) ev_c rfl hk) ev_c (by rfl) (by rfl)) ?_
        rw [eqv_ii]
        have : (!(g.getD 0 0 == 1)) = decide (g.getD 0 0 ≠ 1) := by
          by_cases z : g.getD 0 0 = 1
          · rw [z]; rfl
          · rw [decide_eq_true z, beq_eq_false_iff_ne.mpr z]; rfl
        rw [this]
        exact h
      · rw [if_neg k0] at h
        refine sq_go (et_is (et_v (ev_eq (ev_var rfl) ev_c (by rfl) (by rfl))) (by rw [eqv_ii, beq_eq_false_iff_ne]; omega)) ?_
        by_cases neg : g.getD k 0 < 0
        · rw [if_pos neg] at h
          exact sq_ret (et_is (et_v (ev_I (ev_ixI k (ev_var rfl) (ev_var rfl) rfl hk) ev_c)) (decide_eq_true neg)) ev_c h
        · rw [if_neg neg] at h
          refine sq_go (et_is (et_v (ev_I (ev_ixI k (ev_var rfl) (ev_var rfl) rfl hk) ev_c)) (decide_eq_false neg)) ?_
          by_cases k2 : k < 2
          · rw [decide_eq_false (by omega), Bool.false_and] at h
            exact sq_ret (et_orL (et_is (et_v (ev_I (ev_var rfl) ev_c)) (decide_eq_true (by omega)))) ev_c h
          · rw [decide_eq_true (by omega), Bool.true_and] at h
            have g1 := gk (k - 1) (by omega)
            have e2 := et_is (et_v (ev_I (f := fun i j => .bl (decide (i < j))) (ρ := (startD nm_shows_no_sequence [.tup [w, tupI g], .int (k : Nat)]).set 2 (.fz (tupI g))) (ev_var (i := 1) (v := .int (k : Nat)) rfl) (ev_c (v := .int 2)))) (decide_eq_false (by omega))
            have e3 := et_v (ev_I (f := fun i j => .bl (decide (i < j))) (ρ := (startD nm_shows_no_sequence [.tup [w, tupI g], .int (k : Nat)]).set 2 (.fz (tupI g))) (ev_ixI (k - 1) (ev_var (i := 2) (v := tupI g) rfl) (ev_I (f := fun i j => .int (i - j)) (ev_var (i := 1) (v := .int (k : Nat)) rfl) (ev_c (v := .int 1))) (by omega) (by omega)) (ev_c (v := .int 0)))
            by_cases n1 : g.getD (k - 1) 0 < 0
            · rw [decide_eq_false (by omega), Bool.false_and] at h
              exact sq_ret (et_orR e2 (et_is e3 (decide_eq_true n1))) ev_c h
            · rw [decide_eq_true (by omega), Bool.true_and] at h
              refine sq_go (et_orR e2 (et_is e3 (decide_eq_false n1))) ?_
              refine sr_e (ev_I (ev_ixI k (ev_var rfl) (ev_var rfl) rfl hk) (ev_call (ef_cons (ev_ixI (k - 1) (ev_var rfl) (ev_I (ev_var rfl) ev_c) (by omega) (by omega)) (ef_cons (ev_I (ev_var rfl) ev_c) ef_nil)) rfl fun P h => ?_)) h
              exact mn_ok (g.getD (k - 1) 0).toNat (k - 1) (by omega) (by omega) (by omega) (by omega) (by omega) h
    | _ => cases q
end PD

namespace PD
open PySem PySem.Spec PyProof.Rows L2 BN
/-! ### as many of each degree -/
def cnt (ks : List (List Int)) (d : Nat) : Nat := (ks.filter fun k => k.length == d).length
def cntB (g : List Int) (ks : List (List Int)) : Bool := (ks.all fun k => decide (k.length < g.length)) && decide ((List.range g.length).map (fun d => ((cnt ks d : Nat) : Int)) = g)
def varsOf (g : List Int) : Int := g.getD 1 0
def shB (g : List Int) (p : D) : Bool := decide (0 ≤ varsOf g) && decide (varsOf g ≤ 6) && (p.idl (varsOf g) && cntB g (match p with | .tup xs => xs.map keyD | _ => []))
theorem count_len (ks : List (List Int)) (d : Nat) : (ks.map fun k => ((k.length : Nat) : Int)).count ((d : Nat) : Int) = cnt ks d := by
  unfold cnt
  induction ks with
  | nil => rfl
  | cons k ks ih =>
    rw [List.map_cons, List.count_cons, List.filter_cons, ih]
    by_cases h : k.length = d
    · subst h; simp
    · have h1 : ((k.length : Int) == (d : Int)) = false := beq_eq_false_iff_ne.mpr (by omega)
      have h2 : (k.length == d) = false := beq_eq_false_iff_ne.mpr h
      rw [h1, h2]; simp
theorem idl_keys {v : Int} {p : D} (h : p.idl v = true) : ∃ ks : List (List Int), p = .tup (ks.map tupI) ∧ ks ≠ [] := by
  rcases tup_cases p with ⟨xs, rfl⟩ | hT
  · have h : (xs.all (D.isMon v) && PD.idl (xs.map keyD)) = true := h
    rw [Bool.and_eq_true] at h
    obtain ⟨ks, rfl, _⟩ := mons_keys h.1
    refine ⟨ks, rfl, fun e => ?_⟩
    subst e
    exact absurd h.2 (by decide)
  · have : p.idl v = false := by cases p <;> first | rfl | cases hT
    rw [this] at h; cases h
theorem ev_vars {ρ : Env} {g : List Int} {i : Nat} (h : sat ρ i = .fz (tupI g)) : Ev (dIf (dTest (dBin oGt (dCB cLen (dCons (dVar i) dNil)) (dC (.int 1)))) (dBin oIx (dVar i) (dC (.int 1))) (dC (.int 0))) ρ (.int (varsOf g)) := by
  have a := ev_len (ev_var h) (.inr rfl)
  rw [List.length_map] at a
  refine ev_if (et_v (ev_I (f := fun i j => .bl (decide (j < i))) a ev_c)) (fun q => ?_) fun q => ?_
  · have q := of_decide_eq_true q
    exact ev_ixI 1 (ev_var h) ev_c rfl (by omega)
  · have q := of_decide_eq_false q
    have : varsOf g = 0 := by
      unfold varsOf
      rw [List.getD_eq_getElem?_getD, List.getElem?_eq_none (by omega)]; rfl
    rw [this]
    exact ev_c
theorem et_vars {ρ : Env} {g : List Int} {i : Nat} (h : sat ρ i = .fz (.int (varsOf g))) : EvT (dTNot (dTest (dCh oLe oLe (dC (.int 0)) (dVar i) (dC (.int 6))))) ρ (!(decide (0 ≤ varsOf g) && decide (varsOf g ≤ 6))) := et_not (et_v (ev_ch ev_c (ev_var h) ev_c))
theorem all_enum (ks : List (List Int)) (g : List Int) : ((g.zipIdx.map fun p => (D.int (p.2 : Nat), D.int p.1)).all fun p => match p.1, p.2 with | .int d, .int m => ((((ks.map fun k => ((k.length : Nat) : Int)).count d : Nat) : Int) == m) | _, _ => false) = decide ((List.range g.length).map (fun d => ((cnt ks d : Nat) : Int)) = g) := by
  have go : ∀ (g : List Int) (s : Nat), (((g.zipIdx s).map fun p => (D.int (p.2 : Nat), D.int p.1)).all fun p => match p.1, p.2 with | .int d, .int m => ((((ks.map fun k => ((k.length : Nat) : Int)).count d : Nat) : Int) == m) | _, _ => false) = decide ((List.range' s g.length).map (fun d => ((cnt ks d : Nat) : Int)) = g) := by
    intro g
    induction g with
    | nil => intro s; rfl
    | cons x g ih =>
      intro s
      rw [List.zipIdx_cons, List.map_cons, List.all_cons, ih, List.length_cons, List.range'_succ, List.map_cons]
      have e : ((((ks.map fun k => ((k.length : Nat) : Int)).count ((s : Nat) : Int) : Nat) : Int) == x) = decide (((cnt ks s : Nat) : Int) = x) := by
        rw [count_len]
        by_cases h : ((cnt ks s : Nat) : Int) = x
        · rw [decide_eq_true h, h]; simp
        · rw [decide_eq_false h, beq_eq_false_iff_ne.mpr h]
      show (((((ks.map fun k => ((k.length : Nat) : Int)).count ((s : Nat) : Int) : Nat) : Int) == x) && _) = _
      rw [e]
      by_cases h : ((cnt ks s : Nat) : Int) = x
      · rw [decide_eq_true h, Bool.true_and, h]
        by_cases h2 : (List.range' (s + 1) g.length).map (fun d => ((cnt ks d : Nat) : Int)) = g
        · rw [decide_eq_true h2, h2]; simp
        · rw [decide_eq_false h2, decide_eq_false fun z => h2 (List.cons.inj z).2]
      · rw [decide_eq_false h, Bool.false_and, decide_eq_false fun z => h (List.cons.inj z).1]
  rw [List.range_eq_range']
  exact go g 0
theorem shows_fn {B : Nat} {g : List Int} {w p : D} (hB : B ≤ 306) (hp : Ok B p) (hl : g.length ≤ 8) : Fn pre_shows_sequence [.tup [w, tupI g], p] (.bl (shB g p)) := fun P h => by
  unfold pre_shows_sequence d_shows_sequence
  refine sq_e (v := tupI g) (ev_ix (ev_var rfl) ev_c (.inr rfl) rfl) ?_
  refine sq_e (ev_vars (g := g) rfl) ?_
  have e1 := et_vars (g := g) (i := 3) (ρ := ((startD nm_shows_sequence [.tup [w, tupI g], p]).set 2 (.fz (tupI g))).set 3 (.fz (.int (varsOf g)))) rfl
  have e2 := et_not (et_v (ev_call (ρ := ((startD nm_shows_sequence [.tup [w, tupI g], p]).set 2 (.fz (tupI g))).set 3 (.fz (.int (varsOf g)))) (ef_cons (ev_var (i := 3) rfl) (ef_cons (ev_var (i := 1) rfl) ef_nil)) rfl (ideal_fn (v := varsOf g) hB hp)))
  unfold shB at h
  cases q : (decide (0 ≤ varsOf g) && decide (varsOf g ≤ 6)) with
  | false =>
    rw [q, Bool.false_and] at h
    exact sq_ret (et_orL (et_is e1 (by rw [q]; rfl))) ev_c h
  | true =>
    rw [q, Bool.true_and] at h
    cases i : p.idl (varsOf g) with
    | false =>
      rw [i, Bool.false_and] at h
      exact sq_ret (et_orR (et_is e1 (by rw [q]; rfl)) (et_is e2 (by rw [i]; rfl))) ev_c h
    | true =>
      rw [i, Bool.true_and] at h
      refine sq_go (et_orR (et_is e1 (by rw [q]; rfl)) (et_is e2 (by rw [i]; rfl))) ?_
      obtain ⟨ks, rfl, k0⟩ := idl_keys i
      have h : P (.bl (cntB g ks)) := by
        have h' : P (.bl (cntB g ((ks.map tupI).map keyD))) := h
        rw [keys_eq] at h'; exact h'
      have hk := hp.tupI.1
      rw [List.length_map] at hk
      refine sq_e (v := .lst ((ks.map fun k => ((k.length : Nat) : Int)).map D.int)) (ev_is (ev_f (ef_comp (fun d => .int ((keyD d).length : Nat)) (ef_seq (ev_var rfl) (.inr rfl)) (by rfl) (by rw [sizeLine_eq, List.length_map]; omega) fun d hd => ?_)) ?_) ?_
      · obtain ⟨k, hk, rfl⟩ := List.mem_map.mp hd
        rw [keyD_t]
        have := ev_len (ρ := (wipeE (((startD nm_shows_sequence [.tup [w, tupI g], .tup (ks.map tupI)]).set 2 (.fz (tupI g))).set 3 (.fz (.int (varsOf g)))) [5]).set 5 (.fz (tupI k))) (ev_var (i := 5) (v := tupI k) rfl) (.inr rfl)
        rw [List.length_map] at this
        exact this
      · rw [List.map_map, List.map_map]
        congr 1
        exact List.map_congr_left fun k _ => by show D.int ((keyD (tupI k)).length : Nat) = _; rw [keyD_t]; rfl
      · unfold cntB at h
        have e3 : ∀ b : Bool, (∀ m : Int, m ∈ (ks.map fun k => ((k.length : Nat) : Int)) → (∀ y ∈ (ks.map fun k => ((k.length : Nat) : Int)), y ≤ m) → decide (((g.length : Nat) : Int) ≤ m) = b) → EvT (dTest (dBin oGe (dCB cMaxL (dCons (dVar 4) dNil)) (dCB cLen (dCons (dVar 2) dNil)))) ((((startD nm_shows_sequence [.tup [w, tupI g], .tup (ks.map tupI)]).set 2 (.fz (tupI g))).set 3 (.fz (.int (varsOf g)))).set 4 (.fz (.lst ((ks.map fun k => ((k.length : Nat) : Int)).map D.int)))) b := fun b hb P h => by
          simp only [t_test, e_bin, e_cb, a_cs, a_nl, e_var, sat_s, sat_0, startD, nm_shows_sequence, List.map, List.length, List.replicate, List.cons_append, List.nil_append, List.set, fzP_fz, one1_1, lstP_l]
          rw [intsOf_map]
          refine ⟨by simpa using k0, fun m hm hy => ?_⟩
          show P (decide ((((g.map D.int).length : Nat) : Int) ≤ m))
          rw [List.length_map, hb m hm hy]
          exact h
        cases al : ks.all fun k => decide (k.length < g.length) with
        | false =>
          rw [al, Bool.false_and] at h
          refine sq_ret (e3 true fun m hm hy => ?_) ev_c h
          have : ∃ k ∈ ks, ¬ k.length < g.length := by
            refine Classical.byContradiction fun z => ?_
            have : (ks.all fun k => decide (k.length < g.length)) = true := List.all_eq_true.mpr fun k hk => decide_eq_true (Classical.byContradiction fun y => z ⟨k, hk, y⟩)
            rw [this] at al; cases al
          obtain ⟨k, hk, hn⟩ := this
          have := hy _ (List.mem_map.mpr ⟨k, hk, rfl⟩)
          exact decide_eq_true (by omega)
        | true =>
          rw [al, Bool.true_and] at h
          refine sq_go (e3 false fun m hm hy => ?_) ?_
          · obtain ⟨k, hk, rfl⟩ := List.mem_map.mp hm
            have := of_decide_eq_true (List.all_eq_true.mp al k hk)
            exact decide_eq_false (by omega)
          · refine sr_e (ev_all (us := g.zipIdx.map fun p => (D.int (p.2 : Nat), D.int p.1)) (fun p => match p.1, p.2 with | .int d, .int m => ((((ks.map fun k => ((k.length : Nat) : Int)).count d : Nat) : Int) == m) | _, _ => false) (ef_comp2 (g.zipIdx.map fun p => (D.int (p.2 : Nat), D.int p.1)) (fun x y => .bl (match x, y with | .int d, .int m => ((((ks.map fun k => ((k.length : Nat) : Int)).count d : Nat) : Int) == m) | _, _ => false)) (fun P h => ?_) (by rfl) (by rw [List.length_map, List.length_zipIdx, sizeLine_eq]; omega) fun q hq => ?_)) ?_
            · simp only [i_ei, e_var, sat_s, sat_0, startD, nm_shows_sequence, List.map, List.length, List.replicate, List.cons_append, List.nil_append, List.set, fzP_fz, seqP_t]
              rw [enI_map]
              have : ((g.map D.int).zipIdx.map fun p => (D.int (p.2 : Nat), p.1)) = g.zipIdx.map fun p => (D.int (p.2 : Nat), D.int p.1) := by
                rw [List.zipIdx_map, List.map_map]; rfl
              rw [this]
              exact h
            · obtain ⟨⟨m, d⟩, _, rfl⟩ := List.mem_map.mp hq
              intro P h
              simp only [e_bin, e_cnt, e_var, sat_s, sat_0, startD, nm_shows_sequence, List.map, List.length, List.replicate, List.cons_append, List.nil_append, List.set, wipeE, fzP_fz, lstP_l]
              rw [intsOf_map]
              refine ⟨⟨fit_int, fit_int⟩, ?_⟩
              rw [eqv_ii]
              exact h
            · rw [all_enum]
              exact h
end PD

namespace PD
open PySem PySem.Spec PyProof.Rows L2 BN
theorem sq_asg2 {ρ : Env} {a : DE} {x y : D} {i j : Nat} {r : DS} {S : DEnds} (ha : Ev a ρ (.tup [x, y])) (h : r S ((ρ.set i (.fz x)).set j (.fz y))) : dSeq (dAsg a (dGTup 2 (dGCons (dName i) (dGCons (dName j) dGNil)))) r S ρ := ha _ ⟨rfl, h⟩
/-! ### what a claim and a paper are worth -/
def seqI (r : D) : List Int := match r with
  | .tup xs => xs.map fun d => match d with | .int i => i | _ => 0
  | _ => []
noncomputable def judge (w : Str) (r p : D) : Bool := r.isSeq && (if w = "no M-sequence" then p.btw 0 (((seqI r).length : Int) - 1) && p.fails (seqI r) else if w = "M-sequence" then shB (seqI r) p else false)
noncomputable def spec (c p : D) : Bool := match c with
  | .tup [.str w, r] => judge w r p
  | _ => false
theorem seq_ints {r : D} (h : r.isSeq = true) : ∃ g : List Int, r = tupI g ∧ seqI r = g ∧ g.length ≤ 8 ∧ 1 ≤ g.length ∧ ∀ x ∈ g, x ≤ 10 ^ 8 := by
  rcases tup_cases r with ⟨xs, rfl⟩ | hT
  · have h' : (decide (1 ≤ xs.length) && decide (xs.length ≤ 8) && xs.all (D.btw (-1000000) 1000000)) = true := h
    rw [Bool.and_eq_true, Bool.and_eq_true] at h'
    obtain ⟨g, rfl, hg⟩ := btw_ints h'.2
    have l1 := of_decide_eq_true h'.1.1
    have l2 := of_decide_eq_true h'.1.2
    rw [List.length_map] at l1 l2
    refine ⟨g, rfl, ?_, l2, l1, fun x hx => by have := (hg x hx).2; omega⟩
    show (g.map D.int).map _ = g
    rw [List.map_map]
    exact List.map_id _
  · have : r.isSeq = false := by cases r <;> first | rfl | cases hT
    rw [this] at h; cases h
theorem sum_cnt (ks : List (List Int)) (n : Nat) : ((List.range n).map fun d => ((cnt ks d : Nat) : Int)).sum = ((ks.filter fun k => decide (k.length < n)).length : Nat) := by
  induction n with
  | zero =>
    have : (ks.filter fun k => decide (k.length < 0)) = [] := List.filter_eq_nil_iff.mpr fun k _ => by simp
    rw [this]; rfl
  | succ n ih =>
    rw [List.range_succ, List.map_append, List.sum_append, ih]
    have e : (ks.filter fun k => decide (k.length < n + 1)).length = (ks.filter fun k => decide (k.length < n)).length + cnt ks n := by
      unfold cnt
      clear ih
      induction ks with
      | nil => rfl
      | cons k ks ih =>
        rw [List.filter_cons, List.filter_cons, List.filter_cons]
        by_cases h1 : k.length < n
        · rw [if_pos (by simpa using Nat.lt_succ_of_lt h1), if_pos (by simpa using h1), if_neg (by simpa using Nat.ne_of_lt h1), List.length_cons, List.length_cons, ih]
          omega
        · by_cases h2 : k.length = n
          · rw [if_pos (by simp; omega), if_neg (by simpa using h1), if_pos (by simpa using h2), List.length_cons, List.length_cons, ih]
            omega
          · rw [if_neg (by simp; omega), if_neg (by simpa using h1), if_neg (by simpa using h2), ih]
    rw [e]
    simp
theorem filter_all {α : Type} (f : α → Bool) (l : List α) : (l.filter f).length = l.length ↔ l.all f = true := by
  rw [List.length_filter_eq_length_iff, List.all_eq_true]
theorem fitS {x : Str} (h : PyData.strOk x = true) : (D.str x).fit 60 = true := by rw [fit_str]; exact h
theorem eqv_str (a b : Str) : (D.str a).eqv (.str b) = decide (a = b) := by
  unfold D.eqv
  rw [D.py, D.py]
  simp only [PyData.eqv]
  by_cases h : a = b
  · subst h; simp
  · simp [h]
theorem takes_fn {B : Nat} {c p : D} (hB : B ≤ 306) (hc : Ok B c) (hp : Ok B p) : Fn pre__law_takes [c, p] (.bl (spec c p)) := fun P h => by
  unfold pre__law_takes d__law_takes
  rcases tup_cases c with ⟨xs, rfl⟩ | hT
  · obtain ⟨hl, hx⟩ := hc.tupI
    have e1 : EvT (dTest (dBin oNe (dCB cLen (dCons (dVar 0) dNil)) (dC (.int 2)))) (startD nm__law_takes [.tup xs, p]) (!decide (xs.length = 2)) := et_is (et_v (ev_ne (ev_len (ev_var rfl) (.inr rfl)) ev_c fit_int fit_int)) (by
      rw [eqv_ii]
      by_cases z : xs.length = 2
      · rw [z]; rfl
      · rw [decide_eq_false z, beq_eq_false_iff_ne.mpr (by omega)])
    have no : ∀ {P' : Prop}, (spec (.tup xs) p = false → P (.bl false)) := fun e => by rw [e] at h; exact h
    by_cases l2 : xs.length = 2
    · obtain ⟨u, r, rfl⟩ : ∃ u r, xs = [u, r] := by
        match xs, l2 with
        | [u, r], _ => exact ⟨u, r, rfl⟩
      have hu := hx u (by simp)
      have hr := hx r (by simp)
      have e2 : EvT (dTNot (dTest (dCB cIsi (dCons (dBin oIx (dVar 0) (dC (.int 0))) (dCons (dC (.ty "str")) dNil))))) (startD nm__law_takes [.tup [u, r], p]) (!u.isStr) := et_not (et_v (ev_isStr (ev_ix (ev_var rfl) ev_c (.inr rfl) rfl) hu.norm))
      cases hs : u.isStr with
      | false =>
        refine sq_ret (et_orR (et_aTup (ev_var rfl)) (et_orR (et_is e1 rfl) (et_is e2 (by rw [hs]; rfl)))) ev_c ?_
        have : spec (.tup [u, r]) p = false := by cases u <;> first | rfl | cases hs
        rw [this] at h
        exact h
      | true =>
        obtain ⟨w, rfl⟩ : ∃ w, u = .str w := by cases u <;> first | exact ⟨_, rfl⟩ | cases hs
        have wf : (D.str w).fit 60 = true := by cases hu with | str _ q => exact fitS q
        refine sq_go (et_orR (et_aTup (ev_var rfl)) (et_orR (et_is e1 rfl) (et_is e2 (by rw [hs]; rfl)))) ?_
        have h : P (.bl (judge w r p)) := h
        unfold judge at h
        have e3 : EvT (dTNot (dTest (dCall 1 pre__law_is_sequence (dCons (dBin oIx (dVar 0) (dC (.int 1))) dNil)))) (startD nm__law_takes [.tup [.str w, r], p]) (!r.isSeq) := et_not (et_v (ev_call (ef_cons (ev_ix (ev_var rfl) ev_c (.inr rfl) rfl) ef_nil) rfl (lseq_fn hB hr)))
        cases sq : r.isSeq with
        | false =>
          rw [sq, Bool.false_and] at h
          exact sq_ret (et_is e3 (by rw [sq]; rfl)) ev_c h
        | true =>
          rw [sq, Bool.true_and] at h
          refine sq_go (et_is e3 (by rw [sq]; rfl)) ?_
          obtain ⟨g, rfl, ge, g8, g1, gb⟩ := seq_ints sq
          rw [ge] at h
          refine sq_asg2 (ev_var rfl) ?_
          have e4 : ∀ z : Str, PyData.strOk z = true → EvT (dTest (dBin oEq (dVar 4) (dC (.str z)))) [.fz (.tup [.str w, tupI g]), .fz p, .no, .no, .fz (.str w), .fz (tupI g), .no, .no] (decide (w = z)) := fun z hz => et_is (et_v (ev_eq (ev_var rfl) ev_c wf (fitS hz))) (eqv_str w z)
          by_cases w1 : w = "no M-sequence"
          · rw [if_pos w1] at h
            refine sq_ret (et_is (e4 _ (by decide +kernel)) (decide_eq_true w1)) (ev_and (p := p.btw 0 ((g.length : Int) - 1)) ?_ fun q => ?_) h
            · have a := ev_len (ρ := [.fz (.tup [.str w, tupI g]), .fz p, .no, .no, .fz (.str w), .fz (tupI g), .no, .no]) (ev_var (i := 5) (v := tupI g) rfl) (.inr rfl)
              rw [List.length_map] at a
              exact ev_call (ef_cons (ev_var rfl) (ef_cons ev_c (ef_cons (ev_I a ev_c) ef_nil))) rfl (lbtw_fn hp.norm)
            · cases p with
              | int i =>
                simp [D.btw] at q
                obtain ⟨k, rfl⟩ : ∃ k : Nat, i = (k : Nat) := ⟨i.toNat, by omega⟩
                have e : (D.int (k : Nat)).fails g = fails g k := by show fails g ((k : Nat) : Int).toNat = _; rw [Int.toNat_natCast]
                rw [e]
                exact ev_call (ef_cons (ev_var rfl) (ef_cons (ev_var rfl) ef_nil)) rfl (lfails_fn (by omega) gb (by omega))
              | _ => cases q
          · rw [if_neg w1] at h
            refine sq_go (et_is (e4 _ (by decide +kernel)) (decide_eq_false w1)) ?_
            refine sq_e (ev_vars (g := g) rfl) ?_
            have e5 : EvT (dTest (dBin oNe (dVar 4) (dC (.str "M-sequence")))) [.fz (.tup [.str w, tupI g]), .fz p, .fz (.int (varsOf g)), .no, .fz (.str w), .fz (tupI g), .no, .no] (!decide (w = "M-sequence")) := et_is (et_v (ev_ne (ev_var rfl) ev_c wf (fitS (by decide +kernel)))) (by rw [eqv_str])
            by_cases w2 : w = "M-sequence"
            · rw [if_pos w2] at h
              unfold shB at h
              have e6 := et_vars (g := g) (i := 2) (ρ := [.fz (.tup [.str w, tupI g]), .fz p, .fz (.int (varsOf g)), .no, .fz (.str w), .fz (tupI g), .no, .no]) rfl
              have e7 := et_not (et_v (ev_call (ρ := [.fz (.tup [.str w, tupI g]), .fz p, .fz (.int (varsOf g)), .no, .fz (.str w), .fz (tupI g), .no, .no]) (ef_cons (ev_var (i := 2) rfl) (ef_cons (ev_var (i := 1) rfl) ef_nil)) rfl (lideal_fn (v := varsOf g) hB hp)))
              cases q : (decide (0 ≤ varsOf g) && decide (varsOf g ≤ 6)) with
              | false =>
                rw [q, Bool.false_and] at h
                exact sq_ret (et_orR (et_is e5 (by rw [decide_eq_true w2]; rfl)) (et_orL (et_is e6 (by rw [q]; rfl)))) ev_c h
              | true =>
                rw [q, Bool.true_and] at h
                cases i : p.idl (varsOf g) with
                | false =>
                  rw [i, Bool.false_and] at h
                  exact sq_ret (et_orR (et_is e5 (by rw [decide_eq_true w2]; rfl)) (et_orR (et_is e6 (by rw [q]; rfl)) (et_is e7 (by rw [i]; rfl)))) ev_c h
                | true =>
                  rw [i, Bool.true_and] at h
                  refine sq_go (et_orR (et_is e5 (by rw [decide_eq_true w2]; rfl)) (et_orR (et_is e6 (by rw [q]; rfl)) (et_is e7 (by rw [i]; rfl)))) ?_
                  obtain ⟨ks, rfl, k0⟩ := idl_keys i
                  have h : P (.bl (cntB g ks)) := by
                    have h' : P (.bl (cntB g ((ks.map tupI).map keyD))) := h
                    rw [keys_eq] at h'; exact h'
                  have hk := hp.tupI.1
                  rw [List.length_map] at hk
                  refine sq_e (v := .lst (((List.range g.length).map fun d => ((cnt ks d : Nat) : Int)).map D.int)) (ev_is (ev_f (ef_comp (xs := (List.range g.length).map fun i => D.int (i : Nat)) (fun d => .int ((cnt ks (match d with | .int i => i.toNat | _ => 0) : Nat) : Int)) (ef_rg (n := g.length) ?_ (by omega)) (by rfl) (by rw [List.length_map, List.length_range, sizeLine_eq]; omega) fun d hd => ?_)) ?_) ?_
                  · have a := ev_len (ρ := [.fz (.tup [.str w, tupI g]), .fz (.tup (ks.map tupI)), .fz (.int (varsOf g)), .no, .fz (.str w), .fz (tupI g), .no, .no]) (ev_var (i := 5) (v := tupI g) rfl) (.inr rfl)
                    rw [List.length_map] at a
                    exact a
                  · obtain ⟨n, hn, rfl⟩ := List.mem_map.mp hd
                    show Ev _ _ (.int ((cnt ks ((n : Nat) : Int).toNat : Nat) : Int))
                    rw [Int.toNat_natCast]
                    refine ev_is (ev_len (ev_f (ef_fil (fun d => (keyD d).length == n) (fun d => d) (ef_seq (ev_var rfl) (.inr rfl)) (by rfl) (by rw [List.length_map, sizeLine_eq]; omega) (fun d hd => ?_) fun d _ _ => ev_var rfl)) (.inl rfl)) ?_
                    · obtain ⟨k, hk, rfl⟩ := List.mem_map.mp hd
                      rw [keyD_t]
                      have a := ev_len (ρ := (wipeE ((wipeE [.fz (.tup [.str w, tupI g]), .fz (.tup (ks.map tupI)), .fz (.int (varsOf g)), .no, .fz (.str w), .fz (tupI g), .no, .no] [6]).set 6 (.fz (.int (n : Nat)))) [7]).set 7 (.fz (tupI k))) (ev_var (i := 7) (v := tupI k) rfl) (.inr rfl)
                      rw [List.length_map] at a
                      refine et_is (et_v (ev_eq a (ev_var (i := 6) (v := .int (n : Nat)) rfl) fit_int fit_int)) ?_
                      rw [eqv_ii]
                      by_cases z : k.length = n
                      · subst z; simp
                      · rw [beq_eq_false_iff_ne.mpr z, beq_eq_false_iff_ne.mpr (by omega)]
                    · rw [List.map_id', List.filter_map, List.length_map]
                      unfold cnt
                      congr 3
                      refine List.filter_congr fun k _ => ?_
                      show ((keyD (tupI k)).length == n) = _
                      rw [keyD_t]
                  · rw [List.map_map, List.map_map]
                    congr 1
                  · have a := ev_len (ρ := [.fz (.tup [.str w, tupI g]), .fz (.tup (ks.map tupI)), .fz (.int (varsOf g)), .fz (.lst (((List.range g.length).map fun d => ((cnt ks d : Nat) : Int)).map D.int)), .fz (.str w), .fz (tupI g), .no, .no]) (ev_var (i := 1) (v := .tup (ks.map tupI)) rfl) (.inr rfl)
                    have s : Ev (dCB cSum (dCons (dVar 3) dNil)) [.fz (.tup [.str w, tupI g]), .fz (.tup (ks.map tupI)), .fz (.int (varsOf g)), .fz (.lst (((List.range g.length).map fun d => ((cnt ks d : Nat) : Int)).map D.int)), .fz (.str w), .fz (tupI g), .no, .no] (.int ((ks.filter fun k => decide (k.length < g.length)).length : Nat)) := ev_cb (ef_cons (ev_var rfl) ef_nil) fun P h => by
                      show optP _ (intsOf _)
                      rw [intsOf_map]
                      show P _
                      rw [sum_cnt]
                      exact h
                    refine sr_e (ev_and (p := ks.all fun k => decide (k.length < g.length)) (ev_is (ev_eq s a fit_int fit_int) ?_) fun _ => ev_is (ev_eq (ev_var rfl) (ev_f (ef_list (ef_cons (ev_var (i := 5) (v := tupI g) rfl) ef_nil) (.inr rfl))) (fit_ints _) (fit_ints g)) ?_) h
                    · rw [eqv_ii, List.length_map]
                      congr 1
                      have := filter_all (fun k : List Int => decide (k.length < g.length)) ks
                      cases al : ks.all fun k => decide (k.length < g.length) with
                      | true => rw [this.mpr al]; simp
                      | false =>
                        refine beq_eq_false_iff_ne.mpr fun z => ?_
                        rw [this.mp (by omega)] at al
                        cases al
                    · rw [eqv_ll]
            · rw [if_neg w2] at h
              exact sq_ret (et_orL (et_is e5 (by rw [decide_eq_false w2]; rfl))) ev_c h
    · refine sq_ret (et_orR (et_aTup (ev_var rfl)) (et_orL (et_is e1 (by rw [decide_eq_false l2]; rfl)))) ev_c ?_
      refine no (P' := True) ?_
      match xs, l2 with
      | [], _ => rfl
      | [x], _ => cases x <;> rfl
      | x :: _ :: _ :: _, _ => cases x <;> rfl
  · refine sq_ret (et_orL (et_noTup (ev_var rfl) hc.norm hT)) ev_c ?_
    have e : spec c p = false := by cases c <;> first | rfl | cases hT
    rw [e] at h
    exact h
end PD

namespace PD
open PySem PySem.Spec PyProof.Rows L2 BN
/-! ### accepts -/
def words : List Str := ["M-sequence", "no M-sequence", "sequence", "", "a", "below", "unlike", "too many"]
/-- a claim that may come -/
def Fair (c : D) : Prop := ∀ w r rest, c = .tup (.str w :: r :: rest) → w ∈ words ∨ (w = "face" ∧ ∀ a b, r ≠ .tup [a, .tup b])
theorem form_fn {B : Nat} {r : D} (hr : Ok B r) (h : ∀ a b, r ≠ .tup [a, .tup b]) : Fn pre_is_form_of [r] (.bl false) := fun P k => by
  unfold pre_is_form_of d_is_form_of
  rcases tup_cases r with ⟨xs, rfl⟩ | hT
  · obtain ⟨hl, hx⟩ := hr.tupI
    have e1 : EvT (dTest (dBin oNe (dCB cLen (dCons (dVar 0) dNil)) (dC (.int 2)))) (startD nm_is_form_of [.tup xs]) (!decide (xs.length = 2)) := et_is (et_v (ev_ne (ev_len (ev_var rfl) (.inr rfl)) ev_c fit_int fit_int)) (by
      rw [eqv_ii]
      by_cases z : xs.length = 2
      · rw [z]; rfl
      · rw [decide_eq_false z, beq_eq_false_iff_ne.mpr (by omega)])
    by_cases l2 : xs.length = 2
    · obtain ⟨u, v, rfl⟩ : ∃ u v, xs = [u, v] := by
        match xs, l2 with
        | [u, v], _ => exact ⟨u, v, rfl⟩
      have hu := hx u (by simp)
      have hv := hx v (by simp)
      have e2 : EvT (dTNot (dTest (dCall 3 pre_is_between (dCons (dBin oIx (dVar 0) (dC (.int 0))) (dCons (dC (.int 2)) (dCons (dC (.int 7)) dNil)))))) (startD nm_is_form_of [.tup [u, v]]) (!u.btw 2 7) := et_not (et_v (ev_call (ef_cons (ev_ix (ev_var rfl) ev_c (.inr rfl) rfl) (ef_cons ev_c (ef_cons ev_c ef_nil))) rfl (btw_fn hu.norm)))
      cases q : u.btw 2 7 with
      | false => exact sq_ret (et_orR (et_aTup (ev_var rfl)) (et_orR (et_is e1 rfl) (et_is e2 (by rw [q]; rfl)))) ev_c k
      | true =>
        refine sq_go (et_orR (et_aTup (ev_var rfl)) (et_orR (et_is e1 rfl) (et_is e2 (by rw [q]; rfl)))) ?_
        refine sq_asg2 (ev_var rfl) ?_
        have : v.isTup = false := by
          rcases tup_cases v with ⟨b, rfl⟩ | hT
          · exact absurd rfl (h u b)
          · exact hT
        exact sq_ret (et_orL (et_noTup (ev_var rfl) hv.norm this)) ev_c k
    · exact sq_ret (et_orR (et_aTup (ev_var rfl)) (et_orL (et_is e1 (by rw [decide_eq_false l2]; rfl)))) ev_c k
  · exact sq_ret (et_orL (et_noTup (ev_var rfl) hr.norm hT)) ev_c k
theorem of_fn {B : Nat} {w : Str} {r p : D} {rest : List D} (hr : Ok B r) (h : ∀ a b, r ≠ .tup [a, .tup b]) : Fn pre_accepts_of [.tup (.str w :: r :: rest), p] (.bl false) := fun P k => by
  unfold pre_accepts_of d_accepts_of
  have a1 : atI (D.str w :: r :: rest) 1 = some r := atI_nat (i := 1) 1 rfl (by simp)
  refine sq_e (v := .lst []) (ev_if (et_v (ev_call (ef_cons (ev_ix (ev_var rfl) ev_c (.inr rfl) a1) ef_nil) rfl (form_fn hr h))) (fun z => by cases z) fun _ => ev_f (ef_lst ef_nil (by rw [sizeLine_eq]; simp))) ?_
  exact sq_ret (et_v (ev_is (ev_eq (ev_var rfl) (ev_f (ef_lst ef_nil (by rw [sizeLine_eq]; simp))) (by rfl) (by rfl)) rfl)) ev_c k
theorem ev_callV {ρ : Env} {A : DA} {xs : List D} {v : D} {tb : FnTab} {i n : Nat} {x : Str} {pre : Pre} (hs : sat ρ i = .fz (.fn x)) (hl : tb.lookup x = some (n, pre)) (hA : EvF A ρ xs) (hn : xs.length = n) (h : Fn pre xs v) : Ev (dCallV i tb A) ρ v := fun P k => by
  rw [e_callV, hs]
  show optP _ (tb.lookup x)
  rw [hl]
  exact hA _ ⟨hn, h P k⟩
theorem seqc_fn {B : Nat} {w : Str} {r : D} {rest : List D} (hB : B ≤ 306) (hr : Ok B r) : Fn pre_is_sequence_claim [.tup (.str w :: r :: rest)] (.bl (decide (rest = []) && r.isSeq)) := fun P h => by
  unfold pre_is_sequence_claim d_is_sequence_claim
  have a1 : atI (D.str w :: r :: rest) 1 = some r := atI_nat (i := 1) 1 rfl (by simp)
  have e0 : ∀ ρ, sat ρ 0 = .fz (.tup (.str w :: r :: rest)) → Ev (dBin oIx (dVar 0) (dC (.int 1))) ρ r := fun ρ h => ev_ix (ev_var h) ev_c (.inr rfl) a1
  have e1 : EvT (dTest (dBin oNe (dCB cLen (dCons (dVar 0) dNil)) (dC (.int 2)))) (startD nm_is_sequence_claim [.tup (.str w :: r :: rest)]) (!decide (rest = [])) := et_is (et_v (ev_ne (ev_len (ev_var rfl) (.inr rfl)) ev_c fit_int fit_int)) (by
    rw [eqv_ii]
    cases rest with
    | nil => rfl
    | cons x rest => rw [decide_eq_false (by simp), beq_eq_false_iff_ne.mpr (by simp; omega)])
  by_cases r0 : rest = []
  · rw [decide_eq_true r0, Bool.true_and] at h
    have e1' := et_is e1 (b := false) (by rw [decide_eq_true r0]; rfl)
    rcases tup_cases r with ⟨xs, rfl⟩ | hT
    · obtain ⟨hl, hx⟩ := hr.tupI
      have e3 : EvT (dTNot (dTest (dCh oLe oLe (dC (.int 1)) (dCB cLen (dCons (dBin oIx (dVar 0) (dC (.int 1))) dNil)) (dC (.int 8))))) (startD nm_is_sequence_claim [.tup (.str w :: .tup xs :: rest)]) (!(decide (1 ≤ xs.length) && decide (xs.length ≤ 8))) := et_is (et_not (et_v (ev_ch ev_c (ev_len (e0 _ rfl) (.inr rfl)) ev_c))) (by
        have a : decide ((1 : Int) ≤ (xs.length : Nat)) = decide (1 ≤ xs.length) := by rw [decide_eq_decide]; omega
        have b : decide (((xs.length : Nat) : Int) ≤ 8) = decide (xs.length ≤ 8) := by rw [decide_eq_decide]; omega
        rw [a, b])
      cases q : (decide (1 ≤ xs.length) && decide (xs.length ≤ 8)) with
      | false =>
        have e : (D.tup xs).isSeq = false := by show ((decide (1 ≤ xs.length) && decide (xs.length ≤ 8)) && _) = false; rw [q]; rfl
        rw [e] at h
        exact sq_ret (et_orR e1' (et_orR (et_aTup (e0 _ rfl)) (et_is e3 (by rw [q]; rfl)))) ev_c h
      | true =>
        have e : (D.tup xs).isSeq = xs.all (D.btw (-1000000) 1000000) := by show ((decide (1 ≤ xs.length) && decide (xs.length ≤ 8)) && _) = _; rw [q]; rfl
        rw [e] at h
        refine sq_go (et_orR e1' (et_orR (et_aTup (e0 _ rfl)) (et_is e3 (by rw [q]; rfl)))) ?_
        exact sr_e (ev_all (fun x => D.btw (-1000000) 1000000 x) (ef_comp (fun x => .bl (x.btw (-1000000) 1000000)) (ef_seq (e0 _ rfl) (.inr rfl)) (by rfl) (by rw [sizeLine_eq]; omega) fun d hd => ev_call (ef_cons (ev_var rfl) (ef_cons (fun P h => h) (ef_cons ev_c ef_nil))) rfl (btw_fn (hx d hd).norm))) h
    · have e : r.isSeq = false := by cases r <;> first | rfl | cases hT
      rw [e] at h
      exact sq_ret (et_orR e1' (et_orL (et_noTup (e0 _ rfl) hr.norm hT))) ev_c h
  · rw [decide_eq_false r0, Bool.false_and] at h
    exact sq_ret (et_orL (et_is e1 (by rw [decide_eq_false r0]; rfl))) ev_c h
theorem spec_len {xs : List D} {p : D} (h : xs.length ≠ 2) : spec (.tup xs) p = false := by
  match xs, h with
  | [], _ => rfl
  | [x], _ => cases x <;> rfl
  | x :: _ :: _ :: _, _ => cases x <;> rfl
theorem spec_str {x : D} {xs : List D} {p : D} (h : x.isStr = false) : spec (.tup (x :: xs)) p = false := by
  cases x <;> first | (match xs with | [] => rfl | [_] => rfl | _ :: _ :: _ => rfl) | cases h
theorem accepts_fn {B : Nat} {c p : D} (hB : B ≤ 306) (hc : Ok B c) (hp : Ok B p) (hf : Fair c) : Fn pre_accepts [c, p] (.bl (spec c p)) := fun P h => by
  unfold pre_accepts d_accepts
  rcases tup_cases c with ⟨xs, rfl⟩ | hT
  · obtain ⟨hl, hx⟩ := hc.tupI
    have e1 : EvT (dTest (dBin oLt (dCB cLen (dCons (dVar 0) dNil)) (dC (.int 2)))) (startD nm_accepts [.tup xs, p]) (decide (xs.length < 2)) := et_is (et_v (ev_I (ev_len (ev_var rfl) (.inr rfl)) ev_c)) (by rw [decide_eq_decide]; omega)
    by_cases l2 : xs.length < 2
    · rw [spec_len (by omega)] at h
      exact sq_ret (et_orR (et_aTup (ev_var rfl)) (et_orL (et_is e1 (decide_eq_true l2)))) ev_c h
    · obtain ⟨u, r, rest, rfl⟩ : ∃ u r rest, xs = u :: r :: rest := by
        match xs, l2 with
        | u :: r :: rest, _ => exact ⟨u, r, rest, rfl⟩
        | [], l => exact absurd (by simp) l
        | [_], l => exact absurd (by simp) l
      have hu := hx u (by simp)
      have hr := hx r (by simp)
      have e1' := et_is e1 (decide_eq_false l2)
      have e0 : ∀ ρ, sat ρ 0 = .fz (.tup (u :: r :: rest)) → Ev (dBin oIx (dVar 0) (dC (.int 0))) ρ u := fun ρ h => ev_ix (ev_var h) ev_c (.inr rfl) (atI_0 _ _)
      have e2 : EvT (dTNot (dTest (dCB cIsi (dCons (dBin oIx (dVar 0) (dC (.int 0))) (dCons (dC (.ty "str")) dNil))))) (startD nm_accepts [.tup (u :: r :: rest), p]) (!u.isStr) := et_not (et_v (ev_isStr (e0 _ rfl) hu.norm))
      cases hs : u.isStr with
      | false =>
        rw [spec_str hs] at h
        exact sq_ret (et_orR (et_aTup (ev_var rfl)) (et_orR e1' (et_is e2 (by rw [hs]; rfl)))) ev_c h
      | true =>
        obtain ⟨w, rfl⟩ : ∃ w, u = .str w := by cases u <;> first | exact ⟨_, rfl⟩ | cases hs
        have wf : (D.str w).fit 60 = true := by cases hu with | str _ q => exact fitS q
        refine sq_go (et_orR (et_aTup (ev_var rfl)) (et_orR e1' (et_is e2 (by rw [hs]; rfl)))) ?_
        have e3 : EvT (dTest (dBin (oInT "NUMBERS" es_NUMBERS) (dBin oIx (dVar 0) (dC (.int 0))) (dC (.fn "NUMBERS")))) (startD nm_accepts [.tup (.str w :: r :: rest), p]) (es_NUMBERS.lookup w).isSome := et_v (ev_bin (e0 _ rfl) ev_c fun P h => ⟨rfl, h⟩)
        have e4 : EvT (dTest (dBin (oInT "POLYTOPES" es_POLYTOPES) (dBin oIx (dVar 0) (dC (.int 0))) (dC (.fn "POLYTOPES")))) (startD nm_accepts [.tup (.str w :: r :: rest), p]) (es_POLYTOPES.lookup w).isSome := et_v (ev_bin (e0 _ rfl) ev_c fun P h => ⟨rfl, h⟩)
        have e5 : EvT (dTest (dBin oEq (dBin oIx (dVar 0) (dC (.int 0))) (dC (.str "told by")))) (startD nm_accepts [.tup (.str w :: r :: rest), p]) (decide (w = "told by")) := et_is (et_v (ev_eq (e0 _ rfl) ev_c wf (fitS (by decide +kernel)))) (eqv_str _ _)
        have num : ∀ f : Str, es_NUMBERS.lookup w = some (.tup [.fn "is_sequence_claim", .fn f]) → (∀ g : List Int, r = tupI g → seqI r = g → g.length ≤ 8 → 1 ≤ g.length → (∀ x ∈ g, x ≤ 10 ^ 8) → rest = [] → r.isSeq = true → ∃ pre, ft_shows.lookup f = some (2, pre) ∧ ∀ P, P (.bl (spec (.tup (.str w :: r :: rest)) p)) → pre [.tup (.str w :: r :: rest), p] P) →
            (dSeq (dAsg (dBin (oIxTb "NUMBERS" es_NUMBERS) (dC (.fn "NUMBERS")) (dBin oIx (dVar 0) (dC (.int 0)))) (dGTup 2 (dGCons (dName 2) (dGCons (dName 3) dGNil))))
              (dRet (dAndV (dCallV 2 ft_right (dCons (dVar 0) dNil)) (dCallV 3 ft_shows (dCons (dVar 0) (dCons (dVar 1) dNil)))))) { nx := fun x => P .non, rt := P } (startD nm_accepts [.tup (.str w :: r :: rest), p]) := fun f lk hsh => by
          refine sq_asg2 (x := .fn "is_sequence_claim") (y := .fn f) (ev_bin ev_c (e0 _ rfl) fun P h => ⟨rfl, by rw [lk]; exact h⟩) ?_
          have ec : Ev (dCallV 2 ft_right (dCons (dVar 0) dNil)) ((List.set (startD nm_accepts [.tup (.str w :: r :: rest), p]) 2 (.fz (.fn "is_sequence_claim"))).set 3 (.fz (.fn f))) (.bl (decide (rest = []) && r.isSeq)) :=
            ev_callV (n := 1) (pre := pre_is_sequence_claim) rfl (by unfold ft_right; rw [List.lookup_cons]; rfl) (ef_cons (ev_var rfl) ef_nil) rfl (seqc_fn hB hr)
          by_cases r0 : rest = []
          · cases sq : r.isSeq with
            | true =>
              obtain ⟨g, g1, g2, g3, g4, g5⟩ := seq_ints sq
              obtain ⟨pre, l, hpre⟩ := hsh g g1 g2 g3 g4 g5 r0 sq
              refine sr_e (v := .bl (true && spec (.tup (.str w :: r :: rest)) p)) (ev_and (ev_is ec (by rw [decide_eq_true r0, sq]; rfl)) fun _ => ev_callV (n := 2) (pre := pre) rfl l (ef_cons (ev_var rfl) (ef_cons (ev_var rfl) ef_nil)) rfl hpre) (by rw [Bool.true_and]; exact h)
            | false =>
              refine sr_e (v := .bl (false && false)) (ev_and (ev_is ec (by rw [sq, Bool.and_false])) fun z => by cases z) ?_
              have : spec (.tup (.str w :: r :: rest)) p = false := by
                subst r0
                show (r.isSeq && _) = false
                rw [sq]; rfl
              rw [this] at h
              exact h
          · refine sr_e (v := .bl (false && false)) (ev_and (ev_is ec (by rw [decide_eq_false r0, Bool.false_and])) fun z => by cases z) ?_
            rw [spec_len (by cases rest with | nil => exact absurd rfl r0 | cons => simp)] at h
            exact h
        have other : (w ≠ "M-sequence") → (w ≠ "no M-sequence") → spec (.tup (.str w :: r :: rest)) p = false := fun h1 h2 => by
          cases rest with
          | cons => exact spec_len (by simp)
          | nil =>
            show (r.isSeq && _) = false
            rw [if_neg h2, if_neg h1, Bool.and_false]
        rcases hf w r rest rfl with hw | ⟨hw, hn⟩
        · simp only [words, List.mem_cons, List.not_mem_nil, or_false] at hw
          have out : es_NUMBERS.lookup w = none → es_POLYTOPES.lookup w = none → w ≠ "told by" → w ≠ "M-sequence" → w ≠ "no M-sequence" → (dSeq (dIfS (dTest (dBin (oInT "NUMBERS" es_NUMBERS) (dBin oIx (dVar 0) (dC (.int 0))) (dC (.fn "NUMBERS")))) (dSeq (dAsg (dBin (oIxTb "NUMBERS" es_NUMBERS) (dC (.fn "NUMBERS")) (dBin oIx (dVar 0) (dC (.int 0)))) (dGTup 2 (dGCons (dName 2) (dGCons (dName 3) dGNil))))
              (dRet (dAndV (dCallV 2 ft_right (dCons (dVar 0) dNil)) (dCallV 3 ft_shows (dCons (dVar 0) (dCons (dVar 1) dNil)))))) dNext)
              (dSeq (dIfS (dTOr (dTest (dBin (oInT "POLYTOPES" es_POLYTOPES) (dBin oIx (dVar 0) (dC (.int 0))) (dC (.fn "POLYTOPES")))) (dTest (dBin oEq (dBin oIx (dVar 0) (dC (.int 0))) (dC (.str "told by"))))) (dRet (dCall 2 pre_accepts_of (dCons (dVar 0) (dCons (dVar 1) dNil)))) dNext)
              (dRet (dC (.bl false))))) { nx := fun x => P .non, rt := P } (startD nm_accepts [.tup (.str w :: r :: rest), p]) := fun h1 h2 h3 h4 h5 => by
            rw [other h4 h5] at h
            refine sq_go (et_is e3 (by rw [h1]; rfl)) ?_
            refine sq_go (et_orR (et_is e4 (by rw [h2]; rfl)) (et_is e5 (decide_eq_false h3))) ?_
            exact sr_e ev_c h
          rcases hw with rfl | rfl | rfl | rfl | rfl | rfl | rfl | rfl
          · refine sq_y (et_is e3 (by decide +kernel)) (num "shows_sequence" (by rfl) fun g g1 g2 g3 g4 g5 r0 sq => ⟨pre_shows_sequence, by rfl, fun P h => ?_⟩)
            subst r0
            rw [g1] at h ⊢
            refine shows_fn hB hp g3 P ?_
            have : spec (.tup [.str "M-sequence", tupI g]) p = shB g p := by
              show ((tupI g).isSeq && (if _ then _ else _)) = _
              rw [← g1, sq, g2, if_neg (by decide +kernel), if_pos rfl, Bool.true_and]
            rw [this] at h
            exact h
          · refine sq_y (et_is e3 (by decide +kernel)) (num "shows_no_sequence" (by rfl) fun g g1 g2 g3 g4 g5 r0 sq => ⟨pre_shows_no_sequence, by rfl, fun P h => ?_⟩)
            subst r0
            rw [g1] at h ⊢
            refine shno_fn hp.norm g5 (by omega) P ?_
            have : spec (.tup [.str "no M-sequence", tupI g]) p = (p.btw 0 ((g.length : Int) - 1) && p.fails g) := by
              show ((tupI g).isSeq && (if _ then _ else _)) = _
              rw [← g1, sq, g2, if_pos rfl, Bool.true_and]
            rw [this] at h
            exact h
          all_goals exact out (by rfl) (by rfl) (by decide +kernel) (by decide +kernel) (by decide +kernel)
        · subst hw
          rw [other (by decide +kernel) (by decide +kernel)] at h
          refine sq_go (et_is e3 (by decide +kernel)) ?_
          exact sq_ret (et_orL (et_is e4 (by decide +kernel))) (ev_call (ef_cons (ev_var rfl) (ef_cons (ev_var rfl) ef_nil)) rfl (of_fn hr hn)) h
  · have e : spec c p = false := by cases c <;> first | rfl | cases hT
    rw [e] at h
    exact sq_ret (et_orL (et_noTup (ev_var rfl) hc.norm hT)) ev_c h
end PD

namespace PD
open PySem PySem.Spec PyProof.Rows L2 BN
/-! ### what a draw may answer -/
abbrev EvS (e : DE) (ρ : Env) (Q : D → Prop) : Prop := ∀ P : D → Prop, (∀ v, Q v → P v) → e ρ P
abbrev EvFS (a : DA) (ρ : Env) (Q : List D → Prop) : Prop := ∀ P : List D → Prop, (∀ v, Q v → P v) → a ρ P
abbrev FnS (pre : Pre) (ds : List D) (Q : D → Prop) : Prop := ∀ P : D → Prop, (∀ v, Q v → P v) → pre ds P
section
variable {ρ : Env} {a b : DE} {A : DA} {Q Q1 Q2 : D → Prop} {R : List D → Prop} {S : DEnds} {i : Nat} {s r : DS} {v : D} {xs : List D}
theorem es_ (h : Ev a ρ v) (hq : Q v) : EvS a ρ Q := fun P k => h P (k v hq)
theorem es_mono (h : EvS a ρ Q) (hq : ∀ v, Q v → Q1 v) : EvS a ρ Q1 := fun P k => h P fun v q => k v (hq v q)
theorem es_callU {n : Nat} {pre : Pre} (hu : sat ρ i = .ur) (hA : EvF A ρ xs) (hn : xs.length = n) (h : FnS pre xs Q) : EvS (dCall n pre (dUrn i A)) ρ Q := fun P k => by
  show (sat ρ i).urP _
  rw [hu]
  exact hA _ ⟨hn, h P k⟩
theorem es_callUS {n : Nat} {pre : Pre} (hu : sat ρ i = .ur) (hA : EvFS A ρ R) (h : ∀ xs, R xs → xs.length = n ∧ FnS pre xs Q) : EvS (dCall n pre (dUrn i A)) ρ Q := fun P k => by
  show (sat ρ i).urP _
  rw [hu]
  exact hA _ fun xs hr => ⟨(h xs hr).1, (h xs hr).2 P k⟩
theorem es_call {n : Nat} {pre : Pre} (hA : EvF A ρ xs) (hn : xs.length = n) (h : FnS pre xs Q) : EvS (dCall n pre A) ρ Q := fun P k => hA _ ⟨hn, h P k⟩
theorem es_callS {n : Nat} {pre : Pre} (hA : EvFS A ρ R) (h : ∀ xs, R xs → xs.length = n ∧ FnS pre xs Q) : EvS (dCall n pre A) ρ Q := fun P k => hA _ fun xs hr => ⟨(h xs hr).1, (h xs hr).2 P k⟩
theorem efs_ (h : EvF A ρ xs) (hq : R xs) : EvFS A ρ R := fun P k => h P (k xs hq)
theorem efs_cons {Rs : List D → Prop} (ha : EvS a ρ Q) (hA : EvFS A ρ R) (h : ∀ x ys, Q x → R ys → Rs (x :: ys)) : EvFS (dCons a A) ρ Rs := fun P k => ha _ fun x hx => hA _ fun ys hy => k _ (h x ys hx hy)
/-- so many, and each alike -/
def AllK (n : Nat) (p : D → Prop) (xs : List D) : Prop := xs.length = n ∧ ∀ x ∈ xs, p x
theorem ak_nil {p : D → Prop} : EvFS dNil ρ (AllK 0 p) := fun P k => k _ ⟨rfl, fun x h => by cases h⟩
theorem ak_cons {p : D → Prop} {n : Nat} (ha : EvS a ρ p) (hA : EvFS A ρ (AllK n p)) : EvFS (dCons a A) ρ (AllK (n + 1) p) := efs_cons ha hA fun x ys hx hy => ⟨by rw [List.length_cons, hy.1], fun z hz => by
  rcases List.mem_cons.mp hz with e | e
  · rw [e]; exact hx
  · exact hy.2 z e⟩
theorem es_bin {f : DO} (ha : EvS a ρ Q1) (hb : EvS b ρ Q2) (h : ∀ x y, Q1 x → Q2 y → ∀ P : D → Prop, (∀ v, Q v → P v) → f x y P) : EvS (dBin f a b) ρ Q := fun P k => ha _ fun x hx => hb _ fun y hy => h x y hx hy P k
theorem sq_eS (ha : EvS a ρ Q) (h : ∀ v, Q v → r S (ρ.set i (.fz v))) : dSeq (dSet i (xE a)) r S ρ := ha _ h
theorem sq_FS (hA : EvFS A ρ R) (h : ∀ xs, R xs → r S (ρ.set i (.ow xs))) : dSeq (dSet i (xF A)) r S ρ := hA _ h
theorem sq_parFF {B : DA} {ys : List D} {i j : Nat} (hA : EvF A ρ xs) (hB : EvF B ρ ys) (h : r S ((ρ.set i (.ow xs)).set j (.ow ys))) : dSeq (dPar i j (xF A) (xF B)) r S ρ := hA _ (hB _ h)
theorem sq_parSF {B : DA} {ys : List D} {i j : Nat} (hA : EvS a ρ Q) (hB : EvF B ρ ys) (h : ∀ x, Q x → r S ((ρ.set i (.fz x)).set j (.ow ys))) : dSeq (dPar i j (xE a) (xF B)) r S ρ := hA _ fun x hx => hB _ (h x hx)
theorem sq_parSS {i j : Nat} (hA : EvS a ρ Q) (hB : EvS b ρ Q1) (h : ∀ x y, Q x → Q1 y → r S ((ρ.set i (.fz x)).set j (.fz y))) : dSeq (dPar i j (xE a) (xE b)) r S ρ := hA _ fun x hx => hB _ fun y hy => h x y hx hy
theorem sr_S (ha : EvS a ρ Q) (h : ∀ v, Q v → S.rt v) : dRet a S ρ := ha _ h
theorem efs_lst (hA : EvFS A ρ R) (h : ∀ xs, R xs → xs.length ≤ sizeLine) : EvFS (dLstF A) ρ R := fun P k => hA _ fun xs hr => ⟨h xs hr, k _ hr⟩
theorem es_F (hA : EvFS A ρ R) (h : ∀ xs, R xs → Q (.lst xs)) : EvS (dF A) ρ Q := fun P k => hA _ fun xs hr => k _ (h xs hr)
theorem es_tup (hA : EvFS A ρ R) (h : ∀ xs, R xs → xs.length ≤ sizeLine ∧ Q (.tup xs)) : EvS (dTup A) ρ Q := fun P k => hA _ fun xs hr => ⟨(h xs hr).1, k _ (h xs hr).2⟩
end
/-! ### the draws -/
theorem str_refl (x : Str) : (D.str x).eqv (.str x) = true := by rw [eqv_str, decide_eq_true rfl]
def inR (lo hi : Int) (d : D) : Prop := ∃ i : Int, d = .int i ∧ lo ≤ i ∧ i < hi
theorem pull_fn {n : Int} (h0 : 0 < n) (h1 : n < 1073741824) : FnS pre__law_pull [.int n] (inR 0 n) := fun P h => by
  have h : ∀ i : Int, 0 ≤ i → i < n → P (.int i) := fun i a b => h _ ⟨i, rfl, a, b⟩
  simp [pre__law_pull, d__law_pull, startU, nm__law_pull]
  intro m
  split
  · intro k
    refine ⟨⟨h0, h1⟩, ?_⟩
    exact h _ (Int.emod_nonneg _ (by omega)) (Int.emod_lt_of_pos _ h0)
  · intro a
    refine ⟨mul_r (by decide), fun b => ⟨mul_l (by decide), ?_, fun f => ?_⟩⟩
    · refine mul_r ?_
      have z1 := Int.fmod_nonneg_of_pos ((a * 40009 + 60013 * b).fmod 2147483423) (show (0:Int) < 5009 by decide)
      have z2 := Int.fmod_lt_of_pos ((a * 40009 + 60013 * b).fmod 2147483423) (show (0:Int) < 5009 by decide)
      omega
    · refine ⟨mul_l (by decide), fun g => ⟨⟨by decide, by decide⟩, by omega, ?_⟩⟩
      exact h _ (Int.fmod_nonneg_of_pos _ h0) (Int.fmod_lt_of_pos _ h0)
theorem one_fn {x : D} {xs : List D} (hx : x = .lst xs ∨ x = .tup xs) (h0 : xs ≠ []) (h1 : xs.length < 1073741824) : FnS pre__law_one [x] (· ∈ xs) := fun P h => by
  unfold pre__law_one d__law_one
  have hp : 0 < xs.length := List.length_pos_iff.mpr h0
  refine sr_S (es_bin (es_ (ev_var rfl) rfl) (es_callU (Q := inR 0 xs.length) rfl (ef_cons (ev_len (ev_var rfl) hx) ef_nil) rfl (pull_fn (by omega) (by omega))) (Q := (· ∈ xs)) fun u y hu hy P k => ?_) h
  obtain ⟨i, rfl, l, g⟩ := hy
  subst hu
  have : atI xs i = some xs[i.toNat] := atI_nat i.toNat (by omega) (by omega)
  have z : optP P (atI xs i) := by rw [this]; exact k _ (List.getElem_mem _)
  rcases hx with rfl | rfl <;> exact z
theorem is_fn (b : Bool) : Fn pre__law_is [.bl b, .bl b] (.bl true) := fun P h => by
  have z : (D.bl b).shOk ∧ PyData.strOk (D.bl b).py.shown = true := by cases b <;> exact ⟨⟨by decide +kernel, by decide +kernel, by decide +kernel⟩, by decide +kernel⟩
  simp [pre__law_is, d__law_is, startD, nm__law_is]
  refine ⟨z.1, ?_⟩
  simp [z.2, str_refl, h]
theorem erase_perm {α : Type} : ∀ {xs : List α} {n : Nat} {x : α}, xs[n]? = some x → (x :: xs.eraseIdx n).Perm xs
  | [], _, _, h => by simp at h
  | y :: ys, 0, x, h => by simp at h; subst h; exact .refl _
  | y :: ys, n + 1, x, h => by
    have ih := erase_perm (xs := ys) (n := n) (x := x) (by simpa using h)
    rw [List.eraseIdx_cons_succ]
    exact (List.Perm.swap y x _).trans (ih.cons y)
theorem eraseIdx_mapD {α β : Type} (f : α → β) : ∀ (l : List α) (n : Nat), (l.map f).eraseIdx n = (l.eraseIdx n).map f
  | [], _ => rfl
  | _ :: _, 0 => rfl
  | x :: l, n + 1 => by rw [List.map_cons, List.eraseIdx_cons_succ, List.eraseIdx_cons_succ, List.map_cons, eraseIdx_mapD f l n]
theorem appPop_go {i j : Nat} {e : DE} {P : DEnds} {ρ : Env} {ds es : List D} (h1 : sat ρ i = .ow ds) (h2 : sat ρ j = .ow es) (he : e ρ fun x => x.intP fun k => i ≠ j ∧ -(2 ^ 63) ≤ k ∧ k < 2 ^ 63 ∧ optP (fun m => optP (fun d => ds.length < sizeLine ∧ P.nx ((ρ.set j (.ow (es.eraseIdx m))).set i (.ow (ds ++ [d])))) es[m]?) (ixN es.length k)) : dAppPop i j e P ρ := by
  unfold dAppPop
  rw [h1]
  show Sl.owP _ (sat ρ j)
  rw [h2]
  exact he
theorem shuf_W {sm : Sl} {S : DEnds} {all : List Int} (ha : all.length ≤ 1000) (h : ∀ ys : List Int, ys.Perm all → S.nx [.ur, sm, .ow [], .ow (ys.map D.int)]) (left found : List Int) (hp : (found ++ left).Perm all) :
    dWhile (dLendT (dTest (dBin oNe (dVar 2) (dF (dLstF dNil))))) (dAppPop 3 2 (dCall 1 pre__law_pull (dUrn 0 (dCons (dLenO 2) dNil)))) S [.ur, sm, .ow (left.map D.int), .ow (found.map D.int)] := by
  refine ⟨fun m ρ => ∃ left found : List Int, m = left.length ∧ ρ = [.ur, sm, .ow (left.map D.int), .ow (found.map D.int)] ∧ (found ++ left).Perm all, ⟨_, left, found, rfl, rfl, hp⟩, ?_⟩
  rintro m _ ⟨left, found, rfl, rfl, hp⟩
  have hlen : found.length + left.length = all.length := by rw [← List.length_append]; exact hp.length_eq
  show dTest (dBin oNe (dVar 2) (dF (dLstF dNil))) [.ur, sm.lent, .fz (.lst (left.map D.int)), .fz (.lst (found.map D.int))] _
  refine et_v (ev_ne (ev_var rfl) (ev_f (ef_lst ef_nil (by rw [sizeLine_eq]; simp))) (fit_ints left) rfl) _ ?_
  have e : (D.lst (left.map D.int)).eqv (.lst []) = decide (left = []) := eqv_ll left []
  rw [e]
  cases left with
  | nil =>
    rw [decide_eq_true rfl]
    rw [List.append_nil] at hp
    exact h _ hp
  | cons x xs =>
    rw [decide_eq_false (by simp)]
    refine appPop_go (ds := found.map D.int) (es := (x :: xs).map D.int) rfl rfl ?_
    refine es_callU (xs := [.int ((x :: xs).length : Nat)]) rfl (fun P k => ?_) rfl (pull_fn (by rw [List.length_cons]; omega) (by omega)) _ ?_
    · show P [.int (((x :: xs).map D.int).length : Nat)]
      rw [List.length_map]; exact k
    rintro _ ⟨i, rfl, l, g⟩
    have hi : i.toNat < (x :: xs).length := by omega
    show (3 ≠ 2 ∧ _ ∧ _ ∧ _)
    refine ⟨by decide, by omega, by omega, ?_⟩
    have e1 : ixN (((x :: xs).map D.int)).length i = some i.toNat := ixN_at l (by rw [List.length_map]; exact g)
    rw [e1]
    show optP _ (((x :: xs).map D.int)[i.toNat]?)
    rw [List.getElem?_eq_getElem (by rw [List.length_map]; exact hi), List.getElem_map]
    refine ⟨by rw [List.length_map, sizeLine_eq]; simp at hlen; omega, ?_⟩
    refine ⟨((x :: xs).eraseIdx i.toNat).length, ?_, (x :: xs).eraseIdx i.toNat, found ++ [(x :: xs)[i.toNat]], rfl, ?_, ?_⟩
    · rw [List.length_eraseIdx_of_lt hi]; simp
    · have q : ((x :: xs).map D.int).eraseIdx i.toNat = ((x :: xs).eraseIdx i.toNat).map D.int := eraseIdx_mapD D.int _ _
      rw [List.map_append]
      exact congrArg (fun z => [Sl.ur, sm, Sl.ow z, Sl.ow (found.map D.int ++ [D.int (x :: xs)[i.toNat]])]) q
    · refine List.Perm.trans ?_ hp
      rw [List.append_assoc]
      exact List.Perm.append_left _ (erase_perm (List.getElem?_eq_getElem hi))
theorem shuf_fn {ns : List Int} (h : ns.length ≤ 1000) : FnS pre__law_shuffled [.lst (ns.map D.int)] (fun y => ∃ ys : List Int, y = .lst (ys.map D.int) ∧ ys.Perm ns) := fun P k => by
  unfold pre__law_shuffled d__law_shuffled
  have e1 : EvF (dListF (dCons (dVar 1) dNil)) (startU nm__law_shuffled [.lst (ns.map D.int)]) (ns.map D.int) := ef_list (x := .lst (ns.map D.int)) (ef_cons (ev_var rfl) ef_nil) (.inl rfl)
  have e2 : EvF (dLstF dNil) (startU nm__law_shuffled [.lst (ns.map D.int)]) [] := ef_lst ef_nil (by rw [sizeLine_eq]; simp)
  refine sq_parFF e1 e2 ?_
  exact shuf_W (found := []) h (fun ys hy => k _ ⟨ys, rfl, hy⟩) ns (by simp)
end PD

namespace PD
open PySem PySem.Spec PyProof.Rows L2 BN
/-! ### odd things -/
def oddL : List D := [.non, .bl true, .bl false, .int 0, .int 1, .int 2, .int (-1), .int 7, .str "", .str "a", .str "face", .tup [], .tup [.int 0], .tup [.int 1], .tup [.int 0, .int 1], .tup [.int 1, .int 0], .tup [.int 1, .int 1], .tup [.int 0, .int 0], .tup [.int 2, .int 4],
  .tup [.bl true, .int 1], .tup [.tup [.int 0, .int 1]], .tup [.tup [.int 0, .int 1], .tup [.int 1, .int 1]], .tup [.tup []], .tup [.non], .lst [], .lst [.int 0], .dct, .dct, .tup [.int 1, .int 2, .int 1], .tup [.tup [.int 1], .tup [.int 0, .int 1]],
  .tup [.str "below", .int 1], .tup [.str "unlike", .int 0], .tup [.str "too many", .int 2], .tup [.int 0, .int 1, .int 2], .int (10 ^ 12), .tup [.int 3, .tup []]]
theorem odd_fn : FnS pre__law_odd [] (· ∈ oddL) := fun P h => by
  have cp : CPow 10 12 := ⟨by decide, by decide, by decide⟩
  simp [pre__law_odd, d__law_odd, startU, nm__law_odd, cp]
  exact one_fn (xs := oddL) (.inr rfl) (by decide) (by decide) P h
/-! ### data with small numbers -/
inductive Dt (B : Nat) : D → Prop where
  | non : Dt B .non
  | bl (b : Bool) : Dt B (.bl b)
  | int (i : Int) : -(2 ^ 60) < i → i < 2 ^ 60 → Dt B (.int i)
  | str (x : Str) : PyData.strOk x = true → Dt B (.str x)
  | dct : Dt B .dct
  | tup (xs : List D) : xs.length ≤ B → (∀ x ∈ xs, Dt B x) → Dt B (.tup xs)
  | lst (xs : List D) : xs.length ≤ B → (∀ x ∈ xs, Dt B x) → Dt B (.lst xs)
theorem Dt.ok {B : Nat} {d : D} (h : Dt B d) : Ok B d := by
  induction h with
  | non => exact .non
  | bl b => exact .bl b
  | int i => exact .int i
  | str x h => exact .str x h
  | dct => exact .dct
  | tup xs h _ ih => exact .tup xs h ih
  | lst xs h _ ih => exact .lst xs h ih
theorem Dt.mono {B C : Nat} {d : D} (h : Dt B d) (l : B ≤ C) : Dt C d := by
  induction h with
  | non => exact .non
  | bl b => exact .bl b
  | int i a b => exact .int i a b
  | str x h => exact .str x h
  | dct => exact .dct
  | tup xs h _ ih => exact .tup xs (Nat.le_trans h l) ih
  | lst xs h _ ih => exact .lst xs (Nat.le_trans h l) ih
theorem Ok.mono {B C : Nat} {d : D} (h : Ok B d) (l : B ≤ C) : Ok C d := by
  induction h with
  | non => exact .non
  | bl b => exact .bl b
  | int i => exact .int i
  | str x h => exact .str x h
  | dct => exact .dct
  | tup xs h _ ih => exact .tup xs (Nat.le_trans h l) ih
  | lst xs h _ ih => exact .lst xs (Nat.le_trans h l) ih
theorem Dt.tupI {B : Nat} {xs : List D} (h : Dt B (.tup xs)) : xs.length ≤ B ∧ ∀ x ∈ xs, Dt B x := by cases h with | tup _ a b => exact ⟨a, b⟩
def D.dtB (B : Nat) : D → Bool
  | .non => true
  | .bl _ => true
  | .int i => decide (-(2 ^ 60) < i) && decide (i < 2 ^ 60)
  | .str x => PyData.strOk x
  | .dct => true
  | .tup xs => decide (xs.length ≤ B) && dtL B xs
  | .lst xs => decide (xs.length ≤ B) && dtL B xs
  | _ => false
where dtL (B : Nat) : List D → Bool
  | [] => true
  | x :: xs => x.dtB B && dtL B xs
mutual
theorem dt_of {B : Nat} : ∀ {d : D}, d.dtB B = true → Dt B d
  | .non, _ => .non
  | .bl b, _ => .bl b
  | .int i, h => by
    unfold D.dtB at h
    rw [Bool.and_eq_true] at h
    exact .int i (of_decide_eq_true h.1) (of_decide_eq_true h.2)
  | .str x, h => .str x (by unfold D.dtB at h; exact h)
  | .dct, _ => .dct
  | .tup xs, h => by
    unfold D.dtB at h
    rw [Bool.and_eq_true] at h
    exact .tup xs (of_decide_eq_true h.1) (dtL_of h.2)
  | .lst xs, h => by
    unfold D.dtB at h
    rw [Bool.and_eq_true] at h
    exact .lst xs (of_decide_eq_true h.1) (dtL_of h.2)
  | .fn _, h => by unfold D.dtB at h; cases h
  | .ty _, h => by unfold D.dtB at h; cases h
  | .scr _, h => by unfold D.dtB at h; cases h
  | .st _, h => by unfold D.dtB at h; cases h
theorem dtL_of {B : Nat} : ∀ {xs : List D}, D.dtB.dtL B xs = true → ∀ x ∈ xs, Dt B x
  | [], _, x, hx => by cases hx
  | y :: ys, h, x, hx => by
    unfold D.dtB.dtL at h
    rw [Bool.and_eq_true] at h
    rcases List.mem_cons.mp hx with e | e
    · rw [e]; exact dt_of h.1
    · exact dtL_of h.2 x e
end
theorem odd_dt : ∀ d ∈ oddL, Dt 4 d := dtL_of (xs := oddL) (by decide +kernel)
theorem strOk_of (s : String) : PyData.strOk (Str.ofString s) = true := by
  unfold PyData.strOk
  rw [Str.ofString_eq_toList]
  show ((s.toList.map Char.toNat).toArray.all fun x => decide (x < 0x110000)) = true
  rw [List.all_toArray, List.all_eq_true]
  intro x hx
  obtain ⟨c, _, rfl⟩ := List.mem_map.mp hx
  have hc : c.val.toNat < 1114112 := by
    have h := c.valid
    simp only [UInt32.isValidChar, Nat.isValidChar] at h
    omega
  exact decide_eq_true hc
/-! ### bent -/
def nums (i : Int) : List D := [.int (i + 1), .int (i - 1), .int (0 - i), .int (i * 2), .bl (decide (0 < i)), .str (toString i), .int (i + 3)]
def rows (xs : List D) : List D := [.lst xs, .tup (cut xs none (some (-1))), .tup (cut xs (some 1) none), .tup (xs ++ cut xs (some (-1)) none), .tup xs.reverse, .tup (xs ++ [.int 0]), .tup [.tup xs]]
inductive Bent : D → D → Prop where
  | odd {x y : D} : y ∈ oddL → Bent x y
  | num {i : Int} {y : D} : y ∈ nums i → Bent (.int i) y
  | row {xs : List D} {y : D} : y ∈ rows xs → Bent (.tup xs) y
  | deep {xs : List D} {z : D} (k : Nat) (h : k < xs.length) : Bent xs[k] z → Bent (.tup xs) (.tup (xs.take k ++ [z] ++ xs.drop (k + 1)))
theorem ev_add {ρ : Env} {a b : DE} {i j : Int} (ha : Ev a ρ (.int i)) (hb : Ev b ρ (.int j)) : Ev (dBin oAdd a b) ρ (.int (i + j)) := ev_bin ha hb fun P h => h
theorem ev_cat {ρ : Env} {a b : DE} {xs ys : List D} (ha : Ev a ρ (.tup xs)) (hb : Ev b ρ (.tup ys)) (h : xs.length + ys.length ≤ sizeLine) : Ev (dBin oAdd a b) ρ (.tup (xs ++ ys)) := ev_bin ha hb fun P k => ⟨h, k⟩
theorem ev_slT {ρ : Env} {a : DE} {l h : DP} {xs : List D} {lo hi : Option Int} (ha : Ev a ρ (.tup xs)) (hl : ∀ P : Option Int → Prop, P lo → l ρ P) (hh : ∀ P : Option Int → Prop, P hi → h ρ P) : Ev (dSl a l h) ρ (.tup (cut xs lo hi)) := fun P k => ha _ (hl _ (hh _ k))
theorem ev_slL {ρ : Env} {a : DE} {l h : DP} {xs : List D} {lo hi : Option Int} (ha : Ev a ρ (.lst xs)) (hl : ∀ P : Option Int → Prop, P lo → l ρ P) (hh : ∀ P : Option Int → Prop, P hi → h ρ P) : Ev (dSl a l h) ρ (.lst (cut xs lo hi)) := fun P k => ha _ (hl _ (hh _ k))
theorem ep_n {ρ : Env} : ∀ P : Option Int → Prop, P none → dNoP ρ P := fun P k => k
theorem ep_s {ρ : Env} {a : DE} {i : Int} (ha : Ev a ρ (.int i)) : ∀ P : Option Int → Prop, P (some i) → dPart a ρ P := fun P k => ha _ k
theorem ev_neg {ρ : Env} {a : DE} {i : Int} (ha : Ev a ρ (.int i)) : Ev (dUn (fun x P => x.intP fun i => P (.int (-i))) a) ρ (.int (-i)) := fun P k => ha _ k
theorem es_ix {ρ : Env} {a b : DE} {xs : List D} {n : Int} {Q : D → Prop} (ha : Ev a ρ (.tup xs)) (hb : Ev b ρ (.int n)) (h0 : 0 ≤ n) (h1 : n < xs.length) (hq : ∀ y ∈ xs, Q y) : EvS (dBin oIx a b) ρ Q := es_ (ev_ix ha hb (.inr rfl) (atI_nat n.toNat (by omega) (by omega))) (hq _ (List.getElem_mem _))
theorem isT_int (d : D) (h : d.norm = true) : isT d "int" = match d with | .int _ => true | .bl _ => true | _ => false := by cases d <;> first | (simp [isT, D.cls, clsT]; done) | cases h
theorem isT_bool (d : D) (h : d.norm = true) : isT d "bool" = match d with | .bl _ => true | _ => false := by cases d <;> first | (simp [isT, D.cls, clsT]; done) | cases h
abbrev EvTA (t : DT) (ρ : Env) : Prop := ∀ P : Bool → Prop, (∀ b, P b) → t ρ P
theorem eta_andR {t u : DT} {ρ : Env} (ha : EvT t ρ true) (hb : EvTA u ρ) : EvTA (dTAnd t u) ρ := fun P k => ha _ (hb P k)
theorem eta_ (t : DT) {ρ : Env} {b : Bool} (ha : EvT t ρ b) : EvTA t ρ := fun P k => ha P (k b)
theorem eta_gt {a : DE} {ρ : Env} {lo hi m : Int} (ha : EvS a ρ (inR lo hi)) : EvTA (dTest (dBin oGt a (dC (.int m)))) ρ := fun Q k => ha _ (by
  rintro _ ⟨i, rfl, _, _⟩
  exact k _)
theorem sq_tst {t : DT} {s r : DS} {S : DEnds} {ρ : Env} (ht : EvTA t ρ) (hy : s { S with nx := fun ρ' => r S ρ' } ρ) (hn : r S ρ) : dSeq (dIfS t s dNext) r S ρ := ht _ fun b => by
  cases b with
  | true => exact hy
  | false => exact hn
theorem ev_isT {ρ : Env} {a : DE} {x : D} {T : String} (ha : Ev a ρ x) (hn : x.norm = true) (hT : T ∈ plainTys := by decide) : Ev (dCB cIsi (dCons a (dCons (dC (.ty T)) dNil))) ρ (.bl (isT x T)) := fun P k => ha _ ⟨hn, hT, k⟩
theorem et_isTup {ρ : Env} {a : DE} {xs : List D} (ha : Ev a ρ (.tup xs)) : EvT (dTest (dCB cIsi (dCons a (dCons (dC (.ty "tuple")) dNil)))) ρ true := et_v (ev_isTup ha rfl)
theorem et_isNoTup {ρ : Env} {a : DE} {x : D} (ha : Ev a ρ x) (hn : x.norm = true) (h : x.isTup = false) : EvT (dTest (dCB cIsi (dCons a (dCons (dC (.ty "tuple")) dNil)))) ρ false := et_is (et_v (ev_isTup ha hn)) h
theorem log2_small {n : Nat} (h : n < 2 ^ 60) : n.log2 < 1920 := by
  by_cases z : n = 0
  · subst z; decide
  · rw [Nat.log2_lt z]
    exact Nat.lt_of_lt_of_le h (Nat.pow_le_pow_right (by decide) (by decide))
def bentRest : DS := (dSeq (dSet 3 (xE (dCall 1 pre__law_pull (dUrn 0 (dCons (dC (.int 9)) dNil)))))
    (dSeq (dIfS (dTAnd (dTest (dCB cIsi (dCons (dVar 1) (dCons (dC (.ty "tuple")) dNil)))) (dTest (dBin oLt (dVar 3) (dC (.int 7))))) (dRet (dBin oIx (dTup (dCons (dF (dListF (dCons (dVar 1) dNil))) (dCons (dSl (dVar 1) dNoP (dPart (dUn (fun x P => x.intP fun i => P (.int (-i))) (dC (.int 1))))) (dCons (dSl (dVar 1) (dPart (dC (.int 1))) dNoP) (dCons (dBin oAdd (dVar 1) (dSl (dVar 1) (dPart (dUn (fun x P => x.intP fun i => P (.int (-i))) (dC (.int 1)))) dNoP)) (dCons (dBack (dVar 1)) (dCons (dBin oAdd (dVar 1) (dTup (dCons (dC (.int 0)) dNil))) (dCons (dTup (dCons (dVar 1) dNil)) dNil)))))))) (dVar 3))) dNext)
    (dSeq (dIfS (dTAnd (dTest (dCB cIsi (dCons (dVar 1) (dCons (dC (.ty "int")) dNil)))) (dTAnd (dTNot (dTest (dCB cIsi (dCons (dVar 1) (dCons (dC (.ty "bool")) dNil))))) (dTest (dBin oLt (dVar 3) (dC (.int 7)))))) (dRet (dBin oIx (dTup (dCons (dBin oAdd (dVar 1) (dC (.int 1))) (dCons (dBin oSub (dVar 1) (dC (.int 1))) (dCons (dBin oSub (dC (.int 0)) (dVar 1)) (dCons (dBin oMul (dVar 1) (dC (.int 2))) (dCons (dBin oGt (dVar 1) (dC (.int 0))) (dCons (dCB cStrI (dCons (dVar 1) dNil)) (dCons (dBin oAdd (dVar 1) (dC (.int 3))) dNil)))))))) (dVar 3))) dNext)
    (dRet (dCall 0 pre__law_odd (dUrn 0 dNil))))))
theorem rest_ok {B : Nat} (hB : B ≤ 1000) {x l : D} {S : DEnds} {s3 s4 : Sl} (hx : Dt B x) (h : ∀ y, Bent x y → S.rt y) : bentRest S [.ur, .fz x, .fz l, s3, s4] := by
  unfold bentRest
  refine sq_eS (es_callU rfl (ef_cons ev_c ef_nil) rfl (pull_fn (by decide) (by decide))) ?_
  rintro _ ⟨w, rfl, w0, w9⟩
  have odd : (dRet (dCall 0 pre__law_odd (dUrn 0 dNil))) S [.ur, .fz x, .fz l, .fz (.int w), s4] := sr_S (es_callU rfl ef_nil rfl odd_fn) fun v hv => h v (.odd hv)
  have e7 : EvT (dTest (dBin oLt (dVar 3) (dC (.int 7)))) [.ur, .fz x, .fz l, .fz (.int w), s4] (decide (w < 7)) := et_v (ev_I (ev_var rfl) ev_c)
  rcases tup_cases x with ⟨xs, rfl⟩ | hT
  · obtain ⟨hl, hm⟩ := hx.tupI
    have l1 := cut_len xs none (some (-1))
    have l2 := cut_len xs (some (-1)) none
    have no : EvT (dTest (dCB cIsi (dCons (dVar 1) (dCons (dC (.ty "int")) dNil)))) [.ur, .fz (.tup xs), .fz l, .fz (.int w), s4] false := et_is (et_v (ev_isT (ev_var rfl) rfl)) (isT_int _ rfl)
    by_cases c : w < 7
    · refine sq_y (et_andR (et_isTup (ev_var rfl)) (et_is e7 (decide_eq_true c))) ?_
      refine sr_S (es_ix (xs := rows xs) (Q := Bent (.tup xs)) (ev_tup ?_ (by rw [sizeLine_eq]; show 7 ≤ _; omega)) (ev_var rfl) w0 (by show w < 7; omega) fun y hy => .row hy) h
      exact ef_cons (ev_f (ef_list (ef_cons (ev_var rfl) ef_nil) (.inr rfl))) (ef_cons (ev_slT (ev_var rfl) ep_n (ep_s (ev_neg ev_c))) (ef_cons (ev_slT (ev_var rfl) (ep_s ev_c) ep_n) (ef_cons (ev_cat (ev_var rfl) (ev_slT (ev_var rfl) (ep_s (ev_neg ev_c)) ep_n) (by rw [sizeLine_eq]; omega))
        (ef_cons (ev_back (ev_var rfl)) (ef_cons (ev_cat (ev_var rfl) (ev_tup (ef_cons ev_c ef_nil) (by rw [sizeLine_eq]; simp)) (by rw [sizeLine_eq]; simp; omega)) (ef_cons (ev_tup (ef_cons (ev_var rfl) ef_nil) (by rw [sizeLine_eq]; simp)) ef_nil))))))
    · refine sq_go (et_andR (et_isTup (ev_var rfl)) (et_is e7 (decide_eq_false c))) ?_
      exact sq_go (et_andL no) odd
  · refine sq_go (et_andL (et_isNoTup (ev_var rfl) hx.ok.norm hT)) ?_
    by_cases hi : ∃ i, x = .int i
    · obtain ⟨i, rfl⟩ := hi
      obtain ⟨i1, i2⟩ : -(2 ^ 60) < i ∧ i < 2 ^ 60 := by cases hx with | int _ a b => exact ⟨a, b⟩
      have yes : EvT (dTest (dCB cIsi (dCons (dVar 1) (dCons (dC (.ty "int")) dNil)))) [.ur, .fz (.int i), .fz l, .fz (.int w), s4] true := et_is (et_v (ev_isT (ev_var rfl) rfl)) (isT_int _ rfl)
      have no : EvT (dTNot (dTest (dCB cIsi (dCons (dVar 1) (dCons (dC (.ty "bool")) dNil))))) [.ur, .fz (.int i), .fz l, .fz (.int w), s4] true := et_is (et_not (et_v (ev_isT (ev_var rfl) rfl))) (by rw [isT_bool _ rfl]; rfl)
      by_cases c : w < 7
      · refine sq_y (et_andR yes (et_andR no (et_is e7 (decide_eq_true c)))) ?_
        refine sr_S (es_ix (xs := nums i) (Q := Bent (.int i)) (ev_tup ?_ (by rw [sizeLine_eq]; show 7 ≤ _; omega)) (ev_var rfl) w0 (by show w < 7; omega) fun y hy => .num hy) h
        refine ef_cons (ev_add (ev_var rfl) ev_c) (ef_cons (ev_I (ev_var rfl) ev_c) (ef_cons (ev_I ev_c (ev_var rfl)) (ef_cons (ev_bin (ev_var rfl) ev_c fun P k => ⟨mul_r (by decide), k⟩) (ef_cons (ev_I (ev_var rfl) ev_c) (ef_cons (ev_cb (ef_cons (ev_var rfl) ef_nil) fun P k => ⟨?_, k⟩) (ef_cons (ev_add (ev_var rfl) ev_c) ef_nil))))))
        exact log2_small (by omega)
      · exact sq_go (et_andR yes (et_andR no (et_is e7 (decide_eq_false c)))) odd
    · by_cases hb : ∃ q, x = .bl q
      · obtain ⟨q, rfl⟩ := hb
        have yes : EvT (dTest (dCB cIsi (dCons (dVar 1) (dCons (dC (.ty "int")) dNil)))) [.ur, .fz (.bl q), .fz l, .fz (.int w), s4] true := et_is (et_v (ev_isT (ev_var rfl) rfl)) (isT_int _ rfl)
        have no : EvT (dTNot (dTest (dCB cIsi (dCons (dVar 1) (dCons (dC (.ty "bool")) dNil))))) [.ur, .fz (.bl q), .fz l, .fz (.int w), s4] false := et_is (et_not (et_v (ev_isT (ev_var rfl) rfl))) (by rw [isT_bool _ rfl]; rfl)
        exact sq_go (et_andR yes (et_andL no)) odd
      · have no : EvT (dTest (dCB cIsi (dCons (dVar 1) (dCons (dC (.ty "int")) dNil)))) [.ur, .fz x, .fz l, .fz (.int w), s4] false := et_is (et_v (ev_isT (ev_var rfl) hx.ok.norm)) (by
          rw [isT_int _ hx.ok.norm]
          cases hx <;> first | rfl | exact absurd ⟨_, rfl⟩ hi | exact absurd ⟨_, rfl⟩ hb)
        exact sq_go (et_andL no) odd
theorem bent_fn {B : Nat} (hB : B ≤ 1000) : ∀ (n left : Nat) (x : D), left ≤ n → Dt B x → FnS (pre__law_bent (n + 1)) [x, .int (left : Nat)] (Bent x) := by
  intro n
  induction n with
  | zero =>
    intro left x hl hx P h
    obtain rfl : left = 0 := by omega
    show d__law_bent _ _ _
    unfold d__law_bent
    refine sq_go ?_ (rest_ok hB hx h)
    rcases tup_cases x with ⟨xs, rfl⟩ | hT
    · have e : EvT (dTest (dBin oGt (dCB cLen (dCons (dVar 1) dNil)) (dC (.int 0)))) (startU nm__law_bent [.tup xs, .int (0 : Nat)]) (decide ((0 : Int) < xs.length)) := et_v (ev_I (ev_len (ev_var rfl) (.inr rfl)) ev_c)
      cases q : decide ((0 : Int) < xs.length) with
      | true => exact et_andR (et_isTup (ev_var rfl)) (et_andR (et_is e q) (et_andL (et_is (et_v (ev_I (ev_var rfl) ev_c)) (by decide))))
      | false => exact et_andR (et_isTup (ev_var rfl)) (et_andL (et_is e q))
    · exact et_andL (et_isNoTup (ev_var rfl) hx.ok.norm hT)
  | succ n ih =>
    intro left x hl hx P h
    show d__law_bent _ _ _
    unfold d__law_bent
    rcases tup_cases x with ⟨xs, rfl⟩ | hT
    · obtain ⟨hl2, hm⟩ := hx.tupI
      have e : EvT (dTest (dBin oGt (dCB cLen (dCons (dVar 1) dNil)) (dC (.int 0)))) (startU nm__law_bent [.tup xs, .int (left : Nat)]) (decide ((0 : Int) < xs.length)) := et_v (ev_I (ev_len (ev_var rfl) (.inr rfl)) ev_c)
      have e1 : EvT (dTest (dBin oGt (dVar 2) (dC (.int 0)))) (startU nm__law_bent [.tup xs, .int (left : Nat)]) (decide ((0 : Int) < (left : Nat))) := et_v (ev_I (ev_var rfl) ev_c)
      by_cases z : 0 < xs.length ∧ 0 < left
      · refine sq_tst (eta_andR (et_isTup (ev_var rfl)) (eta_andR (et_is e (decide_eq_true (by omega))) (eta_andR (et_is e1 (decide_eq_true (by omega))) ?_))) ?_ (rest_ok hB hx h)
        · exact eta_gt (es_callU rfl (ef_cons ev_c ef_nil) rfl (pull_fn (n := 5) (by decide) (by decide)))
        · refine sq_eS (es_callU (Q := inR 0 xs.length) rfl (ef_cons (ev_len (ev_var rfl) (.inr rfl)) ef_nil) rfl (pull_fn (by omega) (by omega))) ?_
          rintro _ ⟨i, rfl, i0, i1⟩
          obtain ⟨k, rfl⟩ : ∃ k : Nat, i = k := ⟨i.toNat, by omega⟩
          have hk : k < xs.length := by omega
          have el : ((left : Nat) : Int) - 1 = ((left - 1 : Nat) : Int) := by omega
          let ρ : Env := [.ur, .fz (.tup xs), .fz (.int (left : Nat)), .no, .fz (.int (k : Nat))]
          have a1 : Ev (dSl (dVar 1) dNoP (dPart (dVar 4))) ρ (.tup (xs.take k)) := ev_is (ev_slT (xs := xs) (ev_var rfl) ep_n (ep_s (i := (k : Nat)) (ev_var rfl))) (by rw [cut_to])
          have a2 : Ev (dSl (dVar 1) (dPart (dBin oAdd (dVar 4) (dC (.int 1)))) dNoP) ρ (.tup (xs.drop (k + 1))) := ev_is (ev_slT (xs := xs) (ev_var rfl) (ep_s (i := ((k + 1 : Nat) : Int)) (ev_is (ev_add (i := (k : Nat)) (j := 1) (ev_var rfl) ev_c) (by rw [Int.natCast_succ]))) ep_n) (by rw [cut_from])
          have a3 : EvS (dCall 2 (pre__law_bent (n + 1)) (dUrn 0 (dCons (dBin oIx (dVar 1) (dVar 4)) (dCons (dBin oSub (dVar 2) (dC (.int 1))) dNil)))) ρ (Bent xs[k]) :=
            es_callU rfl (ef_cons (ev_ix (ev_var rfl) (ev_var rfl) (.inr rfl) (atI_nat k rfl hk)) (ef_cons (ev_is (ev_I (ev_var rfl) ev_c) (by rw [el])) ef_nil)) rfl (ih (left - 1) _ (by omega) (hm _ (List.getElem_mem _)))
          have a4 := es_tup (Q := fun y => ∃ z, y = .tup [z] ∧ Bent xs[k] z) (efs_cons (Rs := fun ys => ∃ z, ys = [z] ∧ Bent xs[k] z) a3 (efs_ ef_nil rfl : EvFS dNil ρ (· = [])) fun z ys hz hy => ⟨z, by rw [hy], hz⟩) fun ys hy => by
            obtain ⟨z, rfl, hz⟩ := hy
            exact ⟨by rw [sizeLine_eq]; simp, z, rfl, hz⟩
          have l1 : (xs.take k).length ≤ 1000 := by rw [List.length_take]; omega
          have l2 : (xs.drop (k + 1)).length ≤ 1000 := by rw [List.length_drop]; omega
          have a5 := es_bin (Q := fun y => ∃ z, y = .tup (xs.take k ++ [z]) ∧ Bent xs[k] z) (f := oAdd) (es_ a1 rfl : EvS _ ρ (· = .tup (xs.take k))) a4 fun u y hu hy Q c => by
            obtain ⟨z, rfl, hz⟩ := hy
            subst hu
            exact ⟨by rw [sizeLine_eq]; simp only [List.length_cons, List.length_nil]; omega, c _ ⟨z, rfl, hz⟩⟩
          exact sr_S (es_bin (Q := Bent (.tup xs)) (f := oAdd) a5 (es_ a2 rfl : EvS _ ρ (· = .tup (xs.drop (k + 1)))) fun u y hu hy Q c => by
            obtain ⟨z, rfl, hz⟩ := hu
            subst hy
            exact ⟨by rw [sizeLine_eq, List.length_append]; simp only [List.length_cons, List.length_nil]; omega, c _ (.deep k hk hz)⟩) h
      · refine sq_go (et_andR (et_isTup (ev_var rfl)) ?_) (rest_ok hB hx h)
        by_cases z1 : 0 < xs.length
        · exact et_andR (et_is e (decide_eq_true (by omega))) (et_andL (et_is e1 (decide_eq_false (by omega))))
        · exact et_andL (et_is e (decide_eq_false (by omega)))
    · exact sq_go (et_andL (et_isNoTup (ev_var rfl) hx.ok.norm hT)) (rest_ok hB hx h)
end PD

namespace PD
open PySem PySem.Spec PyProof.Rows L2 BN
theorem cut_mem {α : Type} {xs : List α} {lo hi : Option Int} {x : α} (h : x ∈ cut xs lo hi) : x ∈ xs := by
  unfold cut at h
  exact List.mem_of_mem_drop (List.mem_of_mem_take h)
theorem cut_pre {α : Type} (xs : List α) (hi : Option Int) : ∃ k, cut xs none hi = xs.take k := by
  unfold cut
  rw [HT.sIx_none, List.drop_zero]
  exact ⟨_, rfl⟩
theorem bent_ok {B : Nat} (hB : 4 ≤ B) {x y : D} (hb : Bent x y) (hx : Dt B x) : Ok (2 * B + 1) y := by
  induction hb with
  | odd h => exact (odd_dt _ h).ok.mono (by omega)
  | num h =>
    simp only [nums, List.mem_cons, List.not_mem_nil, or_false] at h
    rcases h with rfl | rfl | rfl | rfl | rfl | rfl | rfl
    all_goals first | exact .int _ | exact .bl _ | exact .str _ (strOk_of _)
  | @row xs y h =>
    obtain ⟨hl, hm⟩ := hx.tupI
    have hm : ∀ x ∈ xs, Ok (2 * B + 1) x := fun x h => (hm x h).ok.mono (by omega)
    have l1 := cut_len xs none (some (-1))
    have l2 := cut_len xs (some (-1)) none
    have l3 := cut_len xs (some 1) none
    simp only [rows, List.mem_cons, List.not_mem_nil, or_false] at h
    rcases h with rfl | rfl | rfl | rfl | rfl | rfl | rfl
    · exact .lst _ (by omega) hm
    · exact .tup _ (by omega) fun x h => hm x (cut_mem h)
    · exact .tup _ (by omega) fun x h => hm x (cut_mem h)
    · refine .tup _ (by rw [List.length_append]; omega) fun x h => ?_
      rcases List.mem_append.mp h with h | h
      · exact hm x h
      · exact hm x (cut_mem h)
    · exact .tup _ (by rw [List.length_reverse]; omega) fun x h => hm x (List.mem_reverse.mp h)
    · refine .tup _ (by rw [List.length_append]; simp; omega) fun x h => ?_
      rcases List.mem_append.mp h with h | h
      · exact hm x h
      · rw [List.mem_singleton.mp h]; exact .int 0
    · refine .tup _ (by simp) fun x h => ?_
      rw [List.mem_singleton.mp h]
      exact .tup _ (by omega) hm
  | @deep xs z k h hb ih =>
    obtain ⟨hl, hm⟩ := hx.tupI
    have hz := ih (hm _ (List.getElem_mem _))
    refine .tup _ (by simp; omega) fun x h => ?_
    rcases List.mem_append.mp h with h | h
    · rcases List.mem_append.mp h with h | h
      · exact (hm x (List.mem_of_mem_take h)).ok.mono (by omega)
      · rw [List.mem_singleton.mp h]; exact hz
    · exact (hm x (List.mem_of_mem_drop h)).ok.mono (by omega)
/-! ### fair claims -/
/-- a claim of the right form -/
def Nice (c : D) : Prop := ∃ w r rest, c = .tup (.str w :: r :: rest) ∧ w ∈ words ∧ (∀ a b, r ≠ .tup [a, .tup b]) ∧ r.isStr = false ∧ ∀ x ∈ rest, x.isStr = false
theorem fair_not {x : D} {xs : List D} (h : x.isStr = false) : Fair (.tup (x :: xs)) := fun w r rest e => by
  cases e
  cases h
theorem fair_w {w : Str} {xs : List D} (h : w ∈ words) : Fair (.tup (.str w :: xs)) := fun w' r rest e => by
  cases e
  exact .inl h
theorem fair_no {d : D} (h : d.isTup = false) : Fair d := fun w r rest e => by
  subst e
  cases h
theorem fair_nil : Fair (.tup []) := fun w r rest e => by cases e
theorem nice_fair {c : D} (h : Nice c) : Fair c := by
  obtain ⟨w, r, rest, rfl, hw, hr, _⟩ := h
  exact fair_w hw
theorem odd_fair : ∀ d ∈ oddL, Fair d := by
  intro d hd
  simp only [oddL, List.mem_cons, List.not_mem_nil, or_false] at hd
  rcases hd with rfl | rfl | rfl | rfl | rfl | rfl | rfl | rfl | rfl | rfl | rfl | rfl | rfl | rfl | rfl | rfl | rfl | rfl | rfl | rfl | rfl | rfl | rfl | rfl | rfl | rfl | rfl | rfl | rfl | rfl | rfl | rfl | rfl | rfl | rfl | rfl
  all_goals first | exact fair_no rfl | exact fair_nil | exact fair_not rfl | exact fair_w (by decide +kernel)
theorem odd_str : ∀ d ∈ oddL, ∀ w, d = .str w → w ∈ words ∨ w = "face" := by
  intro d hd
  simp only [oddL, List.mem_cons, List.not_mem_nil, or_false] at hd
  rcases hd with rfl | rfl | rfl | rfl | rfl | rfl | rfl | rfl | rfl | rfl | rfl | rfl | rfl | rfl | rfl | rfl | rfl | rfl | rfl | rfl | rfl | rfl | rfl | rfl | rfl | rfl | rfl | rfl | rfl | rfl | rfl | rfl | rfl | rfl | rfl | rfl
  all_goals first
  | (intro w e; cases e; done)
  | (intro w e; cases e; exact .inl (by decide +kernel))
  | (intro w e; cases e; exact .inr rfl)
theorem bent_fair {c y : D} (hc : Nice c) (hb : Bent c y) : Fair y := by
  obtain ⟨w, r, rest, rfl, hw, hr, hs, ht⟩ := hc
  have ns : ∀ x ∈ r :: rest, x.isStr = false := fun x h => by
    rcases List.mem_cons.mp h with e | e
    · rw [e]; exact hs
    · exact ht x e
  cases hb with
  | odd h => exact odd_fair _ h
  | row h =>
    simp only [rows, List.mem_cons, List.not_mem_nil, or_false] at h
    rcases h with rfl | rfl | rfl | rfl | rfl | rfl | rfl
    · exact fair_no rfl
    · obtain ⟨k, e⟩ := cut_pre (.str w :: r :: rest) (some (-1))
      rw [e]
      cases k with
      | zero => exact fair_nil
      | succ k => exact fair_w hw
    · rw [cut_tail]
      exact fair_not hs
    · exact fair_w hw
    · obtain ⟨x, xs, e, hx⟩ : ∃ x xs, (.str w :: r :: rest : List D).reverse = x :: xs ∧ x.isStr = false := by
        rw [List.reverse_cons]
        cases q : (r :: rest).reverse with
        | nil => simp at q
        | cons x xs => exact ⟨x, xs ++ [.str w], rfl, ns x (List.mem_reverse.mp (by rw [q]; exact List.mem_cons_self))⟩
      rw [e]
      exact fair_not hx
    · exact fair_w hw
    · exact fair_not rfl
  | deep k h hb =>
    cases k with
    | zero =>
      rename_i z
      have hb' : Bent (.str w) z := hb
      have hz : z ∈ oddL := by
        cases hb' with
        | odd h => exact h
      intro w' r' rest' e
      simp only [List.take_zero, List.nil_append, List.cons_append, List.drop_succ_cons, List.drop_zero, D.tup.injEq, List.cons.injEq] at e
      obtain ⟨e1, e2, e3⟩ := e
      rcases odd_str _ hz w' e1 with q | q
      · exact .inl q
      · exact .inr ⟨q, by rw [← e2]; exact hr⟩
    | succ k => exact fair_w hw
/-! ### the rows are judged -/
theorem acc_is {B : Nat} {c p : D} {ρ : Env} {i j : Nat} (hB : B ≤ 306) (hc : Ok B c) (hp : Ok B p) (hf : Fair c) (h1 : sat ρ i = .fz c) (h2 : sat ρ j = .fz p) :
    EvT (dTNot (dTest (dCall 2 pre__law_is (dCons (dCall 2 pre_accepts (dCons (dVar i) (dCons (dVar j) dNil))) (dCons (dCall 2 pre__law_takes (dCons (dVar i) (dCons (dVar j) dNil))) dNil))))) ρ false :=
  et_not (et_v (ev_call (ef_cons (ev_call (ef_cons (ev_var h1) (ef_cons (ev_var h2) ef_nil)) rfl (accepts_fn hB hc hp hf)) (ef_cons (ev_call (ef_cons (ev_var h1) (ef_cons (ev_var h2) ef_nil)) rfl (takes_fn hB hc hp)) ef_nil)) rfl (is_fn (spec c p))))
theorem acc_due {B : Nat} {c p : D} {ρ : Env} {i j k : Nat} (hB : B ≤ 306) (hc : Ok B c) (hp : Ok B p) (hf : Fair c) (h1 : sat ρ i = .fz c) (h2 : sat ρ j = .fz p) (h3 : sat ρ k = .fz (.bl (spec c p))) :
    EvT (dTNot (dTest (dCall 2 pre__law_is (dCons (dCall 2 pre_accepts (dCons (dVar i) (dCons (dVar j) dNil))) (dCons (dVar k) dNil))))) ρ false :=
  et_not (et_v (ev_call (ef_cons (ev_call (ef_cons (ev_var h1) (ef_cons (ev_var h2) ef_nil)) rfl (accepts_fn hB hc hp hf)) (ef_cons (ev_var h3) ef_nil)) rfl (is_fn (spec c p))))
theorem ev_kw {ρ : Env} {A : DA} {n m : Nat} {pre : Pre} {g : {α : Type} → List α → List α} {xs ys : List D} {v : D} (hA : EvF A ρ xs) (hn : xs.length = n) (hg : g xs = ys) (h : Fn pre ys v) (hm : ys.length = m := by rfl) : Ev (dKw n g (dCall m pre) A) ρ v := fun P k => hA _ ⟨hn, show (g xs).length = m ∧ pre (g xs) P by rw [hg]; exact ⟨hm, h P k⟩⟩
theorem acc_kw {B : Nat} {c p : D} {ρ : Env} {i j k : Nat} (hB : B ≤ 306) (hc : Ok B c) (hp : Ok B p) (hf : Fair c) (h1 : sat ρ i = .fz c) (h2 : sat ρ j = .fz p) (h3 : sat ρ k = .fz (.bl (spec c p))) :
    EvT (dTNot (dTest (dCall 2 pre__law_is (dCons (dKw 2 perm_accepts_paper_claim (dCall 2 pre_accepts) (dCons (dVar j) (dCons (dVar i) dNil))) (dCons (dVar k) dNil))))) ρ false :=
  et_not (et_v (ev_call (ef_cons (ev_kw (ef_cons (ev_var h2) (ef_cons (ev_var h1) ef_nil)) rfl rfl (accepts_fn hB hc hp hf)) (ef_cons (ev_var h3) ef_nil)) rfl (is_fn (spec c p))))
/-- a row of the law -/
def Row (B : Nat) (d : D) : Prop := ∃ c p, d = .tup [c, p, .bl (spec c p)] ∧ Nice c ∧ Dt B c ∧ Dt B p
theorem sq_for {I : DI} {g : DG} {x r : DS} {S : DEnds} {ρ : Env} {xs : List D} (hi : EvF I ρ xs) (h : forP g x { S with nx := fun ρ' => r S ρ' } xs ρ) : dSeq (dFor I g x) r S ρ := hi _ h
theorem sq_forS {I : DI} {g : DG} {x r : DS} {S : DEnds} {ρ : Env} {R : List D → Prop} (hi : EvFS I ρ R) (h : ∀ xs, R xs → forP g x { S with nx := fun ρ' => r S ρ' } xs ρ) : dSeq (dFor I g x) r S ρ := hi _ h
theorem efs_seq {a : DE} {ρ : Env} {R : List D → Prop} (ha : EvS a ρ fun d => ∃ ys, d = .tup ys ∧ R ys) : EvFS (dSeqI a) ρ R := fun P k => ha _ (by
  rintro _ ⟨ys, rfl, h⟩
  exact k ys h)
theorem for_nil {g : DG} {x : DS} {S : DEnds} {ρ : Env} (h : S.nx ρ) : forP g x S [] ρ := h
theorem for_c1 {x : DS} {S : DEnds} {ρ : Env} {i : Nat} {d : D} {ds : List D} (h : x { S with nx := forP (dName i) x S ds, ct := forP (dName i) x S ds, bk := S.nx } (ρ.set i (.fz d))) : forP (dName i) x S (d :: ds) ρ := h
theorem for_c2 {x : DS} {S : DEnds} {ρ : Env} {i j : Nat} {d e : D} {ds : List D} (h : x { S with nx := forP (dGTup 2 (dGCons (dName i) (dGCons (dName j) dGNil))) x S ds, ct := forP (dGTup 2 (dGCons (dName i) (dGCons (dName j) dGNil))) x S ds, bk := S.nx } ((ρ.set i (.fz d)).set j (.fz e))) : forP (dGTup 2 (dGCons (dName i) (dGCons (dName j) dGNil))) x S (.tup [d, e] :: ds) ρ := ⟨rfl, h⟩
theorem for_c3 {x : DS} {S : DEnds} {ρ : Env} {i j k : Nat} {d e f : D} {ds : List D} (h : x { S with nx := forP (dGTup 3 (dGCons (dName i) (dGCons (dName j) (dGCons (dName k) dGNil)))) x S ds, ct := forP (dGTup 3 (dGCons (dName i) (dGCons (dName j) (dGCons (dName k) dGNil)))) x S ds, bk := S.nx } (((ρ.set i (.fz d)).set j (.fz e)).set k (.fz f))) : forP (dGTup 3 (dGCons (dName i) (dGCons (dName j) (dGCons (dName k) dGNil)))) x S (.tup [d, e, f] :: ds) ρ := ⟨rfl, h⟩
theorem judged_for {B : Nat} (hB : 2 * B + 1 ≤ 306) {S : DEnds} {a1 : Sl} {u v : Sl} (rows : List D) : ∀ (s2 s3 s4 : Sl), (∀ d ∈ rows, Row B d) → (∀ s2 s3 s4, S.nx [.ur, a1, s2, s3, s4, u, v]) →
    forP (dGTup 3 (dGCons (dName 2) (dGCons (dName 3) (dGCons (dName 4) dGNil)))) (dIfS (dTNot (dTest (dCall 2 pre__law_is (dCons (dCall 2 pre_accepts (dCons (dVar 2) (dCons (dVar 3) dNil))) (dCons (dVar 4) dNil))))) (dRet (dC (.bl false))) dNext) S rows [.ur, a1, s2, s3, s4, u, v] := by
  induction rows with
  | nil => exact fun s2 s3 s4 _ h => for_nil (h s2 s3 s4)
  | cons d rows ih =>
    intro s2 s3 s4 hr h
    obtain ⟨c, p, rfl, hn, hc, hp⟩ := hr d List.mem_cons_self
    have e1 : EvT (dTNot (dTest (dCall 2 pre__law_is (dCons (dCall 2 pre_accepts (dCons (dVar 2) (dCons (dVar 3) dNil))) (dCons (dVar 4) dNil))))) [.ur, a1, .fz c, .fz p, .fz (.bl (spec c p)), u, v] false := acc_due (B := B) (by omega) hc.ok hp.ok (nice_fair hn) rfl rfl rfl
    refine for_c3 (si_go e1 ?_)
    exact ih _ _ _ (fun d hd => hr d (List.mem_cons_of_mem _ hd)) h
theorem pairs_for {B : Nat} (hB : B ≤ 306) {S : DEnds} {a0 a1 a2 a3 a4 : Sl} (ps : List (D × D)) : ∀ (s5 s6 : Sl), (∀ p ∈ ps, Ok B p.1 ∧ Ok B p.2 ∧ Fair p.1) → (∀ s5 s6, S.nx [a0, a1, a2, a3, a4, s5, s6]) →
    forP (dGTup 2 (dGCons (dName 5) (dGCons (dName 6) dGNil))) (dIfS (dTNot (dTest (dCall 2 pre__law_is (dCons (dCall 2 pre_accepts (dCons (dVar 5) (dCons (dVar 6) dNil))) (dCons (dCall 2 pre__law_takes (dCons (dVar 5) (dCons (dVar 6) dNil))) dNil))))) (dRet (dC (.bl false))) dNext) S (ps.map fun p => .tup [p.1, p.2]) [a0, a1, a2, a3, a4, s5, s6] := by
  induction ps with
  | nil => exact fun s5 s6 _ h => for_nil (h s5 s6)
  | cons p ps ih =>
    intro s5 s6 hr h
    obtain ⟨hc, hp, hf⟩ := hr p List.mem_cons_self
    have e1 : EvT (dTNot (dTest (dCall 2 pre__law_is (dCons (dCall 2 pre_accepts (dCons (dVar 5) (dCons (dVar 6) dNil))) (dCons (dCall 2 pre__law_takes (dCons (dVar 5) (dCons (dVar 6) dNil))) dNil))))) [a0, a1, a2, a3, a4, .fz p.1, .fz p.2] false := acc_is hB hc hp hf rfl rfl
    rw [List.map_cons]
    refine for_c2 (si_go e1 ?_)
    exact ih _ _ (fun d hd => hr d (List.mem_cons_of_mem _ hd)) h
theorem sq_asg3 {ρ : Env} {a : DE} {Q : D → D → D → Prop} {i j k : Nat} {r : DS} {S : DEnds} (ha : EvS a ρ fun d => ∃ x y z, d = .tup [x, y, z] ∧ Q x y z) (h : ∀ x y z, Q x y z → r S (((ρ.set i (.fz x)).set j (.fz y)).set k (.fz z))) : dSeq (dAsg a (dGTup 3 (dGCons (dName i) (dGCons (dName j) (dGCons (dName k) dGNil))))) r S ρ := ha _ (by
  rintro _ ⟨x, y, z, rfl, q⟩
  exact ⟨rfl, h x y z q⟩)
theorem judged_fn {B : Nat} (hB : 2 * B + 1 ≤ 306) (hB4 : 4 ≤ B) {rows : List D} (h0 : rows ≠ []) (hl : rows.length ≤ 10 ^ 6) (hr : ∀ d ∈ rows, Row B d) : Fn pre__law_judged [.lst rows] (.bl true) := fun P h => by
  unfold pre__law_judged d__law_judged
  refine sq_for (xs := rows) (ef_seq (ev_var rfl) (.inl rfl)) (judged_for hB rows .no .no .no hr fun s2 s3 s4 => ?_)
  have b0 : EvS (dCall 1 pre__law_one (dUrn 0 (dCons (dVar 1) dNil))) [.ur, .fz (.lst rows), s2, s3, s4, .no, .no] (· ∈ rows) := es_callU rfl (ef_cons (ev_var rfl) ef_nil) rfl (one_fn (.inl rfl) h0 (by omega))
  refine sq_asg3 (Q := fun c p z => Nice c ∧ Dt B c ∧ Dt B p ∧ z = .bl (spec c p)) (es_mono b0 fun v hv => ?_) ?_
  · obtain ⟨c, p, rfl, hn, hc, hp⟩ := hr v hv
    exact ⟨_, _, _, rfl, hn, hc, hp, rfl⟩
  rintro c p _ ⟨hn, hc, hp, rfl⟩
  let ρ : Env := [.ur, .fz (.lst rows), .fz c, .fz p, .fz (.bl (spec c p)), .no, .no]
  have e1 : EvT (dTNot (dTest (dCall 2 pre__law_is (dCons (dKw 2 perm_accepts_paper_claim (dCall 2 pre_accepts) (dCons (dVar 3) (dCons (dVar 2) dNil))) (dCons (dVar 4) dNil))))) ρ false := acc_kw (B := B) (by omega) hc.ok hp.ok (nice_fair hn) rfl rfl rfl
  refine sq_go (ρ := ρ) e1 ?_
  have b1 : EvS (dCall 2 (pre__law_bent 10) (dUrn 0 (dCons (dVar 2) (dCons (dC (.int 9)) dNil)))) ρ (Bent c) := es_callU rfl (ef_cons (ev_var rfl) (ef_cons ev_c ef_nil)) rfl (bent_fn (B := B) (by omega) 9 9 c (by omega) hc)
  have b2 : EvS (dCall 2 (pre__law_bent 10) (dUrn 0 (dCons (dVar 3) (dCons (dC (.int 9)) dNil)))) ρ (Bent p) := es_callU rfl (ef_cons (ev_var rfl) (ef_cons ev_c ef_nil)) rfl (bent_fn (B := B) (by omega) 9 9 p (by omega) hp)
  have b3 : EvS (dCall 0 pre__law_odd (dUrn 0 dNil)) ρ (· ∈ oddL) := es_callU rfl ef_nil rfl odd_fn
  have c1 := es_tup (Q := fun d => ∃ y, d = .tup [y, p] ∧ Bent c y) (efs_cons (Rs := fun ys => ∃ y, ys = [y, p] ∧ Bent c y) b1 (efs_ (ef_cons (ev_var rfl) ef_nil) rfl : EvFS (dCons (dVar 3) dNil) ρ (· = [p])) fun y ys hy e => ⟨y, by rw [e], hy⟩) fun ys hy => by
    obtain ⟨y, rfl, hy⟩ := hy
    exact ⟨by rw [sizeLine_eq]; simp, y, rfl, hy⟩
  have c2 := es_tup (Q := fun d => ∃ y, d = .tup [c, y] ∧ Bent p y) (efs_cons (Rs := fun ys => ∃ y, ys = [c, y] ∧ Bent p y) (es_ (ev_var rfl) rfl : EvS (dVar 2) ρ (· = c)) (efs_cons (Rs := fun ys => ∃ y, ys = [y] ∧ Bent p y) b2 (efs_ ef_nil rfl : EvFS dNil ρ (· = [])) fun y ys hy e => ⟨y, by rw [e], hy⟩) fun y ys hy e => by
      obtain ⟨z, rfl, hz⟩ := e
      exact ⟨z, by rw [hy], hz⟩) fun ys hy => by
    obtain ⟨y, rfl, hy⟩ := hy
    exact ⟨by rw [sizeLine_eq]; simp, y, rfl, hy⟩
  have c3 := es_tup (Q := fun d => ∃ y, d = .tup [c, y] ∧ y ∈ oddL) (efs_cons (Rs := fun ys => ∃ y, ys = [c, y] ∧ y ∈ oddL) (es_ (ev_var rfl) rfl : EvS (dVar 2) ρ (· = c)) (efs_cons (Rs := fun ys => ∃ y, ys = [y] ∧ y ∈ oddL) b3 (efs_ ef_nil rfl : EvFS dNil ρ (· = [])) fun y ys hy e => ⟨y, by rw [e], hy⟩) fun y ys hy e => by
      obtain ⟨z, rfl, hz⟩ := e
      exact ⟨z, by rw [hy], hz⟩) fun ys hy => by
    obtain ⟨y, rfl, hy⟩ := hy
    exact ⟨by rw [sizeLine_eq]; simp, y, rfl, hy⟩
  have c4 := es_tup (Q := fun d => ∃ ys, d = .tup ys ∧ ∃ x y z, ys = [.tup [x, p], .tup [c, y], .tup [c, z]] ∧ Bent c x ∧ Bent p y ∧ z ∈ oddL) (efs_cons (Rs := fun ys => ∃ x y z, ys = [.tup [x, p], .tup [c, y], .tup [c, z]] ∧ Bent c x ∧ Bent p y ∧ z ∈ oddL) c1 (efs_cons (Rs := fun ys => ∃ y z, ys = [.tup [c, y], .tup [c, z]] ∧ Bent p y ∧ z ∈ oddL) c2
      (efs_cons (Rs := fun ys => ∃ z, ys = [.tup [c, z]] ∧ z ∈ oddL) c3 (efs_ ef_nil rfl : EvFS dNil ρ (· = [])) fun y ys hy e => by
        obtain ⟨z, rfl, hz⟩ := hy
        exact ⟨z, by rw [e], hz⟩) fun y ys hy e => by
        obtain ⟨z, rfl, hz⟩ := e
        obtain ⟨x, rfl, hx⟩ := hy
        exact ⟨x, z, rfl, hx, hz⟩) fun y ys hy e => by
        obtain ⟨x, rfl, hx⟩ := hy
        obtain ⟨y, z, rfl, h1, h2⟩ := e
        exact ⟨x, y, z, rfl, hx, h1, h2⟩) fun ys hy => by
    obtain ⟨x, y, z, rfl, hy⟩ := hy
    exact ⟨by rw [sizeLine_eq]; simp, _, rfl, x, y, z, rfl, hy⟩
  refine sq_forS (efs_seq c4) fun xs hxs => ?_
  obtain ⟨x, y, z, rfl, hx, hy, hz⟩ := hxs
  refine pairs_for (B := 306) (by omega) [(x, p), (c, y), (c, z)] _ _ (fun q hq => ?_) fun s5 s6 => ?_
  · simp only [List.mem_cons, List.not_mem_nil, or_false] at hq
    rcases hq with rfl | rfl | rfl
    · exact ⟨(bent_ok hB4 hx hc).mono hB, hp.ok.mono (by omega), bent_fair hn hx⟩
    · exact ⟨hc.ok.mono (by omega), (bent_ok hB4 hy hp).mono hB, nice_fair hn⟩
    · exact ⟨hc.ok.mono (by omega), (odd_dt _ hz).ok.mono (by omega), nice_fair hn⟩
  · exact sr_e (S := { nx := fun _ => P .non, rt := P }) (v := .bl true) (ρ := [.ur, .fz (.lst rows), .fz c, .fz p, .fz (.bl (spec c p)), s5, s6]) ev_c h
end PD

namespace PD
open PySem PySem.Spec PyProof.Rows L2 BN
/-! ### the monomials of the law -/
def irg (a b : Int) : List Int := (List.range (b - a).toNat).map fun i : Nat => a + (i : Int)
theorem rgI_irg (a b : Int) : rgI a b = (irg a b).map D.int := by
  unfold rgI irg
  rw [List.map_map]
  rfl
theorem irg_mem {a b i : Int} (h : i ∈ irg a b) : a ≤ i ∧ i < b := by
  unfold irg at h
  obtain ⟨n, hn, rfl⟩ := List.mem_map.mp h
  have := List.mem_range.mp hn
  omega
theorem irg_len (a b : Int) : (irg a b).length = (b - a).toNat := by unfold irg; rw [List.length_map, List.length_range]
theorem ef_rg2 {ρ : Env} {a b : DE} {i j : Int} (ha : Ev a ρ (.int i)) (hb : Ev b ρ (.int j)) (hi : -1000 ≤ i ∧ i ≤ 10 ^ 9) (hj : -1000 ≤ j ∧ j ≤ 10 ^ 9) : EvF (dRg2 a b) ρ ((irg i j).map D.int) := fun P k => ha _ (hb _ ⟨⟨by omega, by omega, by omega, by omega⟩, by rw [rgI_irg]; exact k⟩)
theorem ef_lrg2 {ρ : Env} {a b : DE} {i j : Int} (ha : Ev a ρ (.int i)) (hb : Ev b ρ (.int j)) (hi : -1000 ≤ i ∧ i ≤ 1000) (hj : -1000 ≤ j ∧ j ≤ 1000) : EvF (dLRg2 a b) ρ ((irg i j).map D.int) := fun P k => ha _ (hb _ ⟨⟨by omega, by omega, by omega, by omega, by omega⟩, by rw [rgI_irg]; exact k⟩)
theorem atI_gl {α : Type} {xs : List α} (h : xs ≠ []) : atI xs (-1) = some (xs.getLast h) := by
  have := atI_last xs.dropLast (xs.getLast h)
  rwa [List.dropLast_concat_getLast] at this
/-- a monomial of such a degree -/
def MK (v t : Nat) (k : List Int) : Prop := k.length = t ∧ ∀ x ∈ k, 1 ≤ x ∧ x ≤ (v : Int)
def lst1 (k : List Int) : Int := if h : k = [] then 1 else k.getLast h
theorem lst1_of {v t : Nat} {k : List Int} (h : MK v t k) : 1 ≤ lst1 k ∧ lst1 k ≤ 10 ^ 6 + v ∧ (1 ≤ v → lst1 k ≤ v) := by
  unfold lst1
  split
  · exact ⟨by omega, by omega, fun h => by omega⟩
  · rename_i z
    have := h.2 _ (List.getLast_mem z)
    exact ⟨by omega, by omega, fun h => by omega⟩
def mExt : DE := dF (dComp (dRg2 (dIf (dTest (dBin oNe (dVar 5) (dTup dNil))) (dBin oIx (dVar 5) (dUn (fun x P => x.intP fun i => P (.int (-i))) (dC (.int 1)))) (dC (.int 1))) (dBin oAdd (dVar 0) (dC (.int 1)))) (dName 6) dYes (dBin oAdd (dVar 5) (dTup (dCons (dVar 6) dNil))) [6])
theorem ext_ev {v t : Nat} {k : List Int} {s1 s2 s3 s4 s6 s7 : Sl} (hv : v ≤ 7) (ht : t ≤ 100) (hk : MK v t k) (h6 : s6.still = true) :
    Ev mExt [.fz (.int (v : Nat)), s1, s2, s3, s4, .fz (tupI k), s6, s7] (.lst (((irg (lst1 k) ((v : Nat) + 1)).map fun n => k ++ [n]).map tupI)) := by
  have h5 : sat [.fz (.int (v : Nat)), s1, s2, s3, s4, .fz (tupI k), s6, s7] 5 = .fz (tupI k) := rfl
  have h0 : sat [.fz (.int (v : Nat)), s1, s2, s3, s4, .fz (tupI k), s6, s7] 0 = .fz (.int (v : Nat)) := rfl
  obtain ⟨l1, l2, l3⟩ := lst1_of hk
  have hkl : k.length ≤ 100 := by have := hk.1; omega
  have e1 : Ev (dIf (dTest (dBin oNe (dVar 5) (dTup dNil))) (dBin oIx (dVar 5) (dUn (fun x P => x.intP fun i => P (.int (-i))) (dC (.int 1)))) (dC (.int 1))) [.fz (.int (v : Nat)), s1, s2, s3, s4, .fz (tupI k), s6, s7] (.int (lst1 k)) := by
    refine ev_if (et_v (ev_ne (ev_var h5) (ev_tup ef_nil (by rw [sizeLine_eq]; simp)) (fit_tupI k) rfl)) (fun z => ?_) (fun z => ?_)
    · rw [eqv_tn] at z
      have hn : k ≠ [] := fun e => by subst e; cases z
      have hm : k.map D.int ≠ [] := fun e => hn (List.map_eq_nil_iff.mp e)
      refine ev_is (ev_ix (ev_var h5) (ev_neg ev_c) (.inr rfl) (atI_gl hm)) ?_
      rw [List.getLast_map]
      unfold lst1
      rw [dif_neg hn]
    · rw [eqv_tn] at z
      have hn : k = [] := by cases k with | nil => rfl | cons x xs => cases z
      subst hn
      exact ev_c
  have len : ((irg (lst1 k) ((v : Nat) + 1)).map D.int).length ≤ 7 := by rw [List.length_map, irg_len]; omega
  refine ev_is (ev_f (ef_comp (fun d => match d with | .int n => tupI (k ++ [n]) | d => d) (ef_rg2 e1 (ev_add (ev_var h0) ev_c) ⟨by omega, by omega⟩ ⟨by omega, by omega⟩) (by show (s6.still && true) = true; rw [h6]; rfl) (by rw [sizeLine_eq]; omega) fun d hd => ?_)) ?_
  · obtain ⟨n, hn, rfl⟩ := List.mem_map.mp hd
    have a6 : sat (((wipeE [.fz (.int (v : Nat)), s1, s2, s3, s4, .fz (tupI k), s6, s7] [6]).set 6 (.fz (.int n)))) 6 = .fz (.int n) := rfl
    have a5 : sat (((wipeE [.fz (.int (v : Nat)), s1, s2, s3, s4, .fz (tupI k), s6, s7] [6]).set 6 (.fz (.int n)))) 5 = .fz (tupI k) := rfl
    refine ev_is (ev_cat (ev_var a5) (ev_tup (ef_cons (ev_var a6) ef_nil) (by rw [sizeLine_eq]; simp)) (by rw [sizeLine_eq]; simp; omega)) ?_
    show D.tup _ = tupI (k ++ [n])
    unfold tupI
    rw [List.map_append]
    rfl
  · rw [List.map_map, List.map_map]
    rfl
theorem ext_mk {v t : Nat} {k m : List Int} (hk : MK v t k) (h : m ∈ (irg (lst1 k) ((v : Nat) + 1)).map fun n => k ++ [n]) : MK v (t + 1) m := by
  obtain ⟨l1, l2, l3⟩ := lst1_of hk
  obtain ⟨n, hn, rfl⟩ := List.mem_map.mp h
  have := irg_mem hn
  refine ⟨by rw [List.length_append, hk.1]; rfl, fun x hx => ?_⟩
  rcases List.mem_append.mp hx with hx | hx
  · exact hk.2 x hx
  · rw [List.mem_singleton.mp hx]; omega
theorem ext_len {v t : Nat} {k : List Int} (hk : MK v t k) (hv : v ≤ 7) : ((irg (lst1 k) ((v : Nat) + 1)).map fun n => k ++ [n]).length ≤ 7 ∧ (1 ≤ v → ((irg (lst1 k) ((v : Nat) + 1)).map fun n => k ++ [n]) ≠ []) := by
  obtain ⟨l1, l2, l3⟩ := lst1_of hk
  refine ⟨by rw [List.length_map, irg_len]; omega, fun h e => ?_⟩
  have := congrArg List.length e
  rw [List.length_map, irg_len, List.length_nil] at this
  have := l3 h
  omega
theorem ev_catL {ρ : Env} {a b : DE} {xs ys : List D} (ha : Ev a ρ (.lst xs)) (hb : Ev b ρ (.lst ys)) (h : xs.length + ys.length ≤ sizeLine) : Ev (dF (dCatF a b)) ρ (.lst (xs ++ ys)) := fun P k => ha _ (hb _ ⟨h, k⟩)
theorem nx_e {a : DE} {i : Nat} {S : DEnds} {ρ : Env} {v : D} (ha : Ev a ρ v) (h : S.nx (ρ.set i (.fz v))) : dSet i (xE a) S ρ := ha _ h
theorem mons_in {v t : Nat} {S : DEnds} {s1 s2 s3 s6 s7 : Sl} (hv : v ≤ 7) (ht : t ≤ 100) (h6 : s6.still = true) (ks : List (List Int)) : ∀ (acc : List (List Int)) (s5 : Sl), (∀ k ∈ ks, MK v t k) → (∀ k ∈ acc, MK v (t + 1) k) → acc.length + ks.length * 7 ≤ 10 ^ 7 →
    (∀ (ac : List (List Int)) (s5 : Sl), s5.still = true → (∀ k ∈ ac, MK v (t + 1) k) → ac.length ≤ acc.length + ks.length * 7 → (acc ≠ [] ∨ (ks ≠ [] ∧ 1 ≤ v) → ac ≠ []) → S.nx [.fz (.int (v : Nat)), s1, s2, s3, .fz (.lst (ac.map tupI)), s5, s6, s7]) → s5.still = true →
    forP (dName 5) (dSet 4 (xE (dF (dCatF (dVar 4) mExt)))) S (ks.map tupI) [.fz (.int (v : Nat)), s1, s2, s3, .fz (.lst (acc.map tupI)), s5, s6, s7] := by
  induction ks with
  | nil => exact fun acc s5 _ ha _ h h5 => for_nil (h acc s5 h5 ha (by omega) fun z => by rcases z with z | z; exact z; exact absurd rfl z.1)
  | cons k ks ih =>
    intro acc s5 hk ha hl h h5
    have hk0 := hk k List.mem_cons_self
    obtain ⟨x1, x2⟩ := ext_len hk0 hv
    have e0 := ext_ev (s1 := s1) (s2 := s2) (s3 := s3) (s4 := .fz (.lst (acc.map tupI))) (s7 := s7) hv ht hk0 h6
    rw [List.length_cons] at hl
    have e1 : Ev (dF (dCatF (dVar 4) mExt)) [.fz (.int (v : Nat)), s1, s2, s3, .fz (.lst (acc.map tupI)), .fz (tupI k), s6, s7] (.lst ((acc ++ (irg (lst1 k) ((v : Nat) + 1)).map fun n => k ++ [n]).map tupI)) := by
      rw [List.map_append]
      exact ev_catL (ev_var rfl) e0 (by rw [sizeLine_eq, List.length_map, List.length_map]; omega)
    refine for_c1 (nx_e e1 ?_)
    refine ih (acc ++ _) (.fz (tupI k)) (fun k h => hk k (List.mem_cons_of_mem _ h)) (fun m hm => ?_) (by rw [List.length_append]; omega) (fun ac s5 h5 hm hl2 hn => h ac s5 h5 hm (by rw [List.length_append] at hl2; rw [List.length_cons]; omega) fun z => hn ?_) rfl
    · rcases List.mem_append.mp hm with e | e
      · exact ha m e
      · exact ext_mk hk0 e
    · left
      rcases z with z | z
      · exact fun e => z (List.append_eq_nil_iff.mp e).1
      · exact fun e => x2 z.2 (List.append_eq_nil_iff.mp e).2
def mBody : DS := (dSeq (dSet 4 (xE (dF (dLstF dNil))))
    (dSeq (dFor (dSeqI (dVar 2)) (dName 5) (dSet 4 (xE (dF (dCatF (dVar 4) mExt))))) (dSet 2 (xE (dVar 4)))))
theorem mons_out {v : Nat} {S : DEnds} {s1 s6 s7 : Sl} (hv : v ≤ 7) (h6 : s6.still = true) (ds : List D) : ∀ (t : Nat) (ks : List (List Int)) (s3 s4 s5 : Sl), (∀ k ∈ ks, MK v t k) → ks.length ≤ 7 ^ t → (1 ≤ v ∨ t = 0 → ks ≠ []) → t + ds.length ≤ 7 → s5.still = true →
    (∀ (ks : List (List Int)) (s3 s4 s5 : Sl), s5.still = true → (∀ k ∈ ks, MK v (t + ds.length) k) → ks.length ≤ 7 ^ (t + ds.length) → (1 ≤ v ∨ t + ds.length = 0 → ks ≠ []) → S.nx [.fz (.int (v : Nat)), s1, .fz (.lst (ks.map tupI)), s3, s4, s5, s6, s7]) →
    forP (dName 3) mBody S ds [.fz (.int (v : Nat)), s1, .fz (.lst (ks.map tupI)), s3, s4, s5, s6, s7] := by
  induction ds with
  | nil => exact fun t ks s3 s4 s5 hk hl hn _ h5 h => for_nil (h ks s3 s4 s5 h5 hk hl hn)
  | cons d ds ih =>
    intro t ks s3 s4 s5 hk hl hn ht h5 h
    rw [List.length_cons] at ht h
    have p7 : ks.length ≤ 823543 := Nat.le_trans hl (Nat.le_trans (Nat.pow_le_pow_right (by decide) (show t ≤ 7 by omega)) (by decide))
    refine for_c1 ?_
    unfold mBody
    refine sq_e (v := .lst []) (ev_f (ef_lst ef_nil (by rw [sizeLine_eq]; simp))) ?_
    refine sq_for (xs := ks.map tupI) (ef_seq (ev_var rfl) (.inl rfl)) ?_
    refine mons_in (acc := []) hv (by omega) h6 ks s5 hk (fun k h => by cases h) (by rw [List.length_nil]; omega) (fun ac s5 h5 hm hl2 hn2 => ?_) h5
    dsimp only
    refine nx_e (ρ := [.fz (.int (v : Nat)), s1, .fz (.lst (ks.map tupI)), .fz d, .fz (.lst (ac.map tupI)), s5, s6, s7]) (v := .lst (ac.map tupI)) (ev_var rfl) ?_
    rw [List.length_nil, Nat.zero_add] at hl2
    refine ih (t + 1) ac _ _ _ hm (by rw [Nat.pow_succ]; omega) (fun z => hn2 (.inr ?_)) (by omega) h5 (fun ks s3 s4 s5 h5 hm hl hn => ?_)
    · rcases z with z | z
      · exact ⟨hn (.inl z), z⟩
      · omega
    · rw [show t + 1 + ds.length = t + (ds.length + 1) by omega] at hm hl hn
      exact h ks s3 s4 s5 h5 hm hl hn
def D.rev : D → D
  | .tup xs => .tup xs.reverse
  | d => d
theorem rev_tupI (ks : List (List Int)) : (ks.map tupI).map D.rev = (ks.map List.reverse).map tupI := by
  rw [List.map_map, List.map_map]
  refine List.map_congr_left fun k _ => ?_
  show D.tup (k.map D.int).reverse = D.tup (k.reverse.map D.int)
  rw [List.map_reverse]
theorem srt_tupI (ks : List (List Int)) : ∃ ms : List (List Int), srt (ks.map tupI) = ms.map tupI ∧ ms.Perm ks := by
  obtain ⟨ms, e⟩ := map_of_mem tupI (ys := srt (ks.map tupI)) fun y hy => by
    obtain ⟨x, _, rfl⟩ := List.mem_map.mp ((srt_perm _).mem_iff.mp hy)
    exact ⟨x, rfl⟩
  refine ⟨ms, e, ?_⟩
  have p := srt_perm (ks.map tupI)
  rw [e] at p
  have q := p.map keyD
  rwa [keys_eq, keys_eq] at q
theorem alike_tupI (a b : List Int) : (tupI a).alike (tupI b) = true := by
  unfold D.alike
  rw [D.py, D.py, pyL_ints, pyL_ints, PySem.W.alike, alike_ints]
theorem mons_fn {v d : Nat} (hv : v ≤ 7) (hd : d ≤ 7) : FnS pre__law_monomials [.int (v : Nat), .int (d : Nat)] (fun y => ∃ ms : List (List Int), y = .lst (ms.map tupI) ∧ (∀ k ∈ ms, MK v d k) ∧ ms.length ≤ 823543 ∧ (1 ≤ v ∨ d = 0 → ms ≠ [])) := fun P h => by
  unfold pre__law_monomials d__law_monomials
  refine sq_e (v := .lst (([[]] : List (List Int)).map tupI)) (ev_f (ef_lst (ef_cons (ev_tup ef_nil (by rw [sizeLine_eq]; simp)) ef_nil) (by rw [sizeLine_eq]; simp))) ?_
  refine sq_for (xs := (List.range d).map fun i => D.int (i : Nat)) (ef_rg (ev_var rfl) (by omega)) ?_
  refine mons_out (v := v) hv rfl _ 0 [[]] .no .no .no (fun k hk => ?_) (by simp) (fun _ => by simp) (by simp; omega) rfl fun ks s3 s4 s5 h5 hm hl hn => ?_
  · rw [List.mem_singleton.mp hk]
    exact ⟨rfl, fun x h => by cases h⟩
  rw [Nat.zero_add, List.length_map, List.length_range] at hm hl hn
  have p7 : ks.length ≤ 823543 := Nat.le_trans hl (Nat.le_trans (Nat.pow_le_pow_right (by decide) hd) (by decide))
  let ρ : Env := [.fz (.int (v : Nat)), .fz (.int (d : Nat)), .fz (.lst (ks.map tupI)), s3, s4, s5, .no, .no]
  have c1 : EvF (dComp (dSeqI (dVar 2)) (dName 7) dYes (dBack (dVar 7)) [7]) ρ ((ks.map List.reverse).map tupI) := by
    rw [← rev_tupI]
    refine ef_comp D.rev (ef_seq (ev_var rfl) (.inl rfl)) rfl (by rw [sizeLine_eq, List.length_map]; omega) fun d hd => ?_
    obtain ⟨k, hk, rfl⟩ := List.mem_map.mp hd
    exact ev_back (ev_var rfl)
  obtain ⟨ms, e, pm⟩ := srt_tupI (ks.map List.reverse)
  have ok : SrtOk ((ks.map List.reverse).map tupI) := by
    by_cases z : d = 0
    · subst z
      left
      rw [List.length_map, List.length_map]
      simpa using hl
    · right
      refine ⟨fun x hx y hy => ?_, fun x hx => ?_, .inl fun x hx => ?_⟩
      · obtain ⟨a, _, rfl⟩ := List.mem_map.mp hx
        obtain ⟨b, _, rfl⟩ := List.mem_map.mp hy
        exact alike_tupI a b
      · obtain ⟨a, _, rfl⟩ := List.mem_map.mp hx
        exact fit_tupI a
      · obtain ⟨a, ha, rfl⟩ := List.mem_map.mp hx
        obtain ⟨k, hk, rfl⟩ := List.mem_map.mp ha
        have hl := (hm k hk).1
        cases q : k.reverse with
        | nil =>
          have := congrArg List.length q
          rw [List.length_reverse, List.length_nil] at this
          omega
        | cons x xs => exact ⟨_, _, rfl⟩
  have c2 : EvF (dSrtA (dCons (dF (dComp (dSeqI (dVar 2)) (dName 7) dYes (dBack (dVar 7)) [7])) dNil)) ρ (ms.map tupI) := by
    rw [← e]
    exact ef_srt (ef_cons (ev_f c1) ef_nil) ok
  have hml : ms.length = ks.length := by rw [pm.length_eq, List.length_map]
  have c3 : EvF (dComp (dSeqI (dF (dSrtA (dCons (dF (dComp (dSeqI (dVar 2)) (dName 7) dYes (dBack (dVar 7)) [7])) dNil)))) (dName 5) dYes (dBack (dVar 5)) [5]) ρ ((ms.map List.reverse).map tupI) := by
    rw [← rev_tupI]
    refine ef_comp D.rev (ef_seq (ev_f c2) (.inl rfl)) (by show (s5.still && true) = true; rw [h5]; rfl) (by rw [sizeLine_eq, List.length_map]; omega) fun d hd => ?_
    obtain ⟨k, hk, rfl⟩ := List.mem_map.mp hd
    exact ev_back (ev_var rfl)
  refine sr_e (S := { nx := fun _ => P .non, rt := P }) (v := .lst ((ms.map List.reverse).map tupI)) (ρ := ρ) (ev_f c3) (h _ ⟨_, rfl, fun k hk => ?_, by rw [List.length_map]; omega, fun z => ?_⟩)
  · obtain ⟨m, hm2, rfl⟩ := List.mem_map.mp hk
    obtain ⟨k, hk3, rfl⟩ := List.mem_map.mp (pm.mem_iff.mp hm2)
    rw [List.reverse_reverse]
    exact hm k hk3
  · intro e2
    have := congrArg List.length e2
    rw [List.length_map, List.length_nil] at this
    exact hn z (List.length_eq_zero_iff.mp (by omega))
end PD

namespace PD
open PySem PySem.Spec PyProof.Rows L2 BN
/-! ### what the law draws -/
abbrev gI (gs : List Nat) : List Int := gs.map fun n : Nat => (n : Int)
abbrev gD (gs : List Nat) : List D := (gI gs).map D.int
def vOf (gs : List Nat) : Nat := gs.getD 1 0
theorem gD_len (gs : List Nat) : (gD gs).length = gs.length := by rw [List.length_map, List.length_map]
theorem ev_varsL {ρ : Env} {gs : List Nat} {i : Nat} (h : sat ρ i = .fz (.lst (gD gs))) : Ev (dIf (dTest (dBin oGt (dCB cLen (dCons (dVar i) dNil)) (dC (.int 1)))) (dBin oIx (dVar i) (dC (.int 1))) (dC (.int 0))) ρ (.int (vOf gs : Nat)) := by
  have a := ev_len (ev_var h) (.inl rfl)
  rw [gD_len] at a
  refine ev_if (et_v (ev_I (f := fun i j => .bl (decide (j < i))) a ev_c)) (fun q => ?_) fun q => ?_
  · have q := of_decide_eq_true q
    refine ev_is (ev_ix (ev_var h) ev_c (.inl rfl) (atI_nat 1 rfl (by rw [gD_len]; omega))) ?_
    rw [List.getElem_map, List.getElem_map]
    unfold vOf
    rw [List.getD_eq_getElem?_getD, List.getElem?_eq_getElem (by omega)]
    rfl
  · have q := of_decide_eq_false q
    have : vOf gs = 0 := by
      unfold vOf
      rw [List.getD_eq_getElem?_getD, List.getElem?_eq_none (by omega)]; rfl
    rw [this]
    exact ev_c
/-- the least a compressed row holds -/
def low (v : Nat) : Nat → List Nat → Nat
  | _, [] => 0
  | n, m :: ms => (if 1 ≤ m ∧ (1 ≤ v ∨ n = 0) then 1 else 0) + low v (n + 1) ms
def Mon (v : Nat) (k : List Int) : Prop := k.length ≤ 7 ∧ ∀ x ∈ k, 1 ≤ x ∧ x ≤ (v : Int)
theorem MK.mon {v t : Nat} {k : List Int} (h : MK v t k) (ht : t ≤ 7) : Mon v k := ⟨by rw [h.1]; exact ht, h.2⟩
theorem enI_gD (gs : List Nat) : enI (gD gs) = (gs.zipIdx).map fun p => D.tup [.int (p.2 : Nat), .int (p.1 : Nat)] := by
  rw [enI_map, List.map_map]
  unfold gD gI
  rw [List.map_map, List.zipIdx_map, List.map_map]
  rfl
theorem es_slT {a : DE} {ρ : Env} {l h : DP} {lo hi : Option Int} {R : List D → Prop} {Q : D → Prop} (ha : EvS a ρ fun d => ∃ xs, d = .lst xs ∧ R xs) (hl : ∀ P : Option Int → Prop, P lo → l ρ P) (hh : ∀ P : Option Int → Prop, P hi → h ρ P) (hq : ∀ xs, R xs → Q (.lst (cut xs lo hi))) : EvS (dSl a l h) ρ Q := fun P k => ha _ (by
  rintro _ ⟨xs, rfl, r⟩
  exact hl _ (hh _ (k _ (hq xs r))))
theorem es_catL {ρ : Env} {a b : DE} {xs : List D} {Q1 : List D → Prop} {Q : D → Prop} (ha : Ev a ρ (.lst xs)) (hb : EvS b ρ fun d => ∃ ys, d = .lst ys ∧ Q1 ys) (h : ∀ ys, Q1 ys → xs.length + ys.length ≤ sizeLine ∧ Q (.lst (xs ++ ys))) : EvS (dF (dCatF a b)) ρ Q := fun P k => ha _ (hb _ (by
  rintro _ ⟨ys, rfl, r⟩
  exact ⟨(h ys r).1, k _ (h ys r).2⟩))
theorem nx_eS {a : DE} {i : Nat} {S : DEnds} {ρ : Env} {Q : D → Prop} (ha : EvS a ρ Q) (h : ∀ v, Q v → S.nx (ρ.set i (.fz v))) : dSet i (xE a) S ρ := ha _ h
def cExt : DE := dF (dCatF (dVar 1) (dSl (dCall 2 pre__law_monomials (dCons (dIf (dTest (dBin oGt (dCB cLen (dCons (dVar 0) dNil)) (dC (.int 1)))) (dBin oIx (dVar 0) (dC (.int 1))) (dC (.int 0))) (dCons (dVar 2) dNil))) dNoP (dPart (dVar 3))))
theorem cext_ev {g0 : List Nat} {fs : List (List Int)} {n m : Nat} (hv : vOf g0 ≤ 7) (hn : n ≤ 7) (hf : fs.length ≤ 10 ^ 6) : EvS cExt [.fz (.lst (gD g0)), .fz (.lst (fs.map tupI)), .fz (.int (n : Nat)), .fz (.int (m : Nat))] (fun d => ∃ ms : List (List Int), d = .lst ((fs ++ ms).map tupI) ∧ (∀ k ∈ ms, Mon (vOf g0) k) ∧ ms.length ≤ m ∧ (1 ≤ m → 1 ≤ vOf g0 ∨ n = 0 → ms ≠ [])) := by
  let ρ : Env := [.fz (.lst (gD g0)), .fz (.lst (fs.map tupI)), .fz (.int (n : Nat)), .fz (.int (m : Nat))]
  have c1 : EvS (dCall 2 pre__law_monomials (dCons (dIf (dTest (dBin oGt (dCB cLen (dCons (dVar 0) dNil)) (dC (.int 1)))) (dBin oIx (dVar 0) (dC (.int 1))) (dC (.int 0))) (dCons (dVar 2) dNil))) ρ (fun y => ∃ xs, y = .lst xs ∧ ∃ ms : List (List Int), xs = ms.map tupI ∧ (∀ k ∈ ms, MK (vOf g0) n k) ∧ ms.length ≤ 823543 ∧ (1 ≤ vOf g0 ∨ n = 0 → ms ≠ [])) :=
    es_mono (es_call (ef_cons (ev_varsL rfl) (ef_cons (ev_var rfl) ef_nil)) rfl (mons_fn hv hn)) fun y ⟨ms, e, h⟩ => ⟨_, e, ms, rfl, h⟩
  have c2 := es_slT (Q := fun y => ∃ xs, y = .lst xs ∧ ∃ ms : List (List Int), xs = ms.map tupI ∧ (∀ k ∈ ms, Mon (vOf g0) k) ∧ ms.length ≤ 823543 ∧ ms.length ≤ m ∧ (1 ≤ m → 1 ≤ vOf g0 ∨ n = 0 → ms ≠ [])) c1 (ep_n) (ep_s (i := (m : Nat)) (ev_var rfl) : ∀ P : Option Int → Prop, P (some (m : Nat)) → dPart (dVar 3) ρ P) (by
    rintro _ ⟨ms, rfl, h1, h2, h3⟩
    refine ⟨_, rfl, ms.take m, by rw [cut_to, List.map_take], fun k hk => (h1 k (List.mem_of_mem_take hk)).mon hn, by rw [List.length_take]; omega, by rw [List.length_take]; omega, fun hm z e => ?_⟩
    have := congrArg List.length e
    rw [List.length_take, List.length_nil] at this
    have := List.length_pos_iff.mpr (h3 z)
    omega)
  refine es_catL (ev_var rfl) c2 ?_
  rintro _ ⟨ms, rfl, h1, h2, h3, h4⟩
  exact ⟨by rw [sizeLine_eq, List.length_map, List.length_map]; omega, ms, by rw [List.map_append], h1, h3, h4⟩
theorem comp_for {g0 : List Nat} {S : DEnds} (hv : vOf g0 ≤ 7) (gs : List Nat) : ∀ (n : Nat) (fs : List (List Int)) (s2 s3 : Sl), (∀ k ∈ fs, Mon (vOf g0) k) → n + gs.length ≤ 8 → fs.length + gs.sum ≤ 10 ^ 6 →
    (∀ (ms : List (List Int)) (s2 s3 : Sl), (∀ k ∈ ms, Mon (vOf g0) k) → ms.length ≤ fs.length + gs.sum → fs.length + low (vOf g0) n gs ≤ ms.length → S.nx [.fz (.lst (gD g0)), .fz (.lst (ms.map tupI)), s2, s3]) →
    forP (dGTup 2 (dGCons (dName 2) (dGCons (dName 3) dGNil))) (dSet 1 (xE cExt)) S ((gs.zipIdx n).map fun p => D.tup [.int (p.2 : Nat), .int (p.1 : Nat)]) [.fz (.lst (gD g0)), .fz (.lst (fs.map tupI)), s2, s3] := by
  induction gs with
  | nil => exact fun n fs s2 s3 hf _ _ h => for_nil (h fs s2 s3 hf (by simp) (by simp [low]))
  | cons m gs ih =>
    intro n fs s2 s3 hf hn hs h
    rw [List.length_cons] at hn
    rw [List.sum_cons] at hs h
    rw [List.zipIdx_cons, List.map_cons]
    refine for_c2 (nx_eS (cext_ev (m := m) hv (show n ≤ 7 by omega) (by omega)) ?_)
    rintro _ ⟨ms, rfl, h1, h2, h3⟩
    refine ih (n + 1) (fs ++ ms) _ _ (fun k hk => ?_) (by omega) (by rw [List.length_append]; omega) fun us s2 s3 hu l1 l2 => h us s2 s3 hu (by rw [List.length_append] at l1; omega) ?_
    · rcases List.mem_append.mp hk with e | e
      · exact hf k e
      · exact h1 k e
    · rw [List.length_append] at l2
      unfold low
      split
      · rename_i z
        have := List.length_pos_iff.mpr (h3 z.1 z.2)
        omega
      · omega
theorem comp_fn {gs : List Nat} (hv : vOf gs ≤ 7) (hl : gs.length ≤ 8) (hs : gs.sum ≤ 10 ^ 6) : FnS pre__law_compressed [.lst (gD gs)] (fun y => ∃ ms : List (List Int), y = .tup (ms.map tupI) ∧ (∀ k ∈ ms, Mon (vOf gs) k) ∧ ms.length ≤ gs.sum ∧ low (vOf gs) 0 gs ≤ ms.length) := fun P h => by
  unfold pre__law_compressed d__law_compressed
  refine sq_e (v := .lst (([] : List (List Int)).map tupI)) (ev_f (ef_lst ef_nil (by rw [sizeLine_eq]; simp))) ?_
  refine sq_for (xs := (gs.zipIdx).map fun p => D.tup [.int (p.2 : Nat), .int (p.1 : Nat)]) (fun P k => ?_) ?_
  · show P (enI (gD gs))
    rw [enI_gD]
    exact k
  refine comp_for hv gs 0 [] .no .no (fun k h => by cases h) (by omega) (by simpa using hs) fun ms s2 s3 hm l1 l2 => ?_
  have e : Ev (dCB cTup (dCons (dVar 1) dNil)) [.fz (.lst (gD gs)), .fz (.lst (ms.map tupI)), s2, s3] (.tup (ms.map tupI)) := fun P k => k
  exact sr_e (S := { nx := fun _ => P .non, rt := P }) e (h _ ⟨ms, rfl, hm, by simpa using l1, by simpa using l2⟩)
end PD

namespace PD
open PySem PySem.Spec PyProof.Rows L2 BN
/-! ### the drawn rows of numbers -/
def ltN (m : Nat) (d : D) : Prop := ∃ x : Nat, d = .int (x : Nat) ∧ x ≤ m
theorem pullN {n : Nat} {i : Int} (hi : i = (n : Nat) + 1) (h1 : n < 1000000) : FnS pre__law_pull [.int i] (ltN n) := fun P h => pull_fn (by omega) (by omega) P (by
  rintro _ ⟨i, rfl, a, b⟩
  exact h _ ⟨i.toNat, by rw [Int.toNat_of_nonneg a], by omega⟩)
theorem es_if {t : DT} {a b : DE} {ρ : Env} {Q : D → Prop} (ht : EvTA t ρ) (ha : EvS a ρ Q) (hb : EvS b ρ Q) : EvS (dIf t a b) ρ Q := fun P k => ht _ fun c => by
  cases c with
  | true => exact ha P k
  | false => exact hb P k
theorem eta_eq0 {a : DE} {ρ : Env} {lo hi : Int} {m : Int} (ha : EvS a ρ (inR lo hi)) : EvTA (dTest (dBin oEq a (dC (.int m)))) ρ := fun Q k => ha _ (by
  rintro _ ⟨i, rfl, _, _⟩
  exact ⟨⟨rfl, rfl⟩, k _⟩)
theorem app_S {e : DE} {i : Nat} {S : DEnds} {ρ : Env} {ds : List D} {Q : D → Prop} (hs : sat ρ i = .ow ds) (hl : ds.length < sizeLine) (he : EvS e ρ Q) (h : ∀ d, Q d → S.nx (ρ.set i (.ow (ds ++ [d])))) : dApp i e S ρ := by
  show (sat ρ i).owP _
  rw [hs]
  exact he _ fun d hd => ⟨hl, h d hd⟩
theorem sq_appS {e : DE} {i : Nat} {r : DS} {S : DEnds} {ρ : Env} {ds : List D} {Q : D → Prop} (hs : sat ρ i = .ow ds) (hl : ds.length < sizeLine) (he : EvS e ρ Q) (h : ∀ d, Q d → r S (ρ.set i (.ow (ds ++ [d])))) : dSeq (dApp i e) r S ρ := app_S (S := { S with nx := fun ρ' => r S ρ' }) hs hl he h
theorem ev_lenO {i : Nat} {ρ : Env} {ds : List D} (hs : sat ρ i = .ow ds) : Ev (dLenO i) ρ (.int ds.length) := fun P k => by
  show (sat ρ i).owP _
  rw [hs]; exact k
theorem ev_ixO {i : Nat} {e : DE} {ρ : Env} {ds : List D} {n : Int} {v : D} (hs : sat ρ i = .ow ds) (he : Ev e ρ (.int n)) (h : atI ds n = some v) : Ev (dIxO i e) ρ v := fun P k => by
  show (sat ρ i).owP _
  rw [hs]
  refine he _ ?_
  show optP P (atI ds n)
  rw [h]; exact k
theorem ret_O {i : Nat} {S : DEnds} {ρ : Env} {ds : List D} (hs : sat ρ i = .ow ds) (h : S.rt (.lst ds)) : dRetO i S ρ := by
  show (sat ρ i).owP _
  rw [hs]; exact h
theorem gD_app (gs : List Nat) (x : Nat) : gD gs ++ [.int (x : Nat)] = gD (gs ++ [x]) := by
  unfold gD gI
  rw [List.map_append, List.map_append]; rfl
theorem lmn_fn {n k : Nat} {i j : Int} (hi : i = (n : Nat)) (hj : j = (k : Nat)) (hn : n ≤ 10 ^ 8) (hk : k ≤ 1000) (hz : 1 ≤ k) : Fn pre__law_most_next [.int i, .int j] (.int (mn n k : Nat)) := fun P h => lmn_ok n k hi hj hn hk hz h
/-- a small drawn row -/
structure Grow (gs : List Nat) : Prop where
  hd : ∃ r, gs = 1 :: r
  le : ∀ x ∈ gs, x ≤ 16
  v : vOf gs ≤ 6
theorem Grow.app {gs : List Nat} (h : Grow gs) {x : Nat} (hx : x ≤ 16) (h1 : gs.length = 1 → x ≤ 6) : Grow (gs ++ [x]) := by
  obtain ⟨r, rfl⟩ := h.hd
  refine ⟨⟨r ++ [x], rfl⟩, fun y hy => ?_, ?_⟩
  · rcases List.mem_append.mp hy with e | e
    · exact h.le y e
    · rw [List.mem_singleton.mp e]; exact hx
  · cases r with
    | nil => exact h1 rfl
    | cons a r => exact h.v
theorem last_ix {gs : List Nat} (h : gs ≠ []) : atI (gD gs) (-1) = some (.int ((gs.getLast h : Nat) : Int)) := by
  have z : gD gs ≠ [] := fun e => h (List.map_eq_nil_iff.mp (List.map_eq_nil_iff.mp e))
  rw [atI_gl z, List.getLast_map, List.getLast_map]
def gMost : DE := dIf (dTest (dBin oEq (dVar 4) (dC (.int 1)))) (dVar 2) (dCB cMin2 (dCons (dCall 2 pre__law_most_next (dCons (dIxO 3 (dUn (fun x P => x.intP fun i => P (.int (-i))) (dC (.int 1)))) (dCons (dBin oSub (dVar 4) (dC (.int 1))) dNil))) (dCons (dC (.int 16)) dNil)))
def gBody : DS := (dSeq (dSet 5 (xE gMost)) (dApp 3 (dIf (dTest (dBin oEq (dCall 1 pre__law_pull (dUrn 0 (dCons (dC (.int 3)) dNil))) (dC (.int 0)))) (dVar 5) (dCall 1 pre__law_pull (dUrn 0 (dCons (dBin oAdd (dVar 5) (dC (.int 1))) dNil))))))
theorem gMost_ev {gs : List Nat} {top : Nat} {s1 s5 : Sl} (hg : Grow gs) (hl : gs.length ≤ 100) (ht : top ≤ 6) : ∃ m : Nat, Ev gMost [.ur, s1, .fz (.int (top : Nat)), .ow (gD gs), .fz (.int (gs.length : Nat)), s5] (.int (m : Nat)) ∧ m ≤ 16 ∧ (gs.length = 1 → m ≤ 6) := by
  obtain ⟨r, e⟩ := hg.hd
  have hn : gs ≠ [] := by rw [e]; simp
  have hlen : 1 ≤ gs.length := List.length_pos_iff.mpr hn
  have t : EvT (dTest (dBin oEq (dVar 4) (dC (.int 1)))) [.ur, s1, .fz (.int (top : Nat)), .ow (gD gs), .fz (.int (gs.length : Nat)), s5] (decide (gs.length = 1)) := et_is (et_v (ev_eq (ev_var rfl) ev_c fit_int fit_int)) (by
    rw [eqv_ii]
    by_cases z : gs.length = 1
    · rw [z]; rfl
    · rw [decide_eq_false z, beq_eq_false_iff_ne.mpr (by omega)])
  by_cases z : gs.length = 1
  · exact ⟨top, ev_if (et_is t (decide_eq_true z)) (fun _ => ev_var rfl) (fun q => by cases q), by omega, fun _ => ht⟩
  · refine ⟨if (16 : Int) < (mn (gs.getLast hn) (gs.length - 1) : Nat) then 16 else mn (gs.getLast hn) (gs.length - 1), ev_if (et_is t (decide_eq_false z)) (fun q => by cases q) (fun _ => ?_), by split <;> omega, fun q => absurd q z⟩
    have a1 : Ev (dCall 2 pre__law_most_next (dCons (dIxO 3 (dUn (fun x P => x.intP fun i => P (.int (-i))) (dC (.int 1)))) (dCons (dBin oSub (dVar 4) (dC (.int 1))) dNil))) [.ur, s1, .fz (.int (top : Nat)), .ow (gD gs), .fz (.int (gs.length : Nat)), s5] (.int (mn (gs.getLast hn) (gs.length - 1) : Nat)) :=
      ev_call (ef_cons (ev_ixO rfl (ev_neg ev_c) (last_ix hn)) (ef_cons (ev_I (ev_var rfl) ev_c) ef_nil)) rfl (lmn_fn rfl (by omega) (by have := hg.le _ (List.getLast_mem hn); omega) (by omega) (by omega))
    refine ev_is (ev_cb (v := .int (if (16 : Int) < (mn (gs.getLast hn) (gs.length - 1) : Nat) then 16 else (mn (gs.getLast hn) (gs.length - 1) : Nat))) (ef_cons a1 (ef_cons ev_c ef_nil)) fun P k => k) ?_
    split <;> rfl
theorem grow_for {S : DEnds} {s1 : Sl} {top : Nat} (ht : top ≤ 6) (n : Nat) : ∀ (gs : List Nat) (s4 s5 : Sl), Grow gs → gs.length + n ≤ 100 → (∀ (hs : List Nat) (s4 s5 : Sl), Grow hs → hs.length = gs.length + n → S.nx [.ur, s1, .fz (.int (top : Nat)), .ow (gD hs), s4, s5]) →
    forP (dName 4) gBody S ((List.range' gs.length n).map fun i : Nat => D.int (i : Nat)) [.ur, s1, .fz (.int (top : Nat)), .ow (gD gs), s4, s5] := by
  induction n with
  | zero => exact fun gs s4 s5 hg _ h => for_nil (h gs s4 s5 hg rfl)
  | succ n ih =>
    intro gs s4 s5 hg hl h
    rw [List.range'_succ, List.map_cons]
    refine for_c1 ?_
    unfold gBody
    obtain ⟨m, em, m1, m2⟩ := gMost_ev (s1 := s1) (s5 := s5) hg (by omega) ht
    refine sq_e em ?_
    have a2 : EvTA (dTest (dBin oEq (dCall 1 pre__law_pull (dUrn 0 (dCons (dC (.int 3)) dNil))) (dC (.int 0)))) [.ur, s1, .fz (.int (top : Nat)), .ow (gD gs), .fz (.int (gs.length : Nat)), .fz (.int (m : Nat))] := eta_eq0 (es_callU rfl (ef_cons ev_c ef_nil) rfl (pull_fn (n := 3) (by decide) (by decide)))
    have a3 : EvS (dCall 1 pre__law_pull (dUrn 0 (dCons (dBin oAdd (dVar 5) (dC (.int 1))) dNil))) [.ur, s1, .fz (.int (top : Nat)), .ow (gD gs), .fz (.int (gs.length : Nat)), .fz (.int (m : Nat))] (ltN m) := es_callU rfl (ef_cons (ev_add (ev_var rfl) ev_c) ef_nil) rfl (pullN rfl (by omega))
    refine app_S (ds := gD gs) rfl (by rw [gD_len, sizeLine_eq]; omega) (es_if a2 (es_ (ev_var rfl) ⟨m, rfl, Nat.le_refl m⟩) a3) ?_
    rintro _ ⟨x, rfl, hx⟩
    rw [gD_app]
    have := ih (gs ++ [x]) (.fz (.int (gs.length : Nat))) (.fz (.int (m : Nat))) (hg.app (by omega) fun z => by have := m2 z; omega) (by rw [List.length_append]; simp; omega) fun hs s4 s5 hg hl => h hs s4 s5 hg (by rw [hl, List.length_append]; simp; omega)
    rw [List.length_append] at this
    exact this
theorem irg_range' (a b : Nat) : irg (a : Nat) (b : Nat) = (List.range' a (b - a)).map fun i : Nat => (i : Int) := by
  unfold irg
  rw [List.range'_eq_map_range, List.map_map, show ((b : Int) - a).toNat = b - a by omega]
  refine List.map_congr_left fun i _ => ?_
  show (a : Int) + i = ((a + i : Nat) : Int)
  omega
theorem growth_fn {long top : Nat} (h1 : 1 ≤ long) (h2 : long ≤ 100) (ht : top ≤ 6) : FnS pre__law_growth [.int (long : Nat), .int (top : Nat)] (fun y => ∃ gs : List Nat, y = .lst (gD gs) ∧ Grow gs ∧ gs.length = long) := fun P h => by
  unfold pre__law_growth d__law_growth
  refine sq_F (xs := gD [1]) (ef_lst (ef_cons ev_c ef_nil) (by rw [sizeLine_eq]; simp)) ?_
  refine sq_for (xs := (List.range' 1 (long - 1)).map fun i : Nat => D.int (i : Nat)) ?_ ?_
  · have := ef_rg2 (ρ := [.ur, .fz (.int (long : Nat)), .fz (.int (top : Nat)), .ow (gD [1]), .no, .no]) (a := dC (.int 1)) (b := dVar 1) (i := ((1 : Nat) : Int)) (j := (long : Nat)) ev_c (ev_var rfl) ⟨by omega, by omega⟩ ⟨by omega, by omega⟩
    rw [irg_range', List.map_map] at this
    exact this
  · refine grow_for ht (long - 1) [1] .no .no ⟨⟨[], rfl⟩, fun x h => by rw [List.mem_singleton.mp h]; decide, by decide⟩ (by simp; omega) fun hs s4 s5 hg hl => ?_
    exact ret_O (i := 3) (ds := gD hs) (S := { nx := fun _ => P .non, rt := P }) (ρ := [.ur, .fz (.int (long : Nat)), .fz (.int (top : Nat)), .ow (gD hs), s4, s5]) rfl (h _ ⟨hs, rfl, hg, by rw [hl]; simp; omega⟩)
/-- a great drawn row -/
def Great (gs : List Nat) : Prop := ∃ a r, gs = 1 :: a :: r ∧ 3 ≤ a ∧ a ≤ 6 ∧ gs.length ≤ 8 ∧ gs.sum ≤ 200
theorem ev_lend {a : DE} {ρ : Env} {v : D} (ha : Ev a (lentE ρ) v) (hv : v.noL = true) : Ev (dLend a) ρ v := fun P k => ha _ ⟨hv, k⟩
theorem intsOf_D (ns : List Int) : intsOf (ns.map D.int) = some ns := intsOf_map ns
theorem gI_sum : ∀ gs : List Nat, (gI gs).sum = ((gs.sum : Nat) : Int)
  | [] => rfl
  | x :: xs => by
    show ((x : Int) :: gI xs).sum = _
    rw [List.sum_cons, List.sum_cons, gI_sum xs, Int.natCast_add]
theorem le_sum {x : Nat} : ∀ {xs : List Nat}, x ∈ xs → x ≤ xs.sum
  | y :: ys, h => by
    rw [List.sum_cons]
    rcases List.mem_cons.mp h with e | e
    · omega
    · have := le_sum e
      omega
theorem ev_sum {i : Nat} {ρ : Env} {gs : List Nat} (hs : sat ρ i = .fz (.lst (gD gs))) : Ev (dCB cSum (dCons (dVar i) dNil)) ρ (.int (gs.sum : Nat)) := fun P k => by
  refine ev_var hs _ ?_
  show optP (fun bs : List Int => P (.int bs.sum)) (intsOf (gD gs))
  rw [intsOf_D]
  have : (gI gs).sum = ((gs.sum : Nat) : Int) := gI_sum gs
  show P (.int (gI gs).sum)
  rw [this]
  exact k
theorem eta_or {t u : DT} {ρ : Env} {b : Bool} (ha : EvT t ρ b) (hb : EvTA u ρ) : EvTA (dTOr t u) ρ := fun P k => ha _ (by
  cases b with
  | true => exact k true
  | false => exact hb P k)
def wCond : DT := dTAnd (dTest (dBin oLt (dLenO 1) (dC (.int 8)))) (dTest (dBin oLt (dLend (dCB cSum (dCons (dVar 1) dNil))) (dC (.int 200))))
def wMost : DE := dCB cMin2 (dCons (dCall 2 pre__law_most_next (dCons (dIxO 1 (dUn (fun x P => x.intP fun i => P (.int (-i))) (dC (.int 1)))) (dCons (dBin oSub (dLenO 1) (dC (.int 1))) dNil))) (dCons (dBin oSub (dC (.int 200)) (dLend (dCB cSum (dCons (dVar 1) dNil)))) dNil))
def wBody : DS := (dSeq (dSet 2 (xE wMost))
    (dSeq (dSet 3 (xE (dCall 1 pre__law_pull (dUrn 0 (dCons (dBin oAdd (dVar 2) (dC (.int 1))) dNil)))))
    (dApp 1 (dIf (dTOr (dTest (dBin oLt (dBin oAdd (dLend (dCB cSum (dCons (dVar 1) dNil))) (dVar 3)) (dC (.int 81)))) (dTest (dBin oEq (dCall 1 pre__law_pull (dUrn 0 (dCons (dC (.int 3)) dNil))) (dC (.int 0))))) (dVar 2) (dVar 3)))))
theorem great_W {S : DEnds} {s2 s3 : Sl} {gs : List Nat} (hg : Great gs) (h : ∀ (gs : List Nat) (s2 s3 : Sl), Great gs → S.nx [.ur, .ow (gD gs), s2, s3]) : dWhile wCond wBody S [.ur, .ow (gD gs), s2, s3] := by
  refine ⟨fun m ρ => ∃ (gs : List Nat) (s2 s3 : Sl), m = 8 - gs.length ∧ ρ = [.ur, .ow (gD gs), s2, s3] ∧ Great gs, ⟨_, gs, s2, s3, rfl, rfl, hg⟩, ?_⟩
  rintro m _ ⟨gs, s2, s3, rfl, rfl, hg⟩
  have fin := h gs s2 s3 hg
  obtain ⟨a, r, e, a3, a6, l8, s200⟩ := hg
  have hn : gs ≠ [] := by rw [e]; simp
  have l2 : 2 ≤ gs.length := by rw [e]; simp
  have es : ∀ s2 s3 : Sl, Ev (dLend (dCB cSum (dCons (dVar 1) dNil))) [.ur, .ow (gD gs), s2, s3] (.int (gs.sum : Nat)) := fun s2 s3 => ev_lend (ev_sum rfl) rfl
  have el : ∀ s2 s3 : Sl, Ev (dLenO 1) [.ur, .ow (gD gs), s2, s3] (.int (gs.length : Nat)) := fun s2 s3 => ev_is (ev_lenO rfl) (by rw [gD_len])
  have t1 : EvT wCond [.ur, .ow (gD gs), s2, s3] (decide (((gs.length : Nat) : Int) < 8) && decide (((gs.sum : Nat) : Int) < 200)) := et_and (et_v (ev_I (el _ _) ev_c)) fun _ => et_v (ev_I (es _ _) ev_c)
  refine t1 _ ?_
  by_cases c : gs.length < 8 ∧ gs.sum < 200
  · rw [decide_eq_true (by omega), decide_eq_true (by omega)]
    show wBody _ _
    unfold wBody
    have hle : ∀ x ∈ gs, x ≤ gs.sum := fun x hx => le_sum hx
    have hla := hle _ (List.getLast_mem hn)
    have a1 : Ev (dCall 2 pre__law_most_next (dCons (dIxO 1 (dUn (fun x P => x.intP fun i => P (.int (-i))) (dC (.int 1)))) (dCons (dBin oSub (dLenO 1) (dC (.int 1))) dNil))) [.ur, .ow (gD gs), s2, s3] (.int (mn (gs.getLast hn) (gs.length - 1) : Nat)) :=
      ev_call (ef_cons (ev_ixO rfl (ev_neg ev_c) (last_ix hn)) (ef_cons (ev_I (el _ _) ev_c) ef_nil)) rfl (lmn_fn rfl (by omega) (by omega) (by omega) (by omega))
    obtain ⟨m, em, hm⟩ : ∃ m : Nat, Ev wMost [.ur, .ow (gD gs), s2, s3] (.int (m : Nat)) ∧ m ≤ 200 - gs.sum := by
      refine ⟨if (200 : Int) - (gs.sum : Nat) < (mn (gs.getLast hn) (gs.length - 1) : Nat) then 200 - gs.sum else mn (gs.getLast hn) (gs.length - 1), ?_, by split <;> omega⟩
      refine ev_is (ev_cb (v := .int (if (200 : Int) - (gs.sum : Nat) < (mn (gs.getLast hn) (gs.length - 1) : Nat) then (200 : Int) - (gs.sum : Nat) else (mn (gs.getLast hn) (gs.length - 1) : Nat))) (ef_cons a1 (ef_cons (ev_I ev_c (es _ _)) ef_nil)) fun P k => k) ?_
      split
      · congr 1; omega
      · rfl
    refine sq_e em ?_
    have b1 : EvS (dCall 1 pre__law_pull (dUrn 0 (dCons (dBin oAdd (dVar 2) (dC (.int 1))) dNil))) [.ur, .ow (gD gs), .fz (.int (m : Nat)), s3] (ltN m) := es_callU rfl (ef_cons (ev_add (ev_var rfl) ev_c) ef_nil) rfl (pullN rfl (by omega))
    refine sq_eS b1 ?_
    rintro _ ⟨w, rfl, hw⟩
    have b2 : EvTA (dTOr (dTest (dBin oLt (dBin oAdd (dLend (dCB cSum (dCons (dVar 1) dNil))) (dVar 3)) (dC (.int 81)))) (dTest (dBin oEq (dCall 1 pre__law_pull (dUrn 0 (dCons (dC (.int 3)) dNil))) (dC (.int 0))))) [.ur, .ow (gD gs), .fz (.int (m : Nat)), .fz (.int (w : Nat))] :=
      eta_or (et_v (ev_I (ev_add (es _ _) (ev_var rfl)) ev_c)) (eta_eq0 (es_callU rfl (ef_cons ev_c ef_nil) rfl (pull_fn (n := 3) (by decide) (by decide))))
    refine app_S (ds := gD gs) rfl (by rw [gD_len, sizeLine_eq]; omega) (es_if (Q := ltN m) b2 (es_ (ev_var rfl) ⟨m, rfl, Nat.le_refl m⟩) (es_ (ev_var rfl) ⟨w, rfl, hw⟩)) ?_
    rintro _ ⟨x, rfl, hx⟩
    rw [gD_app]
    refine ⟨8 - (gs ++ [x]).length, by rw [List.length_append]; simp; omega, gs ++ [x], _, _, rfl, rfl, a, r ++ [x], by rw [e]; rfl, a3, a6, by rw [List.length_append]; simp; omega, ?_⟩
    rw [List.sum_append]
    simp
    omega
  · have : (decide (((gs.length : Nat) : Int) < 8) && decide (((gs.sum : Nat) : Int) < 200)) = false := by
      rw [← Bool.not_eq_true, Bool.and_eq_true, decide_eq_true_iff, decide_eq_true_iff]
      omega
    rw [this]
    exact fin
theorem great_fn : FnS pre__law_great [] (fun y => ∃ gs : List Nat, y = .lst (gD gs) ∧ Great gs) := fun P h => by
  unfold pre__law_great d__law_great
  have b1 : EvS (dCall 1 pre__law_one (dUrn 0 (dCons (dTup (dCons (dC (.int 3)) (dCons (dC (.int 4)) (dCons (dC (.int 5)) (dCons (dC (.int 6)) dNil))))) dNil))) (startU nm__law_great []) (fun d => ∃ a : Nat, d = .int (a : Nat) ∧ 3 ≤ a ∧ a ≤ 6) :=
    es_mono (es_callU rfl (ef_cons (ev_tup (ef_cons ev_c (ef_cons ev_c (ef_cons ev_c (ef_cons ev_c ef_nil)))) (by rw [sizeLine_eq]; simp)) ef_nil) rfl (one_fn (.inr rfl) (by simp) (by simp))) fun v hv => by
      simp only [List.mem_cons, List.not_mem_nil, or_false] at hv
      rcases hv with rfl | rfl | rfl | rfl
      · exact ⟨3, rfl, by decide⟩
      · exact ⟨4, rfl, by decide⟩
      · exact ⟨5, rfl, by decide⟩
      · exact ⟨6, rfl, by decide⟩
  have b2 := efs_lst (R := fun xs => ∃ a : Nat, xs = gD [1, a] ∧ 3 ≤ a ∧ a ≤ 6) (efs_cons (es_ ev_c rfl : EvS (dC (.int 1)) _ (· = .int 1)) (efs_cons (Rs := fun ys => ∃ a : Nat, ys = [.int (a : Nat)] ∧ 3 ≤ a ∧ a ≤ 6) b1 (efs_ ef_nil rfl : EvFS dNil _ (· = [])) fun x ys hx hy => by
      obtain ⟨a, rfl, h⟩ := hx
      exact ⟨a, by rw [hy], h⟩) fun x ys hx hy => by
      obtain ⟨a, rfl, h⟩ := hy
      exact ⟨a, by rw [hx]; rfl, h⟩) fun xs hx => by
      obtain ⟨a, rfl, h⟩ := hx
      rw [sizeLine_eq, gD_len]; simp
  refine sq_FS b2 ?_
  rintro _ ⟨a, rfl, a3, a6⟩
  refine great_W (gs := [1, a]) (s2 := .no) (s3 := .no) ⟨a, [], rfl, a3, a6, by simp, by simp; omega⟩ fun gs s2 s3 hg => ?_
  exact ret_O (i := 1) (ds := gD gs) (S := { nx := fun _ => P .non, rt := P }) (ρ := [.ur, .ow (gD gs), s2, s3]) rfl (h _ ⟨gs, rfl, hg⟩)
end PD

namespace PD
open PySem PySem.Spec PyProof.Rows L2 BN
/-! ### rows in order -/
theorem srt_plcs (ks : List (List Int)) : ∃ ms : List (List Int), srt (ks.map plc) = ms.map plc ∧ ms.Perm ks := by
  obtain ⟨ms, e⟩ := map_of_mem plc (ys := srt (ks.map plc)) fun y hy => by
    obtain ⟨x, _, rfl⟩ := List.mem_map.mp ((srt_perm _).mem_iff.mp hy)
    exact ⟨x, rfl⟩
  refine ⟨ms, e, ?_⟩
  have p := srt_perm (ks.map plc)
  rw [e] at p
  have q := p.map fun d : D => match d with | .tup [_, .tup xs] => (keyD (.tup xs)).reverse | _ => []
  have z : ∀ l : List (List Int), (l.map plc).map (fun d : D => match d with | .tup [_, .tup xs] => (keyD (.tup xs)).reverse | _ => []) = l := fun l => by
    rw [List.map_map]
    refine (List.map_congr_left fun k _ => ?_).trans (List.map_id l)
    show (keyD (tupI k.reverse)).reverse = k
    rw [keyD_t, List.reverse_reverse]
  rwa [z, z] at q
theorem srt_int (ks : List Int) : ∃ ms : List Int, srt (ks.map D.int) = ms.map D.int ∧ ms.Perm ks := by
  obtain ⟨ms, e⟩ := map_of_mem D.int (ys := srt (ks.map D.int)) fun y hy => by
    obtain ⟨x, _, rfl⟩ := List.mem_map.mp ((srt_perm _).mem_iff.mp hy)
    exact ⟨x, rfl⟩
  refine ⟨ms, e, ?_⟩
  have p := srt_perm (ks.map D.int)
  rw [e] at p
  have q := p.map fun d : D => match d with | .int i => i | _ => 0
  have z : ∀ l : List Int, (l.map D.int).map (fun d : D => match d with | .int i => i | _ => 0) = l := fun l => by
    rw [List.map_map]
    exact (List.map_congr_left fun k _ => rfl).trans (List.map_id l)
  rwa [z, z] at q
theorem ef_back {I : DI} {i j : Nat} {vs : List Nat} {ρ : Env} (ms : List (List Int)) (hi : EvF I ρ (ms.map plc)) (hs : (vs.all fun v => (sat ρ v).still) = true) (hl : ms.length ≤ sizeLine) (hj : ∀ a b, sat (((wipeE ρ vs).set i (.fz a)).set j (.fz b)) j = .fz b) :
    EvF (dComp I (dGTup 2 (dGCons (dName i) (dGCons (dName j) dGNil))) dYes (dBack (dVar j)) vs) ρ (ms.map tupI) := by
  have := ef_comp2 (w := i) (w' := j) (e := dBack (dVar j)) (vs := vs) (ρ := ρ) (ms.map fun k => (D.int (k.length : Nat), D.tup (k.reverse.map D.int))) (fun _ d => D.rev d) (I := I) (by
    rw [List.map_map]; exact hi) hs (by rw [List.length_map]; exact hl) fun p hp => by
      obtain ⟨k, _, rfl⟩ := List.mem_map.mp hp
      exact ev_back (ev_var (hj _ _))
  rw [List.map_map] at this
  have e : (fun p : D × D => D.rev p.2) ∘ (fun k : List Int => (D.int (k.length : Nat), D.tup (k.reverse.map D.int))) = tupI := by
    funext k
    show D.tup (k.reverse.map D.int).reverse = tupI k
    rw [← List.map_reverse, List.reverse_reverse]
  rw [e] at this
  exact this
theorem ef_plcs {I : DI} {w : Nat} {vs : List Nat} {ρ : Env} (ks : List (List Int)) (hi : EvF I ρ (ks.map tupI)) (hs : (vs.all fun v => (sat ρ v).still) = true) (hl : ks.length ≤ sizeLine) (hj : ∀ a, sat ((wipeE ρ vs).set w (.fz a)) w = .fz a) :
    EvF (dComp I (dName w) dYes (dTup (dCons (dCB cLen (dCons (dVar w) dNil)) (dCons (dBack (dVar w)) dNil))) vs) ρ (ks.map plc) := by
  have := ef_comp (w := w) (e := dTup (dCons (dCB cLen (dCons (dVar w) dNil)) (dCons (dBack (dVar w)) dNil))) (vs := vs) (fun d => plc (keyD d)) hi hs (by rw [List.length_map]; exact hl) fun d hd => by
    obtain ⟨k, _, rfl⟩ := List.mem_map.mp hd
    rw [keyD_t]
    refine ev_is (ev_tup (ef_cons (ev_len (ev_var (hj _)) (.inr rfl)) (ef_cons (ev_back (ev_var (hj _))) ef_nil)) (by rw [sizeLine_eq]; simp)) ?_
    unfold plc
    rw [List.length_map, List.map_reverse]
  rw [List.map_map] at this
  have e : ((fun d => plc (keyD d)) ∘ tupI) = plc := by
    funext k
    show plc (keyD (tupI k)) = _
    rw [keyD_t]
  rw [e] at this
  exact this
theorem noLs_plc : ∀ ks : List (List Int), noLs (ks.map plc) = true
  | [] => rfl
  | k :: ks => by
    rw [List.map_cons]
    show ((plc k).noL && noLs (ks.map plc)) = true
    rw [noLs_plc ks, Bool.and_true]
    show noLs [.int _, .tup (k.reverse.map D.int)] = true
    have : ∀ l : List Int, noLs (l.map D.int) = true := fun l => by
      induction l with
      | nil => rfl
      | cons x xs ih => exact ih
    show (true && (noLs (k.reverse.map D.int) && true)) = true
    rw [this]; rfl
theorem ef_lendF {A : DA} {ρ : Env} {xs : List D} (hA : EvF A (lentE ρ) xs) (h : noLs xs = true) : EvF (dLendF A) ρ xs := fun P k => hA _ ⟨h, k⟩
theorem ev_cTup {a : DE} {ρ : Env} {xs : List D} (ha : Ev a ρ (.lst xs)) : Ev (dCB cTup (dCons a dNil)) ρ (.tup xs) := fun P k => ha _ k
/-! ### another ideal -/
def oLate : DE := dCB cTup (dCons (dF (dSrtA (dCons (dF (dComp (dSeqI (dVar 3)) (dName 8) dYes (dBin oIx (dVar 4) (dBin oSub (dVar 8) (dC (.int 1)))) [8])) dNil))) dNil)
def oBody : DS := (dSeq (dSet 6 (xE oLate)) (dApp 5 (dTup (dCons (dCB cLen (dCons (dVar 6) dNil)) (dCons (dBack (dVar 6)) dNil)))))
theorem late_ev {v : Nat} {k ys : List Int} {s0 s1 s2 s5 s6 s7 s8 : Sl} (hk : Mon v k) (hy : ys.Perm (irg (1 : Nat) (v + 1 : Nat))) (h8 : s8.still = true) : ∃ ms : List Int, Ev oLate [s0, s1, s2, .fz (tupI k), .fz (.lst (ys.map D.int)), s5, s6, s7, s8] (tupI ms) ∧ Mon v ms := by
  obtain ⟨ms, e, pm⟩ := srt_int (k.map fun w => ys.getD (w - 1).toNat 0)
  have hyl : ys.length = v := by rw [hy.length_eq, irg_len]; omega
  refine ⟨ms, ?_, ?_⟩
  · have c1 : EvF (dComp (dSeqI (dVar 3)) (dName 8) dYes (dBin oIx (dVar 4) (dBin oSub (dVar 8) (dC (.int 1)))) [8]) [s0, s1, s2, .fz (tupI k), .fz (.lst (ys.map D.int)), s5, s6, s7, s8] ((k.map fun w => ys.getD (w - 1).toNat 0).map D.int) := by
      have := ef_comp (ρ := [s0, s1, s2, .fz (tupI k), .fz (.lst (ys.map D.int)), s5, s6, s7, s8]) (I := dSeqI (dVar 3)) (w := 8) (e := dBin oIx (dVar 4) (dBin oSub (dVar 8) (dC (.int 1)))) (vs := [8]) (fun d => match d with | .int w => .int (ys.getD (w - 1).toNat 0) | d => d) (xs := k.map D.int) (ef_seq (ev_var rfl) (.inr rfl)) (by show (s8.still && true) = true; rw [h8]; rfl) (by rw [sizeLine_eq, List.length_map]; have := hk.1; omega) fun d hd => by
        obtain ⟨w, hw, rfl⟩ := List.mem_map.mp hd
        obtain ⟨w1, w2⟩ := hk.2 w hw
        exact ev_ix (ev_var rfl) (ev_I (ev_var rfl) ev_c) (.inl rfl) (atI_int (w - 1).toNat (by omega) (by omega))
      rw [List.map_map] at this ⊢
      exact this
    refine ev_cTup (ev_f ?_)
    have := ef_srt (ef_cons (ev_f c1) ef_nil) (.inr (ints_ok (by rw [sizeLine_eq, List.length_map]; have := hk.1; omega)).2)
    rw [e] at this
    exact this
  · refine ⟨by rw [pm.length_eq, List.length_map]; exact hk.1, fun x hx => ?_⟩
    obtain ⟨w, hw, rfl⟩ := List.mem_map.mp (pm.mem_iff.mp hx)
    obtain ⟨w1, w2⟩ := hk.2 w hw
    rw [List.getD_eq_getElem?_getD, List.getElem?_eq_getElem (by omega)]
    have := irg_mem (hy.mem_iff.mp (List.getElem_mem (by omega : (w - 1).toNat < ys.length)))
    show 1 ≤ ys[(w - 1).toNat] ∧ ys[(w - 1).toNat] ≤ _
    omega
theorem other_for {v : Nat} {ys : List Int} {S : DEnds} {s0 s1 s2 s7 s8 : Sl} (hy : ys.Perm (irg (1 : Nat) (v + 1 : Nat))) (h8 : s8.still = true) (ks : List (List Int)) : ∀ (fs : List (List Int)) (s3 s6 : Sl), (∀ k ∈ ks, Mon v k) → (∀ k ∈ fs, Mon v k) → fs.length + ks.length ≤ 10 ^ 6 → s3.still = true →
    (∀ (gs : List (List Int)) (s3 s6 : Sl), s3.still = true → (∀ k ∈ gs, Mon v k) → gs.length = fs.length + ks.length → S.nx [s0, s1, s2, s3, .fz (.lst (ys.map D.int)), .ow (gs.map plc), s6, s7, s8]) →
    forP (dName 3) oBody S (ks.map tupI) [s0, s1, s2, s3, .fz (.lst (ys.map D.int)), .ow (fs.map plc), s6, s7, s8] := by
  induction ks with
  | nil => exact fun fs s3 s6 _ hf _ h3 h => for_nil (h fs s3 s6 h3 hf rfl)
  | cons k ks ih =>
    intro fs s3 s6 hk hf hl h3 h
    rw [List.length_cons] at hl
    refine for_c1 ?_
    unfold oBody
    obtain ⟨ms, em, hm⟩ := late_ev (s0 := s0) (s1 := s1) (s2 := s2) (s5 := .ow (fs.map plc)) (s6 := s6) (s7 := s7) (hk k List.mem_cons_self) hy h8
    refine sq_e em ?_
    have e2 : Ev (dTup (dCons (dCB cLen (dCons (dVar 6) dNil)) (dCons (dBack (dVar 6)) dNil))) [s0, s1, s2, .fz (tupI k), .fz (.lst (ys.map D.int)), .ow (fs.map plc), .fz (tupI ms), s7, s8] (plc ms) := by
      refine ev_is (ev_tup (ef_cons (ev_len (ev_var rfl) (.inr rfl)) (ef_cons (ev_back (ev_var rfl)) ef_nil)) (by rw [sizeLine_eq]; simp)) ?_
      unfold plc
      rw [List.length_map, List.map_reverse]
    refine app_S (ds := fs.map plc) rfl (by rw [sizeLine_eq, List.length_map]; omega) (es_ e2 rfl : EvS _ _ (· = plc ms)) ?_
    rintro _ rfl
    rw [show fs.map plc ++ [plc ms] = (fs ++ [ms]).map plc by rw [List.map_append]; rfl]
    refine ih (fs ++ [ms]) (.fz (tupI k)) (.fz (tupI ms)) (fun j hj => hk j (List.mem_cons_of_mem _ hj)) (fun j hj => ?_) (by rw [List.length_append]; simp; omega) rfl fun gs s3 s6 h3 hg hgl => h gs s3 s6 h3 hg (by rw [hgl, List.length_append]; simp; omega)
    rcases List.mem_append.mp hj with q | q
    · exact hf j q
    · rw [List.mem_singleton.mp q]; exact hm
/-- an ideal as the law draws it -/
def Idl (v n : Nat) (d : D) : Prop := ∃ ks : List (List Int), d = .tup (ks.map tupI) ∧ (∀ k ∈ ks, Mon v k) ∧ ks.length = n
theorem other_fn {v : Nat} {ks : List (List Int)} (hv : v ≤ 7) (hk : ∀ k ∈ ks, Mon v k) (hl : ks.length ≤ 10 ^ 6) : FnS pre__law_other_ideal [.tup (ks.map tupI), .int (v : Nat)] (Idl v ks.length) := fun P h => by
  unfold pre__law_other_ideal d__law_other_ideal
  have c1 : EvS (dCall 1 pre__law_shuffled (dUrn 0 (dCons (dF (dLRg2 (dC (.int 1)) (dBin oAdd (dVar 2) (dC (.int 1))))) dNil))) (startU nm__law_other_ideal [.tup (ks.map tupI), .int (v : Nat)]) (fun y => ∃ ys : List Int, y = .lst (ys.map D.int) ∧ ys.Perm (irg (1 : Nat) (v + 1 : Nat))) :=
    es_callU rfl (ef_cons (ev_f (ef_lrg2 (i := (1 : Nat)) (j := (v + 1 : Nat)) ev_c (ev_is (ev_add (i := (v : Nat)) (j := 1) (ev_var rfl) ev_c) (by rw [Int.natCast_succ])) ⟨by omega, by omega⟩ ⟨by omega, by omega⟩)) ef_nil) rfl (shuf_fn (by rw [irg_len]; omega))
  refine sq_parSF c1 (ef_lst ef_nil (by rw [sizeLine_eq]; simp)) ?_
  rintro _ ⟨ys, rfl, hy⟩
  refine sq_for (xs := ks.map tupI) (ef_seq (ev_var rfl) (.inr rfl)) ?_
  refine other_for (v := v) (fs := []) hy rfl ks .no .no hk (fun k h => by cases h) (by simpa using hl) rfl fun gs s3 s6 h3 hg hgl => ?_
  rw [List.length_nil, Nat.zero_add] at hgl
  obtain ⟨ms, e, pm⟩ := srt_plcs gs
  let ρ : Env := [.ur, .fz (.tup (ks.map tupI)), .fz (.int (v : Nat)), s3, .fz (.lst (ys.map D.int)), .ow (gs.map plc), s6, .no, .no]
  have c2 : EvF (dLendF (dSrtA (dCons (dVar 5) dNil))) ρ (ms.map plc) := by
    refine ef_lendF ?_ (noLs_plc ms)
    rw [← e]
    exact ef_srt (ef_cons (ev_var rfl) ef_nil) (plc_ok gs)
  have c3 := ef_back (I := dSeqI (dF (dLendF (dSrtA (dCons (dVar 5) dNil))))) (i := 7) (j := 3) (vs := [7, 3]) (ρ := ρ) ms (ef_seq (ev_f c2) (.inl rfl)) (by show (true && (s3.still && true)) = true; rw [h3]; rfl) (by rw [sizeLine_eq, pm.length_eq]; omega) (fun a b => rfl)
  exact sr_e (S := { nx := fun _ => P .non, rt := P }) (ρ := ρ) (ev_cTup (ev_f c3)) (h _ ⟨ms, rfl, fun k hk => hg k (pm.mem_iff.mp hk), by rw [pm.length_eq, hgl]⟩)
end PD

namespace PD
open PySem PySem.Spec PyProof.Rows L2 BN
/-! ### an ideal with another member -/
theorem eqv_ln (ks : List (List Int)) : (D.lst (ks.map tupI)).eqv (.lst []) = ks.isEmpty := by
  cases ks with
  | nil => rfl
  | cons k ks =>
    show (D.lst (tupI k :: ks.map tupI)).eqv (.lst []) = false
    unfold D.eqv
    rw [D.py, D.py, pyL, pyL, PyData.eqv, PyData.eqvAll]
theorem fit_monsL {n : Nat} (ks : List (List Int)) : (D.lst (ks.map tupI)).fit (n + 2) = true := fit_mons (n := n) ks
theorem efs_compS {a : DE} {g : DG} {t : DT} {e : DE} {vs : List Nat} {ρ : Env} {Q : D → Prop} {R : List D → Prop} (ha : EvS a ρ Q) (h : ∀ d, Q d → EvFS (dComp (dSeqI (dC d)) g t e vs) ρ R) : EvFS (dComp (dSeqI a) g t e vs) ρ R := fun P k => ha _ fun d hd => h d hd P k
theorem filter_tupI (f : List Int → Bool) (g : D → Bool) (hg : ∀ k, g (tupI k) = f k) (ks : List (List Int)) : (((ks.map tupI).filter g).map fun d => d) = (ks.filter f).map tupI := by
  rw [List.map_id', List.filter_map]
  congr 1
  refine List.filter_congr fun k _ => ?_
  exact hg k
def wFresh : DE := dF (dComp (dSeqI (dCall 2 pre__law_monomials (dCons (dVar 2) (dCons (dCB cLen (dCons (dVar 3) dNil)) dNil)))) (dName 6) (dTest (dBin oNotIn (dVar 6) (dVar 1))) (dVar 6) [6])
theorem fresh_ev {v : Nat} {ks : List (List Int)} {k : List Int} (hv : v ≤ 7) (hk : k.length ≤ 7) : EvS wFresh [.ur, .fz (.tup (ks.map tupI)), .fz (.int (v : Nat)), .fz (tupI k), .no, .no, .no, .no] (fun d => ∃ fs : List (List Int), d = .lst (fs.map tupI) ∧ (∀ j ∈ fs, Mon v j) ∧ fs.length ≤ 823543) := by
  have c1 : EvS (dCall 2 pre__law_monomials (dCons (dVar 2) (dCons (dCB cLen (dCons (dVar 3) dNil)) dNil))) [.ur, .fz (.tup (ks.map tupI)), .fz (.int (v : Nat)), .fz (tupI k), .no, .no, .no, .no] _ :=
    es_call (ef_cons (ev_var rfl) (ef_cons (ev_is (ev_len (ev_var rfl) (.inr rfl)) (by rw [List.length_map])) ef_nil)) rfl (mons_fn hv hk)
  refine es_F (efs_compS (R := fun xs => ∃ fs : List (List Int), xs = fs.map tupI ∧ (∀ j ∈ fs, Mon v j) ∧ fs.length ≤ 823543) c1 ?_) ?_
  · rintro _ ⟨ms, rfl, h1, h2, _⟩
    refine efs_ (ef_fil (fun d => !decide (keyD d ∈ ks)) (fun d => d) (ef_seq ev_c (.inl rfl)) rfl (by rw [sizeLine_eq, List.length_map]; omega) (fun d hd => ?_) fun d hd _ => ev_var rfl) ?_
    · obtain ⟨j, _, rfl⟩ := List.mem_map.mp hd
      rw [keyD_t]
      exact et_v (ev_notInK (ev_var rfl) (ev_var rfl))
    · refine ⟨ms.filter fun j => !decide (j ∈ ks), filter_tupI (fun j => !decide (j ∈ ks)) _ (fun j => by rw [keyD_t]) ms, fun j hj => (h1 j (List.mem_filter.mp hj).1).mon hk, Nat.le_trans (List.length_filter_le _ _) h2⟩
  · rintro _ ⟨fs, rfl, h⟩
    exact ⟨fs, rfl, h⟩
theorem one_tupI {ks : List (List Int)} {x : D} (hx : x = .lst (ks.map tupI) ∨ x = .tup (ks.map tupI)) (h0 : ks ≠ []) (h1 : ks.length ≤ 10 ^ 6) : FnS pre__law_one [x] (fun d => ∃ k ∈ ks, d = tupI k) := fun P h => one_fn hx (fun e => h0 (List.map_eq_nil_iff.mp e)) (by rw [List.length_map]; omega) P fun v hv => by
  obtain ⟨k, hk, rfl⟩ := List.mem_map.mp hv
  exact h _ ⟨k, hk, rfl⟩
def wLate : DE := dF (dCatF (dF (dComp (dSeqI (dVar 1)) (dName 6) (dTest (dBin oNe (dVar 6) (dVar 3))) (dVar 6) [6])) (dF (dLstF (dCons (dCall 1 pre__law_one (dUrn 0 (dCons (dVar 4) dNil))) dNil))))
theorem wlate_ev {v : Nat} {ks fs : List (List Int)} {k : List Int} (hk : ∀ k ∈ ks, Mon v k) (hl : ks.length ≤ 10 ^ 6) (hf : ∀ k ∈ fs, Mon v k) (h0 : fs ≠ []) (h1 : fs.length ≤ 10 ^ 6) : EvS wLate [.ur, .fz (.tup (ks.map tupI)), .fz (.int (v : Nat)), .fz (tupI k), .fz (.lst (fs.map tupI)), .no, .no, .no] (fun d => ∃ gs : List (List Int), d = .lst (gs.map tupI) ∧ (∀ j ∈ gs, Mon v j) ∧ gs.length ≤ ks.length + 1) := by
  let ρ : Env := [.ur, .fz (.tup (ks.map tupI)), .fz (.int (v : Nat)), .fz (tupI k), .fz (.lst (fs.map tupI)), .no, .no, .no]
  have c1 : Ev (dF (dComp (dSeqI (dVar 1)) (dName 6) (dTest (dBin oNe (dVar 6) (dVar 3))) (dVar 6) [6])) ρ (.lst ((ks.filter fun j => !decide (j = k)).map tupI)) := by
    rw [← filter_tupI (fun j => !decide (j = k)) (fun d => !decide (keyD d = k)) (fun j => by rw [keyD_t])]
    refine ev_f (ef_fil (fun d => !decide (keyD d = k)) (fun d => d) (ef_seq (ev_var rfl) (.inr rfl)) rfl (by rw [sizeLine_eq, List.length_map]; omega) (fun d hd => ?_) fun d hd _ => ev_var rfl)
    obtain ⟨j, _, rfl⟩ := List.mem_map.mp hd
    rw [keyD_t]
    exact et_is (et_v (ev_ne (ev_var rfl) (ev_var rfl) (fit_tupI j) (fit_tupI k))) (by rw [eqv_tt])
  have c2 : EvS (dCall 1 pre__law_one (dUrn 0 (dCons (dVar 4) dNil))) ρ (fun d => ∃ j ∈ fs, d = tupI j) := es_callU rfl (ef_cons (ev_var rfl) ef_nil) rfl (one_tupI (.inl rfl) h0 h1)
  have c3 : EvS (dF (dLstF (dCons (dCall 1 pre__law_one (dUrn 0 (dCons (dVar 4) dNil))) dNil))) ρ (fun d => ∃ ys, d = .lst ys ∧ ∃ j ∈ fs, ys = [tupI j]) := es_F (efs_lst (efs_cons (Rs := fun ys => ∃ j ∈ fs, ys = [tupI j]) c2 (efs_ ef_nil rfl : EvFS dNil ρ (· = [])) fun x ys hx hy => by
    obtain ⟨j, hj, rfl⟩ := hx
    exact ⟨j, hj, by rw [hy]⟩) fun xs hx => by
    obtain ⟨j, hj, rfl⟩ := hx
    rw [sizeLine_eq]; simp) fun xs hx => ⟨xs, rfl, hx⟩
  have lf := List.length_filter_le (fun j => !decide (j = k)) ks
  refine es_catL c1 c3 ?_
  rintro _ ⟨j, hj, rfl⟩
  refine ⟨by rw [sizeLine_eq, List.length_map]; simp only [List.length_cons, List.length_nil]; omega, (ks.filter fun j => !decide (j = k)) ++ [j], by rw [List.map_append]; rfl, fun i hi => ?_, by rw [List.length_append]; simp only [List.length_cons, List.length_nil]; omega⟩
  rcases List.mem_append.mp hi with e | e
  · exact hk i (List.mem_filter.mp e).1
  · rw [List.mem_singleton.mp e]; exact hf j hj
/-- an ideal with so many members at most -/
def IdlM (v n : Nat) (d : D) : Prop := ∃ ks : List (List Int), d = .tup (ks.map tupI) ∧ (∀ k ∈ ks, Mon v k) ∧ ks.length ≤ n
theorem with_fn {v : Nat} {ks : List (List Int)} (hv : v ≤ 7) (hk : ∀ k ∈ ks, Mon v k) (h0 : ks ≠ []) (hl : ks.length ≤ 10 ^ 5) : FnS pre__law_with_other [.tup (ks.map tupI), .int (v : Nat)] (IdlM v (ks.length + 1)) := fun P h => by
  unfold pre__law_with_other d__law_with_other
  have c1 : EvS (dCall 1 pre__law_one (dUrn 0 (dCons (dVar 1) dNil))) (startU nm__law_with_other [.tup (ks.map tupI), .int (v : Nat)]) (fun d => ∃ j ∈ ks, d = tupI j) := es_callU rfl (ef_cons (ev_var rfl) ef_nil) rfl (one_tupI (.inr rfl) h0 (by omega))
  refine sq_eS c1 ?_
  rintro _ ⟨k, hk1, rfl⟩
  refine sq_eS (fresh_ev (v := v) hv (hk k hk1).1) ?_
  rintro _ ⟨fs, rfl, hf, hfl⟩
  let ρ : Env := [.ur, .fz (.tup (ks.map tupI)), .fz (.int (v : Nat)), .fz (tupI k), .fz (.lst (fs.map tupI)), .no, .no, .no]
  have t1 : EvT (dTest (dBin oEq (dVar 4) (dF (dLstF dNil)))) ρ fs.isEmpty := et_is (et_v (ev_eq (ev_var rfl) (ev_f (ef_lst ef_nil (by rw [sizeLine_eq]; simp))) (fit_monsL fs) rfl)) (eqv_ln fs)
  cases q : fs.isEmpty with
  | true => exact sq_ret (ρ := ρ) (S := { nx := fun _ => P .non, rt := P }) (et_is t1 q) (ev_var rfl) (h _ ⟨ks, rfl, hk, by omega⟩)
  | false =>
    refine sq_go (ρ := ρ) (et_is t1 q) ?_
    have hf0 : fs ≠ [] := fun e => by rw [e] at q; cases q
    refine sq_eS (wlate_ev hk (by omega) hf hf0 (by omega)) ?_
    rintro _ ⟨gs, rfl, hg, hgl⟩
    obtain ⟨ms, e, pm⟩ := srt_plcs gs
    let ρ : Env := [.ur, .fz (.tup (ks.map tupI)), .fz (.int (v : Nat)), .fz (tupI k), .fz (.lst (fs.map tupI)), .fz (.lst (gs.map tupI)), .no, .no]
    have d1 : EvF (dComp (dSeqI (dVar 5)) (dName 6) dYes (dTup (dCons (dCB cLen (dCons (dVar 6) dNil)) (dCons (dBack (dVar 6)) dNil))) [6]) ρ (gs.map plc) := ef_plcs gs (ef_seq (ev_var rfl) (.inl rfl)) rfl (by rw [sizeLine_eq]; omega) fun a => rfl
    have d2 : EvF (dSrtA (dCons (dF (dComp (dSeqI (dVar 5)) (dName 6) dYes (dTup (dCons (dCB cLen (dCons (dVar 6) dNil)) (dCons (dBack (dVar 6)) dNil))) [6])) dNil)) ρ (ms.map plc) := by
      rw [← e]
      exact ef_srt (ef_cons (ev_f d1) ef_nil) (plc_ok gs)
    have d3 := ef_back (i := 7) (j := 6) (vs := [7, 6]) (ρ := ρ) ms (ef_seq (ev_f d2) (.inl rfl)) rfl (by rw [sizeLine_eq, pm.length_eq]; omega) (fun a b => rfl)
    exact sr_e (S := { nx := fun _ => P .non, rt := P }) (ρ := ρ) (ev_cTup (ev_f d3)) (h _ ⟨ms, rfl, fun k hk => hg k (pm.mem_iff.mp hk), by rw [pm.length_eq]; exact hgl⟩)
end PD

namespace PD
open PySem PySem.Spec PyProof.Rows L2 BN
/-! ### papers turned -/
abbrev DtL (B : Nat) (xs : List D) : Prop := ∀ x ∈ xs, Dt B x
section
variable {B : Nat} {xs ys : List D} {x : D}
theorem dl_nil : DtL B [] := fun x h => by cases h
theorem dl_cons (h : Dt B x) (k : DtL B xs) : DtL B (x :: xs) := fun y hy => by
  rcases List.mem_cons.mp hy with e | e
  · rw [e]; exact h
  · exact k y e
theorem dl_app (h : DtL B xs) (k : DtL B ys) : DtL B (xs ++ ys) := fun y hy => by
  rcases List.mem_append.mp hy with e | e
  · exact h y e
  · exact k y e
theorem dl_take {n : Nat} (h : DtL B xs) : DtL B (xs.take n) := fun y hy => h y (List.mem_of_mem_take hy)
theorem dl_drop {n : Nat} (h : DtL B xs) : DtL B (xs.drop n) := fun y hy => h y (List.mem_of_mem_drop hy)
theorem dl_cut {lo hi : Option Int} (h : DtL B xs) : DtL B (cut xs lo hi) := fun y hy => h y (cut_mem hy)
theorem dl_rev (h : DtL B xs) : DtL B xs.reverse := fun y hy => h y (List.mem_reverse.mp hy)
end
theorem dt_mon {v : Nat} {k : List Int} (hv : v ≤ 7) (h : Mon v k) : Dt 8 (tupI k) := .tup _ (by rw [List.length_map]; have := h.1; omega) fun x hx => by
  obtain ⟨i, hi, rfl⟩ := List.mem_map.mp hx
  have := h.2 i hi
  exact .int i (by omega) (by omega)
theorem dl_mons {B v : Nat} {ks : List (List Int)} (hB : 8 ≤ B) (hv : v ≤ 7) (h : ∀ k ∈ ks, Mon v k) : DtL B (ks.map tupI) := fun x hx => by
  obtain ⟨k, hk, rfl⟩ := List.mem_map.mp hx
  exact (dt_mon hv (h k hk)).mono hB
theorem dt_int {B : Nat} {i : Int} (h1 : -(2 ^ 60) < i) (h2 : i < 2 ^ 60) : Dt B (.int i) := .int i h1 h2
section
variable {ρ : Env} {i j : Nat} {xs : List D} {n n' : Nat} {m : Int}
theorem ep_v (h3 : sat ρ j = .fz (.int (n : Nat))) : ∀ P : Option Int → Prop, P (some (n : Int)) → dPart (dVar j) ρ P := ep_s (ev_var h3)
theorem ep_a (h3 : sat ρ j = .fz (.int (n : Nat))) (hm : (n : Int) + m = (n' : Nat)) : ∀ P : Option Int → Prop, P (some (n' : Int)) → dPart (dBin oAdd (dVar j) (dC (.int m))) ρ P := ep_s (ev_is (ev_add (ev_var h3) ev_c) (by rw [hm]))
theorem ev_to (h1 : sat ρ i = .fz (.tup xs)) (h3 : sat ρ j = .fz (.int (n : Nat))) : Ev (dSl (dVar i) dNoP (dPart (dVar j))) ρ (.tup (xs.take n)) := ev_is (ev_slT (ev_var h1) ep_n (ep_v h3)) (by rw [cut_to])
theorem ev_fr (h1 : sat ρ i = .fz (.tup xs)) (h3 : sat ρ j = .fz (.int (n : Nat))) : Ev (dSl (dVar i) (dPart (dVar j)) dNoP) ρ (.tup (xs.drop n)) := ev_is (ev_slT (ev_var h1) (ep_v h3) ep_n) (by rw [cut_from])
theorem ev_toA (h1 : sat ρ i = .fz (.tup xs)) (h3 : sat ρ j = .fz (.int (n : Nat))) (hm : (n : Int) + m = (n' : Nat)) : Ev (dSl (dVar i) dNoP (dPart (dBin oAdd (dVar j) (dC (.int m))))) ρ (.tup (xs.take n')) := ev_is (ev_slT (ev_var h1) ep_n (ep_a h3 hm)) (by rw [cut_to])
theorem ev_frA (h1 : sat ρ i = .fz (.tup xs)) (h3 : sat ρ j = .fz (.int (n : Nat))) (hm : (n : Int) + m = (n' : Nat)) : Ev (dSl (dVar i) (dPart (dBin oAdd (dVar j) (dC (.int m)))) dNoP) ρ (.tup (xs.drop n')) := ev_is (ev_slT (ev_var h1) (ep_a h3 hm) ep_n) (by rw [cut_from])
theorem ev_toL (h1 : sat ρ i = .fz (.lst xs)) (h3 : sat ρ j = .fz (.int (n : Nat))) : Ev (dSl (dVar i) dNoP (dPart (dVar j))) ρ (.lst (xs.take n)) := ev_is (ev_slL (ev_var h1) ep_n (ep_v h3)) (by rw [cut_to])
theorem ev_frAL (h1 : sat ρ i = .fz (.lst xs)) (h3 : sat ρ j = .fz (.int (n : Nat))) (hm : (n : Int) + m = (n' : Nat)) : Ev (dSl (dVar i) (dPart (dBin oAdd (dVar j) (dC (.int m)))) dNoP) ρ (.lst (xs.drop n')) := ev_is (ev_slL (ev_var h1) (ep_a h3 hm) ep_n) (by rw [cut_from])
theorem ev_butlast {a : DE} (ha : Ev a ρ (.tup xs)) : Ev (dSl a dNoP (dPart (dUn (fun x P => x.intP fun i => P (.int (-i))) (dC (.int 1))))) ρ (.tup (cut xs none (some (-1)))) := ev_slT ha ep_n (ep_s (ev_neg ev_c))
theorem ev_butlastL {a : DE} (ha : Ev a ρ (.lst xs)) : Ev (dSl a dNoP (dPart (dUn (fun x P => x.intP fun i => P (.int (-i))) (dC (.int 1))))) ρ (.lst (cut xs none (some (-1)))) := ev_slL ha ep_n (ep_s (ev_neg ev_c))
theorem ev_1 {a : DE} {x : D} (ha : Ev a ρ x) : Ev (dTup (dCons a dNil)) ρ (.tup [x]) := ev_tup (ef_cons ha ef_nil) (by rw [sizeLine_eq]; simp)
theorem efs_catO {us : List D} {b : DE} {R Q : List D → Prop} (hs : sat ρ i = .ow us) (hb : EvS b ρ fun d => ∃ ys, d = .lst ys ∧ R ys) (h : ∀ ys, R ys → us.length + ys.length ≤ sizeLine ∧ Q (us ++ ys)) : EvFS (dCatO i b) ρ Q := fun P k => by
  show (sat ρ i).owP _
  rw [hs]
  exact hb _ (by
    rintro _ ⟨ys, rfl, r⟩
    exact ⟨(h ys r).1, k _ (h ys r).2⟩)
theorem es_akL {A : DA} {p : D → Prop} {k : Nat} (hA : EvFS A ρ (AllK k p)) (hk : k ≤ 1000) : EvS (dF (dLstF A)) ρ (fun d => ∃ ys, d = .lst ys ∧ AllK k p ys) := es_F (efs_lst hA fun xs h => by rw [h.1, sizeLine_eq]; omega) fun xs h => ⟨xs, rfl, h⟩
end
theorem turned_fn {v : Nat} {ks : List (List Int)} (hv : v ≤ 6) (hk : ∀ k ∈ ks, Mon v k) (h2 : 2 ≤ ks.length) (hl : ks.length ≤ 200) : FnS pre__law_turned [.tup (ks.map tupI), .int (v : Nat)] (fun y => ∃ ps, y = .lst ps ∧ ps.length ≤ 20 ∧ DtL 210 ps) := fun P h => by
  unfold pre__law_turned d__law_turned
  have hxs : DtL 210 (ks.map tupI) := dl_mons (by omega) (by omega) hk
  have hxl : (ks.map tupI).length = ks.length := List.length_map ..
  have hks : ks ≠ [] := fun e => by rw [e] at h2; simp at h2
  have c1 : EvS (dCall 1 pre__law_pull (dUrn 0 (dCons (dBin oSub (dCB cLen (dCons (dVar 1) dNil)) (dC (.int 1))) dNil))) (startU nm__law_turned [.tup (ks.map tupI), .int (v : Nat)]) (inR 0 ((ks.length : Nat) - 1)) :=
    es_callU rfl (ef_cons (ev_I (ev_is (ev_len (ev_var rfl) (.inr rfl)) (by rw [List.length_map])) ev_c) ef_nil) rfl (pull_fn (by omega) (by omega))
  refine sq_eS c1 ?_
  rintro _ ⟨i, rfl, i0, i1⟩
  obtain ⟨n, rfl⟩ : ∃ n : Nat, i = n := ⟨i.toNat, by omega⟩
  have hn1 : n < ks.length := by omega
  have hn2 : n + 1 < ks.length := by omega
  let one := tupI ks[n]
  let two := tupI ks[n + 1]
  have d1 : Dt 210 one := (dt_mon (by omega) (hk _ (List.getElem_mem hn1))).mono (by omega)
  have d2 : Dt 210 two := (dt_mon (by omega) (hk _ (List.getElem_mem hn2))).mono (by omega)
  have w1 : (ks[n].map D.int).length ≤ 7 := by rw [List.length_map]; exact (hk _ (List.getElem_mem hn1)).1
  have w2 : (ks[n + 1].map D.int).length ≤ 7 := by rw [List.length_map]; exact (hk _ (List.getElem_mem hn2)).1
  have e1 : EvS (dBin oIx (dVar 1) (dVar 3)) [.ur, .fz (.tup (ks.map tupI)), .fz (.int (v : Nat)), .fz (.int (n : Nat)), .no, .no, .no] (· = one) := es_ (ev_ix (ev_var rfl) (ev_var rfl) (.inr rfl) (atI_nat n rfl (by omega))) (by rw [List.getElem_map])
  have e2 : EvS (dBin oIx (dVar 1) (dBin oAdd (dVar 3) (dC (.int 1)))) [.ur, .fz (.tup (ks.map tupI)), .fz (.int (v : Nat)), .fz (.int (n : Nat)), .no, .no, .no] (· = two) := es_ (ev_ix (ev_var rfl) (ev_add (ev_var rfl) ev_c) (.inr rfl) (atI_nat (n + 1) (by rw [Int.natCast_succ]) (by omega))) (by rw [List.getElem_map])
  refine sq_parSS e1 e2 ?_
  rintro _ _ rfl rfl
  have lc := cut_len (ks.map tupI) none (some (-1))
  have lt := cut_len (ks[n + 1].map D.int) none (some (-1))
  have x1 : ∀ s4 : Sl, sat [.ur, .fz (.tup (ks.map tupI)), .fz (.int (v : Nat)), .fz (.int (n : Nat)), s4, .fz one, .fz two] 1 = .fz (.tup (ks.map tupI)) := fun _ => rfl
  have x3 : ∀ s4 : Sl, sat [.ur, .fz (.tup (ks.map tupI)), .fz (.int (v : Nat)), .fz (.int (n : Nat)), s4, .fz one, .fz two] 3 = .fz (.int (n : Nat)) := fun _ => rfl
  have p1 : (n : Int) + 1 = (n + 1 : Nat) := by omega
  have p2 : (n : Int) + 2 = (n + 2 : Nat) := by omega
  have s0 := ak_cons (p := Dt 210) (es_ (ev_cat (ev_to (x1 .no) (x3 .no)) (ev_frA (x1 .no) (x3 .no) p1) (by (rw [sizeLine_eq]; simp only [List.length_append, List.length_take, List.length_drop, List.length_cons, List.length_nil, List.length_map, List.length_reverse]; omega))) (.tup _ (by (simp only [List.length_append, List.length_take, List.length_drop, List.length_cons, List.length_nil, List.length_map, List.length_reverse]; omega)) (dl_app (dl_take hxs) (dl_drop hxs))))
    (ak_cons (es_ (ev_cat (ev_cat (ev_to (x1 .no) (x3 .no)) (ev_1 (ev_var (i := 5) rfl)) (by (rw [sizeLine_eq]; simp only [List.length_append, List.length_take, List.length_drop, List.length_cons, List.length_nil, List.length_map, List.length_reverse]; omega))) (ev_fr (x1 .no) (x3 .no)) (by (rw [sizeLine_eq]; simp only [List.length_append, List.length_take, List.length_drop, List.length_cons, List.length_nil, List.length_map, List.length_reverse]; omega))) (.tup _ (by (simp only [List.length_append, List.length_take, List.length_drop, List.length_cons, List.length_nil, List.length_map, List.length_reverse]; omega)) (dl_app (dl_app (dl_take hxs) (dl_cons d1 dl_nil)) (dl_drop hxs))))
    (ak_cons (es_ (ev_cat (ev_cat (ev_to (x1 .no) (x3 .no)) (ev_tup (ef_cons (ev_var (i := 6) rfl) (ef_cons (ev_var (i := 5) rfl) ef_nil)) (by (rw [sizeLine_eq]; simp only [List.length_append, List.length_take, List.length_drop, List.length_cons, List.length_nil, List.length_map, List.length_reverse]; omega))) (by (rw [sizeLine_eq]; simp only [List.length_append, List.length_take, List.length_drop, List.length_cons, List.length_nil, List.length_map, List.length_reverse]; omega))) (ev_frA (x1 .no) (x3 .no) p2) (by (rw [sizeLine_eq]; simp only [List.length_append, List.length_take, List.length_drop, List.length_cons, List.length_nil, List.length_map, List.length_reverse]; omega))) (.tup _ (by (simp only [List.length_append, List.length_take, List.length_drop, List.length_cons, List.length_nil, List.length_map, List.length_reverse]; omega)) (dl_app (dl_app (dl_take hxs) (dl_cons d2 (dl_cons d1 dl_nil))) (dl_drop hxs)))) ak_nil))
  refine sq_FS (efs_lst s0 fun xs h => by rw [h.1, sizeLine_eq]; omega) ?_
  rintro us ⟨ul, ud⟩
  have one3 : EvS (dCall 2 pre__law_with_other (dUrn 0 (dCons (dVar 1) (dCons (dVar 2) dNil)))) [.ur, .fz (.tup (ks.map tupI)), .fz (.int (v : Nat)), .fz (.int (n : Nat)), .ow us, .fz one, .fz two] (Dt 210) := es_mono (es_callU rfl (ef_cons (ev_var rfl) (ef_cons (ev_var rfl) ef_nil)) rfl (with_fn (by omega) hk hks (by omega))) fun d hd => by
    obtain ⟨js, rfl, hj, jl⟩ := hd
    exact .tup _ (by (simp only [List.length_append, List.length_take, List.length_drop, List.length_cons, List.length_nil, List.length_map, List.length_reverse]; omega)) (dl_mons (by omega) (by omega) hj)
  have s1 := ak_cons (p := Dt 210) (es_ (ev_cat (ev_cat (ev_to (x1 (.ow us)) (x3 (.ow us))) (ev_1 (ev_f (ef_list (ef_cons (ev_var (i := 5) rfl) ef_nil) (.inr rfl)))) (by (rw [sizeLine_eq]; simp only [List.length_append, List.length_take, List.length_drop, List.length_cons, List.length_nil, List.length_map, List.length_reverse]; omega))) (ev_frA (x1 (.ow us)) (x3 (.ow us)) p1) (by (rw [sizeLine_eq]; simp only [List.length_append, List.length_take, List.length_drop, List.length_cons, List.length_nil, List.length_map, List.length_reverse]; omega))) (.tup _ (by (simp only [List.length_append, List.length_take, List.length_drop, List.length_cons, List.length_nil, List.length_map, List.length_reverse]; omega)) (dl_app (dl_app (dl_take hxs) (dl_cons (.lst _ (by omega) d1.tupI.2) dl_nil)) (dl_drop hxs))))
    (ak_cons one3 (ak_cons (es_ (ev_butlast (ev_var (x1 (.ow us)))) (.tup _ (by omega) (dl_cut hxs))) ak_nil))
  refine sq_FS (efs_catO (Q := AllK 6 (Dt 210)) rfl (es_akL s1 (by omega)) fun ys hy => ⟨by rw [ul, hy.1, sizeLine_eq]; omega, by rw [List.length_append, ul, hy.1], dl_app ud hy.2⟩) ?_
  rintro vs ⟨vl, vd⟩
  have a1 := es_ (Q := Dt 210) (ev_cat (ev_cat (ev_toA (x1 (.ow vs)) (x3 (.ow vs)) p1) (ev_1 (ev_cat (ev_butlast (ev_var (i := 6) rfl)) (ev_1 (ev_add (ev_var (i := 2) rfl) (ev_c (v := .int 1)))) (by (rw [sizeLine_eq]; simp only [List.length_append, List.length_take, List.length_drop, List.length_cons, List.length_nil, List.length_map, List.length_reverse]; omega)))) (by (rw [sizeLine_eq]; simp only [List.length_append, List.length_take, List.length_drop, List.length_cons, List.length_nil, List.length_map, List.length_reverse]; omega))) (ev_frA (x1 (.ow vs)) (x3 (.ow vs)) p2) (by (rw [sizeLine_eq]; simp only [List.length_append, List.length_take, List.length_drop, List.length_cons, List.length_nil, List.length_map, List.length_reverse]; omega)))
    (.tup _ (by (simp only [List.length_append, List.length_take, List.length_drop, List.length_cons, List.length_nil, List.length_map, List.length_reverse]; omega)) (dl_app (dl_app (dl_take hxs) (dl_cons (.tup _ (by (simp only [List.length_append, List.length_take, List.length_drop, List.length_cons, List.length_nil, List.length_map, List.length_reverse]; omega)) (dl_app (dl_cut d2.tupI.2) (dl_cons (dt_int (by omega) (by omega)) dl_nil))) dl_nil)) (dl_drop hxs)))
  refine sq_appS (ds := vs) rfl (by rw [vl, sizeLine_eq]; omega) a1 fun d hd => ?_
  have a2 := es_ (Q := Dt 210) (ev_cat (ev_cat (ev_toA (x1 (.ow (vs ++ [d]))) (x3 (.ow (vs ++ [d]))) p1) (ev_1 (ev_cat (ev_butlast (ev_var (i := 6) rfl)) (ev_1 (ev_c (v := .bl true))) (by (rw [sizeLine_eq]; simp only [List.length_append, List.length_take, List.length_drop, List.length_cons, List.length_nil, List.length_map, List.length_reverse]; omega)))) (by (rw [sizeLine_eq]; simp only [List.length_append, List.length_take, List.length_drop, List.length_cons, List.length_nil, List.length_map, List.length_reverse]; omega))) (ev_frA (x1 (.ow (vs ++ [d]))) (x3 (.ow (vs ++ [d]))) p2) (by (rw [sizeLine_eq]; simp only [List.length_append, List.length_take, List.length_drop, List.length_cons, List.length_nil, List.length_map, List.length_reverse]; omega)))
    (.tup _ (by (simp only [List.length_append, List.length_take, List.length_drop, List.length_cons, List.length_nil, List.length_map, List.length_reverse]; omega)) (dl_app (dl_app (dl_take hxs) (dl_cons (.tup _ (by (simp only [List.length_append, List.length_take, List.length_drop, List.length_cons, List.length_nil, List.length_map, List.length_reverse]; omega)) (dl_app (dl_cut d2.tupI.2) (dl_cons (.bl true) dl_nil))) dl_nil)) (dl_drop hxs)))
  refine sq_appS (ds := vs ++ [d]) rfl (by rw [List.length_append, vl, sizeLine_eq]; simp) a2 fun e he => ?_
  have he' : DtL 210 (vs ++ [d] ++ [e]) := dl_app (dl_app vd (dl_cons hd dl_nil)) (dl_cons he dl_nil)
  have hel : (vs ++ [d] ++ [e]).length = 8 := by rw [List.length_append, List.length_append, vl]; rfl
  generalize vs ++ [d] ++ [e] = zs at he' hel
  have hlast : Dt 210 (tupI (ks.getLast hks)) := (dt_mon (by omega) (hk _ (List.getLast_mem hks))).mono (by omega)
  have w3 : ((ks.getLast hks).map D.int).length ≤ 7 := by rw [List.length_map]; exact (hk _ (List.getLast_mem hks)).1
  have lt3 := cut_len ((ks.getLast hks).map D.int) none (some (-1))
  have el : Ev (dBin oIx (dVar 1) (dUn (fun x P => x.intP fun i => P (.int (-i))) (dC (.int 1)))) [.ur, .fz (.tup (ks.map tupI)), .fz (.int (v : Nat)), .fz (.int (n : Nat)), .ow zs, .fz one, .fz two] (tupI (ks.getLast hks)) := ev_ix (ev_var rfl) (ev_neg ev_c) (.inr rfl) (by
    have z : ks.map tupI ≠ [] := fun e => hks (List.map_eq_nil_iff.mp e)
    rw [atI_gl z, List.getLast_map])
  have s2 := ak_cons (p := Dt 210) (es_ (ev_cat (ev_cat (ev_toA (x1 (.ow zs)) (x3 (.ow zs)) p1) (ev_1 (ev_back (ev_var (i := 6) rfl))) (by (rw [sizeLine_eq]; simp only [List.length_append, List.length_take, List.length_drop, List.length_cons, List.length_nil, List.length_map, List.length_reverse]; omega))) (ev_frA (x1 (.ow zs)) (x3 (.ow zs)) p2) (by (rw [sizeLine_eq]; simp only [List.length_append, List.length_take, List.length_drop, List.length_cons, List.length_nil, List.length_map, List.length_reverse]; omega))) (.tup _ (by (simp only [List.length_append, List.length_take, List.length_drop, List.length_cons, List.length_nil, List.length_map, List.length_reverse]; omega)) (dl_app (dl_app (dl_take hxs) (dl_cons (.tup _ (by rw [List.length_reverse]; omega) (dl_rev d2.tupI.2)) dl_nil)) (dl_drop hxs))))
    (ak_cons (es_ (ev_cat (ev_var (x1 (.ow zs))) (ev_1 (ev_cat (ev_butlast el) (ev_1 (ev_var (i := 2) rfl)) (by (rw [sizeLine_eq]; simp only [List.length_append, List.length_take, List.length_drop, List.length_cons, List.length_nil, List.length_map, List.length_reverse]; omega)))) (by (rw [sizeLine_eq]; simp only [List.length_append, List.length_take, List.length_drop, List.length_cons, List.length_nil, List.length_map, List.length_reverse]; omega))) (.tup _ (by (simp only [List.length_append, List.length_take, List.length_drop, List.length_cons, List.length_nil, List.length_map, List.length_reverse]; omega)) (dl_app hxs (dl_cons (.tup _ (by (simp only [List.length_append, List.length_take, List.length_drop, List.length_cons, List.length_nil, List.length_map, List.length_reverse]; omega)) (dl_app (dl_cut hlast.tupI.2) (dl_cons (dt_int (by omega) (by omega)) dl_nil))) dl_nil)))) ak_nil)
  refine sr_S (S := { nx := fun _ => P .non, rt := P }) (es_F (efs_catO (Q := AllK 10 (Dt 210)) rfl (es_akL s2 (by omega)) fun ys hy => ⟨by rw [hel, hy.1, sizeLine_eq]; omega, by rw [List.length_append, hel, hy.1], dl_app he' hy.2⟩) fun xs hx => ⟨xs, rfl, by rw [hx.1]; omega, hx.2⟩) h
end PD

namespace PD
open PySem PySem.Spec PyProof.Rows L2 BN
/-! ### the great rows -/
section
variable {p : D → Prop} {xs ys : List D} {x : D}
theorem al_nil : ∀ x ∈ ([] : List D), p x := fun x h => by cases h
theorem al_cons (h : p x) (k : ∀ x ∈ xs, p x) : ∀ y ∈ x :: xs, p y := fun y hy => by
  rcases List.mem_cons.mp hy with e | e
  · rw [e]; exact h
  · exact k y e
theorem al_app (h : ∀ x ∈ xs, p x) (k : ∀ x ∈ ys, p x) : ∀ x ∈ xs ++ ys, p x := fun y hy => by
  rcases List.mem_append.mp hy with e | e
  · exact h y e
  · exact k y e
theorem al_take {n : Nat} (h : ∀ x ∈ xs, p x) : ∀ x ∈ xs.take n, p x := fun y hy => h y (List.mem_of_mem_take hy)
theorem al_drop {n : Nat} (h : ∀ x ∈ xs, p x) : ∀ x ∈ xs.drop n, p x := fun y hy => h y (List.mem_of_mem_drop hy)
theorem al_cut {lo hi : Option Int} (h : ∀ x ∈ xs, p x) : ∀ x ∈ cut xs lo hi, p x := fun y hy => h y (cut_mem hy)
theorem al_map {f : D → D} {q : D → Prop} (h : ∀ x ∈ xs, p x) (k : ∀ x, p x → q (f x)) : ∀ y ∈ xs.map f, q y := fun y hy => by
  obtain ⟨x, hx, rfl⟩ := List.mem_map.mp hy
  exact k x (h x hx)
end
/-- a number or a truth -/
def Num (d : D) : Prop := (∃ i : Int, d = .int i ∧ -(2 ^ 60) < i ∧ i < 2 ^ 60) ∨ ∃ b, d = .bl b
theorem num_int {i : Int} (h1 : -(2 ^ 60) < i) (h2 : i < 2 ^ 60) : Num (.int i) := .inl ⟨i, rfl, h1, h2⟩
/-- a row of numbers -/
def Nums (d : D) : Prop := ∃ xs : List D, (d = .tup xs ∨ d = .lst xs) ∧ xs.length ≤ 100 ∧ ∀ x ∈ xs, Num x
theorem Num.dt {B : Nat} {d : D} (h : Num d) : Dt B d := by
  rcases h with ⟨i, rfl, a, b⟩ | ⟨b, rfl⟩
  · exact .int i a b
  · exact .bl b
theorem Nums.dt {d : D} (h : Nums d) : Dt 100 d := by
  obtain ⟨xs, rfl | rfl, hl, hx⟩ := h
  · exact .tup xs hl fun x h => (hx x h).dt
  · exact .lst xs hl fun x h => (hx x h).dt
theorem Nums.flat {d : D} (h : Nums d) : ∀ a b, d ≠ .tup [a, .tup b] := by
  obtain ⟨xs, rfl | rfl, hl, hx⟩ := h
  · intro a b e
    cases e
    rcases hx (.tup b) (by simp) with ⟨i, q, _⟩ | ⟨q, z⟩
    · cases q
    · cases z
  · intro a b e
    cases e
theorem Nums.str {d : D} (h : Nums d) : d.isStr = false := by
  obtain ⟨xs, rfl | rfl, hl, hx⟩ := h <;> rfl
/-- a claim and a paper -/
def Pr (B : Nat) (d : D) : Prop := ∃ c p, d = .tup [c, p] ∧ Nice c ∧ Dt B c ∧ Dt B p
theorem pr_of {B : Nat} {w : Str} {r p : D} (hB : 100 ≤ B) (hw : w ∈ words) (hs : PyData.strOk w = true) (hr : Nums r) (hp : Dt B p) : Pr B (.tup [.tup [.str w, r], p]) :=
  ⟨_, _, rfl, ⟨w, r, [], rfl, hw, hr.flat, hr.str, fun x h => by cases h⟩, .tup _ (by simp; omega) (al_cons (.str w hs) (al_cons (hr.dt.mono hB) al_nil)), hp⟩
theorem num_gD {gs : List Nat} (h : ∀ x ∈ gs, x ≤ 10 ^ 6) : ∀ d ∈ gD gs, Num d := fun d hd => by
  obtain ⟨i, hi, rfl⟩ := List.mem_map.mp hd
  obtain ⟨n, hn, rfl⟩ := List.mem_map.mp hi
  have := h n hn
  exact num_int (by omega) (by omega)
theorem great_for {B : Nat} (hB : B ≤ 306) {S : DEnds} {a0 a1 a2 a3 a4 a5 a6 a7 a8 a11 : Sl} (ps : List D) : ∀ (s9 s10 : Sl), (∀ d ∈ ps, Pr B d) → (∀ s9 s10, S.nx [a0, a1, a2, a3, a4, a5, a6, a7, a8, s9, s10, a11]) →
    forP (dGTup 2 (dGCons (dName 9) (dGCons (dName 10) dGNil))) (dIfS (dTNot (dTest (dCall 2 pre__law_is (dCons (dCall 2 pre_accepts (dCons (dVar 9) (dCons (dVar 10) dNil))) (dCons (dCall 2 pre__law_takes (dCons (dVar 9) (dCons (dVar 10) dNil))) dNil))))) (dRet (dC (.bl false))) dNext) S ps [a0, a1, a2, a3, a4, a5, a6, a7, a8, s9, s10, a11] := by
  induction ps with
  | nil => exact fun s9 s10 _ h => for_nil (h s9 s10)
  | cons p ps ih =>
    intro s9 s10 hr h
    obtain ⟨c, p, rfl, hn, hc, hp⟩ := hr p List.mem_cons_self
    have e1 : EvT (dTNot (dTest (dCall 2 pre__law_is (dCons (dCall 2 pre_accepts (dCons (dVar 9) (dCons (dVar 10) dNil))) (dCons (dCall 2 pre__law_takes (dCons (dVar 9) (dCons (dVar 10) dNil))) dNil))))) [a0, a1, a2, a3, a4, a5, a6, a7, a8, .fz c, .fz p, a11] false := acc_is hB hc.ok hp.ok (nice_fair hn) rfl rfl
    refine for_c2 (si_go e1 ?_)
    exact ih _ _ (fun d hd => hr d (List.mem_cons_of_mem _ hd)) h
/-- one more part of the list -/
theorem es_more {B n : Nat} {ρ : Env} {i : Nat} {us : List D} {A : DA} (hs : sat ρ i = .fz (.lst us)) (hA : EvF A ρ ys) (hu : ∀ d ∈ us, Pr B d) (hy : ∀ d ∈ ys, Pr B d) (hl : us.length + ys.length ≤ n) (hn : n ≤ 10 ^ 6) : Ev (dF (dCatF (dVar i) (dF A))) ρ (.lst (us ++ ys)) := ev_catL (ev_var hs) (ev_f hA) (by rw [sizeLine_eq]; omega)
theorem es_catLS {ρ : Env} {a b : DE} {Q1 Q2 : List D → Prop} {Q : D → Prop} (ha : EvS a ρ fun d => ∃ ys, d = .lst ys ∧ Q1 ys) (hb : EvS b ρ fun d => ∃ ys, d = .lst ys ∧ Q2 ys) (h : ∀ xs ys, Q1 xs → Q2 ys → xs.length + ys.length ≤ sizeLine ∧ Q (.lst (xs ++ ys))) : EvS (dF (dCatF a b)) ρ Q := fun P k => ha _ (by
  rintro _ ⟨xs, rfl, r1⟩
  refine hb _ ?_
  rintro _ ⟨ys, rfl, r2⟩
  exact ⟨(h xs ys r1 r2).1, k _ (h xs ys r1 r2).2⟩)
theorem es_cTup {ρ : Env} {a : DE} {R : List D → Prop} {Q : D → Prop} (ha : EvS a ρ fun d => ∃ ys, d = .lst ys ∧ R ys) (h : ∀ ys, R ys → Q (.tup ys)) : EvS (dCB cTup (dCons a dNil)) ρ Q := fun P k => ha _ (by
  rintro _ ⟨ys, rfl, r⟩
  exact k _ (h ys r))
theorem es_l {ρ : Env} {a : DE} {R : List D → Prop} {xs : List D} (ha : Ev a ρ (.lst xs)) (h : R xs) : EvS a ρ fun d => ∃ ys, d = .lst ys ∧ R ys := es_ ha ⟨xs, rfl, h⟩
theorem nums_t {xs : List D} (hl : xs.length ≤ 100) (h : ∀ x ∈ xs, Num x) : Nums (.tup xs) := ⟨xs, .inl rfl, hl, h⟩
theorem nums_l {xs : List D} (hl : xs.length ≤ 100) (h : ∀ x ∈ xs, Num x) : Nums (.lst xs) := ⟨xs, .inr rfl, hl, h⟩
theorem great_right_fn : Fn pre__law_great_right [] (.bl true) := fun P h => by
  unfold pre__law_great_right d__law_great_right
  refine sq_eS (es_callU rfl ef_nil rfl great_fn) ?_
  rintro _ ⟨gs, rfl, hg⟩
  have hg' := hg
  obtain ⟨a, r, e, a3, a6, l8, s200⟩ := hg
  have l2 : 2 ≤ gs.length := by rw [e]; simp
  have hv : vOf gs = a := by rw [e]; rfl
  have glen := gD_len gs
  have hle : ∀ x ∈ gs, x ≤ 200 := fun x hx => Nat.le_trans (le_sum hx) s200
  have hnum : ∀ d ∈ gD gs, Num d := num_gD fun x hx => by have := hle x hx; omega
  have hlow : 2 ≤ low (vOf gs) 0 gs := by
    rw [hv, e]
    unfold low low
    rw [if_pos ⟨by omega, .inr rfl⟩, if_pos ⟨by omega, .inl (by omega)⟩]
    omega
  let ρ1 : Env := [.ur, .fz (.lst (gD gs)), .no, .no, .no, .no, .no, .no, .no, .no, .no, .no]
  have c1 : EvS (dCall 1 pre__law_compressed (dCons (dVar 1) dNil)) ρ1 _ := es_call (ef_cons (ev_var rfl) ef_nil) rfl (comp_fn (gs := gs) (by omega) l8 (by omega))
  have c2 : EvS (dBin oAdd (dC (.int 1)) (dCall 1 pre__law_pull (dUrn 0 (dCons (dBin oSub (dCB cLen (dCons (dVar 1) dNil)) (dC (.int 1))) dNil)))) ρ1 (fun d => ∃ n : Nat, d = .int (n : Nat) ∧ 1 ≤ n ∧ n < gs.length) :=
    es_bin (es_ ev_c rfl : EvS _ ρ1 (· = .int 1)) (es_callU rfl (ef_cons (ev_I (ev_is (ev_len (ev_var rfl) (.inl rfl)) (by rw [glen])) ev_c) ef_nil) rfl (pull_fn (n := (gs.length : Nat) - 1) (by omega) (by omega))) fun x y hx hy P k => by
      obtain ⟨i, rfl, i0, i1⟩ := hy
      subst hx
      exact k (.int (1 + i)) ⟨(1 + i).toNat, by rw [Int.toNat_of_nonneg (by omega)], by omega, by omega⟩
  refine sq_parSS c1 c2 ?_
  rintro _ _ ⟨ks, rfl, hk, kl, kw⟩ ⟨n, rfl, n1, n2⟩
  rw [hv] at hk
  have hks : Dt 210 (.tup (ks.map tupI)) := .tup _ (by rw [List.length_map]; omega) (dl_mons (by omega) (by omega) hk)
  let ρ2 : Env := [.ur, .fz (.lst (gD gs)), .no, .no, .no, .fz (.tup (ks.map tupI)), .fz (.int (n : Nat)), .no, .no, .no, .no, .no]
  have hgn : Num (gD gs)[n] := hnum _ (List.getElem_mem _)
  have x1 : EvS (dBin oAdd (dBin oIx (dVar 1) (dVar 6)) (dCall 1 pre__law_one (dUrn 0 (dCons (dTup (dCons (dC (.int 1)) (dCons (dUn (fun x P => x.intP fun i => P (.int (-i))) (dC (.int 1))) dNil))) dNil)))) ρ2 Num :=
    es_bin (es_ (ev_ix (ev_var rfl) (ev_var rfl) (.inl rfl) (atI_nat n rfl (by omega))) rfl : EvS _ ρ2 (· = (gD gs)[n])) (es_callU rfl (ef_cons (ev_tup (ef_cons ev_c (ef_cons (ev_neg ev_c) ef_nil)) (by rw [sizeLine_eq]; simp)) ef_nil) rfl (one_fn (.inr rfl) (by simp) (by simp))) fun x y hx hy P k => by
      have z : (gD gs)[n] = .int ((gs[n]'n2 : Nat) : Int) := by rw [List.getElem_map, List.getElem_map]
      have zl := hle _ (List.getElem_mem n2)
      rw [z] at hx
      subst hx
      simp only [List.mem_cons, List.not_mem_nil, or_false] at hy
      rcases hy with rfl | rfl
      · exact k _ (num_int (by omega) (by omega))
      · exact k _ (num_int (by omega) (by omega))
  have ht := al_take (n := n) hnum
  have hd := al_drop (n := n + 1) hnum
  have c3 := es_catL (ρ := ρ2) (Q := fun d => ∃ ys, d = .lst ys ∧ ys.length ≤ n + 1 ∧ ∀ x ∈ ys, Num x) (ev_toL (i := 1) (j := 6) (n := n) (xs := gD gs) rfl rfl) (es_akL (ak_cons x1 ak_nil) (by omega)) fun ys hy => ⟨by rw [hy.1, sizeLine_eq, List.length_take]; omega, _, rfl, by rw [List.length_append, hy.1, List.length_take]; omega, al_app ht hy.2⟩
  have c4 := es_cTup (Q := Nums) (es_catLS (Q := fun d => ∃ ys, d = .lst ys ∧ ys.length ≤ 100 ∧ ∀ x ∈ ys, Num x) c3 (es_l (R := fun ys => ys.length ≤ 8 ∧ ∀ x ∈ ys, Num x) (ev_frAL (i := 1) (j := 6) (n := n) (m := 1) (n' := n + 1) (xs := gD gs) (ρ := ρ2) rfl rfl (by omega)) ⟨by rw [List.length_drop]; omega, hd⟩) fun xs ys hx hy => ⟨by rw [sizeLine_eq]; omega, _, rfl, by rw [List.length_append]; omega, al_app hx.2 hy.2⟩) fun ys hy => nums_t hy.1 hy.2
  refine sq_eS c4 fun near hnear => ?_
  let ρ3 : Env := [.ur, .fz (.lst (gD gs)), .fz near, .no, .no, .fz (.tup (ks.map tupI)), .fz (.int (n : Nat)), .no, .no, .no, .no, .no]
  have lc := cut_len (gD gs) none (some (-1))
  have hc := al_cut (lo := none) (hi := some (-1)) hnum
  have c5 : Ev (dCB cTup (dCons (dF (dCatF (dSl (dVar 1) dNoP (dPart (dUn (fun x P => x.intP fun i => P (.int (-i))) (dC (.int 1))))) (dF (dLstF (dCons (dC (.int 200000)) dNil))))) dNil)) ρ3 (.tup (cut (gD gs) none (some (-1)) ++ [.int 200000])) :=
    ev_cTup (ev_catL (ev_butlastL (ev_var rfl)) (ev_f (ef_lst (ef_cons ev_c ef_nil) (by (rw [sizeLine_eq]; simp only [List.length_append, List.length_take, List.length_drop, List.length_cons, List.length_nil, List.length_map, List.length_reverse]; omega)))) (by rw [sizeLine_eq]; simp only [List.length_cons, List.length_nil]; omega))
  have c6 : Ev (dTup (dCons (dC (.str "M-sequence")) (dCons (dCB cTup (dCons (dVar 1) dNil)) dNil))) ρ3 (.tup [.str "M-sequence", .tup (gD gs)]) := ev_tup (ef_cons ev_c (ef_cons (ev_cTup (ev_var rfl)) ef_nil)) (by (rw [sizeLine_eq]; simp only [List.length_append, List.length_take, List.length_drop, List.length_cons, List.length_nil, List.length_map, List.length_reverse]; omega))
  refine sq_parSS (es_ c5 rfl : EvS _ ρ3 (· = .tup (cut (gD gs) none (some (-1)) ++ [.int 200000]))) (es_ c6 rfl : EvS _ ρ3 (· = .tup [.str "M-sequence", .tup (gD gs)])) ?_
  rintro _ _ rfl rfl
  have hlate : Nums (.tup (cut (gD gs) none (some (-1)) ++ [.int 200000])) := nums_t (by rw [List.length_append]; simp only [List.length_cons, List.length_nil]; omega) (al_app hc (al_cons (num_int (by decide) (by decide)) al_nil))
  have hgr : Nums (.tup (gD gs)) := nums_t (by omega) hnum
  generalize (D.tup (cut (gD gs) none (some (-1)) ++ [.int 200000])) = late at hlate
  let ρ4 : Env := [.ur, .fz (.lst (gD gs)), .fz near, .no, .no, .fz (.tup (ks.map tupI)), .fz (.int (n : Nat)), .fz late, .fz (.tup [.str "M-sequence", .tup (gD gs)]), .no, .no, .no]
  have i1 : Ev (dBin oIx (dVar 1) (dC (.int 1))) ρ4 (.int (a : Nat)) := ev_is (ev_ix (ev_var rfl) ev_c (.inl rfl) (atI_nat 1 rfl (by omega))) (by
    rw [List.getElem_map, List.getElem_map]
    congr 2
    subst e
    rfl)
  have hks0 : ks.length ≤ 200 := by omega
  have o1 : EvS (dCall 2 pre__law_other_ideal (dUrn 0 (dCons (dVar 5) (dCons (dBin oIx (dVar 1) (dC (.int 1))) dNil)))) ρ4 (Dt 210) := es_mono (es_callU rfl (ef_cons (ev_var rfl) (ef_cons i1 ef_nil)) rfl (other_fn (v := a) (by omega) hk (by omega))) fun d hd => by
    obtain ⟨js, rfl, hj, jl⟩ := hd
    exact .tup _ (by rw [List.length_map]; omega) (dl_mons (by omega) (by omega) hj)
  have o2 : EvS (dCall 2 pre__law_turned (dUrn 0 (dCons (dVar 5) (dCons (dBin oIx (dVar 1) (dC (.int 1))) dNil)))) ρ4 (fun y => ∃ ps, y = .lst ps ∧ ps.length ≤ 20 ∧ DtL 210 ps) := es_callU rfl (ef_cons (ev_var rfl) (ef_cons i1 ef_nil)) rfl (turned_fn (v := a) (by omega) hk (by omega) hks0)
  have o3 := es_catLS (Q := fun y => ∃ ps, y = .lst ps ∧ ps.length ≤ 22 ∧ DtL 210 ps) (es_akL (ak_cons (p := Dt 210) (es_ (ev_var (i := 5) (ρ := ρ4) rfl) hks) (ak_cons o1 ak_nil)) (by omega)) o2 fun xs ys hx hy => ⟨by rw [sizeLine_eq, hx.1]; omega, _, rfl, by rw [List.length_append, hx.1]; omega, dl_app hx.2 hy.2⟩
  refine sq_eS o3 ?_
  rintro _ ⟨ps, rfl, pl, pd⟩
  have wM : ("M-sequence" : Str) ∈ words := by decide +kernel
  have wN : ("no M-sequence" : Str) ∈ words := by decide +kernel
  have sM : PyData.strOk ("M-sequence" : Str) = true := by decide +kernel
  have sN : PyData.strOk ("no M-sequence" : Str) = true := by decide +kernel
  let ρ5 : Env := [.ur, .fz (.lst (gD gs)), .fz near, .fz (.lst ps), .no, .fz (.tup (ks.map tupI)), .fz (.int (n : Nat)), .fz late, .fz (.tup [.str "M-sequence", .tup (gD gs)]), .no, .no, .no]
  have q1 : Ev (dF (dComp (dSeqI (dVar 3)) (dName 11) dYes (dTup (dCons (dVar 8) (dCons (dVar 11) dNil))) [11])) ρ5 (.lst (ps.map fun d => .tup [.tup [.str "M-sequence", .tup (gD gs)], d])) :=
    ev_f (ef_comp (fun d => .tup [.tup [.str "M-sequence", .tup (gD gs)], d]) (ef_seq (ev_var rfl) (.inl rfl)) rfl (by rw [sizeLine_eq]; omega) fun d hd => ev_tup (ef_cons (ev_var rfl) (ef_cons (ev_var rfl) ef_nil)) (by (rw [sizeLine_eq]; simp only [List.length_append, List.length_take, List.length_drop, List.length_cons, List.length_nil, List.length_map, List.length_reverse]; omega)))
  refine sq_e q1 ?_
  have u1 : ∀ d ∈ ps.map fun d => D.tup [.tup [.str "M-sequence", .tup (gD gs)], d], Pr 210 d := al_map pd fun x hx => pr_of (by omega) wM sM hgr hx
  have l1 : (ps.map fun d => D.tup [.tup [.str "M-sequence", .tup (gD gs)], d]).length ≤ 22 := by rw [List.length_map]; exact pl
  generalize (ps.map fun d => D.tup [.tup [.str "M-sequence", .tup (gD gs)], d]) = us at u1 l1
  let ρ6 : Env := [.ur, .fz (.lst (gD gs)), .fz near, .fz (.lst ps), .fz (.lst us), .fz (.tup (ks.map tupI)), .fz (.int (n : Nat)), .fz late, .fz (.tup [.str "M-sequence", .tup (gD gs)]), .no, .no, .no]
  have n1 : Nums (.tup (cut (gD gs) none (some (-1)))) := nums_t (by omega) hc
  have n2 : Nums (.tup (gD gs ++ [.int 0])) := nums_t (by rw [List.length_append]; simp only [List.length_cons, List.length_nil]; omega) (al_app hnum (al_cons (num_int (by decide) (by decide)) al_nil))
  have q2 : EvF (dComp (dSeqI (dTup (dCons (dVar 2) (dCons (dVar 7) (dCons (dCB cTup (dCons (dSl (dVar 1) dNoP (dPart (dUn (fun x P => x.intP fun i => P (.int (-i))) (dC (.int 1))))) dNil)) (dCons (dBin oAdd (dCB cTup (dCons (dVar 1) dNil)) (dTup (dCons (dC (.int 0)) dNil))) dNil)))))) (dName 11) dYes (dTup (dCons (dTup (dCons (dC (.str "M-sequence")) (dCons (dVar 11) dNil))) (dCons (dVar 5) dNil))) [11]) ρ6 ([near, late, .tup (cut (gD gs) none (some (-1))), .tup (gD gs ++ [.int 0])].map fun d => .tup [.tup [.str "M-sequence", d], .tup (ks.map tupI)]) :=
    ef_comp (fun d => .tup [.tup [.str "M-sequence", d], .tup (ks.map tupI)]) (ef_seq (ev_tup (ef_cons (ev_var rfl) (ef_cons (ev_var rfl) (ef_cons (ev_cTup (ev_butlastL (ev_var rfl))) (ef_cons (ev_cat (ev_cTup (ev_var rfl)) (ev_1 ev_c) (by rw [sizeLine_eq]; simp only [List.length_cons, List.length_nil]; omega)) ef_nil)))) (by (rw [sizeLine_eq]; simp only [List.length_append, List.length_take, List.length_drop, List.length_cons, List.length_nil, List.length_map, List.length_reverse]; omega))) (.inr rfl)) rfl (by (rw [sizeLine_eq]; simp only [List.length_append, List.length_take, List.length_drop, List.length_cons, List.length_nil, List.length_map, List.length_reverse]; omega)) fun d hd => ev_tup (ef_cons (ev_tup (ef_cons ev_c (ef_cons (ev_var rfl) ef_nil)) (by (rw [sizeLine_eq]; simp only [List.length_append, List.length_take, List.length_drop, List.length_cons, List.length_nil, List.length_map, List.length_reverse]; omega))) (ef_cons (ev_var rfl) ef_nil)) (by (rw [sizeLine_eq]; simp only [List.length_append, List.length_take, List.length_drop, List.length_cons, List.length_nil, List.length_map, List.length_reverse]; omega))
  have u2 : ∀ d ∈ [near, late, .tup (cut (gD gs) none (some (-1))), .tup (gD gs ++ [.int 0])].map fun d => D.tup [.tup [.str "M-sequence", d], .tup (ks.map tupI)], Pr 210 d := al_map (p := Nums) (al_cons hnear (al_cons hlate (al_cons n1 (al_cons n2 al_nil)))) fun x hx => pr_of (by omega) wM sM hx hks
  refine sq_e (es_more rfl q2 u1 u2 (n := 26) (by rw [List.length_map]; simp only [List.length_cons, List.length_nil]; omega) (by omega)) ?_
  have u3 := al_app u1 u2
  have l3 : (us ++ [near, late, .tup (cut (gD gs) none (some (-1))), .tup (gD gs ++ [.int 0])].map fun d => D.tup [.tup [.str "M-sequence", d], .tup (ks.map tupI)]).length ≤ 26 := by rw [List.length_append, List.length_map]; simp only [List.length_cons, List.length_nil]; omega
  generalize (us ++ [near, late, .tup (cut (gD gs) none (some (-1))), .tup (gD gs ++ [.int 0])].map fun d => D.tup [.tup [.str "M-sequence", d], .tup (ks.map tupI)]) = vs at u3 l3
  let ρ7 : Env := [.ur, .fz (.lst (gD gs)), .fz near, .fz (.lst ps), .fz (.lst vs), .fz (.tup (ks.map tupI)), .fz (.int (n : Nat)), .fz late, .fz (.tup [.str "M-sequence", .tup (gD gs)]), .no, .no, .no]
  have q3 : EvF (dComp (dSeqI (dTup (dCons (dVar 2) (dCons (dVar 7) (dCons (dCB cTup (dCons (dVar 1) dNil)) dNil))))) (dName 11) dYes (dTup (dCons (dTup (dCons (dC (.str "no M-sequence")) (dCons (dVar 11) dNil))) (dCons (dVar 6) dNil))) [11]) ρ7 ([near, late, .tup (gD gs)].map fun d => .tup [.tup [.str "no M-sequence", d], .int (n : Nat)]) :=
    ef_comp (fun d => .tup [.tup [.str "no M-sequence", d], .int (n : Nat)]) (ef_seq (ev_tup (ef_cons (ev_var rfl) (ef_cons (ev_var rfl) (ef_cons (ev_cTup (ev_var rfl)) ef_nil))) (by (rw [sizeLine_eq]; simp only [List.length_append, List.length_take, List.length_drop, List.length_cons, List.length_nil, List.length_map, List.length_reverse]; omega))) (.inr rfl)) rfl (by (rw [sizeLine_eq]; simp only [List.length_append, List.length_take, List.length_drop, List.length_cons, List.length_nil, List.length_map, List.length_reverse]; omega)) fun d hd => ev_tup (ef_cons (ev_tup (ef_cons ev_c (ef_cons (ev_var rfl) ef_nil)) (by (rw [sizeLine_eq]; simp only [List.length_append, List.length_take, List.length_drop, List.length_cons, List.length_nil, List.length_map, List.length_reverse]; omega))) (ef_cons (ev_var rfl) ef_nil)) (by (rw [sizeLine_eq]; simp only [List.length_append, List.length_take, List.length_drop, List.length_cons, List.length_nil, List.length_map, List.length_reverse]; omega))
  have u4 : ∀ d ∈ [near, late, .tup (gD gs)].map fun d => D.tup [.tup [.str "no M-sequence", d], .int (n : Nat)], Pr 210 d := al_map (p := Nums) (al_cons hnear (al_cons hlate (al_cons hgr al_nil))) fun x hx => pr_of (by omega) wN sN hx (.int _ (by omega) (by omega))
  refine sq_e (es_more rfl q3 u3 u4 (n := 29) (by rw [List.length_map]; simp only [List.length_cons, List.length_nil]; omega) (by omega)) ?_
  have u5 := al_app u3 u4
  have l5 : (vs ++ [near, late, .tup (gD gs)].map fun d => D.tup [.tup [.str "no M-sequence", d], .int (n : Nat)]).length ≤ 29 := by rw [List.length_append, List.length_map]; simp only [List.length_cons, List.length_nil]; omega
  generalize (vs ++ [near, late, .tup (gD gs)].map fun d => D.tup [.tup [.str "no M-sequence", d], .int (n : Nat)]) = ws at u5 l5
  let ρ8 : Env := [.ur, .fz (.lst (gD gs)), .fz near, .fz (.lst ps), .fz (.lst ws), .fz (.tup (ks.map tupI)), .fz (.int (n : Nat)), .fz late, .fz (.tup [.str "M-sequence", .tup (gD gs)]), .no, .no, .no]
  have q4 : EvF (dComp (dSeqI (dTup (dCons (dVar 2) (dCons (dVar 7) (dCons (dCB cTup (dCons (dVar 1) dNil)) dNil))))) (dName 11) dYes (dTup (dCons (dTup (dCons (dC (.str "no M-sequence")) (dCons (dVar 11) dNil))) (dCons (dBin oSub (dCB cLen (dCons (dVar 1) dNil)) (dC (.int 1))) dNil))) [11]) ρ8 ([near, late, .tup (gD gs)].map fun d => .tup [.tup [.str "no M-sequence", d], .int (((gD gs).length : Nat) - 1)]) :=
    ef_comp (fun d => .tup [.tup [.str "no M-sequence", d], .int (((gD gs).length : Nat) - 1)]) (ef_seq (ev_tup (ef_cons (ev_var rfl) (ef_cons (ev_var rfl) (ef_cons (ev_cTup (ev_var rfl)) ef_nil))) (by (rw [sizeLine_eq]; simp only [List.length_append, List.length_take, List.length_drop, List.length_cons, List.length_nil, List.length_map, List.length_reverse]; omega))) (.inr rfl)) rfl (by (rw [sizeLine_eq]; simp only [List.length_append, List.length_take, List.length_drop, List.length_cons, List.length_nil, List.length_map, List.length_reverse]; omega)) fun d hd => ev_tup (ef_cons (ev_tup (ef_cons ev_c (ef_cons (ev_var rfl) ef_nil)) (by (rw [sizeLine_eq]; simp only [List.length_append, List.length_take, List.length_drop, List.length_cons, List.length_nil, List.length_map, List.length_reverse]; omega))) (ef_cons (ev_I (ev_len (ev_var rfl) (.inl rfl)) ev_c) ef_nil)) (by (rw [sizeLine_eq]; simp only [List.length_append, List.length_take, List.length_drop, List.length_cons, List.length_nil, List.length_map, List.length_reverse]; omega))
  have u6 : ∀ d ∈ [near, late, .tup (gD gs)].map fun d => D.tup [.tup [.str "no M-sequence", d], .int (((gD gs).length : Nat) - 1)], Pr 210 d := al_map (p := Nums) (al_cons hnear (al_cons hlate (al_cons hgr al_nil))) fun x hx => pr_of (by omega) wN sN hx (.int _ (by omega) (by omega))
  refine sq_e (es_more rfl q4 u5 u6 (n := 32) (by rw [List.length_map]; simp only [List.length_cons, List.length_nil]; omega) (by omega)) ?_
  have u7 := al_app u5 u6
  generalize (ws ++ [near, late, .tup (gD gs)].map fun d => D.tup [.tup [.str "no M-sequence", d], .int (((gD gs).length : Nat) - 1)]) = xs at u7
  refine sq_for (xs := xs) (ef_seq (ev_var rfl) (.inl rfl)) (great_for (B := 210) (by omega) xs .no .no u7 fun s9 s10 => ?_)
  exact sr_e (S := { nx := fun _ => P .non, rt := P }) (v := .bl true) (ρ := [.ur, .fz (.lst (gD gs)), .fz near, .fz (.lst ps), .fz (.lst xs), .fz (.tup (ks.map tupI)), .fz (.int (n : Nat)), .fz late, .fz (.tup [.str "M-sequence", .tup (gD gs)]), s9, s10, .no]) ev_c h
end PD

namespace BN
theorem bin_two : ∀ n k : Nat, bin n k ≤ 2 ^ n
  | 0, 0 => by rw [bin_0]; decide
  | 0, k + 1 => by rw [bin_gt (by omega)]; exact Nat.zero_le _
  | n + 1, 0 => by rw [bin_0]; exact Nat.one_le_two_pow
  | n + 1, k + 1 => by
    rw [bin_s, Nat.pow_succ]
    have h1 := bin_two n k
    have h2 := bin_two n (k + 1)
    omega
theorem MN.le {n k r : Nat} (h : MN n k r) : r ≤ k * 2 ^ (n + k) := by
  induction h with
  | zero k => exact Nat.zero_le _
  | @step n k t r h0 ht hm ih =>
    have h1 := bin_far (n := t) (k := k + 1) (by omega)
    have h2 := ht.1
    have h3 := bin_two (t + 1) (k + 2)
    have h4 : 2 ^ (t + 1) ≤ 2 ^ (n + (k + 1)) := Nat.pow_le_pow_right (by decide) (by omega)
    have h5 : 2 ^ (n - bin t (k + 1) + k) ≤ 2 ^ (n + (k + 1)) := Nat.pow_le_pow_right (by decide) (by omega)
    have h6 : k * 2 ^ (n - bin t (k + 1) + k) ≤ k * 2 ^ (n + (k + 1)) := Nat.mul_le_mul_left _ h5
    rw [Nat.succ_mul]
    omega
end BN
namespace PD
open PySem PySem.Spec PyProof.Rows L2 BN
theorem mn_le {n k : Nat} (hn : n ≤ 16) (hk : 1 ≤ k) (hk2 : k ≤ 8) : mn n k ≤ 10 ^ 9 := by
  have h := (mn_is (n := n) (k := k) (by omega)).le
  have h1 : 2 ^ (n + k) ≤ 2 ^ 24 := Nat.pow_le_pow_right (by decide) (by omega)
  have h2 : k * 2 ^ (n + k) ≤ 8 * 2 ^ 24 := Nat.mul_le_mul hk2 h1
  omega
def rt4 : DS :=
    (dFreeze 5 (dSeq (dSet 12 (xE (dF (dLstF (dCons (dCB cTup (dCons (dVar 1) dNil)) (dCons (dCB cTup (dCons (dVar 11) dNil)) (dCons (dCB cTup (dCons (dF (dCatF (dSl (dVar 11) dNoP (dPart (dUn (fun x P => x.intP fun i => P (.int (-i))) (dC (.int 1))))) (dF (dLstF (dCons (dVar 18) dNil))))) dNil)) (dCons (dCB cTup (dCons (dF (dCatF (dVar 1) (dF (dLstF (dCons (dC (.int 1)) dNil))))) dNil)) (dCons (dCB cTup (dCons (dSl (dVar 1) (dPart (dC (.int 1))) dNoP) dNil)) (dCons (dVar 1) dNil))))))))))
    (dSeq (dFor (dSeqI (dVar 12)) (dName 13) (dFor (dSeqI (dTup (dCons (dC (.str "M-sequence")) (dCons (dC (.str "no M-sequence")) dNil)))) (dName 19) (dSet 14 (xF (dCatO 14 (dF (dComp (dSeqI (dVar 5)) (dName 24) dYes (dTup (dCons (dTup (dCons (dVar 19) (dCons (dVar 13) dNil))) (dCons (dVar 24) dNil))) [24])))))))
    (dSeq (dSet 14 (xF (dCatO 14 (dF (dLstF (dCons (dTup (dCons (dTup (dCons (dC (.str "M-sequence")) (dCons (dCB cTup (dCons (dVar 1) dNil)) (dCons (dTup dNil) dNil)))) (dCons (dVar 3) dNil))) (dCons (dTup (dCons (dTup (dCons (dC (.str "sequence")) (dCons (dCB cTup (dCons (dVar 1) dNil)) dNil))) (dCons (dVar 3) dNil))) dNil)))))))
    (dSeq (dFor (dSeqI (dTup (dCons (dC (.int 6)) (dCons (dC (.int 7)) dNil)))) (dName 15) (dApp 14 (dTup (dCons (dTup (dCons (dC (.str "M-sequence")) (dCons (dTup (dCons (dC (.int 1)) (dCons (dVar 15) dNil))) dNil))) (dCons (dBin oAdd (dTup (dCons (dTup dNil) dNil)) (dCB cTup (dCons (dF (dComp (dRg2 (dC (.int 1)) (dBin oAdd (dVar 15) (dC (.int 1)))) (dName 22) dYes (dTup (dCons (dVar 22) dNil)) [22])) dNil))) dNil)))))
    (dSeq (dSet 14 (xF (dCatO 14 (dF (dComp (dSeqI (dTup (dCons (dC (.int 8)) (dCons (dC (.int 9)) dNil)))) (dName 21) dYes (dTup (dCons (dTup (dCons (dC (.str "no M-sequence")) (dCons (dBin oMul (dTup (dCons (dC (.int 0)) dNil)) (dVar 21)) dNil))) (dCons (dC (.int 0)) dNil))) [21])))))
    (dFreeze 14 (dRet (dCall 1 pre__law_judged (dUrn 0 (dCons (dF (dComp (dSeqI (dVar 14)) (dGTup 2 (dGCons (dName 23) (dGCons (dName 24) dGNil))) dYes (dTup (dCons (dVar 23) (dCons (dVar 24) (dCons (dCall 2 pre__law_takes (dCons (dVar 23) (dCons (dVar 24) dNil))) dNil)))) [23, 24])) dNil)))))))))))
def rt3 : DS :=
    (dSeq (dSet 8 (xE (dCall 1 pre__law_pull (dUrn 0 (dCons (dCB cLen (dCons (dVar 1) dNil)) dNil)))))
    (dSeq (dSet 9 (xE (dIf (dTest (dBin oGt (dVar 8) (dC (.int 1)))) (dCall 2 pre__law_most_next (dCons (dBin oIx (dVar 1) (dBin oSub (dVar 8) (dC (.int 1)))) (dCons (dBin oSub (dVar 8) (dC (.int 1))) dNil))) (dC (.int 7)))))
    (dSeq (dSet 10 (xE (dCall 1 pre__law_one (dUrn 0 (dCons (dTup (dCons (dUn (fun x P => x.intP fun i => P (.int (-i))) (dC (.int 1))) (dCons (dBin oAdd (dBin oIx (dVar 1) (dVar 8)) (dC (.int 1))) (dCons (dBin oAdd (dVar 9) (dC (.int 1))) (dCons (dVar 9) (dCons (dBin oPow (dC (.int 10)) (dC (.int 6))) (dCons (dBin oAdd (dBin oPow (dC (.int 10)) (dC (.int 6))) (dC (.int 1))) (dCons (dC (.int 0)) (dCons (dC (.int 2)) (dCons (dC (.bl true)) dNil)))))))))) dNil)))))
    (dSeq (dSet 11 (xE (dF (dCatF (dF (dCatF (dSl (dVar 1) dNoP (dPart (dVar 8))) (dF (dLstF (dCons (dVar 10) dNil))))) (dSl (dVar 1) (dPart (dBin oAdd (dVar 8) (dC (.int 1)))) dNoP)))))
    (dSeq (dPar 18 14 (xE (dCall 1 pre__law_one (dUrn 0 (dCons (dF (dLRg2 (dUn (fun x P => x.intP fun i => P (.int (-i))) (dC (.int 3))) (dC (.int 4)))) dNil)))) (xF (dLstF dNil)))
rt4)))))
def rt2 : DS :=
    (dSeq (dSet 5 (xF (dLstF (dCons (dVar 3) (dCons (dVar 16) (dCons (dBin oAdd (dSl (dVar 3) dNoP (dPart (dVar 17))) (dSl (dVar 3) (dPart (dBin oAdd (dVar 17) (dC (.int 1)))) dNoP)) (dCons (dBack (dVar 3)) (dCons (dBin oAdd (dVar 3) (dTup (dCons (dVar 4) dNil))) (dCons (dF (dListF (dCons (dVar 3) dNil))) dNil)))))))))
    (dSeq (dApp 5 (dBin oAdd (dVar 3) (dSl (dVar 3) (dPart (dVar 17)) (dPart (dBin oAdd (dVar 17) (dC (.int 1)))))))
    (dSeq (dSet 5 (xF (dCatO 5 (dF (dLstF (dCons (dBin oAdd (dBin oAdd (dSl (dVar 3) dNoP (dPart (dVar 17))) (dTup (dCons (dVar 4) dNil))) (dSl (dVar 3) (dPart (dBin oAdd (dVar 17) (dC (.int 1)))) dNoP)) (dCons (dSl (dVar 3) (dPart (dC (.int 1))) dNoP) (dCons (dSl (dVar 16) dNoP (dPart (dUn (fun x P => x.intP fun i => P (.int (-i))) (dC (.int 1))))) (dCons (dTup dNil) (dCons (dTup (dCons (dTup dNil) dNil)) (dCons (dC .non) (dCons (dC (.int 0)) (dCons (dC (.int 1)) dNil)))))))))))))
    (dSeq (dSet 5 (xF (dCatO 5 (dF (dLstF (dCons (dC (.bl true)) (dCons (dUn (fun x P => x.intP fun i => P (.int (-i))) (dC (.int 1))) dNil)))))))
    (dSeq (dSet 6 (xE (dF (dSrtA (dCons (dF (dComp (dSeqI (dBin oAdd (dBin oAdd (dSl (dVar 3) dNoP (dPart (dVar 17))) (dTup (dCons (dVar 4) dNil))) (dSl (dVar 3) (dPart (dBin oAdd (dVar 17) (dC (.int 1)))) dNoP))) (dName 20) dYes (dTup (dCons (dCB cLen (dCons (dVar 20) dNil)) (dCons (dBack (dVar 20)) dNil))) [20])) dNil)))))
    (dSeq (dSet 5 (xF (dCatF (dF (dCatO 5 (dF (dLstF (dCons (dCB cTup (dCons (dF (dComp (dSeqI (dVar 6)) (dGTup 2 (dGCons (dName 25) (dGCons (dName 20) dGNil))) dYes (dBack (dVar 20)) [25, 20])) dNil)) dNil))))) (dF (dLRg2 (dC (.int 2)) (dBin oAdd (dCB cLen (dCons (dVar 1) dNil)) (dC (.int 1))))))))
    (dSeq (dSet 7 (xE (dF (dComp (dSeqI (dVar 3)) (dName 20) dYes (dCB cTup (dCons (dF (dComp (dSeqI (dVar 20)) (dName 22) dYes (dIf (dTest (dBin oEq (dVar 22) (dVar 2))) (dBin oAdd (dVar 2) (dC (.int 1))) (dVar 22)) [22])) dNil)) [20]))))
    (dSeq (dSet 5 (xF (dCatO 5 (dF (dLstF (dCons (dCB cTup (dCons (dVar 7) dNil)) (dCons (dCall 2 pre__law_with_other (dUrn 0 (dCons (dVar 3) (dCons (dVar 2) dNil)))) (dCons (dCall 2 pre__law_with_other (dUrn 0 (dCons (dVar 16) (dCons (dVar 2) dNil)))) dNil))))))))
    (dSeq (dApp 5 (dCall 1 pre__law_compressed (dCons (dF (dCatF (dVar 1) (dF (dLstF (dCons (dIf (dTAnd (dTest (dBin oGt (dVar 2) (dC (.int 0)))) (dTest (dBin oGt (dBin oIx (dVar 1) (dUn (fun x P => x.intP fun i => P (.int (-i))) (dC (.int 1)))) (dC (.int 0))))) (dC (.int 1)) (dC (.int 0))) dNil))))) dNil)))
rt3)))))))))
theorem right_is : d__law_right = (dSeq (dSet 1 (xE (dCall 2 pre__law_growth (dUrn 0 (dCons (dBin oAdd (dC (.int 1)) (dCall 1 pre__law_pull (dUrn 0 (dCons (dC (.int 6)) dNil)))) (dCons (dCall 1 pre__law_one (dUrn 0 (dCons (dTup (dCons (dC (.int 1)) (dCons (dC (.int 2)) (dCons (dC (.int 3)) (dCons (dC (.int 4)) (dCons (dC (.int 6)) dNil)))))) dNil))) dNil))))))
    (dSeq (dSet 2 (xE (dIf (dTest (dBin oGt (dCB cLen (dCons (dVar 1) dNil)) (dC (.int 1)))) (dBin oIx (dVar 1) (dC (.int 1))) (dC (.int 0)))))
    (dSeq (dSet 3 (xE (dCall 1 pre__law_compressed (dCons (dVar 1) dNil))))
    (dSeq (dPar 16 17 (xE (dCall 2 pre__law_other_ideal (dUrn 0 (dCons (dVar 3) (dCons (dVar 2) dNil))))) (xE (dCall 1 pre__law_pull (dUrn 0 (dCons (dCB cLen (dCons (dVar 3) dNil)) dNil)))))
    (dSeq (dSet 4 (xE (dCall 1 pre__law_one (dUrn 0 (dCons (dCall 2 pre__law_monomials (dCons (dBin oAdd (dVar 2) (dC (.int 1))) (dCons (dCall 1 pre__law_pull (dUrn 0 (dCons (dBin oAdd (dCB cLen (dCons (dVar 1) dNil)) (dC (.int 1))) dNil))) dNil))) dNil)))))
    rt2))))) := rfl
end PD

namespace PD
open PySem PySem.Spec PyProof.Rows L2 BN
theorem ef_catO {i : Nat} {ρ : Env} {us ys : List D} {b : DE} (hs : sat ρ i = .ow us) (hb : Ev b ρ (.lst ys)) (h : us.length + ys.length ≤ sizeLine) : EvF (dCatO i b) ρ (us ++ ys) := fun P k => by
  show (sat ρ i).owP _
  rw [hs]
  exact hb _ ⟨h, k⟩
theorem nx_F {i : Nat} {A : DA} {S : DEnds} {ρ : Env} {xs : List D} (hA : EvF A ρ xs) (h : S.nx (ρ.set i (.ow xs))) : dSet i (xF A) S ρ := hA _ h
theorem nx_for {I : DI} {g : DG} {x : DS} {S : DEnds} {ρ : Env} {xs : List D} (hi : EvF I ρ xs) (h : forP g x S xs ρ) : dFor I g x S ρ := hi _ h
theorem go_fr {i : Nat} {d : DS} {S : DEnds} {ρ : Env} {xs : List D} (hs : sat ρ i = .ow xs) (h : d S (ρ.set i (.fz (.lst xs)))) : dFreeze i d S ρ := by
  show (sat ρ i).owP _
  rw [hs]; exact h
def wordS : DS := dSet 14 (xF (dCatO 14 (dF (dComp (dSeqI (dVar 5)) (dName 24) dYes (dTup (dCons (dTup (dCons (dVar 19) (dCons (dVar 13) dNil))) (dCons (dVar 24) dNil))) [24]))))
def rowS : DS := dFor (dSeqI (dTup (dCons (dC (.str "M-sequence")) (dCons (dC (.str "no M-sequence")) dNil)))) (dName 19) wordS
section
variable {s0 s1 s2 s3 s4 s6 s7 s8 s9 s10 s11 s12 s13 s15 s16 s17 s18 s19 s20 s21 s22 s23 s25 : Sl} {S : DEnds} {ps us : List D}
theorem wM : ("M-sequence" : Str) ∈ words := by decide +kernel
theorem wN : ("no M-sequence" : Str) ∈ words := by decide +kernel
theorem wS : ("sequence" : Str) ∈ words := by decide +kernel
theorem sM : PyData.strOk ("M-sequence" : Str) = true := by decide +kernel
theorem sN : PyData.strOk ("no M-sequence" : Str) = true := by decide +kernel
theorem sS : PyData.strOk ("sequence" : Str) = true := by decide +kernel
theorem word_ok {w : Str} {r : D} (hw : w ∈ words) (hs : PyData.strOk w = true) (hr : Nums r) (hp : DtL 150 ps) (hpl : ps.length ≤ 100) (hu : ∀ d ∈ us, Pr 150 d) (hul : us.length ≤ 10 ^ 6)
    (h : ∀ vs : List D, (∀ d ∈ vs, Pr 150 d) → vs.length = us.length + ps.length → S.nx [s0, s1, s2, s3, s4, .fz (.lst ps), s6, s7, s8, s9, s10, s11, s12, .fz r, .ow vs, s15, s16, s17, s18, .fz (.str w), s20, s21, s22, s23, .no, s25]) :
    wordS S [s0, s1, s2, s3, s4, .fz (.lst ps), s6, s7, s8, s9, s10, s11, s12, .fz r, .ow us, s15, s16, s17, s18, .fz (.str w), s20, s21, s22, s23, .no, s25] := by
  unfold wordS
  refine nx_F (ef_catO rfl (ev_f (ef_comp (fun d => .tup [.tup [.str w, r], d]) (ef_seq (ev_var rfl) (.inl rfl)) rfl (by rw [sizeLine_eq]; omega) fun d hd => ev_tup (ef_cons (ev_tup (ef_cons (ev_var rfl) (ef_cons (ev_var rfl) ef_nil)) (by (rw [sizeLine_eq]; simp only [List.length_append, List.length_take, List.length_drop, List.length_cons, List.length_nil, List.length_map, List.length_reverse]; omega))) (ef_cons (ev_var rfl) ef_nil)) (by (rw [sizeLine_eq]; simp only [List.length_append, List.length_take, List.length_drop, List.length_cons, List.length_nil, List.length_map, List.length_reverse]; omega)))) (by rw [sizeLine_eq, List.length_map]; omega)) ?_
  exact h _ (al_app hu (al_map hp fun x hx => pr_of (by omega) hw hs hr hx)) (by rw [List.length_append, List.length_map])
theorem row_ok {r : D} (hr : Nums r) (hp : DtL 150 ps) (hpl : ps.length ≤ 100) (hu : ∀ d ∈ us, Pr 150 d) (hul : us.length ≤ 10 ^ 5)
    (h : ∀ (vs : List D) (s19 : Sl), (∀ d ∈ vs, Pr 150 d) → vs.length = us.length + 2 * ps.length → S.nx [s0, s1, s2, s3, s4, .fz (.lst ps), s6, s7, s8, s9, s10, s11, s12, .fz r, .ow vs, s15, s16, s17, s18, s19, s20, s21, s22, s23, .no, s25]) :
    rowS S [s0, s1, s2, s3, s4, .fz (.lst ps), s6, s7, s8, s9, s10, s11, s12, .fz r, .ow us, s15, s16, s17, s18, s19, s20, s21, s22, s23, .no, s25] := by
  unfold rowS
  refine nx_for (xs := [.str "M-sequence", .str "no M-sequence"]) (ef_seq (ev_tup (ef_cons ev_c (ef_cons ev_c ef_nil)) (by (rw [sizeLine_eq]; simp only [List.length_append, List.length_take, List.length_drop, List.length_cons, List.length_nil, List.length_map, List.length_reverse]; omega))) (.inr rfl)) ?_
  refine for_c1 (word_ok wM sM hr hp hpl hu (by omega) fun vs hv vl => ?_)
  dsimp only
  refine for_c1 (word_ok wN sN hr hp hpl hv (by omega) fun ws hw wl => ?_)
  exact for_nil (g := dName 19) (x := wordS) (S := S) (h ws _ hw (by omega))
theorem rows_for (rs : List D) : ∀ (us : List D) (s13 s19 : Sl), (∀ r ∈ rs, Nums r) → DtL 150 ps → ps.length ≤ 100 → (∀ d ∈ us, Pr 150 d) → us.length + rs.length * (2 * ps.length) ≤ 10 ^ 5 →
    (∀ (vs : List D) (s13 s19 : Sl), (∀ d ∈ vs, Pr 150 d) → vs.length = us.length + rs.length * (2 * ps.length) → S.nx [s0, s1, s2, s3, s4, .fz (.lst ps), s6, s7, s8, s9, s10, s11, s12, s13, .ow vs, s15, s16, s17, s18, s19, s20, s21, s22, s23, .no, s25]) →
    forP (dName 13) rowS S rs [s0, s1, s2, s3, s4, .fz (.lst ps), s6, s7, s8, s9, s10, s11, s12, s13, .ow us, s15, s16, s17, s18, s19, s20, s21, s22, s23, .no, s25] := by
  induction rs with
  | nil => exact fun us s13 s19 _ _ _ hu _ h => for_nil (h us s13 s19 hu (by simp))
  | cons r rs ih =>
    intro us s13 s19 hr hp hpl hu hl h
    rw [List.length_cons, Nat.succ_mul] at hl h
    refine for_c1 (row_ok (hr r List.mem_cons_self) hp hpl hu (by omega) fun vs s19 hv vl => ?_)
    exact ih vs _ s19 (fun r h => hr r (List.mem_cons_of_mem _ h)) hp hpl hv (by omega) fun ws s13 s19 hw wl => h ws s13 s19 hw (by omega)
end
theorem flat_nums (n : Nat) : ∀ d ∈ flatRep n [D.int 0], Num d := fun d hd => by
  obtain ⟨l, hl, hd⟩ := List.mem_flatten.mp hd
  rw [(List.mem_replicate.mp hl).2, List.mem_singleton] at hd
  rw [hd]
  exact num_int (by decide) (by decide)
theorem flat_len (n : Nat) : (flatRep n [D.int 0]).length = n := by simp [flatRep]
theorem pr_seq {B : Nat} {w : Str} {r : D} {rest : List D} {p : D} (hB : 100 ≤ B) (hw : w ∈ words) (hs : PyData.strOk w = true) (hr : Nums r) (hrl : rest.length ≤ 10) (hrest : ∀ x ∈ rest, x.isStr = false) (hd : DtL B rest) (hp : Dt B p) : Pr B (.tup [.tup (.str w :: r :: rest), p]) :=
  ⟨_, _, rfl, ⟨w, r, rest, rfl, hw, hr.flat, hr.str, hrest⟩, .tup _ (by simp; omega) (al_cons (.str w hs) (al_cons (hr.dt.mono hB) hd)), hp⟩
def fewE : DE := dTup (dCons (dTup (dCons (dC (.str "M-sequence")) (dCons (dTup (dCons (dC (.int 1)) (dCons (dVar 15) dNil))) dNil))) (dCons (dBin oAdd (dTup (dCons (dTup dNil) dNil)) (dCB cTup (dCons (dF (dComp (dRg2 (dC (.int 1)) (dBin oAdd (dVar 15) (dC (.int 1)))) (dName 22) dYes (dTup (dCons (dVar 22) dNil)) [22])) dNil))) dNil))
section
variable {s0 s1 s2 s3 s4 s5 s6 s7 s8 s9 s10 s11 s12 s13 s14 s15 s16 s17 s18 s19 s20 s21 s22 s23 s24 s25 : Sl} {S : DEnds} {ps us : List D}
theorem few_ok {n : Nat} (hn : n ≤ 7) : EvS fewE [s0, s1, s2, s3, s4, s5, s6, s7, s8, s9, s10, s11, s12, s13, s14, .fz (.int (n : Nat)), s16, s17, s18, s19, s20, s21, .no, s23, s24, s25] (Pr 150) := by
  unfold fewE
  let ρ : Env := [s0, s1, s2, s3, s4, s5, s6, s7, s8, s9, s10, s11, s12, s13, s14, .fz (.int (n : Nat)), s16, s17, s18, s19, s20, s21, .no, s23, s24, s25]
  have il := irg_len 1 ((n + 1 : Nat) : Int)
  have c1 : EvF (dComp (dRg2 (dC (.int 1)) (dBin oAdd (dVar 15) (dC (.int 1)))) (dName 22) dYes (dTup (dCons (dVar 22) dNil)) [22]) ρ (((irg 1 ((n + 1 : Nat) : Int)).map D.int).map fun d => .tup [d]) :=
    ef_comp (fun d => .tup [d]) (ef_rg2 (i := 1) (j := ((n + 1 : Nat) : Int)) ev_c (ev_is (ev_add (i := (n : Nat)) (j := 1) (ev_var rfl) ev_c) (by rw [Int.natCast_succ])) ⟨by omega, by omega⟩ ⟨by omega, by omega⟩) rfl (by rw [sizeLine_eq, List.length_map]; omega) fun d hd => ev_1 (ev_var rfl)
  refine es_ (ρ := ρ) (ev_tup (ef_cons (ev_tup (ef_cons ev_c (ef_cons (ev_tup (ef_cons ev_c (ef_cons (ev_var rfl) ef_nil)) (by (rw [sizeLine_eq]; simp only [List.length_append, List.length_take, List.length_drop, List.length_cons, List.length_nil, List.length_map, List.length_reverse]; omega))) ef_nil)) (by (rw [sizeLine_eq]; simp only [List.length_append, List.length_take, List.length_drop, List.length_cons, List.length_nil, List.length_map, List.length_reverse]; omega))) (ef_cons (ev_cat (ev_1 (ev_tup ef_nil (by (rw [sizeLine_eq]; simp only [List.length_append, List.length_take, List.length_drop, List.length_cons, List.length_nil, List.length_map, List.length_reverse]; omega)))) (ev_cTup (ev_f c1)) (by (rw [sizeLine_eq]; simp only [List.length_append, List.length_take, List.length_drop, List.length_cons, List.length_nil, List.length_map, List.length_reverse]; omega))) ef_nil)) (by (rw [sizeLine_eq]; simp only [List.length_append, List.length_take, List.length_drop, List.length_cons, List.length_nil, List.length_map, List.length_reverse]; omega))) ?_
  refine pr_of (by omega) wM sM (nums_t (by simp) (al_cons (num_int (by omega) (by omega)) (al_cons (num_int (by omega) (by omega)) al_nil))) (.tup _ (by (simp only [List.length_append, List.length_take, List.length_drop, List.length_cons, List.length_nil, List.length_map, List.length_reverse]; omega)) (al_cons (.tup [] (by simp) al_nil) (al_map (p := Num) (fun d hd => ?_) fun x hx => .tup _ (by simp) (al_cons hx.dt al_nil))))
  obtain ⟨i, hi, rfl⟩ := List.mem_map.mp hd
  have := irg_mem hi
  exact num_int (by omega) (by omega)
end
theorem pairs_of {B : Nat} {us : List D} (h : ∀ d ∈ us, Pr B d) : ∃ qs : List (D × D), us = qs.map (fun q => D.tup [q.1, q.2]) ∧ ∀ q ∈ qs, Nice q.1 ∧ Dt B q.1 ∧ Dt B q.2 := by
  induction us with
  | nil => exact ⟨[], rfl, fun q h => by cases h⟩
  | cons u us ih =>
    obtain ⟨c, p, rfl, hn, hc, hp⟩ := h u List.mem_cons_self
    obtain ⟨qs, rfl, hq⟩ := ih fun d hd => h d (List.mem_cons_of_mem _ hd)
    refine ⟨(c, p) :: qs, rfl, fun q h => ?_⟩
    rcases List.mem_cons.mp h with e | e
    · rw [e]; exact ⟨hn, hc, hp⟩
    · exact hq q e
end PD

namespace PD
open PySem PySem.Spec PyProof.Rows L2 BN
theorem sq_apS1 {e : DE} {i : Nat} {S : DEnds} {ρ : Env} {ds : List D} {Q : D → Prop} (hs : sat ρ i = .ow ds) (hl : ds.length < sizeLine) (he : EvS e ρ Q) (h : ∀ d, Q d → S.nx (ρ.set i (.ow (ds ++ [d])))) : dApp i e S ρ := app_S hs hl he h
theorem rt4_ok {gs : List Nat} {ids ps fl : List D} {more : D} {P : D → Prop} {s2 s4 s6 s7 s8 s9 s10 s16 s17 : Sl} (hg : Grow gs) (hgl : gs.length ≤ 6) (hi : Dt 150 (.tup ids)) (hp : DtL 150 ps) (hpl : ps.length ≤ 100) (hfl : fl.length ≤ 10) (hfn : ∀ x ∈ fl, Num x) (hm : Num more) (h : P (.bl true)) :
    rt4 { nx := fun _ => P .non, rt := P } [.ur, .fz (.lst (gD gs)), s2, .fz (.tup ids), s4, .ow ps, s6, s7, s8, s9, s10, .fz (.lst fl), .no, .no, .ow [], .no, s16, s17, .fz more, .no, .no, .no, .no, .no, .no, .no] := by
  unfold rt4
  have glen := gD_len gs
  have hn : ∀ d ∈ gD gs, Num d := num_gD fun x hx => by have := hg.le x hx; omega
  have lc := cut_len fl none (some (-1))
  have lc1 := cut_len (gD gs) (some 1) none
  refine go_fr (xs := ps) rfl ?_
  let ρ1 : Env := [.ur, .fz (.lst (gD gs)), s2, .fz (.tup ids), s4, .fz (.lst ps), s6, s7, s8, s9, s10, .fz (.lst fl), .no, .no, .ow [], .no, s16, s17, .fz more, .no, .no, .no, .no, .no, .no, .no]
  have r1 : Ev (dF (dLstF (dCons (dCB cTup (dCons (dVar 1) dNil)) (dCons (dCB cTup (dCons (dVar 11) dNil)) (dCons (dCB cTup (dCons (dF (dCatF (dSl (dVar 11) dNoP (dPart (dUn (fun x P => x.intP fun i => P (.int (-i))) (dC (.int 1))))) (dF (dLstF (dCons (dVar 18) dNil))))) dNil)) (dCons (dCB cTup (dCons (dF (dCatF (dVar 1) (dF (dLstF (dCons (dC (.int 1)) dNil))))) dNil)) (dCons (dCB cTup (dCons (dSl (dVar 1) (dPart (dC (.int 1))) dNoP) dNil)) (dCons (dVar 1) dNil)))))))) ρ1
      (.lst [.tup (gD gs), .tup fl, .tup (cut fl none (some (-1)) ++ [more]), .tup (gD gs ++ [.int 1]), .tup (cut (gD gs) (some 1) none), .lst (gD gs)]) :=
    ev_f (ef_lst (ef_cons (ev_cTup (ev_var rfl)) (ef_cons (ev_cTup (ev_var rfl)) (ef_cons (ev_cTup (ev_catL (ev_butlastL (ev_var rfl)) (ev_f (ef_lst (ef_cons (ev_var rfl) ef_nil) (by (rw [sizeLine_eq]; simp only [List.length_append, List.length_take, List.length_drop, List.length_cons, List.length_nil, List.length_map, List.length_reverse]; omega)))) (by rw [sizeLine_eq]; simp only [List.length_cons, List.length_nil]; omega)))
      (ef_cons (ev_cTup (ev_catL (ev_var rfl) (ev_f (ef_lst (ef_cons ev_c ef_nil) (by (rw [sizeLine_eq]; simp only [List.length_append, List.length_take, List.length_drop, List.length_cons, List.length_nil, List.length_map, List.length_reverse]; omega)))) (by rw [sizeLine_eq]; simp only [List.length_cons, List.length_nil]; omega))) (ef_cons (ev_cTup (ev_slL (ev_var rfl) (ep_s ev_c) ep_n)) (ef_cons (ev_var rfl) ef_nil)))))) (by (rw [sizeLine_eq]; simp only [List.length_append, List.length_take, List.length_drop, List.length_cons, List.length_nil, List.length_map, List.length_reverse]; omega)))
  refine sq_e r1 ?_
  have hr : ∀ r ∈ [.tup (gD gs), .tup fl, .tup (cut fl none (some (-1)) ++ [more]), .tup (gD gs ++ [.int 1]), .tup (cut (gD gs) (some 1) none), .lst (gD gs)], Nums r :=
    al_cons (nums_t (by omega) hn) (al_cons (nums_t (by omega) hfn) (al_cons (nums_t (by rw [List.length_append]; simp only [List.length_cons, List.length_nil]; omega) (al_app (al_cut hfn) (al_cons hm al_nil)))
      (al_cons (nums_t (by rw [List.length_append]; simp only [List.length_cons, List.length_nil]; omega) (al_app hn (al_cons (num_int (by decide) (by decide)) al_nil))) (al_cons (nums_t (by omega) (al_cut hn)) (al_cons (nums_l (by omega) hn) al_nil)))))
  generalize hrs : ([.tup (gD gs), .tup fl, .tup (cut fl none (some (-1)) ++ [more]), .tup (gD gs ++ [.int 1]), .tup (cut (gD gs) (some 1) none), .lst (gD gs)] : List D) = rs at hr
  have hrl : rs.length = 6 := by rw [← hrs]; rfl
  refine sq_for (xs := rs) (ef_seq (ev_var rfl) (.inl rfl)) ?_
  refine rows_for rs [] .no .no hr hp hpl al_nil (by rw [hrl]; simp; omega) fun us s13 s19 hu ul => ?_
  rw [hrl] at ul
  have ul : us.length ≤ 1200 := by simp at ul; omega
  let ρ2 : Env := [.ur, .fz (.lst (gD gs)), s2, .fz (.tup ids), s4, .fz (.lst ps), s6, s7, s8, s9, s10, .fz (.lst fl), .fz (.lst rs), s13, .ow us, .no, s16, s17, .fz more, s19, .no, .no, .no, .no, .no, .no]
  have r2 : Ev (dF (dLstF (dCons (dTup (dCons (dTup (dCons (dC (.str "M-sequence")) (dCons (dCB cTup (dCons (dVar 1) dNil)) (dCons (dTup dNil) dNil)))) (dCons (dVar 3) dNil))) (dCons (dTup (dCons (dTup (dCons (dC (.str "sequence")) (dCons (dCB cTup (dCons (dVar 1) dNil)) dNil))) (dCons (dVar 3) dNil))) dNil)))) ρ2
      (.lst [.tup [.tup [.str "M-sequence", .tup (gD gs), .tup []], .tup ids], .tup [.tup [.str "sequence", .tup (gD gs)], .tup ids]]) :=
    ev_f (ef_lst (ef_cons (ev_tup (ef_cons (ev_tup (ef_cons ev_c (ef_cons (ev_cTup (ev_var rfl)) (ef_cons (ev_tup ef_nil (by (rw [sizeLine_eq]; simp only [List.length_append, List.length_take, List.length_drop, List.length_cons, List.length_nil, List.length_map, List.length_reverse]; omega))) ef_nil))) (by (rw [sizeLine_eq]; simp only [List.length_append, List.length_take, List.length_drop, List.length_cons, List.length_nil, List.length_map, List.length_reverse]; omega))) (ef_cons (ev_var rfl) ef_nil)) (by (rw [sizeLine_eq]; simp only [List.length_append, List.length_take, List.length_drop, List.length_cons, List.length_nil, List.length_map, List.length_reverse]; omega))) (ef_cons (ev_tup (ef_cons (ev_tup (ef_cons ev_c (ef_cons (ev_cTup (ev_var rfl)) ef_nil)) (by (rw [sizeLine_eq]; simp only [List.length_append, List.length_take, List.length_drop, List.length_cons, List.length_nil, List.length_map, List.length_reverse]; omega))) (ef_cons (ev_var rfl) ef_nil)) (by (rw [sizeLine_eq]; simp only [List.length_append, List.length_take, List.length_drop, List.length_cons, List.length_nil, List.length_map, List.length_reverse]; omega))) ef_nil)) (by (rw [sizeLine_eq]; simp only [List.length_append, List.length_take, List.length_drop, List.length_cons, List.length_nil, List.length_map, List.length_reverse]; omega)))
  refine sq_F (ρ := ρ2) (ef_catO (i := 14) (us := us) rfl r2 (by rw [sizeLine_eq]; simp only [List.length_cons, List.length_nil]; omega)) ?_
  have hv : ∀ d ∈ us ++ [.tup [.tup [.str "M-sequence", .tup (gD gs), .tup []], .tup ids], .tup [.tup [.str "sequence", .tup (gD gs)], .tup ids]], Pr 150 d :=
    al_app hu (al_cons (pr_seq (rest := [.tup []]) (by omega) wM sM (nums_t (by omega) hn) (by simp) (al_cons rfl al_nil) (al_cons (.tup [] (by simp) al_nil) al_nil) hi) (al_cons (pr_of (by omega) wS sS (nums_t (by omega) hn) hi) al_nil))
  have vl : (us ++ [D.tup [.tup [.str "M-sequence", .tup (gD gs), .tup []], .tup ids], D.tup [.tup [.str "sequence", .tup (gD gs)], .tup ids]]).length ≤ 1202 := by rw [List.length_append]; simp only [List.length_cons, List.length_nil]; omega
  generalize (us ++ [D.tup [.tup [.str "M-sequence", .tup (gD gs), .tup []], .tup ids], .tup [.tup [.str "sequence", .tup (gD gs)], .tup ids]]) = vs at hv vl
  refine sq_for (xs := [.int 6, .int 7]) (ef_seq (ev_tup (ef_cons ev_c (ef_cons ev_c ef_nil)) (by (rw [sizeLine_eq]; simp only [List.length_append, List.length_take, List.length_drop, List.length_cons, List.length_nil, List.length_map, List.length_reverse]; omega))) (.inr rfl)) ?_
  refine for_c1 (sq_apS1 (ds := vs) rfl (by rw [sizeLine_eq]; omega) (few_ok (n := 6) (by omega)) fun d6 h6 => ?_)
  dsimp only
  refine for_c1 (sq_apS1 (ds := vs ++ [d6]) rfl (by rw [sizeLine_eq, List.length_append]; simp; omega) (few_ok (n := 7) (by omega)) fun d7 h7 => ?_)
  have hw : ∀ d ∈ vs ++ [d6] ++ [d7], Pr 150 d := al_app (al_app hv (al_cons h6 al_nil)) (al_cons h7 al_nil)
  have wl : (vs ++ [d6] ++ [d7]).length ≤ 1204 := by rw [List.length_append, List.length_append]; simp only [List.length_cons, List.length_nil]; omega
  generalize vs ++ [d6] ++ [d7] = ws at hw wl
  refine for_nil (g := dName 15) (x := dApp 14 fewE) ?_
  dsimp only
  let ρ3 : Env := [.ur, .fz (.lst (gD gs)), s2, .fz (.tup ids), s4, .fz (.lst ps), s6, s7, s8, s9, s10, .fz (.lst fl), .fz (.lst rs), s13, .ow ws, .fz (.int 7), s16, s17, .fz more, s19, .no, .no, .no, .no, .no, .no]
  have r3 : EvF (dComp (dSeqI (dTup (dCons (dC (.int 8)) (dCons (dC (.int 9)) dNil)))) (dName 21) dYes (dTup (dCons (dTup (dCons (dC (.str "no M-sequence")) (dCons (dBin oMul (dTup (dCons (dC (.int 0)) dNil)) (dVar 21)) dNil))) (dCons (dC (.int 0)) dNil))) [21]) ρ3
      ([D.int 8, .int 9].map fun d => D.tup [.tup [.str "no M-sequence", .tup (flatRep (match d with | .int k => k.toNat | _ => 0) [.int 0])], .int 0]) :=
    ef_comp (fun d => .tup [.tup [.str "no M-sequence", .tup (flatRep (match d with | .int k => k.toNat | _ => 0) [.int 0])], .int 0]) (ef_seq (ev_tup (ef_cons ev_c (ef_cons ev_c ef_nil)) (by (rw [sizeLine_eq]; simp only [List.length_append, List.length_take, List.length_drop, List.length_cons, List.length_nil, List.length_map, List.length_reverse]; omega))) (.inr rfl)) rfl (by (rw [sizeLine_eq]; simp only [List.length_append, List.length_take, List.length_drop, List.length_cons, List.length_nil, List.length_map, List.length_reverse]; omega)) fun d hd => by
      have hk : ∃ k : Int, d = .int k ∧ 2 ≤ k ∧ k ≤ 1000 := by
        simp only [List.mem_cons, List.not_mem_nil, or_false] at hd
        rcases hd with rfl | rfl
        · exact ⟨8, rfl, by decide, by decide⟩
        · exact ⟨9, rfl, by decide, by decide⟩
      obtain ⟨k, rfl, k2, k3⟩ := hk
      exact ev_tup (ef_cons (ev_tup (ef_cons ev_c (ef_cons (ev_bin (x := .tup [.int 0]) (y := .int k) (z := .tup (flatRep k.toNat [.int 0])) (ev_1 ev_c) (ev_var rfl) fun P h => ⟨⟨by simp, k2, k3, by simp⟩, h⟩) ef_nil)) (by (rw [sizeLine_eq]; simp only [List.length_append, List.length_take, List.length_drop, List.length_cons, List.length_nil, List.length_map, List.length_reverse]; omega))) (ef_cons ev_c ef_nil)) (by (rw [sizeLine_eq]; simp only [List.length_append, List.length_take, List.length_drop, List.length_cons, List.length_nil, List.length_map, List.length_reverse]; omega))
  have hz : ∀ d ∈ [D.int 8, .int 9].map fun d => D.tup [.tup [.str "no M-sequence", .tup (flatRep (match d with | .int k => k.toNat | _ => 0) [.int 0])], .int 0], Pr 150 d :=
    al_cons (pr_of (by omega) wN sN (nums_t (by rw [flat_len]; decide) (flat_nums _)) (.int 0 (by decide) (by decide))) (al_cons (pr_of (by omega) wN sN (nums_t (by rw [flat_len]; decide) (flat_nums _)) (.int 0 (by decide) (by decide))) al_nil)
  refine sq_F (ρ := ρ3) (ef_catO (i := 14) (us := ws) rfl (ev_f r3) (by rw [sizeLine_eq, List.length_map]; simp only [List.length_cons, List.length_nil]; omega)) ?_
  have hy := al_app hw hz
  have yl : (ws ++ [D.int 8, .int 9].map fun d => D.tup [.tup [.str "no M-sequence", .tup (flatRep (match d with | .int k => k.toNat | _ => 0) [.int 0])], .int 0]).length ≤ 1206 ∧ (ws ++ [D.int 8, .int 9].map fun d => D.tup [.tup [.str "no M-sequence", .tup (flatRep (match d with | .int k => k.toNat | _ => 0) [.int 0])], .int 0]) ≠ [] := by
    refine ⟨by rw [List.length_append, List.length_map]; simp only [List.length_cons, List.length_nil]; omega, fun e => ?_⟩
    have := congrArg List.length e
    rw [List.length_append, List.length_map] at this
    simp at this
  generalize (ws ++ [D.int 8, .int 9].map fun d => D.tup [.tup [.str "no M-sequence", .tup (flatRep (match d with | .int k => k.toNat | _ => 0) [.int 0])], .int 0]) = ys at hy yl
  refine go_fr (xs := ys) rfl ?_
  obtain ⟨qs, rfl, hq⟩ := pairs_of hy
  rw [List.length_map] at yl
  let ρ4 : Env := [.ur, .fz (.lst (gD gs)), s2, .fz (.tup ids), s4, .fz (.lst ps), s6, s7, s8, s9, s10, .fz (.lst fl), .fz (.lst rs), s13, .fz (.lst (qs.map fun q => D.tup [q.1, q.2])), .fz (.int 7), s16, s17, .fz more, s19, .no, .no, .no, .no, .no, .no]
  have r4 : EvF (dComp (dSeqI (dVar 14)) (dGTup 2 (dGCons (dName 23) (dGCons (dName 24) dGNil))) dYes (dTup (dCons (dVar 23) (dCons (dVar 24) (dCons (dCall 2 pre__law_takes (dCons (dVar 23) (dCons (dVar 24) dNil))) dNil)))) [23, 24]) ρ4 (qs.map fun q => D.tup [q.1, q.2, .bl (spec q.1 q.2)]) :=
    ef_comp2 qs (fun c p => .tup [c, p, .bl (spec c p)]) (ef_seq (ev_var rfl) (.inl rfl)) rfl (by rw [sizeLine_eq]; omega) fun q hm => by
      obtain ⟨_, h2, h3⟩ := hq q hm
      exact ev_tup (ef_cons (ev_var rfl) (ef_cons (ev_var rfl) (ef_cons (ev_call (ef_cons (ev_var rfl) (ef_cons (ev_var rfl) ef_nil)) rfl (takes_fn (B := 150) (by omega) h2.ok h3.ok)) ef_nil))) (by (rw [sizeLine_eq]; simp only [List.length_append, List.length_take, List.length_drop, List.length_cons, List.length_nil, List.length_map, List.length_reverse]; omega))
  refine sr_S (ρ := ρ4) (S := { nx := fun _ => P .non, rt := P }) (Q := (· = .bl true)) (es_callU rfl (ef_cons (ev_f r4) ef_nil) rfl fun Q k => judged_fn (B := 150) (by omega) (by omega) (rows := qs.map fun q => D.tup [q.1, q.2, .bl (spec q.1 q.2)]) (fun e => yl.2 (List.map_eq_nil_iff.mpr (List.map_eq_nil_iff.mp e))) (by rw [List.length_map]; omega) (fun d hd => ?_) Q (k _ rfl)) ?_
  · obtain ⟨q, hm, rfl⟩ := List.mem_map.mp hd
    obtain ⟨h1, h2, h3⟩ := hq q hm
    exact ⟨q.1, q.2, rfl, h1, h2, h3⟩
  · rintro _ rfl
    exact h
end PD

namespace PD
open PySem PySem.Spec PyProof.Rows L2 BN
theorem ef_catF {ρ : Env} {a b : DE} {xs ys : List D} (ha : Ev a ρ (.lst xs)) (hb : Ev b ρ (.lst ys)) (h : xs.length + ys.length ≤ sizeLine) : EvF (dCatF a b) ρ (xs ++ ys) := fun P k => ha _ (hb _ ⟨h, k⟩)
theorem eta_and {t u : DT} {ρ : Env} {b : Bool} (ha : EvT t ρ b) (hb : EvTA u ρ) : EvTA (dTAnd t u) ρ := fun P k => ha _ (by
  cases b with
  | true => exact hb P k
  | false => exact k false)
theorem rt3_ok {gs : List Nat} {ids ps : List D} {P : D → Prop} {s2 s4 s6 s7 s16 s17 : Sl} (hg : Grow gs) (hgl : gs.length ≤ 6) (hi : Dt 150 (.tup ids)) (hp : DtL 150 ps) (hpl : ps.length ≤ 100) (h : P (.bl true)) :
    rt3 { nx := fun _ => P .non, rt := P } [.ur, .fz (.lst (gD gs)), s2, .fz (.tup ids), s4, .ow ps, s6, s7, .no, .no, .no, .no, .no, .no, .no, .no, s16, s17, .no, .no, .no, .no, .no, .no, .no, .no] := by
  unfold rt3
  have glen := gD_len gs
  have hn : ∀ d ∈ gD gs, Num d := num_gD fun x hx => by have := hg.le x hx; omega
  have g0 : 0 < gs.length := by obtain ⟨r, e⟩ := hg.hd; rw [e]; simp
  let E : Sl → Sl → Sl → Sl → Env := fun s8 s9 s10 s11 => [.ur, .fz (.lst (gD gs)), s2, .fz (.tup ids), s4, .ow ps, s6, s7, s8, s9, s10, s11, .no, .no, .no, .no, s16, s17, .no, .no, .no, .no, .no, .no, .no, .no]
  have c1 : EvS (dCall 1 pre__law_pull (dUrn 0 (dCons (dCB cLen (dCons (dVar 1) dNil)) dNil))) (E .no .no .no .no) (inR 0 (gs.length : Nat)) := es_callU rfl (ef_cons (ev_is (ev_len (ev_var rfl) (.inl rfl)) (by rw [glen])) ef_nil) rfl (pull_fn (by omega) (by omega))
  refine sq_eS c1 ?_
  rintro _ ⟨i, rfl, i0, i1⟩
  obtain ⟨n, rfl⟩ : ∃ n : Nat, i = n := ⟨i.toNat, by omega⟩
  have hnl : n < gs.length := by omega
  have gix : ∀ (s9 s10 s11 : Sl) (m : Nat) (hm : m < gs.length) (b : DE) (j : Int), Ev b (E (.fz (.int (n : Nat))) s9 s10 s11) (.int j) → j = (m : Nat) → Ev (dBin oIx (dVar 1) b) (E (.fz (.int (n : Nat))) s9 s10 s11) (.int (gs[m] : Nat)) := fun s9 s10 s11 m hm b j hb hj =>
    ev_is (ev_ix (xs := gD gs) (ev_var rfl) hb (.inl rfl) (atI_nat m hj (by omega))) (by rw [List.getElem_map, List.getElem_map])
  obtain ⟨m, em, hm⟩ : ∃ m : Nat, Ev (dIf (dTest (dBin oGt (dVar 8) (dC (.int 1)))) (dCall 2 pre__law_most_next (dCons (dBin oIx (dVar 1) (dBin oSub (dVar 8) (dC (.int 1)))) (dCons (dBin oSub (dVar 8) (dC (.int 1))) dNil))) (dC (.int 7))) (E (.fz (.int (n : Nat))) .no .no .no) (.int (m : Nat)) ∧ m ≤ 10 ^ 9 := by
    have t : EvT (dTest (dBin oGt (dVar 8) (dC (.int 1)))) (E (.fz (.int (n : Nat))) .no .no .no) (decide ((1 : Int) < (n : Nat))) := et_v (ev_I (ev_var rfl) ev_c)
    by_cases z : 1 < n
    · have hx := hg.le _ (List.getElem_mem (show n - 1 < gs.length by omega))
      refine ⟨mn gs[n - 1] (n - 1), ev_if (et_is t (decide_eq_true (by omega))) (fun _ => ?_) (fun q => by cases q), mn_le hx (by omega) (by omega)⟩
      exact ev_call (ef_cons (gix _ _ _ (n - 1) (by omega) _ _ (ev_I (ev_var rfl) ev_c) (by omega)) (ef_cons (ev_I (ev_var rfl) ev_c) ef_nil)) rfl (lmn_fn rfl (by omega) (by omega) (by omega) (by omega))
    · exact ⟨7, ev_if (et_is t (decide_eq_false (by omega))) (fun q => by cases q) (fun _ => ev_c), by decide⟩
  refine sq_e em ?_
  have cp : CPow 10 6 := ⟨by decide, by decide, by decide⟩
  have hx := hg.le _ (List.getElem_mem hnl)
  have pw : ∀ ρ : Env, Ev (dBin oPow (dC (.int 10)) (dC (.int 6))) ρ (.int 1000000) := fun ρ P k => ⟨cp, k⟩
  have c3 : EvS (dCall 1 pre__law_one (dUrn 0 (dCons (dTup (dCons (dUn (fun x P => x.intP fun i => P (.int (-i))) (dC (.int 1))) (dCons (dBin oAdd (dBin oIx (dVar 1) (dVar 8)) (dC (.int 1))) (dCons (dBin oAdd (dVar 9) (dC (.int 1))) (dCons (dVar 9) (dCons (dBin oPow (dC (.int 10)) (dC (.int 6))) (dCons (dBin oAdd (dBin oPow (dC (.int 10)) (dC (.int 6))) (dC (.int 1))) (dCons (dC (.int 0)) (dCons (dC (.int 2)) (dCons (dC (.bl true)) dNil)))))))))) dNil))) (E (.fz (.int (n : Nat))) (.fz (.int (m : Nat))) .no .no) Num :=
    es_mono (es_callU rfl (ef_cons (ev_tup (ef_cons (ev_neg ev_c) (ef_cons (ev_add (gix _ _ _ n hnl _ _ (ev_var rfl) rfl) ev_c) (ef_cons (ev_add (ev_var rfl) ev_c) (ef_cons (ev_var rfl) (ef_cons (pw _) (ef_cons (ev_add (pw _) ev_c) (ef_cons ev_c (ef_cons ev_c (ef_cons ev_c ef_nil))))))))) (by (rw [sizeLine_eq]; simp only [List.length_append, List.length_take, List.length_drop, List.length_cons, List.length_nil, List.length_map, List.length_reverse]; omega))) ef_nil) rfl (one_fn (.inr rfl) (by simp) (by simp))) fun v hv => by
      simp only [List.mem_cons, List.not_mem_nil, or_false] at hv
      rcases hv with rfl | rfl | rfl | rfl | rfl | rfl | rfl | rfl | rfl
      all_goals first | exact .inr ⟨true, rfl⟩ | exact num_int (by omega) (by omega)
  refine sq_eS c3 fun number hnum => ?_
  have c4 : Ev (dF (dCatF (dF (dCatF (dSl (dVar 1) dNoP (dPart (dVar 8))) (dF (dLstF (dCons (dVar 10) dNil))))) (dSl (dVar 1) (dPart (dBin oAdd (dVar 8) (dC (.int 1)))) dNoP))) (E (.fz (.int (n : Nat))) (.fz (.int (m : Nat))) (.fz number) .no) (.lst ((gD gs).take n ++ [number] ++ (gD gs).drop (n + 1))) :=
    ev_catL (ev_catL (ev_toL (n := n) rfl rfl) (ev_f (ef_lst (ef_cons (ev_var rfl) ef_nil) (by (rw [sizeLine_eq]; simp only [List.length_append, List.length_take, List.length_drop, List.length_cons, List.length_nil, List.length_map, List.length_reverse]; omega)))) (by rw [sizeLine_eq, List.length_take]; simp only [List.length_cons, List.length_nil]; omega)) (ev_frAL (n := n) (n' := n + 1) rfl rfl (by omega)) (by rw [sizeLine_eq, List.length_append, List.length_take, List.length_drop]; simp only [List.length_cons, List.length_nil]; omega)
  refine sq_e c4 ?_
  have fl : ((gD gs).take n ++ [number] ++ (gD gs).drop (n + 1)).length ≤ 10 := by rw [List.length_append, List.length_append, List.length_take, List.length_drop]; simp only [List.length_cons, List.length_nil]; omega
  have fn : ∀ x ∈ (gD gs).take n ++ [number] ++ (gD gs).drop (n + 1), Num x := al_app (al_app (al_take hn) (al_cons hnum al_nil)) (al_drop hn)
  generalize (gD gs).take n ++ [number] ++ (gD gs).drop (n + 1) = fs at fl fn
  have c5 : EvS (dCall 1 pre__law_one (dUrn 0 (dCons (dF (dLRg2 (dUn (fun x P => x.intP fun i => P (.int (-i))) (dC (.int 3))) (dC (.int 4)))) dNil))) (E (.fz (.int (n : Nat))) (.fz (.int (m : Nat))) (.fz number) (.fz (.lst fs))) Num :=
    es_mono (es_callU rfl (ef_cons (ev_f (ef_lrg2 (i := -3) (j := 4) (ev_neg ev_c) ev_c ⟨by omega, by omega⟩ ⟨by omega, by omega⟩)) ef_nil) rfl (one_fn (.inl rfl) (by decide) (by decide))) fun v hv => by
      obtain ⟨i, hi, rfl⟩ := List.mem_map.mp hv
      have := irg_mem hi
      exact num_int (by omega) (by omega)
  refine sq_parSF c5 (ef_lst ef_nil (by (rw [sizeLine_eq]; simp only [List.length_append, List.length_take, List.length_drop, List.length_cons, List.length_nil, List.length_map, List.length_reverse]; omega))) fun more hm => ?_
  exact rt4_ok hg hgl hi hp hpl fl fn hm h
end PD

namespace PD
open PySem PySem.Spec PyProof.Rows L2 BN
def farE : DE := dF (dComp (dSeqI (dVar 3)) (dName 20) dYes (dCB cTup (dCons (dF (dComp (dSeqI (dVar 20)) (dName 22) dYes (dIf (dTest (dBin oEq (dVar 22) (dVar 2))) (dBin oAdd (dVar 2) (dC (.int 1))) (dVar 22)) [22])) dNil)) [20])
def up (v : Nat) (w : Int) : Int := if w = (v : Int) then (v : Int) + 1 else w
theorem far_ev {v : Nat} {ks : List (List Int)} {s0 s1 s4 s5 s6 s7 s8 s9 s10 s11 s12 s13 s14 s15 s16 s17 s18 s19 s21 s23 s24 s25 : Sl} (hl : ks.length ≤ 10 ^ 5) (hk : ∀ k ∈ ks, Mon v k) :
    Ev farE [s0, s1, .fz (.int (v : Nat)), .fz (.tup (ks.map tupI)), s4, s5, s6, s7, s8, s9, s10, s11, s12, s13, s14, s15, s16, s17, s18, s19, .no, s21, .no, s23, s24, s25] (.lst ((ks.map fun k => k.map (up v)).map tupI)) := by
  unfold farE
  rw [List.map_map]
  have e : (ks.map (tupI ∘ fun k => k.map (up v))) = (ks.map tupI).map (fun d => tupI ((keyD d).map (up v))) := by
    rw [List.map_map]
    refine List.map_congr_left fun k _ => ?_
    show tupI (k.map (up v)) = tupI ((keyD (tupI k)).map (up v))
    rw [keyD_t]
  rw [e]
  refine ev_f (ef_comp (fun d => tupI ((keyD d).map (up v))) (ef_seq (ev_var rfl) (.inr rfl)) rfl (by rw [sizeLine_eq, List.length_map]; omega) fun d hd => ?_)
  obtain ⟨k, hkm, rfl⟩ := List.mem_map.mp hd
  rw [keyD_t]
  refine ev_cTup ?_
  have e2 : (k.map (up v)).map D.int = (k.map D.int).map (fun d => match d with | .int w => .int (up v w) | d => d) := by rw [List.map_map, List.map_map]; rfl
  rw [e2]
  refine ev_f (ef_comp (fun d => match d with | .int w => .int (up v w) | d => d) (ef_seq (ev_var rfl) (.inr rfl)) rfl (by rw [sizeLine_eq, List.length_map]; have := (hk k hkm).1; omega) fun d hd => ?_)
  obtain ⟨w, hw, rfl⟩ := List.mem_map.mp hd
  show Ev _ _ (.int (up v w))
  refine ev_if (et_v (ev_eq (ev_var rfl) (ev_var rfl) fit_int fit_int)) (fun z => ?_) (fun z => ?_)
  · rw [eqv_ii, beq_iff_eq] at z
    refine ev_is (ev_add (ev_var rfl) ev_c) ?_
    unfold up
    rw [if_pos z]
  · rw [eqv_ii, beq_eq_false_iff_ne] at z
    refine ev_is (ev_var rfl) ?_
    unfold up
    rw [if_neg z]
theorem up_mon {v : Nat} {k : List Int} (h : Mon v k) : Mon (v + 1) (k.map (up v)) := ⟨by rw [List.length_map]; exact h.1, fun x hx => by
  obtain ⟨w, hw, rfl⟩ := List.mem_map.mp hx
  have := h.2 w hw
  unfold up
  split <;> omega⟩
theorem sum_le : ∀ {xs : List Nat} {m : Nat}, (∀ x ∈ xs, x ≤ m) → xs.sum ≤ xs.length * m
  | [], _, _ => by simp
  | x :: xs, m, h => by
    rw [List.sum_cons, List.length_cons, Nat.succ_mul]
    have := sum_le (xs := xs) fun y hy => h y (List.mem_cons_of_mem _ hy)
    have := h x List.mem_cons_self
    omega
theorem Grow.sum {gs : List Nat} (h : Grow gs) (hl : gs.length ≤ 6) : gs.sum ≤ 71 := by
  obtain ⟨r, rfl⟩ := h.hd
  cases r with
  | nil => simp
  | cons a r =>
    have h6 : a ≤ 6 := h.v
    have hr := sum_le (xs := r) (m := 16) fun y hy => h.le y (by simp [hy])
    rw [List.sum_cons, List.sum_cons]
    simp at hl
    omega
theorem rt2_ok {gs : List Nat} {v n : Nat} {ks os : List (List Int)} {wk : List Int} {P : D → Prop} (hg : Grow gs) (hgl : gs.length ≤ 6) (hv : v = vOf gs) (hk : ∀ k ∈ ks, Mon v k) (hkl : ks.length ≤ 71) (hks : ks ≠ []) (ho : ∀ k ∈ os, Mon v k) (hol : os.length = ks.length) (hw : Mon (v + 1) wk) (hn : n < ks.length) (h : P (.bl true)) :
    rt2 { nx := fun _ => P .non, rt := P } [.ur, .fz (.lst (gD gs)), .fz (.int (v : Nat)), .fz (.tup (ks.map tupI)), .fz (tupI wk), .no, .no, .no, .no, .no, .no, .no, .no, .no, .no, .no, .fz (.tup (os.map tupI)), .fz (.int (n : Nat)), .no, .no, .no, .no, .no, .no, .no, .no] := by
  unfold rt2
  have hv6 : v ≤ 6 := by rw [hv]; exact hg.v
  have glen := gD_len gs
  have g0 : 0 < gs.length := by obtain ⟨r, e⟩ := hg.hd; rw [e]; simp
  have hxs : DtL 150 (ks.map tupI) := dl_mons (by omega) (by omega) hk
  have hys : DtL 150 (os.map tupI) := dl_mons (by omega) (by omega) ho
  have hwd : Dt 150 (tupI wk) := (dt_mon (by omega) hw).mono (by omega)
  have hos : os ≠ [] := fun e => hks (List.length_eq_zero_iff.mp (by rw [← hol, e]; rfl))
  have xl : (ks.map tupI).length = ks.length := List.length_map ..
  have yl : (os.map tupI).length = ks.length := by rw [List.length_map, hol]
  have lc1 := cut_len (ks.map tupI) (some 1) none
  have lc2 := cut_len (os.map tupI) none (some (-1))
  have lc3 := cut_len (ks.map tupI) (some (n : Int)) (some ((n + 1 : Nat) : Int))
  let E : Sl → Sl → Sl → Env := fun s5 s6 s7 => [.ur, .fz (.lst (gD gs)), .fz (.int (v : Nat)), .fz (.tup (ks.map tupI)), .fz (tupI wk), s5, s6, s7, .no, .no, .no, .no, .no, .no, .no, .no, .fz (.tup (os.map tupI)), .fz (.int (n : Nat)), .no, .no, .no, .no, .no, .no, .no, .no]
  have x3 : ∀ s5 s6 s7 : Sl, sat (E s5 s6 s7) 3 = .fz (.tup (ks.map tupI)) := fun _ _ _ => rfl
  have x17 : ∀ s5 s6 s7 : Sl, sat (E s5 s6 s7) 17 = .fz (.int (n : Nat)) := fun _ _ _ => rfl
  have p1 : (n : Int) + 1 = (n + 1 : Nat) := by omega
  -- the first six
  have a0 := ak_cons (p := Dt 150) (es_ (ev_var (x3 .no .no .no)) (.tup _ (by omega) hxs)) (ak_cons (es_ (ev_var (i := 16) (ρ := E .no .no .no) rfl) (.tup _ (by omega) hys))
    (ak_cons (es_ (ev_cat (ev_to (x3 .no .no .no) (x17 .no .no .no)) (ev_frA (x3 .no .no .no) (x17 .no .no .no) p1) (by (rw [sizeLine_eq]; simp only [List.length_append, List.length_take, List.length_drop, List.length_cons, List.length_nil, List.length_map, List.length_reverse]; omega))) (.tup _ (by (simp only [List.length_append, List.length_take, List.length_drop, List.length_cons, List.length_nil, List.length_map, List.length_reverse]; omega)) (dl_app (dl_take hxs) (dl_drop hxs))))
    (ak_cons (es_ (ev_back (ev_var (x3 .no .no .no))) (.tup _ (by rw [List.length_reverse]; omega) (dl_rev hxs)))
    (ak_cons (es_ (ev_cat (ev_var (x3 .no .no .no)) (ev_1 (ev_var (i := 4) rfl)) (by (rw [sizeLine_eq]; simp only [List.length_append, List.length_take, List.length_drop, List.length_cons, List.length_nil, List.length_map, List.length_reverse]; omega))) (.tup _ (by (simp only [List.length_append, List.length_take, List.length_drop, List.length_cons, List.length_nil, List.length_map, List.length_reverse]; omega)) (dl_app hxs (dl_cons hwd dl_nil))))
    (ak_cons (es_ (ev_f (ef_list (ef_cons (ev_var (x3 .no .no .no)) ef_nil) (.inr rfl))) (.lst _ (by omega) hxs)) ak_nil)))))
  refine sq_FS (efs_lst a0 fun xs h => by rw [h.1, sizeLine_eq]; omega) ?_
  rintro us ⟨ul, ud⟩
  have a1 := es_ (Q := Dt 150) (ev_cat (ev_var (x3 (.ow us) .no .no)) (ev_slT (ev_var (x3 (.ow us) .no .no)) (ep_v (x17 (.ow us) .no .no)) (ep_a (n' := n + 1) (x17 (.ow us) .no .no) p1)) (by rw [sizeLine_eq]; omega)) (.tup _ (by rw [List.length_append]; omega) (dl_app hxs (dl_cut hxs)))
  refine sq_appS (ds := us) rfl (by rw [ul, sizeLine_eq]; omega) a1 fun d hd => ?_
  have vd : DtL 150 (us ++ [d]) := dl_app ud (dl_cons hd dl_nil)
  have vl : (us ++ [d]).length = 7 := by rw [List.length_append, ul]; rfl
  generalize us ++ [d] = vs at vd vl
  let ρ2 := E (.ow vs) .no .no
  have ew : Ev (dBin oAdd (dBin oAdd (dSl (dVar 3) dNoP (dPart (dVar 17))) (dTup (dCons (dVar 4) dNil))) (dSl (dVar 3) (dPart (dBin oAdd (dVar 17) (dC (.int 1)))) dNoP)) ρ2 (.tup ((ks.map tupI).take n ++ [tupI wk] ++ (ks.map tupI).drop (n + 1))) := ev_cat (ev_cat (ev_to (x3 (.ow vs) .no .no) (x17 (.ow vs) .no .no)) (ev_1 (ev_var (i := 4) rfl)) (by (rw [sizeLine_eq]; simp only [List.length_append, List.length_take, List.length_drop, List.length_cons, List.length_nil, List.length_map, List.length_reverse]; omega))) (ev_frA (x3 (.ow vs) .no .no) (x17 (.ow vs) .no .no) p1) (by (rw [sizeLine_eq]; simp only [List.length_append, List.length_take, List.length_drop, List.length_cons, List.length_nil, List.length_map, List.length_reverse]; omega))
  have a2 := ak_cons (p := Dt 150) (es_ ew (.tup _ (by (simp only [List.length_append, List.length_take, List.length_drop, List.length_cons, List.length_nil, List.length_map, List.length_reverse]; omega)) (dl_app (dl_app (dl_take hxs) (dl_cons hwd dl_nil)) (dl_drop hxs))))
    (ak_cons (es_ (ev_slT (lo := some 1) (hi := none) (ev_var (x3 (.ow vs) .no .no)) (ep_s ev_c) ep_n) (.tup _ (by omega) (dl_cut hxs)))
    (ak_cons (es_ (ev_butlast (ev_var (i := 16) (ρ := ρ2) rfl)) (.tup _ (by omega) (dl_cut hys)))
    (ak_cons (es_ (ev_tup ef_nil (by (rw [sizeLine_eq]; simp only [List.length_append, List.length_take, List.length_drop, List.length_cons, List.length_nil, List.length_map, List.length_reverse]; omega))) (.tup [] (by simp) dl_nil)) (ak_cons (es_ (ev_1 (ev_tup ef_nil (by (rw [sizeLine_eq]; simp only [List.length_append, List.length_take, List.length_drop, List.length_cons, List.length_nil, List.length_map, List.length_reverse]; omega)))) (.tup _ (by simp) (dl_cons (.tup [] (by simp) dl_nil) dl_nil)))
    (ak_cons (es_ ev_c .non) (ak_cons (es_ ev_c (.int 0 (by decide) (by decide))) (ak_cons (es_ ev_c (.int 1 (by decide) (by decide))) ak_nil)))))))
  refine sq_FS (efs_catO (us := vs) (Q := AllK 15 (Dt 150)) rfl (es_akL a2 (by omega)) fun ys hy => ⟨by rw [vl, hy.1, sizeLine_eq]; omega, by rw [List.length_append, vl, hy.1], dl_app vd hy.2⟩) ?_
  rintro ws ⟨wl, wd⟩
  have a3 := ak_cons (p := Dt 150) (es_ (ρ := E (.ow ws) .no .no) (ev_c (v := .bl true)) (.bl true)) (ak_cons (es_ (ev_neg (ev_c (v := .int 1))) (.int (-1) (by decide) (by decide))) ak_nil)
  refine sq_FS (efs_catO (us := ws) (Q := AllK 17 (Dt 150)) rfl (es_akL a3 (by omega)) fun ys hy => ⟨by rw [wl, hy.1, sizeLine_eq]; omega, by rw [List.length_append, wl, hy.1], dl_app wd hy.2⟩) ?_
  rintro ys ⟨yl', yd⟩
  -- in order
  let js := ks.take n ++ [wk] ++ ks.drop (n + 1)
  have hj : ∀ k ∈ js, Mon (v + 1) k := by
    have up1 : ∀ k, Mon v k → Mon (v + 1) k := fun k h => ⟨h.1, fun x hx => by have := h.2 x hx; omega⟩
    intro k hk2
    rcases List.mem_append.mp hk2 with h | h
    · rcases List.mem_append.mp h with h | h
      · exact up1 k (hk k (List.mem_of_mem_take h))
      · rw [List.mem_singleton.mp h]; exact hw
    · exact up1 k (hk k (List.mem_of_mem_drop h))
  have jl : js.length ≤ 72 := by show (ks.take n ++ [wk] ++ ks.drop (n + 1)).length ≤ 72; (simp only [List.length_append, List.length_take, List.length_drop, List.length_cons, List.length_nil, List.length_map, List.length_reverse]; omega)
  have ej : (ks.map tupI).take n ++ [tupI wk] ++ (ks.map tupI).drop (n + 1) = js.map tupI := by
    show _ = (ks.take n ++ [wk] ++ ks.drop (n + 1)).map tupI
    rw [List.map_append, List.map_append, List.map_take, List.map_drop]
    rfl
  obtain ⟨ms, em, pm⟩ := srt_plcs js
  have e6 : Ev (dBin oAdd (dBin oAdd (dSl (dVar 3) dNoP (dPart (dVar 17))) (dTup (dCons (dVar 4) dNil))) (dSl (dVar 3) (dPart (dBin oAdd (dVar 17) (dC (.int 1)))) dNoP)) (E (.ow ys) .no .no) (.tup (js.map tupI)) := by
    rw [← ej]
    exact ev_cat (ev_cat (ev_to (x3 (.ow ys) .no .no) (x17 (.ow ys) .no .no)) (ev_1 (ev_var (i := 4) rfl)) (by (rw [sizeLine_eq]; simp only [List.length_append, List.length_take, List.length_drop, List.length_cons, List.length_nil, List.length_map, List.length_reverse]; omega))) (ev_frA (x3 (.ow ys) .no .no) (x17 (.ow ys) .no .no) p1) (by (rw [sizeLine_eq]; simp only [List.length_append, List.length_take, List.length_drop, List.length_cons, List.length_nil, List.length_map, List.length_reverse]; omega))
  have e7 := ef_plcs (w := 20) (vs := [20]) js (ef_seq e6 (.inr rfl)) rfl (by rw [sizeLine_eq]; omega) fun a => rfl
  have e8 := ef_srt (ef_cons (ev_f e7) ef_nil) (plc_ok js)
  rw [em] at e8
  refine sq_e (ev_f e8) ?_
  have ml : ms.length ≤ 72 := by rw [pm.length_eq]; exact jl
  have hms : ∀ k ∈ ms, Mon (v + 1) k := fun k h => hj k (pm.mem_iff.mp h)
  have f1 := ef_back (I := dSeqI (dVar 6)) (i := 25) (j := 20) (vs := [25, 20]) (ρ := E (.ow ys) (.fz (.lst (ms.map plc))) .no) ms (ef_seq (ev_var rfl) (.inl rfl)) rfl (by rw [sizeLine_eq]; omega) (fun a b => rfl)
  have il := irg_len 2 ((gs.length + 1 : Nat) : Int)
  have f2 : EvF (dLRg2 (dC (.int 2)) (dBin oAdd (dCB cLen (dCons (dVar 1) dNil)) (dC (.int 1)))) (E (.ow ys) (.fz (.lst (ms.map plc))) .no) ((irg 2 ((gs.length + 1 : Nat) : Int)).map D.int) :=
    ef_lrg2 (i := 2) (j := ((gs.length + 1 : Nat) : Int)) ev_c (ev_is (ev_add (i := (gs.length : Nat)) (j := 1) (ev_is (ev_len (xs := gD gs) (ev_var rfl) (.inl rfl)) (by rw [glen])) ev_c) (by rw [Int.natCast_succ])) ⟨by omega, by omega⟩ ⟨by omega, by omega⟩
  have f3 := ef_catF (ev_f (ef_catO (i := 5) (us := ys) (ρ := E (.ow ys) (.fz (.lst (ms.map plc))) .no) rfl (ev_f (ef_lst (ef_cons (ev_cTup (ev_f f1)) ef_nil) (by (rw [sizeLine_eq]; simp only [List.length_append, List.length_take, List.length_drop, List.length_cons, List.length_nil, List.length_map, List.length_reverse]; omega)))) (by rw [yl', sizeLine_eq]; simp))) (ev_f f2) (by rw [sizeLine_eq, List.length_append, List.length_map, yl']; simp only [List.length_cons, List.length_nil]; omega)
  refine sq_F f3 ?_
  have zd : DtL 150 (ys ++ [D.tup (ms.map tupI)] ++ (irg 2 ((gs.length + 1 : Nat) : Int)).map D.int) := dl_app (dl_app yd (dl_cons (.tup _ (by rw [List.length_map]; omega) (dl_mons (by omega) (by omega) hms)) dl_nil)) fun x hx => by
    obtain ⟨i, hi, rfl⟩ := List.mem_map.mp hx
    have := irg_mem hi
    exact .int i (by omega) (by omega)
  have zl : (ys ++ [D.tup (ms.map tupI)] ++ (irg 2 ((gs.length + 1 : Nat) : Int)).map D.int).length ≤ 30 := by rw [List.length_append, List.length_append, List.length_map, yl']; simp only [List.length_cons, List.length_nil]; omega
  generalize ys ++ [D.tup (ms.map tupI)] ++ (irg 2 ((gs.length + 1 : Nat) : Int)).map D.int = zs at zd zl
  -- far
  have fe := far_ev (v := v) (ks := ks) (s0 := .ur) (s1 := .fz (.lst (gD gs))) (s4 := .fz (tupI wk)) (s5 := .ow zs) (s6 := .fz (.lst (ms.map plc))) (s7 := .no) (s8 := .no) (s9 := .no) (s10 := .no) (s11 := .no) (s12 := .no) (s13 := .no) (s14 := .no) (s15 := .no) (s16 := .fz (.tup (os.map tupI))) (s17 := .fz (.int (n : Nat))) (s18 := .no) (s19 := .no) (s21 := .no) (s23 := .no) (s24 := .no) (s25 := .no) (by omega) hk
  refine sq_e fe ?_
  have ffd : Dt 150 (.tup ((ks.map fun k => k.map (up v)).map tupI)) := .tup _ (by rw [List.length_map, List.length_map]; omega) (dl_mons (v := v + 1) (by omega) (by omega) fun k hk2 => by
    obtain ⟨j, hj, rfl⟩ := List.mem_map.mp hk2
    exact up_mon (hk j hj))
  generalize (ks.map fun k => k.map (up v)).map tupI = ff at ffd
  have w1 : EvS (dCall 2 pre__law_with_other (dUrn 0 (dCons (dVar 3) (dCons (dVar 2) dNil)))) (E (.ow zs) (.fz (.lst (ms.map plc))) (.fz (.lst ff))) (Dt 150) := es_mono (es_callU rfl (ef_cons (ev_var rfl) (ef_cons (ev_var rfl) ef_nil)) rfl (with_fn (by omega) hk hks (by omega))) fun d hd => by
    obtain ⟨js, rfl, hj, jl⟩ := hd
    exact .tup _ (by rw [List.length_map]; omega) (dl_mons (by omega) (by omega) hj)
  have w2 : EvS (dCall 2 pre__law_with_other (dUrn 0 (dCons (dVar 16) (dCons (dVar 2) dNil)))) (E (.ow zs) (.fz (.lst (ms.map plc))) (.fz (.lst ff))) (Dt 150) := es_mono (es_callU rfl (ef_cons (ev_var rfl) (ef_cons (ev_var rfl) ef_nil)) rfl (with_fn (by omega) ho hos (by omega))) fun d hd => by
    obtain ⟨js, rfl, hj, jl⟩ := hd
    exact .tup _ (by rw [List.length_map]; omega) (dl_mons (by omega) (by omega) hj)
  have b1 := ak_cons (p := Dt 150) (es_ (ev_cTup (ev_var (i := 7) (ρ := E (.ow zs) (.fz (.lst (ms.map plc))) (.fz (.lst ff))) rfl)) ffd) (ak_cons w1 (ak_cons w2 ak_nil))
  refine sq_FS (efs_catO (us := zs) (Q := fun xs => xs.length ≤ 33 ∧ DtL 150 xs) rfl (es_akL b1 (by omega)) fun ys hy => ⟨by rw [hy.1, sizeLine_eq]; omega, by rw [List.length_append, hy.1]; omega, dl_app zd hy.2⟩) ?_
  rintro qs ⟨ql, qd⟩
  let ρ5 := E (.ow qs) (.fz (.lst (ms.map plc))) (.fz (.lst ff))
  have gn : gs ≠ [] := fun e => by rw [e] at g0; simp at g0
  have t1 : EvTA (dTAnd (dTest (dBin oGt (dVar 2) (dC (.int 0)))) (dTest (dBin oGt (dBin oIx (dVar 1) (dUn (fun x P => x.intP fun i => P (.int (-i))) (dC (.int 1)))) (dC (.int 0))))) ρ5 :=
    eta_and (et_v (ev_I (ev_var rfl) ev_c)) (eta_ _ (et_v (ev_I (ev_ix (xs := gD gs) (ev_var rfl) (ev_neg ev_c) (.inl rfl) (last_ix gn)) ev_c)))
  have t2 : EvS (dF (dLstF (dCons (dIf (dTAnd (dTest (dBin oGt (dVar 2) (dC (.int 0)))) (dTest (dBin oGt (dBin oIx (dVar 1) (dUn (fun x P => x.intP fun i => P (.int (-i))) (dC (.int 1)))) (dC (.int 0))))) (dC (.int 1)) (dC (.int 0))) dNil))) ρ5 (fun d => ∃ ys, d = .lst ys ∧ ∃ x : Nat, ys = [.int (x : Nat)] ∧ x ≤ 1) :=
    es_F (efs_lst (efs_cons (Q := ltN 1) (Rs := fun ys => ∃ x : Nat, ys = [.int (x : Nat)] ∧ x ≤ 1) (es_if t1 (es_ ev_c ⟨1, rfl, Nat.le_refl 1⟩) (es_ ev_c ⟨0, rfl, by decide⟩)) (efs_ ef_nil rfl : EvFS dNil ρ5 (· = [])) fun y ys hy e => by
      obtain ⟨x, rfl, hx⟩ := hy
      exact ⟨x, by rw [e], hx⟩) fun xs hx => by
      obtain ⟨x, rfl, _⟩ := hx
      (rw [sizeLine_eq]; simp only [List.length_append, List.length_take, List.length_drop, List.length_cons, List.length_nil, List.length_map, List.length_reverse]; omega)) fun xs hx => ⟨xs, rfl, hx⟩
  have t3 := es_catL (Q := fun d => ∃ x : Nat, d = .lst (gD (gs ++ [x])) ∧ x ≤ 1) (ev_var (i := 1) (ρ := ρ5) (v := .lst (gD gs)) rfl) t2 fun ys hy => by
    obtain ⟨x, rfl, hx⟩ := hy
    exact ⟨by rw [sizeLine_eq, glen]; simp only [List.length_cons, List.length_nil]; omega, x, by rw [gD_app], hx⟩
  have t4 := es_callS (n := 1) (pre := pre__law_compressed) (Q := Dt 150) (efs_cons (Rs := fun xs => ∃ x : Nat, xs = [.lst (gD (gs ++ [x]))] ∧ x ≤ 1) t3 (efs_ ef_nil rfl : EvFS dNil ρ5 (· = [])) fun y ys hy e => by
    obtain ⟨x, rfl, hx⟩ := hy
    exact ⟨x, by rw [e], hx⟩) fun xs hx => by
    obtain ⟨x, rfl, hx⟩ := hx
    have hs : (gs ++ [x]).sum ≤ 72 := by
      have := hg.sum hgl
      rw [List.sum_append]
      simp
      omega
    have hv7 : vOf (gs ++ [x]) ≤ 7 := by
      have := (hg.app (x := x) (by omega) (fun _ => by omega)).v
      omega
    refine ⟨rfl, fun P h => comp_fn hv7 (by rw [List.length_append]; simp; omega) (by omega) P fun y hy => h y ?_⟩
    obtain ⟨us, rfl, hu, hul, _⟩ := hy
    exact .tup _ (by rw [List.length_map]; omega) (dl_mons (by omega) hv7 hu)
  refine sq_appS (ds := qs) rfl (by rw [sizeLine_eq]; omega) t4 fun d hd => ?_
  exact rt3_ok hg hgl (.tup _ (by omega) hxs) (dl_app qd (dl_cons hd dl_nil)) (by rw [List.length_append]; simp only [List.length_cons, List.length_nil]; omega) h
theorem right_fn : Fn pre__law_right [] (.bl true) := fun P h => by
  unfold pre__law_right
  rw [right_is]
  let ρ0 : Env := [.ur, .no, .no, .no, .no, .no, .no, .no, .no, .no, .no, .no, .no, .no, .no, .no, .no, .no, .no, .no, .no, .no, .no, .no, .no, .no]
  have c1 : EvS (dBin oAdd (dC (.int 1)) (dCall 1 pre__law_pull (dUrn 0 (dCons (dC (.int 6)) dNil)))) ρ0 (fun d => ∃ l : Nat, d = .int (l : Nat) ∧ 1 ≤ l ∧ l ≤ 6) :=
    es_bin (es_ ev_c rfl : EvS _ ρ0 (· = .int 1)) (es_callU rfl (ef_cons ev_c ef_nil) rfl (pull_fn (n := 6) (by decide) (by decide))) fun x y hx hy P k => by
      obtain ⟨i, rfl, i0, i1⟩ := hy
      subst hx
      exact k (.int (1 + i)) ⟨(1 + i).toNat, by rw [Int.toNat_of_nonneg (by omega)], by omega, by omega⟩
  have c2 : EvS (dCall 1 pre__law_one (dUrn 0 (dCons (dTup (dCons (dC (.int 1)) (dCons (dC (.int 2)) (dCons (dC (.int 3)) (dCons (dC (.int 4)) (dCons (dC (.int 6)) dNil)))))) dNil))) ρ0 (fun d => ∃ a : Nat, d = .int (a : Nat) ∧ a ≤ 6) :=
    es_mono (es_callU rfl (ef_cons (ev_tup (ef_cons ev_c (ef_cons ev_c (ef_cons ev_c (ef_cons ev_c (ef_cons ev_c ef_nil))))) (by (rw [sizeLine_eq]; simp only [List.length_append, List.length_take, List.length_drop, List.length_cons, List.length_nil, List.length_map, List.length_reverse]; omega))) ef_nil) rfl (one_fn (.inr rfl) (by simp) (by simp))) fun v hv => by
      simp only [List.mem_cons, List.not_mem_nil, or_false] at hv
      rcases hv with rfl | rfl | rfl | rfl | rfl
      · exact ⟨1, rfl, by decide⟩
      · exact ⟨2, rfl, by decide⟩
      · exact ⟨3, rfl, by decide⟩
      · exact ⟨4, rfl, by decide⟩
      · exact ⟨6, rfl, by decide⟩
  have c3 := efs_cons (Rs := fun xs => ∃ l a : Nat, xs = [.int (l : Nat), .int (a : Nat)] ∧ 1 ≤ l ∧ l ≤ 6 ∧ a ≤ 6) c1 (efs_cons (Rs := fun xs => ∃ a : Nat, xs = [.int (a : Nat)] ∧ a ≤ 6) c2 (efs_ ef_nil rfl : EvFS dNil ρ0 (· = [])) fun y ys hy e => by
    obtain ⟨a, rfl, ha⟩ := hy
    exact ⟨a, by rw [e], ha⟩) fun y ys hy e => by
    obtain ⟨l, rfl, h1, h2⟩ := hy
    obtain ⟨a, rfl, ha⟩ := e
    exact ⟨l, a, rfl, h1, h2, ha⟩
  have c4 := es_callUS (n := 2) (pre := pre__law_growth) (i := 0) (ρ := ρ0) (Q := fun y => ∃ gs : List Nat, y = .lst (gD gs) ∧ Grow gs ∧ gs.length ≤ 6) rfl c3 fun xs hx => by
    obtain ⟨l, a, rfl, h1, h2, ha⟩ := hx
    refine ⟨rfl, fun P h => growth_fn h1 (by omega) ha P fun y hy => h y ?_⟩
    obtain ⟨gs, rfl, hg, hl⟩ := hy
    exact ⟨gs, rfl, hg, by omega⟩
  refine sq_eS c4 ?_
  rintro _ ⟨gs, rfl, hg, hgl⟩
  let ρ1 : Env := [.ur, .fz (.lst (gD gs)), .no, .no, .no, .no, .no, .no, .no, .no, .no, .no, .no, .no, .no, .no, .no, .no, .no, .no, .no, .no, .no, .no, .no, .no]
  refine sq_e (ρ := ρ1) (ev_varsL (gs := gs) (i := 1) rfl) ?_
  let ρ2 : Env := [.ur, .fz (.lst (gD gs)), .fz (.int (vOf gs : Nat)), .no, .no, .no, .no, .no, .no, .no, .no, .no, .no, .no, .no, .no, .no, .no, .no, .no, .no, .no, .no, .no, .no, .no]
  have hv := hg.v
  have hs := hg.sum hgl
  have glen := gD_len gs
  have d1 : EvS (dCall 1 pre__law_compressed (dCons (dVar 1) dNil)) ρ2 _ := es_call (ef_cons (ev_var rfl) ef_nil) rfl (comp_fn (gs := gs) (by omega) (by omega) (by omega))
  refine sq_eS d1 ?_
  rintro _ ⟨ks, rfl, hk, kl, kw⟩
  have hks : ks ≠ [] := fun e => by
    obtain ⟨r, er⟩ := hg.hd
    rw [e, er] at kw
    unfold low at kw
    rw [if_pos ⟨by omega, .inr rfl⟩] at kw
    simp at kw
  have hk0 := List.length_pos_iff.mpr hks
  let ρ3 : Env := [.ur, .fz (.lst (gD gs)), .fz (.int (vOf gs : Nat)), .fz (.tup (ks.map tupI)), .no, .no, .no, .no, .no, .no, .no, .no, .no, .no, .no, .no, .no, .no, .no, .no, .no, .no, .no, .no, .no, .no]
  have e1 : EvS (dCall 2 pre__law_other_ideal (dUrn 0 (dCons (dVar 3) (dCons (dVar 2) dNil)))) ρ3 _ := es_callU rfl (ef_cons (ev_var rfl) (ef_cons (ev_var rfl) ef_nil)) rfl (other_fn (v := vOf gs) (by omega) hk (by omega))
  have e2 : EvS (dCall 1 pre__law_pull (dUrn 0 (dCons (dCB cLen (dCons (dVar 3) dNil)) dNil))) ρ3 (inR 0 (ks.length : Nat)) := es_callU rfl (ef_cons (ev_is (ev_len (xs := ks.map tupI) (ev_var rfl) (.inr rfl)) (by rw [List.length_map])) ef_nil) rfl (pull_fn (by omega) (by omega))
  refine sq_parSS e1 e2 ?_
  rintro _ _ ⟨os, rfl, ho, hol⟩ ⟨i, rfl, i0, i1⟩
  obtain ⟨n, rfl⟩ : ∃ n : Nat, i = n := ⟨i.toNat, by omega⟩
  let ρ4 : Env := [.ur, .fz (.lst (gD gs)), .fz (.int (vOf gs : Nat)), .fz (.tup (ks.map tupI)), .no, .no, .no, .no, .no, .no, .no, .no, .no, .no, .no, .no, .fz (.tup (os.map tupI)), .fz (.int (n : Nat)), .no, .no, .no, .no, .no, .no, .no, .no]
  have f1 : EvS (dCall 1 pre__law_pull (dUrn 0 (dCons (dBin oAdd (dCB cLen (dCons (dVar 1) dNil)) (dC (.int 1))) dNil))) ρ4 (ltN gs.length) := es_callU rfl (ef_cons (ev_add (ev_len (xs := gD gs) (ev_var rfl) (.inl rfl)) ev_c) ef_nil) rfl (pullN (by rw [glen]) (by omega))
  have f2 := es_callS (n := 2) (pre := pre__law_monomials) (ρ := ρ4) (Q := fun y => ∃ us : List (List Int), y = .lst (us.map tupI) ∧ (∀ k ∈ us, Mon (vOf gs + 1) k) ∧ us.length ≤ 10 ^ 6 ∧ us ≠ [])
    (efs_cons (Rs := fun xs => ∃ x : Nat, xs = [.int (vOf gs + 1 : Nat), .int (x : Nat)] ∧ x ≤ 6) (es_ (ev_is (ev_add (i := (vOf gs : Nat)) (j := 1) (ev_var (i := 2) rfl) ev_c) (by rw [Int.natCast_succ])) rfl : EvS (dBin oAdd (dVar 2) (dC (.int 1))) ρ4 (· = .int ((vOf gs + 1 : Nat) : Int)))
      (efs_cons (Rs := fun xs => ∃ x : Nat, xs = [.int (x : Nat)] ∧ x ≤ 6) f1 (efs_ ef_nil rfl : EvFS dNil ρ4 (· = [])) fun y ys hy e => by
        obtain ⟨x, rfl, hx⟩ := hy
        exact ⟨x, by rw [e], by omega⟩) fun y ys hy e => by
      obtain ⟨x, rfl, hx⟩ := e
      exact ⟨x, by rw [hy], hx⟩) fun xs hx => by
    obtain ⟨x, rfl, hx⟩ := hx
    refine ⟨rfl, fun P h => mons_fn (v := vOf gs + 1) (d := x) (by omega) (by omega) P fun y hy => h y ?_⟩
    obtain ⟨us, rfl, hu, hul, hun⟩ := hy
    exact ⟨us, rfl, fun k hk => (hu k hk).mon (by omega), by omega, hun (.inl (by omega))⟩
  have f3 := es_callUS (n := 1) (pre := pre__law_one) (i := 0) (ρ := ρ4) (Q := fun d => ∃ k : List Int, d = tupI k ∧ Mon (vOf gs + 1) k) rfl (efs_cons (Rs := fun xs => ∃ us : List (List Int), xs = [.lst (us.map tupI)] ∧ (∀ k ∈ us, Mon (vOf gs + 1) k) ∧ us.length ≤ 10 ^ 6 ∧ us ≠ []) f2 (efs_ ef_nil rfl : EvFS dNil ρ4 (· = [])) fun y ys hy e => by
    obtain ⟨us, rfl, hu⟩ := hy
    exact ⟨us, by rw [e], hu⟩) fun xs hx => by
    obtain ⟨us, rfl, hu, hul, hun⟩ := hx
    refine ⟨rfl, fun P h => one_tupI (.inl rfl) hun hul P fun y hy => h y ?_⟩
    obtain ⟨k, hk, rfl⟩ := hy
    exact ⟨k, rfl, hu k hk⟩
  refine sq_eS f3 ?_
  rintro _ ⟨wk, rfl, hw⟩
  exact rt2_ok hg hgl rfl hk (by omega) hks ho hol hw (by omega) h
end PD

namespace PD
open PySem PySem.Spec PyProof.Rows L2 BN
theorem urn_for {S : DEnds} {a b d : Sl} {x : DS} (hx : ∀ (S : DEnds) (m c : Int) , (∀ k : Int, S.nx [a, b, .fz (.int k), .fz (.int c), d]) → x S [a, b, .fz (.int m), .fz (.int c), d]) : ∀ (ns : List Int) (m : Int) (c : Sl), (∀ (k : Int) (c : Sl), S.nx [a, b, .fz (.int k), c, d]) → forP (dName 3) x S (ns.map D.int) [a, b, .fz (.int m), c, d]
  | [], m, c, h => by simpa using h m c
  | n :: ns, m, c, h => by
    rw [List.map_cons, f_cons]
    simp
    exact hx _ _ _ fun k => urn_for hx ns k _ h
theorem urn_ok {ns : List Int} {lap : Int} {R : List D → Prop} (h0 : 0 ≤ lap) (h : ∀ us, urn3 us → R us) : pre__law_urn [.scr ns, .int lap] R := by
  have cp : CPow 10 15 := ⟨by decide, by decide, by decide⟩
  simp [pre__law_urn, d__law_urn, startD, nm__law_urn, mul_l, mul_r]
  refine urn_for (fun S m c k => ?_) _ _ _ fun k c => ?_
  · simp
    refine ⟨mul_r (by decide), mul_r (by decide), k _⟩
  · simp
    split
    · rename_i hl
      have ei : atI ns lap = some ns[lap.toNat] := atI_nat lap.toNat (by omega) (by omega)
      simp [ei, mul_r]
      split
      · exact h _ trivial
      · refine ⟨cp, ?_⟩
        split
        · exact h _ trivial
        · exact h _ trivial
    · simp [mul_r]
      refine ⟨cp, h _ trivial⟩
theorem ev_M {ρ : Env} {pre : Pre} {a b : DE} {ns : List Int} {lap : Int} (hp : Fn pre [] (.bl true)) (h0 : 0 ≤ lap) (ha : Ev a ρ (.scr ns)) (hb : Ev b ρ (.int lap)) : Ev (dCallM 0 pre (dCallF 2 pre__law_urn (dCons a (dCons b dNil)))) ρ (.bl true) := fun P k => by
  refine ha _ (hb _ ⟨rfl, ?_⟩)
  exact urn_ok h0 fun us hu => ⟨hu, rfl, hp P k⟩
theorem law_for {S : DEnds} {ns : List Int} : ∀ (ks : List Nat) (s1 : Sl), (∀ s1, S.nx [.fz (.scr ns), s1]) →
    forP (dName 1) (dIfS (dTNot (dTest (dCallM 0 pre__law_right (dCallF 2 pre__law_urn (dCons (dVar 0) (dCons (dVar 1) dNil)))))) (dRet (dC (.bl false))) dNext) S (ks.map fun k => D.int (k : Nat)) [.fz (.scr ns), s1] := fun ks => by
  induction ks with
  | nil => exact fun s1 h => for_nil (h s1)
  | cons k ks ih =>
    intro s1 h
    rw [List.map_cons]
    have e1 : EvT (dTNot (dTest (dCallM 0 pre__law_right (dCallF 2 pre__law_urn (dCons (dVar 0) (dCons (dVar 1) dNil)))))) [.fz (.scr ns), .fz (.int (k : Nat))] false := et_not (et_v (ev_M right_fn (by omega) (ev_var rfl) (ev_var rfl)))
    exact for_c1 (si_go e1 (ih _ h))
theorem law_ok {ns : List Int} {P : D → Prop} (hn : ns.length ≤ 63) (h : P (.bl true)) : pre_law [.scr ns] P := by
  unfold pre_law d_law
  have e1 : Ev (dCB cMax2 (dCons (dC (.int 3)) (dCons (dCB cMin2 (dCons (dLenS 0) (dCons (dC (.int 5)) dNil))) dNil))) (startD nm_law [.scr ns]) (.int ((max 3 (min ns.length 5) : Nat) : Int)) := by
    have a0 : Ev (dLenS 0) (startD nm_law [.scr ns]) (.int (ns.length : Nat)) := fun P k => k
    have a1 : Ev (dCB cMin2 (dCons (dLenS 0) (dCons (dC (.int 5)) dNil))) (startD nm_law [.scr ns]) (.int (if (5 : Int) < (ns.length : Nat) then 5 else (ns.length : Nat))) := ev_cb (xs := [.int (ns.length : Nat), .int 5]) (ef_cons a0 (ef_cons ev_c ef_nil)) fun P k => k
    have a2 : Ev (dCB cMax2 (dCons (dC (.int 3)) (dCons (dCB cMin2 (dCons (dLenS 0) (dCons (dC (.int 5)) dNil))) dNil))) (startD nm_law [.scr ns]) (.int (if (if (5 : Int) < (ns.length : Nat) then (5 : Int) else (ns.length : Nat)) > 3 then (if (5 : Int) < (ns.length : Nat) then (5 : Int) else (ns.length : Nat)) else 3)) := ev_cb (xs := [.int 3, .int (if (5 : Int) < (ns.length : Nat) then (5 : Int) else (ns.length : Nat))]) (ef_cons ev_c (ef_cons a1 ef_nil)) fun P k => k
    refine ev_is a2 ?_
    congr 1
    split <;> split <;> omega
  refine sq_for (ef_rg e1 (by omega)) ?_
  have : ((List.range (max 3 (min ns.length 5))).map fun i => D.int (i : Nat)) = (List.range (max 3 (min ns.length 5))).map fun k : Nat => D.int (k : Nat) := rfl
  refine law_for (List.range (max 3 (min ns.length 5))) .no fun s1 => ?_
  have e9 : Ev (dCallM 0 pre__law_great_right (dCallF 2 pre__law_urn (dCons (dVar 0) (dCons (dC (.int 5)) dNil)))) [.fz (.scr ns), s1] (.bl true) := ev_M great_right_fn (by omega) (ev_var rfl) ev_c
  exact sr_e (S := { nx := fun _ => P .non, rt := P }) e9 h
end PD

namespace PD
open PySem PySem.Spec PyProof.Rows L2
/-! ### the head -/
def dD (n : Str) (st : Stmt) : He.DefD := ⟨(n, none), n, n, defArgs st, defBody st, defScope st, [], []⟩
def fnl0 : List He.DefD := [dD "is_whole" st_is_whole, dD "is_between" st_is_between, dD "is_form_of" st_is_form_of, dD "greatest_top" st_greatest_top, dD "expansion_by" st_expansion_by, dD "most_next_by" st_most_next_by, dD "is_monomial" st_is_monomial, dD "place_of" st_place_of, dD "less_one" st_less_one, dD "is_ideal" st_is_ideal, dD "is_sequence_claim" st_is_sequence_claim, dD "shows_sequence" st_shows_sequence, dD "shows_no_sequence" st_shows_no_sequence, dD "accepts_of" st_accepts_of, dD "accepts" st_accepts, dD "_law_urn" st__law_urn, dD "_law_pull" st__law_pull, dD "_law_one" st__law_one, dD "_law_is" st__law_is, dD "_law_shuffled" st__law_shuffled, dD "_law_choose" st__law_choose, dD "_law_monomials" st__law_monomials, dD "_law_is_whole" st__law_is_whole, dD "_law_is_monomial" st__law_is_monomial, dD "_law_odd" st__law_odd, dD "_law_bent" st__law_bent, dD "_law_is_sequence" st__law_is_sequence, dD "_law_most_next" st__law_most_next, dD "_law_fails_at" st__law_fails_at, dD "_law_is_order_ideal" st__law_is_order_ideal]
def fnl1 : List He.DefD := [dD "_law_takes" st__law_takes, dD "_law_judged" st__law_judged, dD "_law_compressed" st__law_compressed, dD "_law_growth" st__law_growth, dD "_law_other_ideal" st__law_other_ideal, dD "_law_with_other" st__law_with_other, dD "_law_great" st__law_great, dD "_law_turned" st__law_turned, dD "_law_great_right" st__law_great_right, dD "_law_right" st__law_right, dD "law" st_law]
def fnl : List He.DefD := fnl0 ++ fnl1
def fal0 : List He.Fa := [.glo "is_whole", .glo "is_between", .glo "is_form_of", .glo "greatest_top", .glo "expansion_by", .glo "most_next_by", .glo "is_monomial", .glo "place_of", .glo "less_one", .glo "is_ideal", .glo "is_sequence_claim", .glo "shows_sequence", .glo "shows_no_sequence", .glo "accepts_of", .glo "accepts", .glo "_law_urn", .glo "_law_pull", .glo "_law_one", .glo "_law_is", .glo "_law_shuffled", .glo "_law_choose", .glo "_law_monomials", .glo "_law_is_whole", .glo "_law_is_monomial", .glo "_law_odd", .glo "_law_bent", .glo "_law_is_sequence", .glo "_law_most_next", .glo "_law_fails_at", .glo "_law_is_order_ideal"]
def fal1 : List He.Fa := [.glo "_law_takes", .glo "_law_judged", .glo "_law_compressed", .glo "_law_growth", .glo "_law_other_ideal", .glo "_law_with_other", .glo "_law_great", .glo "_law_turned", .glo "_law_great_right", .glo "_law_right", .glo "law", .glo "NUMBERS", .glo "POLYTOPES", .free "isinstance", .free "int", .free "bool", .free "tuple", .free "len", .free "enumerate", .free "sum", .free "all", .free "zip", .free "range", .free "set", .free "max", .free "str", .free "abs", .free "divmod", .free "repr", .free "list"]
def fal2 : List He.Fa := [.free "sorted", .free "min", .int "MOST_DIMENSION" 7, .int "LEAST_DIMENSION" 2, .int "MOST_MORE" 4, .int "MOST_LENGTH" 8, .int "MOST_NUMBER" 1000000, .int "MOST_VARIABLES" 6, .str "SUMS" "told by"]
def fal : List He.Fa := fal0 ++ fal1 ++ fal2
def loosel0 : List Str := ["MOST_TOLD", "is_whole", "is_between", "is_ratio", "is_told", "ratio", "plus", "minus", "times", "sum_of", "is_set", "sets_of", "is_part", "faces_by", "missing_by", "counts_by", "primitive", "first_place", "cleared", "reduced", "rank", "kernel", "determinant", "LEAST_DIMENSION", "MOST_DIMENSION", "MOST_MORE", "is_point", "is_form_of", "lifted", "value_at"]
def loosel1 : List Str := ["side_of", "shares_of", "support_by", "supports_by", "facets_by", "volume_by", "whole_volume", "blocks_by", "are_whole", "greatest_top", "expansion_by", "most_next_by", "is_monomial", "place_of", "monomials_by", "less_one", "is_ideal", "base_by", "forms_by", "whole_form", "product_of", "relations_by", "Degree", "MOST_FACES", "is_row", "h_by", "g_by", "NOUGHT_supportwork", "function_value", "supports_set"]
def loosel2 : List Str := ["is_dependence", "bars_set", "are_lots", "is_ordering", "restriction_at", "restrictions_by", "unshelled_by", "NOUGHT_stresswork", "is_stress_form", "sums_at", "off_by", "NOUGHT_claimfaces", "LEAST_STRESSED", "is_empty", "variables_of", "is_lot", "is_face_numbers", "is_some_ideal", "is_some_ordering", "is_some_number", "are_shares", "shows_face_numbers", "shows_face", "shows_no_face", "is_basis", "is_regular", "shows_counted", "shows_shelling", "shows_no_shelling", "shows_stacked"]
def loosel3 : List Str := ["shows_not_stacked", "shows_stress", "shows_no_stress", "are_pairs", "are_told", "is_sum", "is_size", "MOST_VARIABLES", "MOST_LENGTH", "MOST_NUMBER", "is_row_claim", "shows_row", "shows_no_row", "is_sequence_claim", "shows_sequence", "shows_no_sequence", "NUMBERS", "POLYTOPES", "SUMS", "accepts_of", "accepts", "_law_urn", "_law_pull", "_law_one", "_law_is", "_law_shuffled", "_law_choose", "_law_monomials", "_law_is_whole", "_law_is_monomial"]
def loosel4 : List Str := ["_law_odd", "_law_bent", "_law_judged", "_law_most_next", "_law_is_sequence", "_law_fails_at", "_law_is_order_ideal", "_law_compressed", "_law_growth", "_law_takes", "_law_other_ideal", "_law_with_other", "_law_great", "_law_turned", "_law_great_right", "_law_right"]
def loosel : List Str := loosel0 ++ loosel1 ++ loosel2 ++ loosel3 ++ loosel4
def ex (K : PySem.W.Frag) : Bool := tblB K "NUMBERS" ts_NUMBERS && tblB K "POLYTOPES" ts_POLYTOPES && He.eqO (PySem.W.nsIn K mainGlobals "comb") (some (some (.builtin "math.comb")))
def tsl : List He.Tab := [(fun K => He.ga K "NUMBERS", ["face row", "no face row", "M-sequence", "no M-sequence"]), (fun K => He.ga K "POLYTOPES", ["row of", "face", "no face", "counted by", "shelling", "no shelling", "stacked", "not stacked", "stress", "no stress"])]
abbrev R : PySem.W.OpenRow := PySem.W.OpenLaw.row PySem.Challenge.rw_facenumbers_k35_claims_of_m_sequences
abbrev hk : PySem.W.Hook := He.hookX 2 fal fnl tsl [] ex
def ob (s : PySem.W.SharedT) : He.AlX := He.obsX 2 fal fnl tsl [] ex (HandSHeadRun.getT s)
theorem ob_eq (s : PySem.W.SharedT) : ob s = hk.obs s.abs := He.obsX_eq (HandSHeadRun.getT_eq s)
def fT (b : Bool) (f : String → Bool) : String → Bool := fun s => bif s == "special-get-raises" then b else f s
theorem fT_eq (f : String → Bool) : f = fT (f "special-get-raises") f := by
  funext s
  unfold fT
  by_cases h : s = "special-get-raises"
  · subst h; rfl
  · rw [beq_eq_false_iff_ne.mpr h]; rfl
def wT (b : Bool) (w : PySem.World) : PySem.World := { w with params := { w.params with followText := fT b w.params.followText } }
theorem wT_eq (w : PySem.World) : w = wT (w.params.followText "special-get-raises") w := by
  unfold wT
  rw [← fT_eq]
noncomputable abbrev Wb (b : Bool) (w : World) : Option (Shared × PySem.W.SharedT) := HandSHeadRun.wholeF (fun p => HandSHeadRun.stepQ (HandSHeadRun.denQ HandSHeadRun.tabQ) p (wT b w)) HandSHeadRun.fenceQ 1000000 R.prog
theorem run_l_true (w : World) : (Wb true w).map (fun x => HandSHeadRun.looksF R.prog x.1.heap x.2.abs) = some true := by
  kernel_rfl
theorem run_s_true (w : World) : (Wb true w).map (fun x => HandSHeadRun.seenQ (PySem.W.view R.prog [0, 1, 154]) loosel (importedModules R.prog.main.body) (fun s => PySem.W.xlAt (PySem.W.view R.prog [0, 1, 154]) [] s && PySem.W.recOk R.toRowW.records s) x.2.abs) = some (PySem.W.openGood (PySem.W.view R.prog [0, 1, 154]) loosel) := by
  kernel_rfl
theorem run_o_true (w : World) : (Wb true w).map (fun x => ob x.2) = some (hk.val (wT true w)) := by
  kernel_rfl
theorem run_l_false (w : World) : (Wb false w).map (fun x => HandSHeadRun.looksF R.prog x.1.heap x.2.abs) = some true := by
  kernel_rfl
theorem run_s_false (w : World) : (Wb false w).map (fun x => HandSHeadRun.seenQ (PySem.W.view R.prog [0, 1, 154]) loosel (importedModules R.prog.main.body) (fun s => PySem.W.xlAt (PySem.W.view R.prog [0, 1, 154]) [] s && PySem.W.recOk R.toRowW.records s) x.2.abs) = some (PySem.W.openGood (PySem.W.view R.prog [0, 1, 154]) loosel) := by
  kernel_rfl
theorem run_o_false (w : World) : (Wb false w).map (fun x => ob x.2) = some (hk.val (wT false w)) := by
  kernel_rfl
theorem join3 {α β γ δ : Type} {o : Option α} {f : α → β} {g : α → γ} {k : α → δ} {x : β} {y : γ} {z : δ} (h1 : o.map f = some x) (h2 : o.map g = some y) (h3 : o.map k = some z) : o.map (fun a => (f a, g a, k a)) = some (x, y, z) := by
  cases o with
  | none => cases h1
  | some a =>
    have e1 : f a = x := Option.some.inj h1
    have e2 : g a = y := Option.some.inj h2
    have e3 : k a = z := Option.some.inj h3
    rw [← e1, ← e2, ← e3]
    rfl
theorem run (w : World) : HandSHeadRun.RunEqI R (PySem.W.view R.prog [0, 1, 154]) hk ob 1000000 loosel w := by
  rw [wT_eq w]
  generalize w.params.followText "special-get-raises" = b
  cases b with
  | true => exact join3 (run_l_true w) (run_s_true w) (run_o_true w)
  | false => exact join3 (run_l_false w) (run_s_false w) (run_o_false w)
theorem fx_of {w : World} {h : Heap} {K : PySem.W.Frag} {mg : Str → Option Value} (X : K.In h) (G : h.Ns mainGlobals mg) (c : He.SaysX fal fnl tsl [] ex w h K) : Fx K w mg where
  f_isinstance := He.free_ok X G (c.t.d.fact 43 (f := .free "isinstance") rfl)
  f_int := He.free_ok X G (c.t.d.fact 44 (f := .free "int") rfl)
  f_bool := He.free_ok X G (c.t.d.fact 45 (f := .free "bool") rfl)
  a_is_whole := ⟨(c.t.d.def_ 0 (d := dD "is_whole" st_is_whole) rfl).elim fun fd F => ⟨_, fd, He.glo_ok X G (c.t.d.fact 0 (f := .glo "is_whole") rfl), F⟩⟩
  a_is_between := ⟨(c.t.d.def_ 1 (d := dD "is_between" st_is_between) rfl).elim fun fd F => ⟨_, fd, He.glo_ok X G (c.t.d.fact 1 (f := .glo "is_between") rfl), F⟩⟩
  f_tuple := He.free_ok X G (c.t.d.fact 46 (f := .free "tuple") rfl)
  f_len := He.free_ok X G (c.t.d.fact 47 (f := .free "len") rfl)
  i_MOST_DIMENSION := He.int_ok X G (c.t.d.fact 62 (f := .int "MOST_DIMENSION" 7) rfl)
  i_LEAST_DIMENSION := He.int_ok X G (c.t.d.fact 63 (f := .int "LEAST_DIMENSION" 2) rfl)
  i_MOST_MORE := He.int_ok X G (c.t.d.fact 64 (f := .int "MOST_MORE" 4) rfl)
  a_is_form_of := ⟨(c.t.d.def_ 2 (d := dD "is_form_of" st_is_form_of) rfl).elim fun fd F => ⟨_, fd, He.glo_ok X G (c.t.d.fact 2 (f := .glo "is_form_of") rfl), F⟩⟩
  c_comb := PySem.W.mg_of X G (He.eqO_ok (Bool.and_eq_true_iff.mp c.more).2)
  a_greatest_top := ⟨(c.t.d.def_ 3 (d := dD "greatest_top" st_greatest_top) rfl).elim fun fd F => ⟨_, fd, He.glo_ok X G (c.t.d.fact 3 (f := .glo "greatest_top") rfl), F⟩⟩
  a_expansion_by := ⟨(c.t.d.def_ 4 (d := dD "expansion_by" st_expansion_by) rfl).elim fun fd F => ⟨_, fd, He.glo_ok X G (c.t.d.fact 4 (f := .glo "expansion_by") rfl), F⟩⟩
  f_enumerate := He.free_ok X G (c.t.d.fact 48 (f := .free "enumerate") rfl)
  f_sum := He.free_ok X G (c.t.d.fact 49 (f := .free "sum") rfl)
  a_most_next_by := ⟨(c.t.d.def_ 5 (d := dD "most_next_by" st_most_next_by) rfl).elim fun fd F => ⟨_, fd, He.glo_ok X G (c.t.d.fact 5 (f := .glo "most_next_by") rfl), F⟩⟩
  f_all := He.free_ok X G (c.t.d.fact 50 (f := .free "all") rfl)
  f_zip := He.free_ok X G (c.t.d.fact 51 (f := .free "zip") rfl)
  a_is_monomial := ⟨(c.t.d.def_ 6 (d := dD "is_monomial" st_is_monomial) rfl).elim fun fd F => ⟨_, fd, He.glo_ok X G (c.t.d.fact 6 (f := .glo "is_monomial") rfl), F⟩⟩
  a_place_of := ⟨(c.t.d.def_ 7 (d := dD "place_of" st_place_of) rfl).elim fun fd F => ⟨_, fd, He.glo_ok X G (c.t.d.fact 7 (f := .glo "place_of") rfl), F⟩⟩
  f_range := He.free_ok X G (c.t.d.fact 52 (f := .free "range") rfl)
  a_less_one := ⟨(c.t.d.def_ 8 (d := dD "less_one" st_less_one) rfl).elim fun fd F => ⟨_, fd, He.glo_ok X G (c.t.d.fact 8 (f := .glo "less_one") rfl), F⟩⟩
  f_set := He.free_ok X G (c.t.d.fact 53 (f := .free "set") rfl)
  a_is_ideal := ⟨(c.t.d.def_ 9 (d := dD "is_ideal" st_is_ideal) rfl).elim fun fd F => ⟨_, fd, He.glo_ok X G (c.t.d.fact 9 (f := .glo "is_ideal") rfl), F⟩⟩
  i_MOST_LENGTH := He.int_ok X G (c.t.d.fact 65 (f := .int "MOST_LENGTH" 8) rfl)
  i_MOST_NUMBER := He.int_ok X G (c.t.d.fact 66 (f := .int "MOST_NUMBER" 1000000) rfl)
  a_is_sequence_claim := ⟨(c.t.d.def_ 10 (d := dD "is_sequence_claim" st_is_sequence_claim) rfl).elim fun fd F => ⟨_, fd, He.glo_ok X G (c.t.d.fact 10 (f := .glo "is_sequence_claim") rfl), F⟩⟩
  i_MOST_VARIABLES := He.int_ok X G (c.t.d.fact 67 (f := .int "MOST_VARIABLES" 6) rfl)
  f_max := He.free_ok X G (c.t.d.fact 54 (f := .free "max") rfl)
  a_shows_sequence := ⟨(c.t.d.def_ 11 (d := dD "shows_sequence" st_shows_sequence) rfl).elim fun fd F => ⟨_, fd, He.glo_ok X G (c.t.d.fact 11 (f := .glo "shows_sequence") rfl), F⟩⟩
  a_shows_no_sequence := ⟨(c.t.d.def_ 12 (d := dD "shows_no_sequence" st_shows_no_sequence) rfl).elim fun fd F => ⟨_, fd, He.glo_ok X G (c.t.d.fact 12 (f := .glo "shows_no_sequence") rfl), F⟩⟩
  a_accepts_of := ⟨(c.t.d.def_ 13 (d := dD "accepts_of" st_accepts_of) rfl).elim fun fd F => ⟨_, fd, He.glo_ok X G (c.t.d.fact 13 (f := .glo "accepts_of") rfl), F⟩⟩
  g_is_sequence_claim := He.glo_ok X G (c.t.d.fact 10 (f := .glo "is_sequence_claim") rfl)
  g_shows_no_sequence := He.glo_ok X G (c.t.d.fact 12 (f := .glo "shows_no_sequence") rfl)
  g_shows_sequence := He.glo_ok X G (c.t.d.fact 11 (f := .glo "shows_sequence") rfl)
  f_str := He.free_ok X G (c.t.d.fact 55 (f := .free "str") rfl)
  b_NUMBERS := tbl_ok X G c.t 0 rfl (c.t.d.fact 41 (f := .glo "NUMBERS") rfl) (Bool.and_eq_true_iff.mp (Bool.and_eq_true_iff.mp c.more).1).1
  b_POLYTOPES := tbl_ok X G c.t 1 rfl (c.t.d.fact 42 (f := .glo "POLYTOPES") rfl) (Bool.and_eq_true_iff.mp (Bool.and_eq_true_iff.mp c.more).1).2
  s_SUMS := He.str_ok X G (c.t.d.fact 68 (f := .str "SUMS" "told by") rfl)
  a_accepts := ⟨(c.t.d.def_ 14 (d := dD "accepts" st_accepts) rfl).elim fun fd F => ⟨_, fd, He.glo_ok X G (c.t.d.fact 14 (f := .glo "accepts") rfl), F⟩⟩
  f_abs := He.free_ok X G (c.t.d.fact 56 (f := .free "abs") rfl)
  a__law_urn := ⟨(c.t.d.def_ 15 (d := dD "_law_urn" st__law_urn) rfl).elim fun fd F => ⟨_, fd, He.glo_ok X G (c.t.d.fact 15 (f := .glo "_law_urn") rfl), F⟩⟩
  f_divmod := He.free_ok X G (c.t.d.fact 57 (f := .free "divmod") rfl)
  a__law_pull := ⟨(c.t.d.def_ 16 (d := dD "_law_pull" st__law_pull) rfl).elim fun fd F => ⟨_, fd, He.glo_ok X G (c.t.d.fact 16 (f := .glo "_law_pull") rfl), F⟩⟩
  a__law_one := ⟨(c.t.d.def_ 17 (d := dD "_law_one" st__law_one) rfl).elim fun fd F => ⟨_, fd, He.glo_ok X G (c.t.d.fact 17 (f := .glo "_law_one") rfl), F⟩⟩
  f_repr := He.free_ok X G (c.t.d.fact 58 (f := .free "repr") rfl)
  a__law_is := ⟨(c.t.d.def_ 18 (d := dD "_law_is" st__law_is) rfl).elim fun fd F => ⟨_, fd, He.glo_ok X G (c.t.d.fact 18 (f := .glo "_law_is") rfl), F⟩⟩
  f_list := He.free_ok X G (c.t.d.fact 59 (f := .free "list") rfl)
  a__law_shuffled := ⟨(c.t.d.def_ 19 (d := dD "_law_shuffled" st__law_shuffled) rfl).elim fun fd F => ⟨_, fd, He.glo_ok X G (c.t.d.fact 19 (f := .glo "_law_shuffled") rfl), F⟩⟩
  a__law_choose := ⟨(c.t.d.def_ 20 (d := dD "_law_choose" st__law_choose) rfl).elim fun fd F => ⟨_, fd, He.glo_ok X G (c.t.d.fact 20 (f := .glo "_law_choose") rfl), F⟩⟩
  f_sorted := He.free_ok X G (c.t.d.fact 60 (f := .free "sorted") rfl)
  a__law_monomials := ⟨(c.t.d.def_ 21 (d := dD "_law_monomials" st__law_monomials) rfl).elim fun fd F => ⟨_, fd, He.glo_ok X G (c.t.d.fact 21 (f := .glo "_law_monomials") rfl), F⟩⟩
  a__law_is_whole := ⟨(c.t.d.def_ 22 (d := dD "_law_is_whole" st__law_is_whole) rfl).elim fun fd F => ⟨_, fd, He.glo_ok X G (c.t.d.fact 22 (f := .glo "_law_is_whole") rfl), F⟩⟩
  a__law_is_monomial := ⟨(c.t.d.def_ 23 (d := dD "_law_is_monomial" st__law_is_monomial) rfl).elim fun fd F => ⟨_, fd, He.glo_ok X G (c.t.d.fact 23 (f := .glo "_law_is_monomial") rfl), F⟩⟩
  a__law_odd := ⟨(c.t.d.def_ 24 (d := dD "_law_odd" st__law_odd) rfl).elim fun fd F => ⟨_, fd, He.glo_ok X G (c.t.d.fact 24 (f := .glo "_law_odd") rfl), F⟩⟩
  a__law_bent := ⟨(c.t.d.def_ 25 (d := dD "_law_bent" st__law_bent) rfl).elim fun fd F => ⟨_, fd, He.glo_ok X G (c.t.d.fact 25 (f := .glo "_law_bent") rfl), F⟩⟩
  a__law_is_sequence := ⟨(c.t.d.def_ 26 (d := dD "_law_is_sequence" st__law_is_sequence) rfl).elim fun fd F => ⟨_, fd, He.glo_ok X G (c.t.d.fact 26 (f := .glo "_law_is_sequence") rfl), F⟩⟩
  a__law_most_next := ⟨(c.t.d.def_ 27 (d := dD "_law_most_next" st__law_most_next) rfl).elim fun fd F => ⟨_, fd, He.glo_ok X G (c.t.d.fact 27 (f := .glo "_law_most_next") rfl), F⟩⟩
  a__law_fails_at := ⟨(c.t.d.def_ 28 (d := dD "_law_fails_at" st__law_fails_at) rfl).elim fun fd F => ⟨_, fd, He.glo_ok X G (c.t.d.fact 28 (f := .glo "_law_fails_at") rfl), F⟩⟩
  a__law_is_order_ideal := ⟨(c.t.d.def_ 29 (d := dD "_law_is_order_ideal" st__law_is_order_ideal) rfl).elim fun fd F => ⟨_, fd, He.glo_ok X G (c.t.d.fact 29 (f := .glo "_law_is_order_ideal") rfl), F⟩⟩
  a__law_takes := ⟨(c.t.d.def_ 30 (d := dD "_law_takes" st__law_takes) rfl).elim fun fd F => ⟨_, fd, He.glo_ok X G (c.t.d.fact 30 (f := .glo "_law_takes") rfl), F⟩⟩
  a__law_judged := ⟨(c.t.d.def_ 31 (d := dD "_law_judged" st__law_judged) rfl).elim fun fd F => ⟨_, fd, He.glo_ok X G (c.t.d.fact 31 (f := .glo "_law_judged") rfl), F⟩⟩
  a__law_compressed := ⟨(c.t.d.def_ 32 (d := dD "_law_compressed" st__law_compressed) rfl).elim fun fd F => ⟨_, fd, He.glo_ok X G (c.t.d.fact 32 (f := .glo "_law_compressed") rfl), F⟩⟩
  f_min := He.free_ok X G (c.t.d.fact 61 (f := .free "min") rfl)
  a__law_growth := ⟨(c.t.d.def_ 33 (d := dD "_law_growth" st__law_growth) rfl).elim fun fd F => ⟨_, fd, He.glo_ok X G (c.t.d.fact 33 (f := .glo "_law_growth") rfl), F⟩⟩
  a__law_other_ideal := ⟨(c.t.d.def_ 34 (d := dD "_law_other_ideal" st__law_other_ideal) rfl).elim fun fd F => ⟨_, fd, He.glo_ok X G (c.t.d.fact 34 (f := .glo "_law_other_ideal") rfl), F⟩⟩
  a__law_with_other := ⟨(c.t.d.def_ 35 (d := dD "_law_with_other" st__law_with_other) rfl).elim fun fd F => ⟨_, fd, He.glo_ok X G (c.t.d.fact 35 (f := .glo "_law_with_other") rfl), F⟩⟩
  a__law_great := ⟨(c.t.d.def_ 36 (d := dD "_law_great" st__law_great) rfl).elim fun fd F => ⟨_, fd, He.glo_ok X G (c.t.d.fact 36 (f := .glo "_law_great") rfl), F⟩⟩
  a__law_turned := ⟨(c.t.d.def_ 37 (d := dD "_law_turned" st__law_turned) rfl).elim fun fd F => ⟨_, fd, He.glo_ok X G (c.t.d.fact 37 (f := .glo "_law_turned") rfl), F⟩⟩
  a__law_great_right := ⟨(c.t.d.def_ 38 (d := dD "_law_great_right" st__law_great_right) rfl).elim fun fd F => ⟨_, fd, He.glo_ok X G (c.t.d.fact 38 (f := .glo "_law_great_right") rfl), F⟩⟩
  a__law_right := ⟨(c.t.d.def_ 39 (d := dD "_law_right" st__law_right) rfl).elim fun fd F => ⟨_, fd, He.glo_ok X G (c.t.d.fact 39 (f := .glo "_law_right") rfl), F⟩⟩
  a_law := ⟨(c.t.d.def_ 40 (d := dD "law" st_law) rfl).elim fun fd F => ⟨_, fd, He.glo_ok X G (c.t.d.fact 40 (f := .glo "law") rfl), F⟩⟩
theorem facts {P : Program} {w : World} {K : PySem.W.Frag} {h : Heap} {mg : Str → Option Value} {f : Addr} (X : K.In h) (G : h.Ns mainGlobals mg) (hfa : mg ("law" : Str) = some (.ref f)) (c : He.SaysX fal fnl tsl [] ex w h K) :
    ∃ fd : FuncData, (∀ (s : Shared) (v : Value), BindsTo s fd ⟨[v], []⟩ [("script", v)]) ∧ ∀ base : Heap, FnG P w K mg base 17 f fd ["script"] (spP K 1 pre_law) := by
  have F := fx_of X G c
  obtain ⟨f', fd, hm, A⟩ := F.a_law.ex
  have e := hm
  rw [hfa] at e
  cases e
  refine ⟨fd, fun s v => FunD.bindsA (ps := ["script"]) A bn_law s [v] rfl, fun base => ?_⟩
  obtain ⟨f2, fd2, hm2, H, _, _, oc, od, osl, lk⟩ := (ok_law (P := P) (w := w) (base := base) F).ex
  have e := hm2
  rw [hfa] at e
  cases e
  obtain ⟨oc', od', dV, kV, doc, pm, an, cdv, ct, osl', e, lk', _⟩ := A.ex
  rw [lk] at lk'
  cases lk'
  exact H
end PD
open PySem PySem.W PySem.Calls PyProof.Rows
theorem PySem.Challenge.cw_facenumbers_k35_claims_of_m_sequences_holds : PySem.Challenge.rw_facenumbers_k35_claims_of_m_sequences.Holds := by
  w_on; o_law
  refine HandSHeadRun.head_imp (r := OpenLaw.row PySem.Challenge.rw_facenumbers_k35_claims_of_m_sequences) (q := view (OpenLaw.row PySem.Challenge.rw_facenumbers_k35_claims_of_m_sequences).prog [0, 1, 154]) (H := PD.hk) (ob := PD.ob) (M := 1000000) (loose := PD.loosel) (d := HandSHeadRun.topDef (OpenLaw.row PySem.Challenge.rw_facenumbers_k35_claims_of_m_sequences).prog 154) (kwd := []) PD.ob_eq
    PD.run (by kernel_rfl) (by kernel_rfl) (by kernel_rfl) (by rfl) (by first | assumption | decide +kernel) (by decide +kernel) ⟨rfl, rfl, rfl, rfl, rfl, by decide +kernel⟩ ?hw ?hc
  case hw => w_witness2
  case hc =>
    refine PD.walk_g (l := PySem.Challenge.rw_facenumbers_k35_claims_of_m_sequences) (n := 63) (k := 17) (x := "script") rfl (by decide) (by kernel_rfl) (PD.rg_caller ⟨rfl, by decide, by decide⟩) ?F
    intro w mg fa h Y G hmg0
    obtain ⟨K, KX, c⟩ := Y
    have hmg : mg ("law" : PySem.Str) = some (.ref fa) := by
      have e : (HandSHeadRun.topDef (OpenLaw.row PySem.Challenge.rw_facenumbers_k35_claims_of_m_sequences).prog 154).name = ("law" : PySem.Str) := by kernel_rfl
      rw [← e]
      exact hmg0
    obtain ⟨fd, hb, hF⟩ := PD.facts (P := (PySem.Challenge.rw_facenumbers_k35_claims_of_m_sequences).prog) (w := w) KX G hmg c
    refine ⟨K, fd, PD.spP K 1 PD.pre_law, KX, hb, fun H a ns hl hbits hS => ?_, fun base _ _ => hF base⟩
    exact ⟨H, [.scr ns], fun d => d = .bl true, rfl, fun _ _ e => e, .cons (.scr hS) .nil, PD.law_ok hl rfl, fun d v G' H' e _ _ _ _ q => by subst e; cases q; rfl⟩
