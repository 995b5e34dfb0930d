import PyProof.Rows.All
import Wide.All
import OpenK.AllK
import Wide.FinOn
import KE.RegKIsAll
import HandS.ForMost
import HandS.TupSets
import HandS.ForExc
import HandS.IsInst
import HandS.ExcIs
import HandS.HotCalls
import HandS.SortRule
import HandS.SortInts
import HandS.Flow
import HandS.More
import HandS.Evl
import HandS.Walk
import HandS.Deep
import PyProof.P3Eq
import HandS.Style
import PySem.Challenge.RW_oddpairs_k04_ways_turned
set_option Elab.async false
set_option linter.all false
set_option maxRecDepth 100000
set_option maxHeartbeats 4000000
/-! len(set(pairs)) for up to a thousand tuples: the tables of 8, 32, 128, 512, 2048 slots. -/
namespace OP
open PySem PySem.Spec PyProof.Rows L2

/-! ### the orbit of i -> 5 i + 1 modulo a power of two, as a set of bits -/
def Mk (m : Nat) : Prop := m = 7 ∨ m = 31 ∨ m = 127 ∨ m = 511 ∨ m = 2047
def orb (m : Nat) : Nat → Nat → Nat → Nat × Nat
  | 0, x, acc => (x, acc)
  | n + 1, x, acc => bif Nat.beq x 5000 then (0, 0) else bif Nat.beq acc (2 ^ 5000) then (0, 0) else orb m n ((x * 5 + 1) % (m + 1)) (Nat.lor acc (Nat.shiftLeft 1 x))
theorem orb_spec (m : Nat) : ∀ (n b acc : Nat), (orb m n (lcgN m b) acc).2 ≠ 0 →
    (orb m n (lcgN m b) acc).1 = lcgN m (b + n) ∧ ∀ j, (orb m n (lcgN m b) acc).2.testBit j = true → acc.testBit j = true ∨ ∃ b', b ≤ b' ∧ b' < b + n ∧ lcgN m b' = j
  | 0, b, acc, _ => ⟨rfl, fun j h => .inl h⟩
  | n + 1, b, acc, hne => by
    unfold orb at hne ⊢
    cases c1 : Nat.beq (lcgN m b) 5000 with
    | true => rw [c1] at hne; exact absurd rfl hne
    | false =>
      cases c2 : Nat.beq acc (2 ^ 5000) with
      | true => rw [c1, c2] at hne; exact absurd rfl hne
      | false =>
        rw [c1, c2] at hne
        simp only [cond_false] at hne ⊢
        have ih := orb_spec m n (b + 1) (Nat.lor acc (Nat.shiftLeft 1 (lcgN m b))) hne
        refine ⟨ih.1.trans (by rw [show b + 1 + n = b + (n + 1) by omega]), fun j hj => ?_⟩
        rcases ih.2 j hj with h | ⟨b', h1, h2, h3⟩
        · have h' : (acc ||| (1 <<< lcgN m b)).testBit j = true := h
          rw [Nat.testBit_or, Bool.or_eq_true] at h'
          rcases h' with h' | h'
          · exact .inl h'
          · rw [Nat.one_shiftLeft, Nat.testBit_two_pow] at h'
            exact .inr ⟨b, Nat.le_refl _, by omega, of_decide_eq_true h'⟩
        · exact .inr ⟨b', by omega, by omega, h3⟩
theorem orb7 : orb 7 8 0 0 = (0, 2 ^ 8 - 1) := by decide +kernel
theorem orb31 : orb 31 32 0 0 = (0, 2 ^ 32 - 1) := by decide +kernel
theorem orb127 : orb 127 128 0 0 = (0, 2 ^ 128 - 1) := by decide +kernel
theorem orb511 : orb 511 512 0 0 = (0, 2 ^ 512 - 1) := by decide +kernel
theorem orb2047 : orb 2047 2048 0 0 = (0, 2 ^ 2048 - 1) := by decide +kernel
theorem orb_all {m : Nat} (hm : Mk m) : orb m (m + 1) 0 0 = (0, 2 ^ (m + 1) - 1) := by
  rcases hm with e | e | e | e | e <;> subst e
  · exact orb7
  · exact orb31
  · exact orb127
  · exact orb511
  · exact orb2047
theorem round_back {m : Nat} (hm : Mk m) : lcgN m (m + 1) = 0 := by
  have e := orb_all hm
  have pos : 0 < 2 ^ (m + 1) - 1 := by
    have := Nat.one_lt_two_pow (n := m + 1) (by omega)
    omega
  have s := orb_spec m (m + 1) 0 0 (by show (orb m (m + 1) 0 0).2 ≠ 0; rw [e]; exact Nat.ne_of_gt pos)
  have s1 : (orb m (m + 1) 0 0).1 = lcgN m (0 + (m + 1)) := s.1
  rw [e, Nat.zero_add] at s1
  exact s1.symm
theorem round_hits {m : Nat} (hm : Mk m) {j : Nat} (hj : j ≤ m) : ∃ b, b ≤ m ∧ lcgN m b = j := by
  have e := orb_all hm
  have pos : 0 < 2 ^ (m + 1) - 1 := by
    have := Nat.one_lt_two_pow (n := m + 1) (by omega)
    omega
  have s := orb_spec m (m + 1) 0 0 (by show (orb m (m + 1) 0 0).2 ≠ 0; rw [e]; exact Nat.ne_of_gt pos)
  have s2 : ∀ j, (orb m (m + 1) 0 0).2.testBit j = true → (0 : Nat).testBit j = true ∨ ∃ b', 0 ≤ b' ∧ b' < 0 + (m + 1) ∧ lcgN m b' = j := s.2
  rw [e] at s2
  rcases s2 j (by rw [Nat.testBit_two_pow_sub_one]; exact decide_eq_true (Nat.lt_succ_of_le hj)) with h | ⟨b, _, h2, h3⟩
  · rw [Nat.zero_testBit] at h
    cases h
  · exact ⟨b, by omega, h3⟩
theorem round_again {m : Nat} (hm : Mk m) (k : Nat) : lcgN m (m + 1 + k) = lcgN m k := by
  induction k with
  | zero => exact round_back hm
  | succ k ih =>
    have e : lcgN m (m + 1 + (k + 1)) = (lcgN m (m + 1 + k) * 5 + 1) % (m + 1) := rfl
    rw [e, ih] <;> rfl
theorem from_any {m : Nat} (hm : Mk m) {i j : Nat} (hi : i ≤ m) (hj : j ≤ m) : ∃ k, k ≤ m ∧ lcgI m i k = j := by
  obtain ⟨p, hp, ep⟩ := round_hits hm hi
  obtain ⟨q, hq, eq⟩ := round_hits hm hj
  subst ep
  by_cases c : p ≤ q
  · exact ⟨q - p, by omega, by rw [lcgN_add, show p + (q - p) = q by omega, eq]⟩
  · exact ⟨m + 1 + q - p, by omega, by rw [lcgN_add, show p + (m + 1 + q - p) = m + 1 + q by omega, round_again hm, eq]⟩
theorem starts {m : Nat} (hm : Mk m) (h : Int) {j : Nat} (hj : j ≤ m) : ∃ n, n ≤ m + 12 ∧ runI m (SetTable.bits h) n = j :=
  let ⟨k, hk, e⟩ := from_any hm (runI_le m (SetTable.bits h) 12) hj
  ⟨12 + k, by omega, (runI_tail (bits_lt h) k).trans e⟩
theorem meets_slot {m : Nat} (hm : Mk m) (h : Int) {j : Nat} (hj : j ≤ m) : ∃ k, k < 10 * SetTable.turns m ∧ way m h k = j := by
  obtain ⟨n, hn, e⟩ := starts hm h hj
  obtain ⟨k, hk, e2⟩ := run_nth m (SetTable.bits h) n
  exact ⟨k, by unfold SetTable.turns; omega, by show (nth m _ k).j = j; rw [e2]; exact e⟩
theorem way_in (m : Nat) (h : Int) (k : Nat) : way m h k ≤ m := by
  have h1 : SetTable.bits h % (m + 1) ≤ m := Nat.le_of_lt_succ (Nat.mod_lt _ (Nat.succ_pos m))
  have h2 := runEnd_bd h1
  have h3 : (nth m (runAt m (SetTable.bits h % (m + 1)) (SetTable.bits h)) k).j + (nth m (runAt m (SetTable.bits h % (m + 1)) (SetTable.bits h)) k).more ≤ m :=
    nth_in k _ (by unfold runAt; dsimp only; omega)
  exact Nat.le_trans (Nat.le_add_right _ _) h3

/-! ### tables whose entries are found again -/
structure Tb (t : SetTable) (hs : List Int) : Prop where
  ris : Ris t.place.toList
  dm : t.dummies = #[]
  len : t.place.toList.length = hs.length
  okm : Mk t.mask
  found : ∀ (i : Nat) (h : Int) (j : Nat), hs[i]? = some h → t.place.toList[i]? = some j → ∃ k, way t.mask h k = j ∧ ∀ k', k' < k → way t.mask h k' ∈ t.place.toList
theorem Tb.gap {t : SetTable} {hs : List Int} (T : Tb t hs) (hl : hs.length ≤ t.mask) (h : Int) :
    ∃ N, N < 10 * SetTable.turns t.mask ∧ way t.mask h N ∉ t.place.toList ∧ ∀ k, k < N → way t.mask h k ∈ t.place.toList := by
  obtain ⟨j, hj, hn⟩ := st_missing t.place.toList (t.mask + 1) (by have := T.len; omega)
  obtain ⟨k, hk, e⟩ := meets_slot T.okm h (Nat.le_of_lt_succ hj)
  obtain ⟨N, h1, h2, h3⟩ := st_least (p := fun q => way t.mask h q ∉ t.place.toList) k (fun hm => hn (by rw [← e]; exact hm))
  exact ⟨N, Nat.lt_of_le_of_lt h1 hk, h2, fun q hq => Classical.byContradiction fun z => h3 q hq z⟩
theorem Tb.ahead {t : SetTable} {hs : List Int} (T : Tb t hs) {h : Int} {N i j : Nat} (hN : way t.mask h N ∉ t.place.toList) (hi : hs[i]? = some h) (hj : t.place.toList[i]? = some j) : ∃ k, k < N ∧ way t.mask h k = j := by
  obtain ⟨k, e, hb⟩ := T.found i h j hi hj
  refine ⟨k, Nat.lt_of_not_le fun c => ?_, e⟩
  rcases Nat.eq_or_lt_of_le c with z | z
  · exact hN (by rw [z, e]; exact List.mem_of_getElem? hj)
  · exact hN (hb N z)
theorem Tb.grow {t : SetTable} {hs : List Int} (T : Tb t hs) {h : Int} {N j : Nat} (ej : way t.mask h N = j) (hN : j ∉ t.place.toList) (hb : ∀ k, k < N → way t.mask h k ∈ t.place.toList) :
    SetTable.below t.place j ≤ hs.length ∧ Tb (t.put j).1 (hs.take (SetTable.below t.place j) ++ h :: hs.drop (SetTable.below t.place j)) ∧ (t.put j).1.fill = hs.length + 1 := by
  have cut := (below_cut T.ris j).1
  have hlen := T.len
  have hb1 : SetTable.below t.place j ≤ t.place.toList.length := by rw [Array.length_toList]; exact cut
  have hb2 : SetTable.below t.place j ≤ hs.length := by omega
  have new : t.place[SetTable.below t.place j]? ≠ some j := fun e => hN (List.mem_of_getElem? (i := SetTable.below t.place j) (by rw [Array.getElem?_toList, e]))
  have pl := put_place t j
  have more : ∀ x, x ∈ t.place.toList → x ∈ (t.put j).1.place.toList := fun x hx => by rw [pl]; exact mem_ins.mpr (.inr hx)
  have ln : (t.put j).1.place.toList.length = hs.length + 1 := by rw [pl, len_ins _ hb1, hlen]
  refine ⟨hb2, ⟨ris_insert T.ris new, put_dm T.dm j, by rw [ln, len_ins _ hb2], T.okm, ?_⟩, ?_⟩
  · intro i h' j' e1 e2
    rw [tins_get hs hb2] at e1
    rw [pl, tins_get _ hb1] at e2
    have old : ∀ q, hs[q]? = some h' → t.place.toList[q]? = some j' → ∃ k, way (t.put j).1.mask h' k = j' ∧ ∀ k', k' < k → way (t.put j).1.mask h' k' ∈ (t.put j).1.place.toList := fun q a b =>
      let ⟨k, z1, z2⟩ := T.found q h' j' a b
      ⟨k, z1, fun k' hk' => more _ (z2 k' hk')⟩
    split at e1
    · rename_i c
      rw [if_pos c] at e2
      exact old i e1 e2
    · rename_i c
      rw [if_neg c] at e2
      split at e1
      · rename_i d
        rw [if_pos d] at e2
        cases e1
        cases e2
        exact ⟨N, ej, fun k' hk' => more _ (hb k' hk')⟩
      · rename_i d
        rw [if_neg d] at e2
        exact old (i - 1) e1 e2
  · unfold SetTable.fill
    rw [put_dm T.dm j, ← Array.length_toList, ln] <;> rfl

/-! ### a table laid anew -/
theorem open_slot {m : Nat} (hm : Mk m) (owner : Array (Option Nat)) (h : Int) {j : Nat} (hj : j ≤ m) (hf : oAt owner j = none) :
    ∃ N, SetTable.layClean.free m owner (SetTable.turns m) (SetTable.bits h % (m + 1)) (SetTable.bits h) = some (way m h N) ∧ oAt owner (way m h N) = none ∧ ∀ k, k < N → oAt owner (way m h k) ≠ none := by
  obtain ⟨n, hn, e⟩ := starts hm h hj
  have at_n : way m h (off m (SetTable.bits h % (m + 1)) (SetTable.bits h) n) = j := by
    unfold way
    rw [nth_off, itL_run]
    exact e
  obtain ⟨N, b1, b2, b3⟩ := st_least (p := fun k => oAt owner (way m h k) = none) _ (show oAt owner (way m h (off m (SetTable.bits h % (m + 1)) (SetTable.bits h) n)) = none by rw [at_n]; exact hf)
  refine ⟨N, free_spec m owner _ n _ _ N (by unfold SetTable.turns; omega) b1 (fun k hk => ?_) ?_, b2, b3⟩
  · have z := b3 k hk
    rw [← Option.isNone_iff_eq_none, Bool.not_eq_true] at z
    exact z
  · rw [Option.isNone_iff_eq_none]
    exact b2
theorem seat {m : Nat} (hm : Mk m) {done : List Int} {owner : Array (Option Nat)} (W : Own m done owner) (hl : done.length ≤ m) (h : Int) :
    ∃ j, SetTable.layClean.free m owner (SetTable.turns m) (SetTable.bits h % (m + 1)) (SetTable.bits h) = some j ∧ Own m (done ++ [h]) (owner.setIfInBounds j (some done.length)) := by
  obtain ⟨ps, lps, ips⟩ := W.ps
  obtain ⟨j0, hj0, nj0⟩ := st_missing ps (m + 1) (by omega)
  have f0 : oAt owner j0 = none := Classical.byContradiction fun z => nj0 (ips j0 (Nat.le_of_lt_succ hj0) z)
  obtain ⟨N, e1, e2, e3⟩ := open_slot hm owner h (Nat.le_of_lt_succ hj0) f0
  have inb := way_in m h N
  refine ⟨_, e1, ?_⟩
  generalize ej : way m h N = j at e1 e2 inb ⊢
  have here : oAt (owner.setIfInBounds j (some done.length)) j = some done.length := oAt_set_self _ (by rw [W.sz]; omega)
  have there : ∀ i, i ≠ j → oAt (owner.setIfInBounds j (some done.length)) i = oAt owner i := fun i hi => oAt_set_ne _ hi
  have stay : ∀ i, oAt owner i ≠ none → oAt (owner.setIfInBounds j (some done.length)) i ≠ none := fun i hi => by
    by_cases c : i = j
    · rw [c, here]; intro z; cases z
    · rw [there i c]; exact hi
  constructor
  · rw [Array.size_setIfInBounds]; exact W.sz
  · intro i k hi e
    by_cases c : i = j
    · subst c
      rw [here] at e
      cases e
      refine ⟨h, N, ?_, ej, fun k' hk' => stay _ (e3 k' hk')⟩
      simp
    · rw [there i c] at e
      obtain ⟨h', N', z1, z2, z3⟩ := W.at_ i k hi e
      exact ⟨h', N', by rw [List.getElem?_append_left (List.getElem?_eq_some_iff.mp z1).1]; exact z1, z2, fun k' hk' => stay _ (z3 k' hk')⟩
  · intro k hk
    rw [List.length_append, List.length_singleton] at hk
    rcases Nat.lt_or_eq_of_le (Nat.le_of_lt_succ hk) with c | c
    · obtain ⟨i, hi, e⟩ := W.all k c
      exact ⟨i, hi, by rw [there i (fun z => by rw [z, e2] at e; cases e)]; exact e⟩
    · exact ⟨j, inb, by rw [c]; exact here⟩
  · refine ⟨j :: ps, by simp [lps], fun i hi e => ?_⟩
    by_cases c : i = j
    · rw [c]; exact List.mem_cons_self
    · rw [there i c] at e
      exact List.mem_cons_of_mem _ (ips i hi e)
theorem seats {m : Nat} (hm : Mk m) : ∀ (rest done : List Int) (owner : Array (Option Nat)), Own m done owner → done.length + rest.length ≤ m →
    ∃ o', rest.foldl (stepF m) (some (owner, done.length)) = some (o', (done ++ rest).length) ∧ Own m (done ++ rest) o' := by
  intro rest
  induction rest with
  | nil =>
    intro done owner W _
    exact ⟨owner, by simp, by simpa using W⟩
  | cons h rest ih =>
    intro done owner W hl
    simp only [List.length_cons] at hl
    obtain ⟨j, e, W1⟩ := seat hm W (by omega) h
    obtain ⟨o', f, W2⟩ := ih (done ++ [h]) _ W1 (by simp only [List.length_append, List.length_singleton]; omega)
    refine ⟨o', ?_, by simpa using W2⟩
    rw [List.foldl_cons, stepF_some e]
    simpa using f
theorem laid_anew (t : SetTable) {hs : Array Int} {wanted M : Nat} (hw : SetTable.sizeAbove wanted - 1 = M) (hM : Mk M) (hn : hs.size ≤ M) :
    ∃ t' order, t.relaid hs wanted = some (t', order) ∧ order.toList.Perm (List.range hs.size) ∧ Tb t' (order.toList.map fun i => hs.getD i 0) ∧ t'.mask = M ∧ t'.led = t.led ∧ t'.plain = t.plain := by
  obtain ⟨ow, f, W⟩ := seats hM hs.toList [] _ (Own.init M) (by simpa using hn)
  have lc : SetTable.layClean M hs = some ow := by
    rw [layClean_eq]
    have f' : hs.toList.foldl (stepF M) (some (Array.replicate (M + 1) none, 0)) = _ := f
    rw [f'] <;> rfl
  rw [List.nil_append] at W
  have inl := @mem_live M ow W.sz
  have rr := ris_live (fun j => ow.getD j none) (List.range (M + 1)) (by unfold Ris; exact List.pairwise_lt_range)
  have r1 : Ris ((liveOf M ow).map (·.1)) := rr.1
  have d1 : ((liveOf M ow).map (·.1)).Nodup := List.Pairwise.imp (fun z => Nat.ne_of_lt z) r1
  have n1 : (liveOf M ow).length = hs.size := by
    obtain ⟨ps, p1, p2⟩ := W.ps
    have up := nat_nodup_len ((liveOf M ow).map (·.1)) ps d1 (by
      intro x hx
      obtain ⟨⟨y, k⟩, hq, rfl⟩ := List.mem_map.mp hx
      have z := inl.mp hq
      exact p2 _ z.1 (by rw [z.2]; intro c; cases c))
    have lo := nat_nodup_len (List.range hs.size) ((liveOf M ow).map (·.2)) List.nodup_range (by
      intro k hk
      obtain ⟨j, z1, z2⟩ := W.all k (by simpa using hk)
      exact List.mem_map.mpr ⟨(j, k), inl.mpr ⟨z1, z2⟩, rfl⟩)
    simp only [List.length_map, List.length_range, Array.length_toList] at up lo p1
    omega
  refine ⟨tabOf t M ow, ((liveOf M ow).map (·.2)).toArray, by rw [relaid_eq, hw, lc] <;> rfl, ?_, ⟨r1, rfl, ?_, hM, ?_⟩, rfl, rfl, rfl⟩
  · refine perm_range hs.size _ (by simpa using n1) fun k hk => ?_
    obtain ⟨j, z1, z2⟩ := W.all k (by simpa using hk)
    exact List.mem_map.mpr ⟨(j, k), inl.mpr ⟨z1, z2⟩, rfl⟩
  · show ((liveOf M ow).map (·.1)).length = _
    simp
  · intro i h j e1 e2
    have e1' : (((liveOf M ow).map (·.2)).map fun i => hs.getD i 0)[i]? = some h := e1
    have e2' : ((liveOf M ow).map (·.1))[i]? = some j := e2
    cases hq : (liveOf M ow)[i]? with
    | none => simp [hq] at e2'
    | some q =>
      obtain ⟨y, k⟩ := q
      simp only [List.getElem?_map, hq, Option.map_some, Option.some.injEq] at e1' e2'
      subst e2'
      have z := inl.mp (List.mem_of_getElem? hq)
      obtain ⟨h0, N, a1, a2, a3⟩ := W.at_ y k z.1 z.2
      have eh : hs.getD k 0 = h0 := by
        rw [Array.getElem?_toList] at a1
        simp [Array.getD_eq_getD_getElem?, a1]
      have eh' : h0 = h := eh.symm.trans e1'
      subst eh'
      refine ⟨N, a2, fun k' hk' => ?_⟩
      show way M h0 k' ∈ (liveOf M ow).map (·.1)
      obtain ⟨c, hc⟩ := Option.ne_none_iff_exists'.mp (a3 k' hk')
      exact List.mem_map.mpr ⟨(way M h0 k', c), inl.mpr ⟨way_in M h0 k', hc⟩, rfl⟩
end OP

namespace OP
open PySem PySem.Spec PyProof.Rows L2
section
variable {P : Program} {w : World} {A : Around} {E : Value → Shared → Prop} {s : Shared} {a : Addr} {L : List (Addr × List Int)} {es : Array (Int × Value)} {ep : Nat} {t : SetTable}
/-- a set of tuples of ints at a -/
structure Tp (P : Program) (w : World) (h : Heap) (a : Addr) (L : List (Addr × List Int)) (es : Array (Int × Value)) (ep : Nat) (t : SetTable) : Prop where
  tab : Tb t (L.map fun p => thash P w p.2)
  room : L.length * 5 < t.mask * 3
  few : L.length < 1000
  rows : es.toList = rowsOf P w L
  keys : (L.map (·.2)).Nodup
  tups : ∀ p ∈ L, IsT P w h p.2 p.1
  plain : t.plain = true
  led : w.params.followText "set-order" = true ∨ t.led = true
  obj : ∃ o, h.get? a = some o ∧ o.ExactSet ∧ o.data = .set es ep t
theorem rows_size (h : es.toList = rowsOf P w L) : es.size = L.length := by
  rw [← Array.length_toList, h]
  simp [rowsOf]
theorem rows_at (h : es.toList = rowsOf P w L) {i : Nat} {p : Addr × List Int} (hp : L[i]? = some p) : es[i]? = some (thash P w p.2, Value.ref p.1) := by
  rw [← Array.getElem?_toList, h]
  simp [rowsOf, hp]
theorem Tb.fits {hs : List Int} (T : Tb t hs) {n : Nat} (hn : n = hs.length) (hm : n ≤ t.mask) : t.fits n = true := by
  have q := T.len
  rw [Array.length_toList] at q
  unfold SetTable.fits SetTable.fill
  rw [T.dm]
  simp
  omega
theorem Mk.odd {m : Nat} (h : Mk m) : m % 2 = 1 := by
  unfold Mk at h
  omega
theorem Mk.small {m : Nat} (h : Mk m) : m ≤ 2047 := by
  unfold Mk at h
  omega
theorem Tp.fits (R : Tp P w s.heap a L es ep t) : t.fits es.size = true := by
  have := R.room
  exact R.tab.fits (by rw [rows_size R.rows, List.length_map]) (by rw [rows_size R.rows]; omega)
theorem nth_dummy (m : Nat) : ∀ (n : Nat) (p : SetTable.Probe), (nth m p n).dummy = p.dummy
  | 0, _ => rfl
  | n + 1, p => (nth_dummy m n (adv m p)).trans (by unfold adv; split <;> rfl)
/-- the search among tuples, from the c-th slot of its way on -/
theorem seek (R : Tp P w s.heap a L es ep t) {x : Addr} {k : List Int} (hx : IsT P w s.heap k x) (hu : A.units < cLine) {N : Nat} (hNf : N < 10 * SetTable.turns t.mask)
    (hN : way t.mask (thash P w k) N ∉ t.place.toList) (hNb : ∀ c, c < N → way t.mask (thash P w k) c ∈ t.place.toList) {Q : SetFound → Shared → Prop}
    (yes : k ∈ L.map (·.2) → Q (.there none) s) (no : k ∉ L.map (·.2) → Q (.free (way t.mask (thash P w k) N) false) s) :
    ∀ (d c f : Nat) (stand : Option SetTable.Probe), d = N - c → c ≤ N → d < f →
      stand.getD (t.probeStart (thash P w k)) = nth t.mask (runAt t.mask (SetTable.bits (thash P w k) % (t.mask + 1)) (SetTable.bits (thash P w k))) c →
      (∀ (i : Nat) p, L[i]? = some p → p.2 = k → ∃ c', c ≤ c' ∧ c' < N ∧ t.place.toList[i]? = some (way t.mask (thash P w k) c')) →
      wpAny (model P w) A (setSearchFrom a (.ref x) (thash P w k) true f stand) Q E s := by
  have start0 : ∀ c q, nth t.mask (nth t.mask (runAt t.mask (SetTable.bits (thash P w k) % (t.mask + 1)) (SetTable.bits (thash P w k))) c) q
      = nth t.mask (runAt t.mask (SetTable.bits (thash P w k) % (t.mask + 1)) (SetTable.bits (thash P w k))) (c + q) := fun c q => (nth_add t.mask c _ q).symm
  obtain ⟨o, ho, hex, hd⟩ := R.obj
  have gw : ¬ t.gaveWay = true := by
    unfold SetTable.gaveWay
    rw [R.tab.okm.odd]
    decide
  intro d
  induction d using Nat.strongRecOn with
  | ind d ih =>
    intro c f stand hdc hcN hdf hst hre
    match f, hdf with
    | f + 1, hdf =>
      rw [setSearchFrom_succ]
      refine wpAny_bind (wpAny_setState_of ho hd R.fits ?_)
      dsimp only
      refine wp_if_neg gw ?_
      try refine wpAny_bind (wpAny_pure ?_)
      have hashes : ∀ (i : Nat) p, L[i]? = some p → (fun i => (es[i]?.map (·.1)).getD 0) i = thash P w p.2 := fun i p hp => by
        dsimp only
        rw [rows_at R.rows hp] <;> rfl
      have G := go_spec t R.tab.ris R.tab.dm (fun i => (es[i]?.map (·.1)).getD 0) (thash P w k) (10 * SetTable.turns t.mask) (N - c)
        (nth t.mask (runAt t.mask (SetTable.bits (thash P w k) % (t.mask + 1)) (SetTable.bits (thash P w k))) c) (nth_dummy _ c _) (by omega)
        (fun q hq => by rw [start0]; exact hNb (c + q) (by omega)) (by rw [start0, show c + (N - c) = N by omega]; exact hN)
      rw [← hst] at G
      rcases G with ⟨q, i, hq, hi, hh, none_before, eq⟩ | ⟨none_at_all, eq⟩
      · -- a slot with the same hash
        rw [hst, start0, start0] at eq
        rw [hst, start0] at hi
        have eq' : t.probe (fun i => (es[i]?.map (·.1)).getD 0) (thash P w k) (stand.getD (t.probeStart (thash P w k))) = some (.candidate (way t.mask (thash P w k) (c + q)) i (nth t.mask (runAt t.mask (SetTable.bits (thash P w k) % (t.mask + 1)) (SetTable.bits (thash P w k))) (c + (q + 1)))) := by
          rw [hst]
          exact eq
        rw [eq']
        dsimp only
        have il : i < L.length := by
          have z1 := (List.getElem?_eq_some_iff.mp hi).1
          have z2 := R.tab.len
          rw [List.length_map] at z2
          omega
        obtain ⟨p, hp⟩ : ∃ p, L[i]? = some p := ⟨L[i], List.getElem?_eq_getElem il⟩
        have pin := List.mem_of_getElem? hp
        have sl : t.slot (way t.mask (thash P w k) (c + q)) = .live i := slot_live R.tab.ris hi
        have body : wpAny (model P w) A (searchRest a (.ref x) (thash P w k) true f es t (way t.mask (thash P w k) (c + q)) i (nth t.mask (runAt t.mask (SetTable.bits (thash P w k) % (t.mask + 1)) (SetTable.bits (thash P w k))) (c + (q + 1)))) Q E s := by
          unfold searchRest
          rw [rows_at R.rows hp]
          dsimp only
          refine wpAny_bind (wpAny_holding (wpAny_eqBool_tuple hu (R.tups p pin) hx ?_))
          refine wpAny_bind (wpAny_setState_of ho hd R.fits ?_)
          dsimp only
          by_cases same : p.2 = k
          · refine wp_if_pos (by simp [same]) (wpAny_pure (yes ?_))
            exact List.mem_map.mpr ⟨p, pin, same⟩
          · refine wp_if_neg (by simp [same]) ?_
            try refine wpAny_bind (wpAny_pure ?_)
            rw [sameMem]
            dsimp only
            simp only [if_true, sl, rows_at R.rows hp]
            refine wpAny_bind (wpAny_isSame_ref_self (wpAny_bind (wpAny_pure ?_)))
            simp only [if_true]
            refine wp_if_neg (by simp [same]) ?_
            refine ih (N - (c + (q + 1))) (by omega) (c + (q + 1)) f _ rfl (by omega) (by omega) rfl ?_
            intro i0 p0 h0 k0
            obtain ⟨c', a1, a2, a3⟩ := hre i0 p0 h0 k0
            refine ⟨c', Nat.lt_of_not_le fun z => ?_, a2, a3⟩
            rcases Nat.eq_or_lt_of_le z with z | z
            · have z : c' = c + q := z
              rw [z] at a3
              have two := slot_live R.tab.ris a3
              rw [sl] at two
              injection two with two
              rw [← two, hp] at h0
              cases h0
              exact same k0
            · have z : c' < c + q := z
              refine none_before (c' - c) i0 (by omega) ?_ ((hashes i0 p0 h0).trans (by rw [k0]))
              rw [hst, start0, show c + (c' - c) = c' by omega]
              exact a3
        by_cases hl : t.led = true
        · refine wp_if_neg (by simp [hl]) ?_
          try refine wpAny_bind (wpAny_pure ?_)
          exact body
        · refine wp_if_pos (by simp [hl]) (wpAny_bind (seen_tup hx (fun y hy => ?_) ?_))
          · obtain ⟨e, he, rfl⟩ := List.mem_map.mp hy
            have he' : e ∈ es.toList := by
              have : e ∈ es ∧ e.1 = thash P w k := by simpa using he
              simpa using this.1
            rw [R.rows] at he'
            obtain ⟨p2, hp2, rfl⟩ := List.mem_map.mp he'
            exact ⟨p2.2, p2.1, rfl, R.tups p2 hp2⟩
          · refine wp_if_neg (by decide) ?_
            try refine wpAny_bind (wpAny_pure ?_)
            exact body
      · rw [hst, start0, show c + (N - c) = N by omega] at eq
        have eq' : t.probe (fun i => (es[i]?.map (·.1)).getD 0) (thash P w k) (stand.getD (t.probeStart (thash P w k))) = some (.empty (way t.mask (thash P w k) N) none) := by
          rw [hst]
          exact eq
        rw [eq']
        dsimp only
        refine wpAny_pure (no fun z => ?_)
        obtain ⟨p0, h0, k0⟩ := List.mem_map.mp z
        obtain ⟨i0, h0'⟩ := List.getElem?_of_mem h0
        obtain ⟨c', a1, a2, a3⟩ := hre i0 p0 h0' k0
        refine none_at_all (c' - c) i0 (by omega) ?_ ((hashes i0 p0 h0').trans (by rw [k0]))
        rw [hst, start0, show c + (c' - c) = c' by omega]
        exact a3
theorem seek_all (R : Tp P w s.heap a L es ep t) {x : Addr} {k : List Int} (hx : IsT P w s.heap k x) (hu : A.units < cLine) {Q : SetFound → Shared → Prop}
    (yes : k ∈ L.map (·.2) → Q (.there none) s)
    (no : ∀ N, k ∉ L.map (·.2) → way t.mask (thash P w k) N ∉ t.place.toList → (∀ c, c < N → way t.mask (thash P w k) c ∈ t.place.toList) → Q (.free (way t.mask (thash P w k) N) false) s) :
    wpAny (model P w) A (setSearch a (.ref x) (thash P w k) true) Q E s := by
  have rm := R.room
  have sm := R.tab.okm.small
  obtain ⟨N, n1, n2, n3⟩ := R.tab.gap (by rw [List.length_map]; omega) (thash P w k)
  have n4 : N < 100000 := by
    unfold SetTable.turns at n1
    omega
  unfold setSearch
  refine seek R hx hu n1 n2 n3 yes (fun z => no N z n2 n3) N 0 100000 none (by omega) (Nat.zero_le _) n4 rfl fun i p hp hk => ?_
  have len := R.tab.len
  rw [List.length_map] at len
  have il : i < t.place.toList.length := by
    have := (List.getElem?_eq_some_iff.mp hp).1
    omega
  obtain ⟨c, c1, c2⟩ := R.tab.ahead (i := i) (j := t.place.toList[i]) n2 (by rw [List.getElem?_map, hp, ← hk] <;> rfl) (List.getElem?_eq_getElem il)
  exact ⟨c, Nat.zero_le _, c1, by rw [c2]; exact List.getElem?_eq_getElem il⟩
/-- the table is laid anew -/
theorem wider {o : Obj} (ho : s.heap.get? a = some o) (hex : o.ExactSet) (hd : o.data = .set es ep t) (rows : es.toList = rowsOf P w L) (T : Tb t (L.map fun p => thash P w p.2)) (hfl : es.size ≤ t.mask)
    (keys : (L.map (·.2)).Nodup) (tups : ∀ p ∈ L, IsT P w s.heap p.2 p.1) (pl : t.plain = true) (ld : w.params.followText "set-order" = true ∨ t.led = true) (few : L.length < 1000) {wanted M : Nat}
    (hw : SetTable.sizeAbove wanted - 1 = M) (hM : Mk M) (hn : L.length * 5 < M * 3) {Q : Unit → Shared → Prop}
    (hQ : ∀ h' L' es' ep' t', Heap.SameBut a s.heap h' → Tp P w h' a L' es' ep' t' → L'.Perm L → Q () { s with heap := h' }) : wpAny (model P w) A (setRelay a wanted) Q E s := by
  have sz := rows_size rows
  have sm := hM.small
  obtain ⟨t', order, e, pm, T', em, el, epl⟩ := laid_anew t (hs := es.map (·.1)) (wanted := wanted) hw hM (by rw [Array.size_map]; omega)
  rw [Array.size_map, sz] at pm
  obtain ⟨L2, r1, r2, r3⟩ := order_rows L es order rows pm
  rw [← r3] at T'
  have sz2 : (order.filterMap (es[·]?)).size = es.size := by rw [rows_size r1, r2.length_eq, sz]
  rw [setRelay_eq]
  refine wpAny_bind (wpAny_setState_of ho hd (T.fits (by rw [sz, List.length_map]) hfl) ?_)
  dsimp only
  refine wp_if_neg (by rw [sizeLine_eq]; omega) ?_
  try refine wpAny_bind (wpAny_pure ?_)
  rw [e]
  dsimp only
  refine wpAny_bind (wp_if_neg (by simp [sz2]) ?_)
  try refine wpAny_bind (wpAny_pure ?_)
  refine wpAny_pure ?_
  dsimp only
  refine wpAny_storeSet_of ho hd ?_ (by rw [sz2, sz, sizeLine_eq]; omega)
  have sb : Heap.SameBut a s.heap (s.heap.update a (Obj.putSet (order.filterMap (es[·]?)) t')) := Heap.SameBut.update ..
  refine hQ _ L2 _ (ep + 1) t' sb ⟨T', by rw [r2.length_eq, em]; exact hn, by rw [r2.length_eq]; exact few, r1, (r2.map (·.2)).nodup_iff.mpr keys, fun p hp => isT_same (tups p (r2.mem_iff.mp hp)) ho hd sb, by rw [epl]; exact pl, by rw [el]; exact ld,
    ⟨_, store_at ho hd, ⟨hex.1, hex.2.1, hex.2.2⟩, rfl⟩⟩ r2
theorem sizes_up (n m : Nat) (hM : Mk m) (h1 : n * 5 < m * 3) (h2 : ¬ (n + 1) * 5 < m * 3) (h3 : n < 1000) : ∃ M, SetTable.sizeAbove (SetTable.grown (n + 1)) - 1 = M ∧ Mk M ∧ (n + 1) * 5 < M * 3 ∧ n + 1 ≤ m := by
  rcases hM with e | e | e | e | e <;> subst e
  · have : n = 4 := by omega
    subst this
    exact ⟨31, by decide +kernel, .inr (.inl rfl), by omega, by omega⟩
  · have : n = 18 := by omega
    subst this
    exact ⟨127, by decide +kernel, .inr (.inr (.inl rfl)), by omega, by omega⟩
  · have : n = 76 := by omega
    subst this
    exact ⟨511, by decide +kernel, .inr (.inr (.inr (.inl rfl))), by omega, by omega⟩
  · have : n = 306 := by omega
    subst this
    exact ⟨2047, by decide +kernel, .inr (.inr (.inr (.inr rfl))), by omega, by omega⟩
  · omega
/-- one is added -/
theorem put_in (R : Tp P w s.heap a L es ep t) {x : Addr} {k : List Int} (hx : IsT P w s.heap k x) (hu : A.units < cLine) (few : L.length + 1 < 1000) {Q : Bool → Shared → Prop}
    (hQ : ∀ b h' L' es' ep' t', Heap.SameBut a s.heap h' → Tp P w h' a L' es' ep' t' → (k ∈ L.map (·.2) → L' = L) → (k ∉ L.map (·.2) → L'.Perm ((x, k) :: L)) → Q b { s with heap := h' }) :
    wpAny (model P w) A (setAddHashed a (.ref x) (thash P w k)) Q E s := by
  obtain ⟨o, ho, hex, hd⟩ := R.obj
  have sz := rows_size R.rows
  have rm := R.room
  unfold setAddHashed
  refine wpAny_holding ?_
  rw [show (100000 : Nat) = 99999 + 1 from rfl, setAddHashedIn_succ]
  refine wpAny_bind (wpAny_setState_of ho hd R.fits ?_)
  dsimp only
  refine wp_if_neg (by simp [byScan, Value.scannable]) ?_
  try refine wpAny_bind (wpAny_pure ?_)
  refine wpAny_bind (seek_all R hx hu (fun z => ?_) fun N hnew hN hNb => ?_)
  · dsimp only
    exact wpAny_pure (hQ false s.heap L es ep t (Heap.SameBut.refl a s.heap) R (fun _ => rfl) fun y => absurd z y)
  · dsimp only
    refine wpAny_bind (wpAny_setState_of ho hd R.fits ?_)
    dsimp only
    obtain ⟨j, ej⟩ : ∃ j, way t.mask (thash P w k) N = j := ⟨_, rfl⟩
    rw [ej] at hN ⊢
    obtain ⟨g1, g2, g3⟩ := R.tab.grow ej hN hNb
    have m1 : (t.put j).1.mask = t.mask := rfl
    have m2 : (t.put j).1.plain = true := R.plain
    have m3 : w.params.followText "set-order" = true ∨ (t.put j).1.led = true := R.led
    have m4 : (t.put j).2 = SetTable.below t.place j := rfl
    rw [← m4] at g1 g2
    generalize t.put j = tp at g1 g2 g3 m1 m2 m3 ⊢
    obtain ⟨t1, p⟩ := tp
    dsimp only at g1 g2 g3 m1 m2 m3 ⊢
    first
      | (refine wpAny_bind ?_; refine wp_if_pos m2 ?_; refine hashBy_tup hx ?_)
      | refine wp_if_pos m2 (wpAny_bind (hashBy_tup hx ?_))
    simp only [if_true]
    have rows1 : (SetTable.insertAt es p (thash P w k, Value.ref x)).toList = rowsOf P w (L.take p ++ (x, k) :: L.drop p) := by rw [SetTable.toList_insertAt, rows_put, R.rows]
    have pm := put_perm L p (x, k)
    have len1 : (L.take p ++ (x, k) :: L.drop p).length = L.length + 1 := pm.length_eq
    have hm : (L.map fun p => thash P w p.2).take p ++ thash P w k :: (L.map fun p => thash P w p.2).drop p = (L.take p ++ (x, k) :: L.drop p).map fun p => thash P w p.2 := by
      rw [List.map_append, List.map_cons, List.map_take, List.map_drop]
    rw [hm] at g2
    have keys1 : ((L.take p ++ (x, k) :: L.drop p).map (·.2)).Nodup := by
      refine (pm.map (·.2)).nodup_iff.mpr ?_
      rw [List.map_cons, List.nodup_cons]
      exact ⟨hnew, R.keys⟩
    generalize SetTable.insertAt es p (thash P w k, Value.ref x) = es1 at rows1 ⊢
    generalize L.take p ++ (x, k) :: L.drop p = L1 at pm len1 g2 keys1 rows1
    have sz1 := rows_size rows1
    refine wpAny_bind (wpAny_storeSet_of ho hd ?_ (by rw [sz1, sizeLine_eq]; omega))
    have sb : Heap.SameBut a s.heap (s.heap.update a (Obj.putSet es1 t1)) := Heap.SameBut.update ..
    have ho1 := store_at (es' := es1) (t' := t1) ho hd
    generalize s.heap.update a (Obj.putSet es1 t1) = h1 at sb ho1 ⊢
    have tups1 : ∀ p ∈ L1, IsT P w h1 p.2 p.1 := fun q hq => by
      rcases List.mem_cons.mp (pm.mem_iff.mp hq) with z | z
      · subst z; exact isT_same hx ho hd sb
      · exact isT_same (R.tups q z) ho hd sb
    rw [List.length_map] at g3
    have full : t1.tooFull = decide (¬ (L.length + 1) * 5 < t.mask * 3) := by
      unfold SetTable.tooFull
      rw [g3, m1]
      congr 1
      exact propext Nat.not_lt.symm
    rw [full]
    by_cases hf : (L.length + 1) * 5 < t.mask * 3
    · first
        | refine wp_if_neg (by simp [hf]) ?_
        | (refine wpAny_bind ?_; refine wp_if_neg (by simp [hf]) ?_; refine wpAny_pure ?_)
      exact wpAny_pure (hQ true h1 L1 es1 (ep + 1) t1 sb ⟨g2, by rw [len1, m1]; exact hf, by rw [len1]; exact few, rows1, keys1, tups1, m2, m3, ⟨_, ho1, ⟨hex.1, hex.2.1, hex.2.2⟩, rfl⟩⟩ (fun z => absurd z hnew) fun _ => pm)
    · obtain ⟨M, w1, w2, w3, w4⟩ := sizes_up L.length t.mask R.tab.okm rm hf R.few
      first
        | (refine wpAny_bind ?_; refine wp_if_pos (by simp [hf]) ?_)
        | (refine wp_if_pos (by simp [hf]) ?_; refine wpAny_bind ?_)
      rw [sz]
      refine wider (s := { s with heap := h1 }) ho1 ⟨hex.1, hex.2.1, hex.2.2⟩ rfl rows1 g2 (by rw [sz1, len1, m1]; exact w4) keys1 tups1 m2 m3 (by rw [len1]; exact few) w1 w2 (by rw [len1]; exact w3) ?_
      intro h2 L2 es2 ep2 t2 sb2 R2 pm2
      exact wpAny_pure (hQ true h2 L2 es2 ep2 t2 (sb.trans sb2) R2 (fun z => absurd z hnew) fun _ => pm2.trans pm)
theorem Tp.moved {h h' : Heap} (R : Tp P w h a L es ep t) (ha : ∀ o, h.get? a = some o → h'.get? a = some o) (ht : ∀ p ∈ L, IsT P w h' p.2 p.1) : Tp P w h' a L es ep t := by
  obtain ⟨o, ho, r⟩ := R.obj
  exact ⟨R.tab, R.room, R.few, R.rows, R.keys, ht, R.plain, R.led, ⟨o, ha o ho, r⟩⟩
theorem Tp.empty {h : Heap} (ho : h.get? a = some { cls := .type "set", dict := none, data := .set #[] 0 (.fresh 0 0 (!w.params.followText "set-order")) }) : Tp P w h a [] #[] 0 (.fresh 0 0 (!w.params.followText "set-order")) := by
  refine ⟨⟨List.Pairwise.nil, rfl, rfl, .inl rfl, fun i h j z => by simp at z⟩, by show 0 * 5 < 7 * 3; decide, by show 0 < 1000; decide, rfl, List.nodup_nil, (fun p z => nomatch z), rfl, ?_, ⟨_, ho, ⟨rfl, rfl, rfl⟩, rfl⟩⟩
  show _ ∨ (!w.params.followText "set-order") = true
  cases w.params.followText "set-order"
  · exact .inr rfl
  · exact .inl rfl
end
end OP

namespace OP
open PySem PySem.Spec PyProof.Rows L2
section
variable {P : Program} {w : World} {A : Around} {E : Value → Shared → Prop} {s : Shared}
/-- the loop behind set(xs): from the i-th item on -/
theorem fill_set {I : Addr} {fp wr : List Addr} {G : Array GenState → Array GenState → Prop} {n : Nat} {Pv : Nat → Value → Prop} {St : Nat → Shared → Prop} {R : Result → Shared → Prop}
    (W : WalksS P w A.in1 I fp wr G n Pv St) (S : Addr) (Sfp : S ∉ fp) (ks : List (Addr × List Int)) (en : n = ks.length) (few : ks.length < 1000) (items : ∀ i v, Pv i v → ∃ p, ks[i]? = some p ∧ v = .ref p.1)
    (g : Heap) (gk : ∀ p ∈ ks, IsT P w g p.2 p.1) (gS : g.get? S = none) (gw : ∀ b ∈ wr, g.get? b = none) (hu : A.in1.units < cLine)
    (hR : ∀ s0 s' L es ep t, Moved (S :: wr) G s0 s' → Tp P w s'.heap S L es ep t → Got ks n L → (∀ b o, g.get? b = some o → s'.heap.get? b = some o) → s0 = s → R (.ok (.ret .none)) s')
    : ∀ (d i : Nat) (s1 : Shared), d = n - i → i ≤ n → St i s1 → (∀ b o, g.get? b = some o → s1.heap.get? b = some o) → (∀ s2, Moved (S :: wr) G s1 s2 → Moved (S :: wr) G s s2) → (∃ L es ep t, Tp P w s1.heap S L es ep t ∧ Got ks i L) →
      codeAny (model P w) A (.builtin "set.update.loop" ⟨[.ref S, .ref I], []⟩) R s1 := by
  have Swr : S ∉ wr := fun z => Sfp (W.sub _ z)
  have old : ∀ {s1 s2 : Shared}, Moved wr G s1 s2 → (∀ b o, g.get? b = some o → s1.heap.get? b = some o) → ∀ b o, g.get? b = some o → s2.heap.get? b = some o := fun m k b o e =>
    m.heap b o (fun z => by rw [gw b z] at e; cases e) (k b o e)
  intro d
  induction d with
  | zero =>
    intro i s1 hd hi st kp back ⟨L, es, ep, t, T, q⟩
    obtain rfl : i = n := by omega
    refine codeAny_builtin F.entry_set_update_loop ?_
    rw [Around.under_plainId F.plain_set_update_loop _]
    show wpAny _ A.in1 (pyNext (.ref I) >>= _) _ _ s1
    refine wpAny_bind (W.done s1 _ _ st fun s2 m => ?_)
    show wpAny _ A.in1 (ret Value.none) _ _ s2
    have kp2 := old m kp
    have T2 : Tp P w s2.heap S L es ep t := T.moved (fun o e => m.heap S o Swr e) fun p hp => isT_keep (gk p (List.mem_of_mem_take (q.sub p hp))) kp2
    exact wpAny_pure (hR s s2 L es ep t (back s2 (m.mono fun b hb => List.mem_cons_of_mem _ hb)) T2 q kp2 rfl)
  | succ d ih =>
    intro i s1 hd hi st kp back ⟨L, es, ep, t, T, q⟩
    refine codeAny_builtin F.entry_set_update_loop ?_
    rw [Around.under_plainId F.plain_set_update_loop _]
    show wpAny _ A.in1 (pyNext (.ref I) >>= _) _ _ s1
    refine wpAny_bind (W.item i s1 _ _ (by omega) st fun v s2 pv st2 m => ?_)
    obtain ⟨p, hp, rfl⟩ := items i v pv
    have kp2 := old m kp
    have T2 : Tp P w s2.heap S L es ep t := T.moved (fun o e => m.heap S o Swr e) fun x hx => isT_keep (gk x (List.mem_of_mem_take (q.sub x hx))) kp2
    have hx : IsT P w s2.heap p.2 p.1 := isT_keep (gk p (List.mem_of_getElem? hp)) kp2
    show wpAny _ A.in1 (holding [Value.ref p.1] (setAdd S (.ref p.1)) >>= _) _ _ s2
    refine wpAny_bind (wpAny_holding ?_)
    unfold setAdd
    refine wpAny_holding (wpAny_bind (wpAny_pyHash_tuple hu hx ?_))
    refine put_in (s := { s2 with toks := s2.toks + (p.2.length + 1) }) T2 hx hu (by have := q.len; omega) fun b h3 L3 es3 ep3 t3 sb T3 c1 c2 => ?_
    have q3 : Got ks (i + 1) L3 := by
      by_cases c : p.2 ∈ L.map (·.2)
      · rw [c1 c]; exact q.same hp c
      · exact q.more hp (c2 c)
    have kp3 : ∀ b o, g.get? b = some o → h3.get? b = some o := fun b o e => (sb.2 b (fun z => by rw [z, gS] at e; cases e)).trans (kp2 b o e)
    have mv : Moved (S :: wr) G s1 { s2 with heap := h3, toks := s2.toks + (p.2.length + 1) } := (m.mono fun b hb => List.mem_cons_of_mem _ hb).then_heap (Nat.le_add_right _ _) fun b o nb e => by
      rw [sb.2 b (fun z => nb (by rw [z]; exact List.mem_cons_self))]
      exact e
    refine wpAny_pure ⟨plainId_quiet F.plain_set_update_loop _, ih (i + 1) _ (by omega) (by omega) (W.frame _ s2 _ _ st2 (Nat.le_add_right _ _) fun b hb o e => ?_) kp3 (fun s4 m4 => back s4 (Moved.trans W.gtrans mv m4)) ⟨L3, es3, ep3, t3, T3, q3⟩⟩
    rw [sb.2 b (fun z => Sfp (by rw [← z]; exact hb))]
    exact e
end
end OP

namespace OP
open PySem PySem.Spec PyProof.Rows L2
section
variable {P : Program} {w : World} {A : Around} {E : Value → Shared → Prop} {s : Shared}
abbrev bareSet (w : World) : Obj := { cls := .type "set", dict := none, data := .set #[] 0 (.fresh 0 0 (!w.params.followText "set-order")) }
/-- set(xs), xs a list of tuples of ints -/
theorem make_set {l : Addr} {items : Array Value} (ks : List (Addr × List Int)) {Q : Value → Shared → Prop} (hh : A.handled = none) (hl : s.heap.IsList l items) (hit : items.toList = ks.map fun p => Value.ref p.1)
    (hk : ∀ p ∈ ks, IsT P w s.heap p.2 p.1) (few : ks.length < 1000) (hu : A.units + 3 < cLine)
    (h : ∀ (h' : Heap) (tk : Nat) L es ep t, Tp P w h' s.heap.objs.size L es ep t → Got ks ks.length L → (∀ b o, s.heap.get? b = some o → h'.get? b = some o) → Q (.ref s.heap.objs.size) { s with heap := h', toks := tk }) :
    wpAny (model P w) A (call (.type "set") [.ref l]) Q E s := by
  have isz : items.size = ks.length := by rw [← Array.length_toList, hit, List.length_map]
  have S0 := F.called_set
  obtain ⟨c, tl, hmro⟩ := S0.mro
  have hmade := S0.made
  have hsub := S0.sub
  refine wpAny_call (codeAny_of_tree ?_)
  show wpAny _ _ (callAny (.type "set") _) _ _ _
  refine wpAny_pure ⟨Code.quiet_builtin _ (by decide +kernel), codeAny_builtin F.entry_type_call ?_⟩
  rw [Around.under_plain (weight_type_call_type "set" [.ref l] []) rfl]
  have h1 := S0.notType
  have h2 := S0.canCreate
  have h3 := F.typeCall_set_1 (.ref l)
  repeat (any_goals (first | assumption | wp_step))
  refine codeAny_mono (code_set_led1 (.ref l) (E := E) (Q₁ := fun v s1 => v = .ref s.heap.objs.size ∧ s1 = { s with heap := s.heap.push (bareSet w) }) ⟨rfl, rfl⟩) fun r s1 hr => ?_
  match r, hr with
  | .error e, hr => exact hr
  | .ok (.ret v), hr =>
    obtain ⟨rfl, rfl⟩ := hr
    have at_ : (s.heap.push (bareSet w)).get? s.heap.objs.size = some (bareSet w) := Heap.get?_push_size _ rfl
    have ty : Shared.TypeIs { s with heap := s.heap.push (bareSet w) } (.ref s.heap.objs.size) "set" := ⟨_, at_, rfl⟩
    have i1 := S0.init.lookup
    have i2 := S0.init.bind (.ref s.heap.objs.size)
    repeat (any_goals (first | assumption | wp_step))
    refine codeAny_mono (codeAny_call_builtin (R := wants (fun v s2 => v = .none ∧ ∃ h' tk L es ep t, s2 = { s with heap := h', toks := tk } ∧ Tp P w h' s.heap.objs.size L es ep t ∧ Got ks ks.length L ∧
        (∀ b o, s.heap.get? b = some o → h'.get? b = some o)) E) S0.init.plain F.entry_set_init (check_set_init_1 ty ?_)) fun r2 s2 hr2 => ?_
    · obtain ⟨⟨oc, od, odt, osl⟩, hol, hcl, nl, hdl⟩ := hl
      dsimp only at hcl hdl
      subst hcl hdl
      have ll : (s.heap.push (bareSet w)).IsList l items := ⟨_, Heap.get?_push_of_some _ hol, rfl, nl, rfl⟩
      have s1 := F.sub_list_set
      have s2 := F.sub_list_frozenset
      have hol' := Heap.get?_push_of_some (bareSet w) hol
      have nd : (Value.type "list" == Value.type "dict") = false := by decide
      unfold Builtin.«set.__init__» noKeywords Builtin.Frozenset.updateFrom
      generalize hPI : pyIter = PI
      wp_walk
      subst hPI
      refine wpAny_pyIter_list ll (wpAny_bind (wpAny_runValue ?_))
      have lS : l < s.heap.objs.size := Heap.lt_size hol
      have sz : (s.heap.push (bareSet w)).objs.size = s.heap.objs.size + 1 := Heap.size_push ..
      have lI : l ≠ (s.heap.push (bareSet w)).objs.size := by rw [sz]; exact Nat.ne_of_lt (Nat.lt_succ_of_lt lS)
      have out : ∀ b, s.heap.objs.size ≤ b → s.heap.get? b = none := fun b hb => by
        cases q : s.heap.get? b with
        | none => rfl
        | some o => exact absurd (Heap.lt_size q) (Nat.not_lt.mpr hb)
      refine fill_set ((Walks.list (by simp [hh]) _ l lI items).toS) s.heap.objs.size (by
          rw [sz]
          simp only [List.mem_cons, List.mem_singleton, List.not_mem_nil, or_false, not_or]
          exact ⟨Nat.ne_of_lt (Nat.lt_succ_self _), Nat.ne_of_gt lS⟩) ks isz few (fun i v hv => ?items) s.heap hk (out _ (Nat.le_refl _)) (fun b hb => out b (by rw [List.mem_singleton.mp hb, sz]; exact Nat.le_succ _)) hu ?hR _ 0 _ rfl (Nat.zero_le _)
        ⟨⟨_, Heap.get?_push_size _ rfl, rfl, rfl⟩, ll.push _⟩ (fun b o e => Heap.get?_push_of_some _ (Heap.get?_push_of_some _ e)) (fun _ m => m) ⟨[], #[], 0, _, Tp.empty (Heap.get?_push_of_some _ at_), Got.zero ks⟩
      case items =>
        have hv' : items[i]? = some v := hv
        rw [← Array.getElem?_toList, hit, List.getElem?_map] at hv'
        cases q : ks[i]? with
        | none => rw [q] at hv'; cases hv'
        | some p => rw [q] at hv'; exact ⟨p, rfl, (Option.some.inj hv').symm⟩
      case hR =>
        intro s0 s' L es ep t m T q kp e0
        subst e0
        obtain ⟨h', g', d', tk', os'⟩ := s'
        obtain rfl : g' = s.gens := m.gens
        obtain rfl : d' = s.drawn := m.drawn
        obtain rfl : os' = s.os := m.os
        show wpAny _ _ _ _ _ _
        refine wpAny_pure ?_
        show wpAny _ _ (ret Value.none) _ _ _
        rw [isz] at q
        exact wpAny_pure ⟨rfl, h', tk', L, es, ep, t, rfl, T, q, kp⟩
    · match r2, hr2 with
      | .error e, hr2 => exact hr2
      | .ok (.ret v), hr2 =>
        obtain ⟨rfl, h', tk, L, es, ep, t, rfl, T, q, kp⟩ := hr2
        repeat (any_goals (first | assumption | wp_step))
        exact h _ _ _ _ _ _ T q kp
      | .ok .next, hr2 => exact hr2.elim
      | .ok .brk, hr2 => exact hr2.elim
      | .ok .cont, hr2 => exact hr2.elim
  | .ok .next, hr => exact hr.elim
  | .ok .brk, hr => exact hr.elim
  | .ok .cont, hr => exact hr.elim
end
theorem sub_len : ∀ (c d : List (List Int)), c.Nodup → (∀ y ∈ c, y ∈ d) → c.length ≤ d.length := fun c => by
  induction c with
  | nil => intro d _ _; exact Nat.zero_le _
  | cons y c ihc =>
    intro d hc hs'
    obtain ⟨u1, u2⟩ := List.nodup_cons.mp hc
    have yd := hs' y List.mem_cons_self
    have := ihc (d.erase y) u2 fun q hq => (List.mem_erase_of_ne (fun z => u1 (by rw [← z]; exact hq))).mpr (hs' q (List.mem_cons_of_mem _ hq))
    rw [List.length_erase_of_mem yd] at this
    have pos : 0 < d.length := List.length_pos_of_mem yd
    simp only [List.length_cons]
    omega
/-- what two readings of one list of keys have in common -/
theorem Got.count {ks L : List (Addr × List Int)} (g : Got ks ks.length L) (nd : (L.map (·.2)).Nodup) : (L.length = ks.length ↔ (ks.map (·.2)).Nodup) ∧ L.length ≤ ks.length := by
  have sub : ∀ x ∈ ks.map (·.2), x ∈ L.map (·.2) := fun x hx => by
    obtain ⟨p, hp, rfl⟩ := List.mem_map.mp hx
    exact g.all p (by rw [List.take_length]; exact hp)
  have sup : ∀ x ∈ L.map (·.2), x ∈ ks.map (·.2) := fun x hx => by
    obtain ⟨p, hp, rfl⟩ := List.mem_map.mp hx
    exact List.mem_map.mpr ⟨p, by have := g.sub p hp; rwa [List.take_length] at this, rfl⟩
  refine ⟨⟨fun e => ?_, fun d => ?_⟩, g.len⟩
  · have le : ∀ (a b : List (List Int)), a.Nodup → (∀ x ∈ a, x ∈ b) → b.length ≤ a.length → b.Nodup := by
      intro a
      induction a with
      | nil =>
        intro b _ _ h
        rw [List.eq_nil_of_length_eq_zero (Nat.le_zero.mp h)]
        exact List.nodup_nil
      | cons x a ih =>
        intro b hd hs hl
        obtain ⟨h1, h2⟩ := List.nodup_cons.mp hd
        have xb := hs x List.mem_cons_self
        have pm := List.perm_cons_erase xb
        have lb := List.length_erase_of_mem xb
        have : (b.erase x).Nodup := ih (b.erase x) h2 (fun y hy => (List.mem_erase_of_ne (fun z => h1 (by rw [← z]; exact hy))).mpr (hs y (List.mem_cons_of_mem _ hy))) (by rw [lb]; simp only [List.length_cons] at hl; omega)
        refine pm.nodup_iff.mpr (List.nodup_cons.mpr ⟨fun z => ?_, this⟩)
        -- x twice in b: then b without x still has all of a and one more
        have more : (x :: a).length ≤ (b.erase x).length := by
          refine sub_len _ _ hd fun y hy => ?_
          rcases List.mem_cons.mp hy with rfl | hy'
          · exact z
          · exact (List.mem_erase_of_ne (fun q => h1 (by rw [← q]; exact hy'))).mpr (hs y hy)
        have pos : 0 < b.length := List.length_pos_of_mem xb
        rw [lb] at more
        simp only [List.length_cons] at more hl
        omega
    exact le _ _ nd sup (by rw [List.length_map, List.length_map, e]; exact Nat.le_refl _)
  · have := sub_len _ _ d sub
    rw [List.length_map, List.length_map] at this
    have := g.len
    omega
section
variable {X : Cx}
/-- len(set(xs)), xs a list of tuples of ints: n, as many as xs just where none is twice -/
def tLenSetT (K : PySem.W.Frag) (ta : TE) : TE := fun σ H Q => ta σ H fun x H1 => ∃ (l : Addr) (ks : List (Addr × List Int)), x = V.ref l ∧ SqL K H1 l (ks.map fun p => V.ref p.1) ∧ (∀ p ∈ ks, SqT K H1 p.1 (p.2.map V.int)) ∧ ks.length < 1000 ∧
  ∀ n : Nat, n ≤ ks.length → (n = ks.length ↔ (ks.map (·.2)).Nodup) → Q (.int n) H1
theorem pe_lenSetT {a : Expr} {ta : TE} {p p2 q pos : Pos} {k : Nat} (hr : Room k X.A) (hc : X.calm = true) (hg : Gl X "len") (hm : X.mg "len" = none) (hg2 : Gl X "set") (hm2 : X.mg "set" = none) (ha : PE X a ta)
    (na : starEach [a] X.env = (false, eval a X.env) :: starEach [] X.env := by rfl) : PE X (.Call (.Name "len" p) [.Call (.Name "set" p2) [a] [] q] [] pos) (tLenSetT X.K ta) := by
  refine ⟨fun pins s σ H Q I h => ?_⟩
  refine Call_ (ld_blt I hg hm PySem.boot_len ?_)
  refine PyProof.Rows.callWith_builtin1 (PyProof.Rows.args_cons ?_ rfl) rfl rfl
  refine Call_ (ld_blt I hg2 hm2 PyProof.Rows.boot_set ?_)
  refine PyProof.Rows.callWith_type1 (PyProof.Rows.args_cons (thn (ha.run pins s σ H _ I h) fun v s1 ⟨x, H1, I1, r1, q1⟩ => PyProof.Rows.args_nil ?_) na) na rfl
  obtain ⟨l, ks, rfl, hq, hk, few, q1⟩ := q1
  cases r1
  obtain ⟨its, r, pl, hz⟩ := I1.list hq
  have hu := hr.units
  refine make_set (P := X.prog) (w := X.w) ks (I1.ok.hd hc) pl.isList (by simpa using refs_of_vals r) (fun p hp => I1.isT (hk p hp)) few (by omega) fun h' tk L es ep t T g kp => ?_
  refine PyProof.Rows.args_nil ?_
  obtain ⟨o, ho, hex, hd⟩ := T.obj
  have c := Got.count g T.keys
  have sz := rows_size T.rows
  have I2 : Inv X pins σ H1 { s1 with heap := h', toks := tk } := I1.kept fun b o e => kp b o e
  refine call_len_set ho hex hd (T.tab.fits (by rw [sz, List.length_map]) (by have := T.room; omega)) (by rw [sz]; have := T.few; omega) ⟨.int L.length, H1, I2.tok _, ⟨_, by rw [sz]⟩, q1 _ c.2 c.1⟩
end
end OP

/-! What stands in the heap, in short; small rules of one's own. -/
namespace OP
open PySem PySem.Spec PyProof.Rows L2
open L2H (RoomH PinOk cxH inv_startH roomH_of)

/-! ### heaps -/
theorem same_upd {H : Hp} {p : Addr} {o : HO} (h : H p = none) : Same H (upd H p o) := fun b x e => by
  rw [upd_ne (ne_of_none e h)]
  exact e
/-- a new object, the heap behind it by a name -/
theorem laid {H : Hp} {p : Addr} {o : HO} (h : H p = none) : ∃ H', H' = upd H p o ∧ Same H H' ∧ H' p = some o := ⟨_, rfl, same_upd h, upd_same⟩
/-- all but the addresses in fs is as it was -/
def But (fs : List Addr) (H H' : Hp) : Prop := ∀ b o, b ∉ fs → H b = some o → H' b = some o
theorem But.refl {fs : List Addr} {H : Hp} : But fs H H := fun _ _ _ e => e
theorem But.of {fs : List Addr} {H H' : Hp} (s : Same H H') : But fs H H' := fun b o _ e => s b o e
theorem But.same {H H' : Hp} (s : But [] H H') : Same H H' := fun b o e => s b o (by simp) e
theorem But.trans {fs : List Addr} {H H1 H2 : Hp} (a : But fs H H1) (b : But fs H1 H2) : But fs H H2 := fun c o n e => b c o n (a c o n e)
theorem But.then {fs : List Addr} {H H1 H2 : Hp} (a : But fs H H1) (b : Same H1 H2) : But fs H H2 := fun c o n e => b c o (a c o n e)
theorem But.set {fs : List Addr} {H : Hp} {p : Addr} {o : HO} (h : p ∈ fs) : But fs H (upd H p o) := fun c x n e => by
  rw [upd_ne (fun z => n (by rw [z]; exact h))]
  exact e
theorem But.mono {fs gs : List Addr} {H H1 : Hp} (a : But fs H H1) (s : ∀ x ∈ fs, x ∈ gs) : But gs H H1 := fun c o n e => a c o (fun z => n (s c z)) e
/-- a write at an address that was free at the entry -/
theorem Same.set {H0 H : Hp} {p : Addr} {o : HO} (s : Same H0 H) (h : H0 p = none) : Same H0 (upd H p o) := fun c x e => by
  rw [upd_ne (ne_of_none e h)]
  exact s c x e

/-! ### the data -/
abbrev vn (n : Nat) : V := .int (n : Int)
def vo : Option Nat → V
  | none => .non
  | some n => vn n
def Ints (H : Hp) (a : Addr) (ns : List Nat) : Prop := H a = some (.lst (ns.map vn))
def Opts (H : Hp) (a : Addr) (ns : List (Option Nat)) : Prop := H a = some (.lst (ns.map vo))
def Rows (H : Hp) (l : Addr) (rs : List (List Nat)) : Prop := ∃ as : List Addr, H l = some (.lst (as.map V.ref)) ∧ Paired (fun b r => Ints H b r) as rs
abbrev Pr (H : Hp) (b : Addr) (p : Nat × Nat) : Prop := H b = some (.tup [vn p.1, vn p.2])
def Prs (H : Hp) (l : Addr) (ps : List (Nat × Nat)) : Prop := ∃ as : List Addr, H l = some (.lst (as.map V.ref)) ∧ Paired (Pr H) as ps
theorem Ints.go {H H' : Hp} {a : Addr} {ns : List Nat} (x : Ints H a ns) (s : Same H H') : Ints H' a ns := s _ _ x
theorem Opts.go {H H' : Hp} {a : Addr} {ns : List (Option Nat)} (x : Opts H a ns) (s : Same H H') : Opts H' a ns := s _ _ x
theorem Rows.go {H H' : Hp} {a : Addr} {ns : List (List Nat)} (x : Rows H a ns) (s : Same H H') : Rows H' a ns := by
  obtain ⟨as, h, p⟩ := x
  exact ⟨as, s _ _ h, Paired.mapP p fun _ _ z => s _ _ z⟩
theorem Prs.go {H H' : Hp} {a : Addr} {ns : List (Nat × Nat)} (x : Prs H a ns) (s : Same H H') : Prs H' a ns := by
  obtain ⟨as, h, p⟩ := x
  exact ⟨as, s _ _ h, Paired.mapP p fun _ _ z => s _ _ z⟩
theorem paired_get {α β : Type} {F : α → β → Prop} : ∀ {as : List α} {bs : List β} {i : Nat} {b : β}, Paired F as bs → bs[i]? = some b → ∃ a, as[i]? = some a ∧ F a b
  | _, _, _, _, .nil, e => by simp at e
  | _, _, 0, _, .cons r _, e => by simp at e; subst e; exact ⟨_, rfl, r⟩
  | _, _, i + 1, _, .cons _ t, e => by
    obtain ⟨a, h1, h2⟩ := paired_get t (show _ = _ by simpa using e)
    exact ⟨a, by simpa using h1, h2⟩
theorem paired_get' {α β : Type} {F : α → β → Prop} : ∀ {as : List α} {bs : List β} {i : Nat} {a : α}, Paired F as bs → as[i]? = some a → ∃ b, bs[i]? = some b ∧ F a b
  | _, _, _, _, .nil, e => by simp at e
  | _, _, 0, _, .cons r _, e => by simp at e; subst e; exact ⟨_, rfl, r⟩
  | _, _, i + 1, _, .cons _ t, e => by
    obtain ⟨a, h1, h2⟩ := paired_get' t (show _ = _ by simpa using e)
    exact ⟨a, by simpa using h1, h2⟩
theorem paired_len {α β : Type} {F : α → β → Prop} {as : List α} {bs : List β} (p : Paired F as bs) : as.length = bs.length := Paired.length p
theorem paired_app {α β : Type} {F : α → β → Prop} : ∀ {as : List α} {bs : List β} {cs : List α} {ds : List β}, Paired F as bs → Paired F cs ds → Paired F (as ++ cs) (bs ++ ds)
  | _, _, _, _, .nil, q => q
  | _, _, _, _, .cons r t, q => .cons r (paired_app t q)
theorem paired_take {α β : Type} {F : α → β → Prop} : ∀ {as : List α} {bs : List β} (n : Nat), Paired F as bs → Paired F (as.take n) (bs.take n)
  | _, _, 0, _ => .nil
  | _, _, _ + 1, .nil => .nil
  | _, _, n + 1, .cons r t => .cons r (paired_take n t)
theorem paired_drop {α β : Type} {F : α → β → Prop} : ∀ {as : List α} {bs : List β} (n : Nat), Paired F as bs → Paired F (as.drop n) (bs.drop n)
  | _, _, 0, r => r
  | _, _, _ + 1, .nil => .nil
  | _, _, n + 1, .cons _ t => paired_drop n t
theorem Prs.at {H : Hp} {l : Addr} {ps : List (Nat × Nat)} (x : Prs H l ps) : ∃ as : List Addr, H l = some (.lst (as.map V.ref)) ∧ Paired (Pr H) as ps := x
theorem take_snoc {α : Type} {l : List α} {i : Nat} {x : α} (h : l[i]? = some x) : l.take (i + 1) = l.take i ++ [x] := by
  rw [List.take_succ, h]
  rfl
theorem map_get {α β : Type} {f : α → β} {l : List α} {i : Nat} {y : β} (h : (l.map f)[i]? = some y) : ∃ x, l[i]? = some x ∧ y = f x := by
  rw [List.getElem?_map] at h
  cases e : l[i]? with
  | none => rw [e] at h; cases h
  | some x => rw [e] at h; exact ⟨x, rfl, (Option.some.inj h).symm⟩
theorem map_get' {α β : Type} {f : α → β} {l : List α} {i : Nat} {x : α} (h : l[i]? = some x) : (l.map f)[i]? = some (f x) := by
  rw [List.getElem?_map, h]
  rfl
theorem line_of {n : Nat} (h : n ≤ 100000) : n ≤ sizeLine := Nat.le_trans h (by decide)
theorem line_lt {n : Nat} (h : n ≤ 100000) : n < sizeLine := Nat.lt_of_le_of_lt h (by decide)

/-! ### which thing is a whole number -/
def NonInt (K : PySem.W.Frag) (H : Hp) (v : V) : Prop := ∃ t b1 b2, TyX K H v t ∧ PySem.W.kitOne K t (.type "int") = some b1 ∧ PySem.W.kitOne K t (.type "bool") = some b2 ∧ (b1 && !b2) = false
section
variable {K : PySem.W.Frag} {H : Hp}
theorem nonInt_non : NonInt K H .non := ⟨_, _, _, .base .non, kit_ty (by decide +kernel : _ = some false), kit_ty (by decide +kernel : _ = some false), rfl⟩
theorem nonInt_bl (b : Bool) : NonInt K H (.bl b) := ⟨_, _, _, .base (.bl b), kit_ty (by decide +kernel : _ = some true), kit_ty (by decide +kernel : _ = some true), rfl⟩
theorem nonInt_str (z : Str) : NonInt K H (.str z) := ⟨_, _, _, .base (.str z), kit_ty (by decide +kernel : _ = some false), kit_ty (by decide +kernel : _ = some false), rfl⟩
theorem nonInt_tup {a : Addr} {xs : List V} (e : H a = some (.tup xs)) : NonInt K H (.ref a) := ⟨_, _, _, .base (.tup e), kit_ty (by decide +kernel : _ = some false), kit_ty (by decide +kernel : _ = some false), rfl⟩
theorem nonInt_lst {a : Addr} {xs : List V} (e : H a = some (.lst xs)) : NonInt K H (.ref a) := ⟨_, _, _, .base (.lst e), kit_ty (by decide +kernel : _ = some false), kit_ty (by decide +kernel : _ = some false), rfl⟩
theorem nonInt_dK {a : Addr} {xs : List (Key × V)} (e : H a = some (.dK xs)) : NonInt K H (.ref a) := ⟨_, _, _, .base (.dK e), kit_ty (by decide +kernel : _ = some false), kit_ty (by decide +kernel : _ = some false), rfl⟩
/-- v's type is known, and isinstance(v, list), isinstance(v, tuple) with it -/
def Kind (K : PySem.W.Frag) (H : Hp) (v : V) (T : String) (b : Bool) : Prop := ∃ t, TyX K H v t ∧ PySem.W.kitOne K t (.type T) = some b
theorem kind_of {v : V} {s T : String} {b : Bool} (h : TyX K H v (.type s)) (e : kitB s T = some b) : Kind K H v T b := ⟨_, h, kit_ty e⟩
end
theorem tyX_go {K : PySem.W.Frag} {H H' : Hp} {v : V} {t : Value} (h : TyX K H v t) (s : Same H H') : TyX K H' v t := by
  cases h with
  | base h =>
    refine .base ?_
    cases h with
    | non => exact .non
    | bl x => exact .bl x
    | int i => exact .int i
    | str x => exact .str x
    | flt x => exact .flt x
    | lst e => exact .lst (s _ _ e)
    | frz e => exact .frz (s _ _ e)
    | tup e => exact .tup (s _ _ e)
    | dK e => exact .dK (s _ _ e)
    | dT e => exact .dT (s _ _ e)
    | ins e a b c d f => exact .ins (s _ _ e) a b c d f
  | byt b => exact .byt b
  | set e => exact .set (s _ _ e)
  | kList e c => exact .kList e c
  | kTuple e c => exact .kTuple e c
  | kDict e c => exact .kDict e c
  | fTuple e => exact .fTuple (s _ _ e)
  | fDict e => exact .fDict (s _ _ e)
theorem NonInt.go {K : PySem.W.Frag} {H H' : Hp} {v : V} (h : NonInt K H v) (s : Same H H') : NonInt K H' v := by
  obtain ⟨t, b1, b2, x, y⟩ := h
  exact ⟨t, b1, b2, tyX_go x s, y⟩
theorem Kind.go {K : PySem.W.Frag} {H H' : Hp} {v : V} {T : String} {b : Bool} (h : Kind K H v T b) (s : Same H H') : Kind K H' v T b := by
  obtain ⟨t, x, y⟩ := h
  exact ⟨t, tyX_go x s, y⟩

/-! ### exceptions -/
/-- an error of the class at S is what «except S» names -/
theorem exm_same {K : PySem.W.Frag} {S : Addr} (h1 : PySem.W.subIn K (.ref S) (.type "BaseException") = some true) (h2 : PySem.W.isClsIn K S = true) (h3 : PySem.W.typeIn K (.ref S) = some (.type "type")) (h4 : PySem.W.subIn K (.ref S) (.ref S) = some true) :
    PySem.W.exmOne K (.ref S) (.ref S) = some true := by
  have e1 : (PySem.W.subIn K (.ref S) (.type "BaseException") == some true) = true := by rw [h1] <;> rfl
  have e2 : ((PySem.W.clsIn K S).isSome && PySem.W.typeIn K (.ref S) == some (.type "type")) = true := by
    have h2' : (PySem.W.clsIn K S).isSome = true := h2
    rw [h2', h3] <;> rfl
  show (if (PySem.W.subIn K (.ref S) (.type "BaseException") == some true) = true then (if ((PySem.W.clsIn K S).isSome && PySem.W.typeIn K (.ref S) == some (.type "type")) = true then PySem.W.subIn K (.ref S) (.ref S) else none) else none) = some true
  rw [if_pos e1, if_pos e2]
  exact h4
/-- what a callee may let out is taken, wherever the slots are as many as the names -/
theorem passes_len {X : Cx} {W : WX} (tk : Takes X W) : Passes (L2.CX X.prog X.w) X (fun cls d H => ∀ σ, σ.length = X.N.length → W cls d σ H) :=
  fun _ σ _ _ e s' I c => tk e s' (XE.of_call I (fun _ _ _ h => h σ I.len) c)
theorem passes_lenN {X : Cx} {W : WX} {N : List Str} (hN : X.N = N) (tk : Takes X W) : Passes (L2.CX X.prog X.w) X (fun cls d H => ∀ σ, σ.length = N.length → W cls d σ H) := by
  subst hN
  exact passes_len tk
/-- isinstance of the error that the context's pins hold -/
theorem call_isP {X : Cx} {a D : Addr} {oe : Obj} (C : ExcC X.K D) (hm : (a, oe) ∈ X.pn) (hz : Zc (.ref D) none oe) (hf : ∃ vs, oe.data = .fields vs) : CallR X (.builtin "isinstance") (rIsE X.K D a) := by
  intro pins s σ H xs us Q I r h
  obtain ⟨c, cv, b, rfl, hcv, e, q⟩ := h
  obtain ⟨u1, u2, rfl, r1, r2⟩ := vals2 r
  cases r1
  have ec := hcv _ r2
  subst ec
  obtain ⟨hget, _⟩ := I.pin (a, oe) (List.mem_append.mpr (.inl hm))
  obtain ⟨vs, hv⟩ := hf
  have J : PySem.W.InstAt s.heap a oe D none := by
    obtain ⟨oc, od, oda, osl⟩ := oe
    obtain ⟨h1, h2⟩ := hz
    dsimp only at h1 h2 hv
    subst h1 h2 hv
    exact ⟨hget, rfl, rfl, trivial⟩
  exact PySem.W.kia_one (PySem.W.handS_kitx_exc C.hg C.hk C.hs C.hd C.ha C.hn C.ht C.hm) I.kIn J e (fun z => nomatch z) fun tk => ⟨.bl b, H, I.kept (t' := tk) fun _ _ z => z, rfl, q⟩
/-- the promise of a def of one argument, the error that is handled, of the class at D: it tells True -/
structure FnE (P : Program) (w : World) (K : PySem.W.Frag) (mg : Str → Option Value) (base : Heap) (k : Nat) (f : Addr) (fd : FuncData) (x : Str) (D : Addr) : Prop where
  run : ∀ (A : Around) (outer : List Env) (s : Shared) (H : Hp) (args : Args) (a : Addr) (oe : Obj) (Q : VK), RoomH k A → PinOk outer H s (a, oe) → Zc (.ref D) none oe → (∃ vs, oe.data = .fields vs) → Env0 P w K mg base A outer s H → BindsTo s fd args [(x, .ref a)] → (∀ H', Same H H' → Q (.bl true) H') →
    codeAny (model P w) A (.call (.ref f) args) (CR CX0 outer P w H s Q E0) s
theorem fnE_of {P : Program} {w : World} {K : PySem.W.Frag} {mg : Str → Option Value} {base : Heap} {k : Nat} {f : Addr} {x qual : Str} {st : Stmt} {fd : FuncData} {N : List Str} {p : Str} {D : Addr} (F : Fun K x qual st f fd) (S : FnScope N [p] (defScope st))
    (hbody : ∀ (cdv : Value) (A : Around) (outer : List Env) (s : Shared) (H : Hp) (a : Addr) (oe : Obj) (Q : VK), RoomH k (A.deeper (envOfC qual (defScope st) s.heap.objs.size f cdv)) → Zc (.ref D) none oe → (∃ vs, oe.data = .fields vs) → (∀ H', Same H H' → Q (.bl true) H') →
      ∃ t, PSs (cxH CX0 P w K mg base N qual (defScope st) f cdv A outer s H E0 (a, oe)) (defBody st) t ∧ t { nx := fun _ H' => Q .non H', rt := Q } (L2.start N [.ref a]) H) : FnE P w K mg base (k + 1) f fd p D := by
  obtain ⟨oc, od, kV, doc, pm, an, cdv, ct, osl, rfl, lk, hcd⟩ := F.ex
  refine ⟨fun A outer s H args a oe Q hr hpin hz hf e0 hb hq => ?_⟩
  have KX : K.In s.heap := e0.mod.kin.keeps fun b o e => (e0.bs b o e).1
  have lim : s.heap.NoLimit := e0.mod.nolimit.keeps fun b o e => (e0.bs b o e).1
  have hkind : ∀ y ∈ [(p, Value.ref a)], (defScope st).names.lookup y.1 = some .local ∨ ((defScope st).names.lookup y.1 = some .cell ∧ ((cellsFrom (s.heap.objs.size + 1) (defScope st).names []).lookup y.1).isSome = true) := fun y hy => by
    have e := List.mem_singleton.mp hy
    subst e
    rcases S.par p List.mem_cons_self with q | q
    · exact .inl q
    · exact .inr ⟨q, PySem.W.cellsFrom_some _ _ _ (.inl q)⟩
  refine codeAny_call_function hr.depth (KX _ _ lk) rfl S.co S.gen rfl (PySem.W.codeRec_of KX hcd) (hb _ _ _ _ ?_)
  refine wpAny_newFunctionEnv_cells S.kind hkind fun env he s1 y => ?_
  subst he
  refine ⟨lim.keeps y.toInCall.keep, codeAny_func ?_⟩
  obtain ⟨t, ht, hq'⟩ := hbody cdv A outer s H a oe Q (hr.deeper _) hz hf hq
  have rv : Vals [V.ref a] [Value.ref a] := .cons rfl .nil
  have I : Inv (cxH CX0 P w K mg base N qual (defScope st) f cdv A outer s H E0 (a, oe)) [] (L2.start N [.ref a]) H s1 := inv_startH S hpin e0 rfl rv y
  refine wpAny_mono (ht.run [] s1 (L2.start N [.ref a]) H _ I hq') (fun fl s' hs => ?_) fun e s' hs => hs
  cases fl with
  | ret u =>
    obtain ⟨v, σ', H', J, rv, q⟩ := hs
    exact ⟨v, H', J.os, J.bare, J.base, J.hok, rv, q⟩
  | next =>
    obtain ⟨σ', H', J, q⟩ := hs
    exact ⟨V.non, H', J.os, J.bare, J.base, J.hok, rfl, q⟩
  | brk =>
    obtain ⟨_, _, _, q⟩ := hs
    exact False.elim q
  | cont =>
    obtain ⟨_, _, _, q⟩ := hs
    exact False.elim q
theorem roomH_mark {k : Nat} {A : Around} {h : Option Value} (r : Room k A) : RoomH k (A.mark h) := ⟨r.dp, r.un⟩
/-- such a def, called with the handled error in the suite -/
theorem pe_callE {X : Cx} {k : Nat} {f D : Addr} {fd : FuncData} {y x : Str} {q pos : Pos} {e : Expr} {te : TE} {a : Addr} {oe : Obj} (F : FnE X.prog X.w X.K X.mg X.base k f fd y D) (hr : RoomH k X.A) (hp : (a, oe) ∈ X.pn) (hz : Zc (.ref D) none oe) (hf : ∃ vs, oe.data = .fields vs)
    (hg : Gl X x) (hm : X.mg x = some (.ref f)) (hk : PySem.W.keepIn X.K (.ref f) = true) (hb : Binds X.K fd [y] []) (he : PE X e te) (hdb : (x == ("__debug__" : Str)) = false := by decide)
    (hst : starEach [e] X.env = (false, eval e X.env) :: starEach [] X.env := by rfl) (hpl : (backTo pos (starEach [] X.env)).any (·.1) = false := by rfl) :
    PE X (.Call (.Name x q) [e] [] pos) (fun σ H Q => te σ H fun v H1 => v = .ref a ∧ ∀ H', Same H1 H' → Q (.bl true) H') := by
  refine ⟨fun pins s σ H Q I h => ?_⟩
  refine wpAny_Call_Name_kw (ld_glob I hg hm ?_ hdb)
  refine PySem.W.callWith_K (h₀ := X.base) I.ok.mod.kin hk (thn ((pa_cons he pa_nil hst).run pos pins s σ H (fun vs H1 => vs = [.ref a] ∧ ∀ H', Same H1 H' → Q (.bl true) H') I ?_) fun us s1 ⟨vs, H1, I1, r, ev, q⟩ => ⟨I1.kIn, ?_⟩) hst hpl
  · show te σ H _
    have mono : (fun v H1 => v = V.ref a ∧ ∀ H', Same H1 H' → Q (.bl true) H') = (fun v H1 => (v :: ([] : List V)) = [.ref a] ∧ ∀ H', Same H1 H' → Q (.bl true) H') := by
      funext v H1
      simp
    rw [mono] at h
    exact h
  · subst ev
    cases r with
    | cons r1 rn =>
      cases rn
      cases r1
      have P1 := I1.pin (a, oe) (List.mem_append_left _ hp)
      have hpin : PinOk X.stack H1 s1 (a, oe) := ⟨P1.1, P1.2.1, fun hm => (List.mem_cons.mp (I1.stkSub a hm)).elim P1.2.2.1 P1.2.2.2.1, P1.2.2.2.2⟩
      have b := hb s1 [.ref a] I1.kIn rfl
      refine wpAny_call (codeAny_mono (F.run X.A X.stack s1 H1 ⟨[.ref a], []⟩ a oe Q hr hpin hz hf I1.env0 b q) fun r s' hq => ?_)
      cases r with
      | error e => exact hq.elim
      | ok fl =>
        cases fl with
        | ret u => exact I1.after hq
        | next => exact False.elim hq
        | brk => exact False.elim hq
        | cont => exact False.elim hq
/-- a def that wants a list of data of any depth: x != [] -/
theorem eqv_nil (xs : List PyData) : PyData.eqv (.list xs) (.list []) = xs.isEmpty := by
  cases xs <;> rfl
end OP

namespace OP
open PySem PySem.Spec PyProof.Rows L2 Evl
/-- of a value, of new addresses, of the heap behind -/
abbrev Rn := V → List Addr → Hp → Prop
def EvN (te : TE) (σ : L2.St) (H : Hp) (R : Rn) : Prop := ∀ H1, Ex H H1 → ∀ Q : VK, (∀ v fs H2, Ex H1 H2 → (∀ p ∈ fs, H1 p = none) → R v fs H2 → Q v H2) → te σ H1 Q
def SpN (sp : Sp) (vs : List V) (H : Hp) (R : Rn) : Prop := ∀ H1, Ex H H1 → ∀ Q : VK, (∀ v fs H2, Ex H1 H2 → (∀ p ∈ fs, H1 p = none) → R v fs H2 → Q v H2) → ∀ E : XK, sp vs H1 Q E
/-- the promise of a def that changes nothing: some value, of which R tells -/
def pureSp (R : Hp → List V → V → Prop) : Sp := fun vs H Q _ => ∃ z, R H vs z ∧ ∀ H', Ex H H' → Q z H'
/-- .. of one that makes new things -/
def newSp (R : Hp → List V → Rn → Prop) : Sp := fun vs H Q _ => ∃ S, R H vs S ∧ ∀ v fs H', Ex H H' → (∀ p ∈ fs, H p = none) → S v fs H' → Q v H'
section
variable {K : PySem.W.Frag} {σ : L2.St} {H H' : Hp} {ta tb te tx : TE} {t u : TT} {x y z v : V} {D : Ends} {tu tw tz : TS} {g : TG} {R : Rn}
theorem EvN.mono (e : Ex H H') (h : EvN te σ H R) : EvN te σ H' R := fun H1 a Q q => h H1 (e.trans a) Q q
theorem spv_pure {P : Hp → List V → V → Prop} {vs : List V} (mono : ∀ H1, Ex H H1 → P H1 vs z) : SpV (pureSp P) vs H z := fun H1 e Q q E => ⟨z, mono H1 e, q⟩
theorem spn_new {P : Hp → List V → Rn → Prop} {vs : List V} (mono : ∀ H1, Ex H H1 → P H1 vs R) : SpN (newSp P) vs H R := fun H1 e Q q E => ⟨R, mono H1 e, q⟩
theorem en_call {sp : Sp} {dvs vs : List V} {E : XK} {ta : TA} (h : EvA ta σ H vs) (hs : SpN sp (vs ++ dvs) H R) : EvN (tCall sp dvs E ta) σ H R := fun H1 e Q q =>
  h H1 e _ fun H2 e2 => hs H2 (e.trans e2) Q (fun v fs H3 e3 f r => q v fs H3 (e2.trans e3) (fun p hp => fresh_back e2 (f p hp)) r) E
theorem en_of_ev (h : Ev te σ H v) : EvN te σ H (fun w fs _ => w = v ∧ fs = []) := fun H1 e Q q => h H1 e Q fun H2 e2 => q v [] H2 e2 (fun _ hp => nomatch hp) ⟨rfl, rfl⟩
theorem en_of_el {xs : List V} (h : EvL te σ H xs) : EvN te σ H (fun w fs H2 => ∃ p, w = .ref p ∧ fs = [p] ∧ H2 p = some (.lst xs)) := fun H1 e Q q =>
  h H1 e Q fun p H2 hp e2 h2 => q _ [p] H2 e2 (fun r hr => by rw [List.mem_singleton.mp hr]; exact hp) ⟨p, rfl, rfl, h2⟩
theorem q_asgN {i : Nat} (h : EvN te σ H R) (k : ∀ v fs H1, Ex H H1 → (∀ p ∈ fs, H p = none) → R v fs H1 → tz D (σ.set i (some v)) H1) : tSeq (tAsg te (gName i)) tz D σ H :=
  h H (Ex.refl H) _ fun v fs H1 e f r => k v fs H1 e f r
theorem s_asgN {i : Nat} (h : EvN te σ H R) (k : ∀ v fs H1, Ex H H1 → (∀ p ∈ fs, H p = none) → R v fs H1 → D.nx (σ.set i (some v)) H1) : tAsg te (gName i) D σ H :=
  h H (Ex.refl H) _ fun v fs H1 e f r => k v fs H1 e f r
theorem s_retN (h : EvN te σ H R) (k : ∀ v fs H1, Ex H H1 → (∀ p ∈ fs, H p = none) → R v fs H1 → D.rt v H1) : tRet te D σ H := h H (Ex.refl H) _ k
theorem q_dropN (h : EvN te σ H R) (k : ∀ v fs H1, Ex H H1 → (∀ p ∈ fs, H p = none) → R v fs H1 → tz D σ H1) : tSeq (tDrop te) tz D σ H := h H (Ex.refl H) _ k
theorem s_dropN (h : EvN te σ H R) (k : ∀ v fs H1, Ex H H1 → (∀ p ∈ fs, H p = none) → R v fs H1 → D.nx σ H1) : tDrop te D σ H := h H (Ex.refl H) _ k
/-- arguments, the first of which is new -/
def EvAN (ta : TA) (σ : L2.St) (H : Hp) (R : List V → List Addr → Hp → Prop) : Prop := ∀ H1, Ex H H1 → ∀ Q : List V → Hp → Prop, (∀ vs fs H2, Ex H1 H2 → (∀ p ∈ fs, H1 p = none) → R vs fs H2 → Q vs H2) → ta σ H1 Q
theorem ean_nil : EvAN tNil σ H (fun vs fs _ => vs = [] ∧ fs = []) := fun H1 _ Q q => q [] [] H1 (Ex.refl H1) (fun _ h => nomatch h) ⟨rfl, rfl⟩
theorem ean_of {ta : TA} {vs : List V} (h : EvA ta σ H vs) : EvAN ta σ H (fun ws fs _ => ws = vs ∧ fs = []) := fun H1 e Q q => h H1 e Q fun H2 e2 => q vs [] H2 e2 (fun _ hp => nomatch hp) ⟨rfl, rfl⟩
theorem ean_cons {tr : TA} {R1 : Rn} {R2 : V → List Addr → List V → List Addr → Hp → Prop} (h : EvN te σ H R1) (k : ∀ v fs H1, Ex H H1 → (∀ p ∈ fs, H p = none) → R1 v fs H1 → EvAN tr σ H1 (R2 v fs)) :
    EvAN (tCons te tr) σ H (fun vs gs H2 => ∃ v ws fs fs', vs = v :: ws ∧ gs = fs ++ fs' ∧ R2 v fs ws fs' H2) := fun H1 e Q q => h H1 e _ fun v fs H2 e2 f r =>
  k v fs H2 (e.trans e2) (fun p hp => fresh_back e (f p hp)) r H2 (Ex.refl H2) _ fun ws fs' H3 e3 f' r' => q _ (fs ++ fs') H3 (e2.trans e3) (fun p hp => (List.mem_append.mp hp).elim (f p) (fun z => fresh_back e2 (f' p z))) ⟨v, ws, fs, fs', rfl, rfl, r'⟩
theorem ev_callN {sp : Sp} {dvs : List V} {E : XK} {ta : TA} {R1 : List V → List Addr → Hp → Prop} (h : EvAN ta σ H R1) (hs : ∀ vs fs H1, Ex H H1 → (∀ p ∈ fs, H p = none) → R1 vs fs H1 → SpV sp (vs ++ dvs) H1 z) : Ev (tCall sp dvs E ta) σ H z := fun H1 e Q q =>
  h H1 e _ fun vs fs H2 e2 f r => hs vs fs H2 (e.trans e2) (fun p hp => fresh_back e (f p hp)) r H2 (Ex.refl H2) Q (fun H3 e3 => q H3 (e2.trans e3)) E
theorem en_callN {sp : Sp} {dvs : List V} {E : XK} {ta : TA} {R1 : List V → List Addr → Hp → Prop} (h : EvAN ta σ H R1) (hs : ∀ vs fs H1, Ex H H1 → (∀ p ∈ fs, H p = none) → R1 vs fs H1 → SpN sp (vs ++ dvs) H1 R) : EvN (tCall sp dvs E ta) σ H R := fun H1 e Q q =>
  h H1 e _ fun vs fs H2 e2 f r => hs vs fs H2 (e.trans e2) (fun p hp => fresh_back e (f p hp)) r H2 (Ex.refl H2) Q (fun v gs H3 e3 f3 r3 => q v gs H3 (e2.trans e3) (fun p hp => fresh_back e2 (f3 p hp)) r3) E
/-- an operator on two things, each told by a relation -/
theorem ev_opN {r : R2} {R1 R2' : Rn} (ha : EvN ta σ H R1) (hb : ∀ v fs H1, Ex H H1 → (∀ p ∈ fs, H p = none) → R1 v fs H1 → EvN tb σ H1 R2') (hr : ∀ v fs H1 w gs H2, Ex H H1 → (∀ p ∈ fs, H p = none) → R1 v fs H1 → Ex H1 H2 → (∀ p ∈ gs, H1 p = none) → R2' w gs H2 → RV r v w H2 z) :
    Ev (tOp r ta tb) σ H z := fun H1 e Q q => ha H1 e _ fun v fs H2 e2 f r1 => hb v fs H2 (e.trans e2) (fun p hp => fresh_back e (f p hp)) r1 H2 (Ex.refl H2) _ fun w gs H3 e3 f' r2 =>
  hr v fs H2 w gs H3 (e.trans e2) (fun p hp => fresh_back e (f p hp)) r1 e3 f' r2 H3 (Ex.refl H3) Q fun H4 e4 => q H4 ((e2.trans e3).trans e4)
theorem en_opN {r : R2} {R1 R2' : Rn} (ha : EvN ta σ H R1) (hb : ∀ v fs H1, Ex H H1 → (∀ p ∈ fs, H p = none) → R1 v fs H1 → EvN tb σ H1 R2')
    (hr : ∀ v fs H1 w gs H2, Ex H H1 → (∀ p ∈ fs, H p = none) → R1 v fs H1 → Ex H1 H2 → (∀ p ∈ gs, H1 p = none) → R2' w gs H2 → ∀ Q : VK, (∀ z hs H3, Ex H2 H3 → (∀ p ∈ hs, H2 p = none) → R z hs H3 → Q z H3) → r v w H2 Q) :
    EvN (tOp r ta tb) σ H R := fun H1 e Q q => ha H1 e _ fun v fs H2 e2 f r1 => hb v fs H2 (e.trans e2) (fun p hp => fresh_back e (f p hp)) r1 H2 (Ex.refl H2) _ fun w gs H3 e3 f' r2 =>
  hr v fs H2 w gs H3 (e.trans e2) (fun p hp => fresh_back e (f p hp)) r1 e3 f' r2 Q fun z hs H4 e4 f4 r4 => q z hs H4 ((e2.trans e3).trans e4) (fun p hp => fresh_back (e2.trans e3) (f4 p hp)) r4
theorem ev_cbN {r : List V → Hp → VK → Prop} {ta : TA} {R1 : List V → List Addr → Hp → Prop} (h : EvAN ta σ H R1) (hr : ∀ vs fs H1, Ex H H1 → (∀ p ∈ fs, H p = none) → R1 vs fs H1 → RC r vs H1 z) : Ev (tCB r ta) σ H z := fun H1 e Q q =>
  h H1 e _ fun vs fs H2 e2 f r => hr vs fs H2 (e.trans e2) (fun p hp => fresh_back e (f p hp)) r H2 (Ex.refl H2) Q fun H3 e3 => q H3 (e2.trans e3)
theorem en_cb {r : List V → Hp → VK → Prop} {ta : TA} {vs : List V} (h : EvA ta σ H vs) (hr : ∀ H1, Ex H H1 → ∀ Q : VK, (∀ v fs H2, Ex H1 H2 → (∀ p ∈ fs, H1 p = none) → R v fs H2 → Q v H2) → r vs H1 Q) : EvN (tCB r ta) σ H R := fun H1 e Q q =>
  h H1 e _ fun H2 e2 => hr H2 (e.trans e2) Q fun v fs H3 e3 f r => q v fs H3 (e2.trans e3) (fun p hp => fresh_back e2 (f p hp)) r
theorem en_cbN {r : List V → Hp → VK → Prop} {ta : TA} {R1 : List V → List Addr → Hp → Prop} (h : EvAN ta σ H R1) (hr : ∀ vs fs H1, Ex H H1 → (∀ p ∈ fs, H p = none) → R1 vs fs H1 → ∀ Q : VK, (∀ v fs H2, Ex H1 H2 → (∀ p ∈ fs, H1 p = none) → R v fs H2 → Q v H2) → r vs H1 Q) :
    EvN (tCB r ta) σ H R := fun H1 e Q q =>
  h H1 e _ fun vs fs H2 e2 f r => hr vs fs H2 (e.trans e2) (fun p hp => fresh_back e (f p hp)) r Q fun v gs H3 e3 f3 r3 => q v gs H3 (e2.trans e3) (fun p hp => fresh_back e2 (f3 p hp)) r3
theorem EvN.imp {R' : Rn} (h : EvN te σ H R) (k : ∀ v fs H1, Ex H H1 → R v fs H1 → R' v fs H1) : EvN te σ H R' := fun H1 e Q q => h H1 e Q fun v fs H2 e2 f r => q v fs H2 e2 f (k v fs H2 (e.trans e2) r)
/-- o.f, o an instance -/
theorem ev_fld {a C dx : Addr} {fs : List (Str × V)} {f : Str} (ho : Ev te σ H (.ref a)) (h : H a = some (.ins C dx fs)) (c : Cls K C) (n : NoAttr K C f) (l : fs.lookup f = some v) : Ev (tFld K te f) σ H v := fun H1 e Q q =>
  ho H1 e _ fun H2 e2 => ⟨a, C, dx, fs, v, rfl, e2 _ _ (e _ _ h), c, n, l, q H2 e2⟩
theorem rv_in {neg : Bool} {p : Addr} {xs : List V} (h : SqL K H p xs) (hx : flatV x = true) (ha : xs.all flatV = true) (hz : z = .bl (if neg then !inV x xs else inV x xs)) : RV (rIn K neg) x (.ref p) H z := by
  subst hz
  exact rv_inL h hx ha
theorem rv_isN : RV (fun x y H Q => y = .non ∧ Q (.bl (decide (x = .non))) H) x .non H (.bl (decide (x = .non))) := fun H1 _ _ q => ⟨rfl, q H1 (Ex.refl H1)⟩
theorem rv_notN : RV (fun x y H Q => y = .non ∧ Q (.bl (!decide (x = .non))) H) x .non H (.bl (!decide (x = .non))) := fun H1 _ _ q => ⟨rfl, q H1 (Ex.refl H1)⟩
theorem ev_chain {r r' : R2} {a b : Bool} (ha : Ev ta σ H x) (hb : Ev tb σ H y) (hr : RV r x y H (.bl a)) (hc : a = true → Ev te σ H z) (hr' : a = true → RV r' y z H (.bl b)) : Ev (tChain r r' ta tb te) σ H (.bl (a && b)) := fun H1 e Q q =>
  ha H1 e _ fun H2 e2 => hb H2 (e.trans e2) _ fun H3 e3 => hr H3 ((e.trans e2).trans e3) _ fun H4 e4 => ⟨a, rfl, by
    cases a with
    | false => exact q H4 ((e2.trans e3).trans e4)
    | true =>
      refine hc rfl H4 (((e.trans e2).trans e3).trans e4) _ fun H5 e5 => hr' rfl H5 ((((e.trans e2).trans e3).trans e4).trans e5) Q fun H6 e6 => ?_
      exact q H6 ((((e2.trans e3).trans e4).trans e5).trans e6)⟩
theorem rc_isi {t c : Value} {b : Bool} (ty : TyX K H x t) (k : ClsV y c) (e : PySem.W.kitOne K t c = some b) : RC (rIsi K) [x, y] H (.bl b) := fun H1 e1 _ q => ⟨x, y, t, c, b, rfl, k, tyX_go ty e1, e, q H1 (Ex.refl H1)⟩
theorem rc_kind {T : String} {b : Bool} (h : Kind K H x T b) : RC (rIsi K) [x, .ty T] H (.bl b) := by
  obtain ⟨t, ty, e⟩ := h
  exact rc_isi ty (.ty T) e
/-- xs.pop() of a list -/
theorem at_nat {xs : List V} {j : Nat} {v : V} (h : xs[j]? = some v) : atI xs (j : Int) = some v := atI_nat h
end
end OP

namespace OP
open PySem PySem.Spec PyProof.Rows L2 Evl
/-! ### comprehensions -/
section
variable {K : PySem.W.Frag} {σ : L2.St} {H H' : Hp} {ta tb te tl : TE} {t u : TT} {x y z v : V}
/-- [e for x in xs]: the values ys -/
theorem el_map {a : Addr} {xs ys : List V} {j : Nat} {vs : List Nat} (h : Ev tl σ H (.ref a)) (hx : SqL K H a xs) (hz : xs.length ≤ 40000) (hw : ∀ x, wipe ((wipe σ vs).set j (some x)) vs = wipe σ vs) (len : ys.length = xs.length)
    (he : ∀ (i : Nat) (x y : V) H1, Ex H H1 → xs[i]? = some x → ys[i]? = some y → Ev te ((wipe σ vs).set j (some x)) H1 y) : EvL (tLc (iList K tl) (gName j) tYes te vs) σ H ys := by
  have key : given xs.length (fun _ => true) (fun i => ys.getD i .non) = ys := by
    unfold given
    rw [List.filter_eq_self.mpr (by simp), ← len]
    apply List.ext_getElem
    · simp
    · intro i h1 h2
      simp [List.getD_eq_getElem?_getD, h2]
  rw [← key]
  refine el_lcL _ _ h hx hz hw (fun i x H1 e1 hi => ?_) (fun i x H1 e1 hi _ => ?_)
  · intro H2 _ Q q
    exact q H2 (Ex.refl H2)
  · have hl : i < ys.length := by rw [len]; exact (List.getElem?_eq_some_iff.mp hi).1
    refine he i x _ H1 e1 hi ?_
    simp [List.getD_eq_getElem?_getD, hl]
/-- [e for i in range(n)] -/
theorem el_mapR {ta : TA} {ys : List V} {j : Nat} {vs : List Nat} {n : Nat} (h : EvA ta σ H [.int n]) (hn : n ≤ 40000) (hw : ∀ x, wipe ((wipe σ vs).set j (some x)) vs = wipe σ vs) (len : ys.length = n)
    (he : ∀ (i : Nat) (y : V) H1, Ex H H1 → ys[i]? = some y → Ev te ((wipe σ vs).set j (some (.int (i : Int)))) H1 y) : EvL (tLc (iRng1 ta) (gName j) tYes te vs) σ H ys := by
  have key : given (n : Int).toNat (fun _ => true) (fun i => ys.getD i .non) = ys := by
    unfold given
    rw [List.filter_eq_self.mpr (by simp), Int.toNat_natCast, ← len]
    apply List.ext_getElem
    · simp
    · intro i h1 h2
      simp [List.getD_eq_getElem?_getD, h2]
  rw [← key]
  refine el_lcR1 _ _ h (by omega) hw (fun i H1 e1 hi => ?_) (fun i H1 e1 hi _ => ?_)
  · intro H2 _ Q q
    exact q H2 (Ex.refl H2)
  · have hl : i < ys.length := by omega
    refine he i _ H1 e1 ?_
    simp [List.getD_eq_getElem?_getD, hl]
/-- what comprehensions with new things give: F of each turn's value and its new objects -/
def MadeAt (F : Nat → V → List Addr → Hp → Prop) (n : Nat) (D : Addr) (ys : List V) (fss : List (List Addr)) (G : Hp) : Prop :=
  G D = some (.lst ys) ∧ ys.length = n ∧ fss.length = n ∧ ∀ k y fs, ys[k]? = some y → fss[k]? = some fs → F k y fs G
def Made (F : Nat → V → List Addr → Hp → Prop) (n : Nat) : Rn := fun v gs G => ∃ D ys fss, v = .ref D ∧ gs = D :: fss.flatten ∧ MadeAt F n D ys fss G
def Stab (F : Nat → V → List Addr → Hp → Prop) : Prop := ∀ i v fs (G G' : Hp), (∀ p ∈ fs, ∀ o, G p = some o → G' p = some o) → F i v fs G → F i v fs G'
def MadeW (F : Nat → V → List Addr → Hp → Prop) (H1 : Hp) (D : Addr) (i : Nat) (H' : Hp) : Prop := Ex H1 H' ∧ ∃ ys fss, MadeAt F i D ys fss H' ∧ ∀ fs ∈ fss, ∀ p ∈ fs, H1 p = none ∧ p ≠ D
theorem made_turn {F : Nat → V → List Addr → Hp → Prop} (stab : Stab F) {H1 H' : Hp} {D : Addr} {i : Nat} {σ2 : L2.St} (hD : H1 D = none) (p : MadeW F H1 D i H') (hi : i < 50000)
    (he : EvN te σ2 H1 (fun v fs H2 => F i v fs H2)) :
    tYes σ2 H' fun b H3 => if b = true then te σ2 H3 fun y H4 => ∃ acc, H4 D = some (.lst acc) ∧ acc.length < sizeLine ∧ MadeW F H1 D (i + 1) (upd H4 D (.lst (acc ++ [y]))) else MadeW F H1 D (i + 1) H3 := by
  obtain ⟨e1, ys, fss, ⟨hys, len, lfs, hF⟩, hn⟩ := p
  show te σ2 H' _
  refine he H' e1 _ fun v fs H4 e4 f r => ⟨ys, e4 _ _ hys, sz_lt (by omega), (e1.trans e4).mut hD, ys ++ [v], fss ++ [fs], ⟨upd_same, by simp [len], by simp [lfs], fun k y gs hk hg => ?_⟩, fun gs hg q hq => ?_⟩
  · have fD : D ∉ fs := fun z => by rw [f D z] at hys; cases hys
    rcases Nat.lt_or_ge k i with c | c
    · rw [List.getElem?_append_left (by omega)] at hk hg
      refine stab _ _ _ H' _ (fun q hq o ho => ?_) (hF k y gs hk hg)
      rw [upd_ne (hn gs (List.mem_of_getElem? hg) q hq).2]
      exact e4 _ _ ho
    · rw [List.getElem?_append_right (by omega)] at hk hg
      have ek : k = i := by
        have := (List.getElem?_eq_some_iff.mp hk).1
        simp at this
        omega
      subst ek
      simp [len] at hk
      simp [lfs] at hg
      subst hk hg
      refine stab _ _ _ H4 _ (fun q hq o ho => ?_) r
      rw [upd_ne (fun z => fD (by rw [← z]; exact hq))]
      exact ho
  · rcases List.mem_append.mp hg with z | z
    · exact hn gs z q hq
    · rw [List.mem_singleton.mp z] at hq
      exact ⟨fresh_back e1 (f q hq), fun w => by rw [w] at hq; rw [f D hq] at hys; cases hys⟩
theorem made_end {F : Nat → V → List Addr → Hp → Prop} {H0 H1 H' : Hp} {D : Addr} {n : Nat} {Q : VK} (e : Ex H0 H1) (hD : H1 D = none) (p : MadeW F H1 D n H') (q : ∀ v fs H2, Ex H0 H2 → (∀ p ∈ fs, H0 p = none) → Made F n v fs H2 → Q v H2) : Q (.ref D) H' := by
  obtain ⟨e1, ys, fss, m, hn⟩ := p
  refine q _ (D :: fss.flatten) H' (e.trans e1) (fun r hr => ?_) ⟨D, ys, fss, rfl, rfl, m⟩
  rcases List.mem_cons.mp hr with z | z
  · rw [z]; exact fresh_back e hD
  · obtain ⟨fs, h1, h2⟩ := List.mem_flatten.mp z
    exact fresh_back e (hn fs h1 r h2).1
theorem made_zero {F : Nat → V → List Addr → Hp → Prop} {H1 : Hp} {D : Addr} (hD : H1 D = none) : MadeW F H1 D 0 (upd H1 D (.lst [])) :=
  ⟨Ex.new hD, [], [], ⟨upd_same, rfl, rfl, fun k y fs h => by simp at h⟩, fun fs h => nomatch h⟩
/-- [e for x in xs], e a new thing -/
theorem en_map {F : Nat → V → List Addr → Hp → Prop} (stab : Stab F) {a : Addr} {xs : List V} {j : Nat} {vs : List Nat} (h : Ev tl σ H (.ref a)) (hx : SqL K H a xs) (hz : xs.length ≤ 40000) (hw : ∀ x, wipe ((wipe σ vs).set j (some x)) vs = wipe σ vs)
    (he : ∀ (i : Nat) (x : V) H1, Ex H H1 → xs[i]? = some x → EvN te ((wipe σ vs).set j (some x)) H1 (fun v fs H2 => F i v fs H2)) : EvN (tLc (iList K tl) (gName j) tYes te vs) σ H (Made F xs.length) := fun H0 e Q q =>
  h H0 e _ fun H1 e1 => ⟨a, rfl, ⟨xs, ex_l (e.trans e1) hx⟩, fun D hD =>
  lc_list (xs := xs) (MadeW F H1 D) (made_zero hD) (fun i H' _ p => ex_l ((e.trans e1).trans p.1) hx)
    (fun i x H' hi p => ⟨hw x, made_turn stab hD p (by have := (List.getElem?_eq_some_iff.mp hi).1; omega) (he i x H1 (e.trans e1) hi)⟩) (fun H' p => made_end e1 hD p q)⟩
/-- [e for i in range(n)], e a new thing -/
theorem en_mapR {F : Nat → V → List Addr → Hp → Prop} (stab : Stab F) {ta : TA} {j n : Nat} {vs : List Nat} (h : EvA ta σ H [.int n]) (hn : n ≤ 40000) (hw : ∀ x, wipe ((wipe σ vs).set j (some x)) vs = wipe σ vs)
    (he : ∀ (i : Nat) H1, Ex H H1 → i < n → EvN te ((wipe σ vs).set j (some (.int (i : Int)))) H1 (fun v fs H2 => F i v fs H2)) : EvN (tLc (iRng1 ta) (gName j) tYes te vs) σ H (Made F n) := fun H0 e Q q =>
  h H0 e _ fun H1 e1 => ⟨n, rfl, by omega, by omega, fun D hD =>
  lc_range (lo := 0) (n := (n : Int).toNat) (MadeW F H1 D) (made_zero hD) (fun i H' hi p => by
    have e0 : (0 : Int) + (i : Int) = (i : Int) := Int.zero_add _
    show wipe ((wipe σ vs).set j (some (.int ((0 : Int) + (i : Int))))) vs = wipe σ vs ∧ _
    rw [e0]
    exact ⟨hw _, made_turn stab hD p (by omega) (he i H1 (e.trans e1) (by omega))⟩) (fun H' p => made_end e1 hD (by rw [Int.toNat_natCast] at p; exact p) q)⟩
end

/-! ### sorting -/
def srt (l : List Nat) : List Nat := l.mergeSort (fun a b => decide (a ≤ b))
theorem srt_perm (l : List Nat) : (srt l).Perm l := List.mergeSort_perm l _
theorem srt_le (l : List Nat) : (srt l).Pairwise (· ≤ ·) := by
  have := List.pairwise_mergeSort (le := fun a b : Nat => decide (a ≤ b)) (fun a b c h1 h2 => by simp at *; omega) (fun a b => by simp; omega) l
  exact this.imp fun h => by simpa using h
theorem srt_one {l m : List Nat} (p : m.Perm l) (h : m.Pairwise (· ≤ ·)) : m = srt l := List.Perm.eq_of_pairwise (le := (· ≤ ·)) (fun a b _ _ h1 h2 => Nat.le_antisymm h1 h2) h (srt_le l) (p.trans (srt_perm l).symm)
theorem srt_ints {l : List Nat} {ns : List Int} (p : ns.Perm (l.map (fun n : Nat => (n : Int)))) (h : ns.Pairwise (· ≤ ·)) : ns.map V.int = (srt l).map vn := by
  have q : ns = (srt l).map fun n : Nat => (n : Int) := by
    refine List.Perm.eq_of_pairwise (le := (· ≤ ·)) (fun a b _ _ h1 h2 => Int.le_antisymm h1 h2) h ?_ (p.trans ((srt_perm l).map _).symm)
    exact List.pairwise_map.mpr ((srt_le l).imp fun h => by omega)
  rw [q, List.map_map]
  rfl
def leP (a b : Nat × Nat) : Bool := decide (a.1 < b.1) || (decide (a.1 = b.1) && decide (a.2 ≤ b.2))
theorem leP_iff {a b : Nat × Nat} : leP a b = true ↔ a.1 < b.1 ∨ (a.1 = b.1 ∧ a.2 ≤ b.2) := by
  simp [leP]
def srtP (l : List (Nat × Nat)) : List (Nat × Nat) := l.mergeSort leP
theorem srtP_perm (l : List (Nat × Nat)) : (srtP l).Perm l := List.mergeSort_perm l _
theorem srtP_le (l : List (Nat × Nat)) : (srtP l).Pairwise fun a b => leP a b = true :=
  List.pairwise_mergeSort (fun a b c h1 h2 => by rw [leP_iff] at *; omega) (fun a b => by rw [Bool.or_eq_true, leP_iff, leP_iff]; omega) l
theorem leP_anti {a b : Nat × Nat} (h1 : leP a b = true) (h2 : leP b a = true) : a = b := by
  rw [leP_iff] at h1 h2
  exact Prod.ext (by omega) (by omega)
theorem srtP_one {l m : List (Nat × Nat)} (p : m.Perm l) (h : m.Pairwise fun a b => leP a b = true) : m = srtP l :=
  List.Perm.eq_of_pairwise (le := fun a b => leP a b = true) (fun a b _ _ h1 h2 => leP_anti h1 h2) h (srtP_le l) (p.trans (srtP_perm l).symm)
/-- the pair that stands at an address -/
def prAt (H : Hp) (v : V) : Int × Int := match v with
  | .ref a => match H a with
    | some (.tup [.int i, .int j]) => (i, j)
    | _ => (0, 0)
  | _ => (0, 0)
theorem prAt_of {H : Hp} {a : Addr} {p : Nat × Nat} (h : Pr H a p) : prAt H (.ref a) = ((p.1 : Int), (p.2 : Int)) := by
  unfold prAt
  dsimp only
  rw [show H a = _ from h]
theorem prs_pick {H : Hp} : ∀ {as : List Addr} {ps : List (Nat × Nat)}, Paired (Pr H) as ps → ∀ x ∈ as, ∃ p ∈ ps, Pr H x p
  | _, _, .nil, x, h => nomatch h
  | _, _, .cons r t, x, h => by
    rcases List.mem_cons.mp h with e | h
    · subst e; exact ⟨_, List.mem_cons_self, r⟩
    · obtain ⟨p, h1, h2⟩ := prs_pick t x h
      exact ⟨p, List.mem_cons_of_mem _ h1, h2⟩
theorem paired_of {H : Hp} : ∀ {as : List Addr}, (∀ x ∈ as, ∃ p : Nat × Nat, Pr H x p) → ∃ ps, Paired (Pr H) as ps
  | [], _ => ⟨[], .nil⟩
  | a :: as, h => by
    obtain ⟨p, hp⟩ := h a List.mem_cons_self
    obtain ⟨ps, r⟩ := paired_of (as := as) fun x hx => h x (List.mem_cons_of_mem _ hx)
    exact ⟨p :: ps, .cons hp r⟩
theorem pr_inj {H : Hp} {a : Addr} {p q : Nat × Nat} (h1 : Pr H a p) (h2 : Pr H a q) : p = q := by
  have e : some (HO.tup [vn p.1, vn p.2]) = some (HO.tup [vn q.1, vn q.2]) := h1.symm.trans h2
  injection e with e
  injection e with e
  injection e with e1 e2
  injection e2 with e2 _
  injection e1 with e1
  injection e2 with e2
  exact Prod.ext (by omega) (by omega)
/-- two lists of pairs at addresses that are one another's rearrangement -/
theorem prs_perm {H : Hp} {as bs : List Addr} {ps qs : List (Nat × Nat)} (h : as.Perm bs) (x : Paired (Pr H) as ps) (y : Paired (Pr H) bs qs) : ps.Perm qs := by
  have key : ∀ {as : List Addr} {ps : List (Nat × Nat)}, Paired (Pr H) as ps → as.map (fun a => prAt H (.ref a)) = ps.map fun p => ((p.1 : Int), (p.2 : Int)) := by
    intro as ps h
    induction h with
    | nil => rfl
    | cons r t ih => rw [List.map_cons, List.map_cons, ih, prAt_of r]
  have q := h.map (fun a => prAt H (.ref a))
  rw [key x, key y] at q
  have back := q.map (fun z : Int × Int => (z.1.toNat, z.2.toNat))
  rw [List.map_map, List.map_map] at back
  have idf : ((fun z : Int × Int => (z.1.toNat, z.2.toNat)) ∘ fun p : Nat × Nat => ((p.1 : Int), (p.2 : Int))) = id := by
    funext p
    simp [Function.comp]
  rw [idf, List.map_id, List.map_id] at back
  exact back
theorem refs_perm {as : List Addr} : ∀ {ys : List V}, ys.Perm (as.map V.ref) → ∃ bs : List Addr, ys = bs.map V.ref ∧ bs.Perm as := fun {ys} h => by
  have all : ∀ y ∈ ys, ∃ b, y = V.ref b := fun y hy => by
    obtain ⟨b, _, e⟩ := List.mem_map.mp (h.mem_iff.mp hy)
    exact ⟨b, e.symm⟩
  have ex : ∀ (ys : List V), (∀ y ∈ ys, ∃ b, y = V.ref b) → ∃ bs : List Addr, ys = bs.map V.ref := fun ys => by
    induction ys with
    | nil => intro _; exact ⟨[], rfl⟩
    | cons y ys ih =>
      intro hy
      obtain ⟨b, rfl⟩ := hy y List.mem_cons_self
      obtain ⟨bs, rfl⟩ := ih fun z hz => hy z (List.mem_cons_of_mem _ hz)
      exact ⟨b :: bs, rfl⟩
  obtain ⟨bs, e⟩ := ex ys all
  refine ⟨bs, e, ?_⟩
  rw [e] at h
  let g : V → Addr := fun v => match v with | .ref a => a | _ => 0
  have q := h.map g
  rw [List.map_map, List.map_map] at q
  simpa [g, Function.comp_def] using q
section
variable {K : PySem.W.Frag} {σ : L2.St} {H H' : Hp} {ta tb te tl : TE}
/-- sorted(xs), xs a list of places -/
theorem el_sorted {a : Addr} {l : List Nat} {ta : TA} (h : EvA ta σ H [.ref a]) (hl : SqL K H a (l.map vn)) : EvL (tCB (rSortedI K) ta) σ H ((srt l).map vn) := fun H0 e Q q => h H0 e _ fun H1 e1 => by
  refine ⟨a, l.map (fun n : Nat => (n : Int)), rfl, ?_, fun ns p pm pw hp => ?_⟩
  · have := ex_l (e.trans e1) hl
    rwa [List.map_map]
  · rw [srt_ints pm pw]
    exact q p _ (fresh_back e1 hp) (e1.trans (Ex.new hp)) upd_same
/-- sorted(ps), ps a list of pairs -/
theorem en_sortedP {a : Addr} {ps : List (Nat × Nat)} {ta : TA} (h : EvA ta σ H [.ref a]) (hl : Prs H a ps) : EvN (tCB (rSortedPO K) ta) σ H (fun v fs H2 => ∃ p bs, v = .ref p ∧ fs = [p] ∧ H2 p = some (.lst (bs.map V.ref)) ∧ Paired (Pr H) bs (srtP ps)) := fun H0 e Q q => h H0 e _ fun H1 e1 => by
  obtain ⟨as, h1, h2⟩ := hl
  refine ⟨a, as.map V.ref, prAt H1, rfl, ex_l (e.trans e1) (sq_of h1), fun x hx => ?_, fun ys p hs st hp => ?_⟩
  · obtain ⟨b, hb, rfl⟩ := List.mem_map.mp hx
    obtain ⟨r, _, hr⟩ := prs_pick h2 b hb
    have z : Pr H1 b r := (e.trans e1) _ _ hr
    exact ⟨b, rfl, by rw [prAt_of z]; exact z⟩
  · obtain ⟨bs, rfl, pm⟩ := refs_perm st.perm
    obtain ⟨qs, hq⟩ := paired_of (H := H) (as := bs) fun x hx => by
      obtain ⟨r, _, hr⟩ := prs_pick h2 x (pm.mem_iff.mp hx)
      exact ⟨r, hr⟩
    have sorted : qs.Pairwise fun a b => leP a b = true := by
      have key : ∀ {bs : List Addr} {qs : List (Nat × Nat)}, Paired (Pr H) bs qs → SrtO.Srtd (ltP (prAt H1)) (bs.map V.ref) → qs.Pairwise fun a b => leP a b = true := by
        intro bs qs hq
        induction hq with
        | nil => intro _; exact .nil
        | @cons b q bs qs r t ih =>
          intro hs
          rw [List.map_cons] at hs
          obtain ⟨u1, u2⟩ := List.pairwise_cons.mp hs
          refine List.pairwise_cons.mpr ⟨fun q' hq' => ?_, ih u2⟩
          obtain ⟨i, hi⟩ := List.getElem?_of_mem hq'
          obtain ⟨b', hb', r'⟩ := paired_get t hi
          have := u1 (.ref b') (List.mem_map.mpr ⟨b', List.mem_of_getElem? hb', rfl⟩)
          have z : Pr H1 b q := (e.trans e1) _ _ r
          have z' : Pr H1 b' q' := (e.trans e1) _ _ r'
          have w := SrtO.lexB_no.mp this
          rw [prAt_of z, prAt_of z'] at w
          rw [leP_iff]
          dsimp only at w
          omega
      exact key hq hs
    have e3 : qs = srtP ps := srtP_one (prs_perm pm hq h2) sorted
    rw [e3] at hq
    exact q _ [p] _ (e1.trans (Ex.new hp)) (fun r hr => by rw [List.mem_singleton.mp hr]; exact fresh_back e1 hp) ⟨p, bs, rfl, rfl, upd_same, hq⟩
end
end OP

/-! Nets, plainly. -/
namespace OP
open PySem PySem.Spec PyProof.Rows L2 Evl
structure Web where
  size : Nat
  near : List (List Nat)
def nearOf (n : Nat) (ps : List (Nat × Nat)) (i : Nat) : List Nat := (List.range n).filter fun j => ps.contains (i, j) || ps.contains (j, i)
def webOf (n : Nat) (ps : List (Nat × Nat)) : Web := ⟨n, (List.range n).map (nearOf n ps)⟩
def TiesOk (n : Nat) (ps : List (Nat × Nat)) : Prop := ∀ p ∈ ps, p.1 < p.2 ∧ p.2 < n
/-- what a row has got behind the ties qs -/
def rowBy (j : Nat) (qs : List (Nat × Nat)) : List Nat := qs.filterMap fun p => if p.1 = j then some p.2 else if p.2 = j then some p.1 else none
theorem rowBy_snoc (j : Nat) (qs : List (Nat × Nat)) (p : Nat × Nat) : rowBy j (qs ++ [p]) = rowBy j qs ++ (if p.1 = j then [p.2] else if p.2 = j then [p.1] else []) := by
  unfold rowBy
  rw [List.filterMap_append]
  congr 1
  rw [List.filterMap_cons, List.filterMap_nil]
  split <;> rename_i h <;> split at h <;> simp_all
theorem rowBy_len (j : Nat) (qs : List (Nat × Nat)) : (rowBy j qs).length ≤ qs.length := List.length_filterMap_le _ _
theorem mem_rowBy {j x : Nat} {qs : List (Nat × Nat)} (h : ∀ p ∈ qs, p.1 < p.2) : x ∈ rowBy j qs ↔ (j, x) ∈ qs ∨ (x, j) ∈ qs := by
  unfold rowBy
  rw [List.mem_filterMap]
  constructor
  · rintro ⟨⟨a, b⟩, hp, e⟩
    dsimp only at e
    split at e
    · rename_i c
      cases e
      rw [c] at hp
      exact .inl hp
    · split at e
      · rename_i c
        cases e
        rw [c] at hp
        exact .inr hp
      · cases e
  · rintro (hp | hp)
    · exact ⟨_, hp, by simp⟩
    · refine ⟨_, hp, ?_⟩
      have := h _ hp
      dsimp only at this ⊢
      rw [if_neg (by omega), if_pos rfl]
theorem rowBy_nodup {j : Nat} {qs : List (Nat × Nat)} (h : ∀ p ∈ qs, p.1 < p.2) (nd : qs.Nodup) : (rowBy j qs).Nodup := by
  unfold rowBy List.Nodup
  rw [List.pairwise_filterMap]
  refine List.Pairwise.imp_of_mem (fun {p q} hp hq hne x hx y hy e => ?_) nd
  subst e
  have h1 := h p hp
  have h2 := h q hq
  have key : ∀ r : Nat × Nat, (if r.1 = j then some r.2 else if r.2 = j then some r.1 else none) = some x → (r.1 = j ∧ r.2 = x) ∨ (r.2 = j ∧ r.1 = x) := fun r e => by
    split at e
    · rename_i c
      exact .inl ⟨c, Option.some.inj e⟩
    · split at e
      · rename_i c
        exact .inr ⟨c, Option.some.inj e⟩
      · cases e
  have k1 := key p hx
  have k2 := key q hy
  exact hne (Prod.ext (by omega) (by omega))
theorem mem_nearOf {n : Nat} {ps : List (Nat × Nat)} {i j : Nat} : j ∈ nearOf n ps i ↔ j < n ∧ ((i, j) ∈ ps ∨ (j, i) ∈ ps) := by
  unfold nearOf
  rw [List.mem_filter, List.mem_range, Bool.or_eq_true, List.contains_iff_mem, List.contains_iff_mem]
theorem nearOf_le (n : Nat) (ps : List (Nat × Nat)) (i : Nat) : (nearOf n ps i).Pairwise (· < ·) := List.Pairwise.filter _ List.pairwise_lt_range
theorem nearOf_nodup (n : Nat) (ps : List (Nat × Nat)) (i : Nat) : (nearOf n ps i).Nodup := (nearOf_le n ps i).imp fun h => Nat.ne_of_lt h
theorem row_is {n : Nat} {ps qs : List (Nat × Nat)} (ok : TiesOk n ps) (nd : ps.Nodup) (pm : qs.Perm ps) (j : Nat) : srt (rowBy j qs) = nearOf n ps j := by
  have okq : ∀ p ∈ qs, p.1 < p.2 := fun p hp => (ok p (pm.mem_iff.mp hp)).1
  refine (srt_one ?_ ((nearOf_le n ps j).imp fun h => Nat.le_of_lt h)).symm
  refine (List.perm_ext_iff_of_nodup (nearOf_nodup n ps j) (rowBy_nodup okq (pm.nodup_iff.mpr nd))).mpr fun x => ?_
  rw [mem_nearOf, mem_rowBy okq, pm.mem_iff, pm.mem_iff]
  constructor
  · exact fun h => h.2
  · intro h
    refine ⟨?_, h⟩
    rcases h with h | h
    · exact (ok _ h).2
    · have := ok _ h
      dsimp only at this
      omega
/-! ### a net in the heap -/
def netF (n : Nat) (l : Addr) : List (Str × V) := [("size", vn n), ("near", .ref l)]
theorem netF_size (n : Nat) (l : Addr) : (netF n l).lookup ("size" : Str) = some (vn n) := by
  unfold netF
  rw [List.lookup_cons_self]
theorem netF_near (n : Nat) (l : Addr) : (netF n l).lookup ("near" : Str) = some (.ref l) := by
  unfold netF
  rw [List.lookup_cons, show (("near" : Str) == "size") = false by decide +kernel]
  dsimp only
  rw [List.lookup_cons_self]
theorem netF_no (n : Nat) (l : Addr) {m : Str} (h1 : (m == ("size" : Str)) = false) (h2 : (m == ("near" : Str)) = false) : (netF n l).lookup m = none := by
  unfold netF
  rw [List.lookup_cons, h1]
  dsimp only
  rw [List.lookup_cons, h2]
  rfl
theorem str_sn : ¬ (("size" : Str) = "near") := by decide +kernel
theorem put_size (v : V) : putF "size" v [] = ([("size", v)] : List (Str × V)) := rfl
theorem put_near (n : Nat) (l : Addr) : putF "near" (.ref l) ([("size", vn n)] : List (Str × V)) = netF n l := by
  show (if ("size" : Str) = "near" then _ else (("size" : Str), vn n) :: putF "near" (V.ref l) []) = _
  rw [if_neg str_sn]
  rfl
theorem put_near2 (n : Nat) (l m : Addr) : putF "near" (.ref m) (netF n l) = netF n m := by
  show (if ("size" : Str) = "near" then _ else (("size" : Str), vn n) :: (if ("near" : Str) = "near" then (("near" : Str), V.ref m) :: [] else _)) = _
  rw [if_neg str_sn, if_pos rfl]
  rfl
/-- a Net of the class at C stands at a -/
def NetAt (C : Addr) (H : Hp) (a : Addr) (W : Web) : Prop := ∃ dx l, H a = some (.ins C dx (netF W.size l)) ∧ Rows H l W.near
theorem NetAt.go {C : Addr} {H H' : Hp} {a : Addr} {W : Web} (x : NetAt C H a W) (s : Ex H H') : NetAt C H' a W := by
  obtain ⟨dx, l, h, r⟩ := x
  exact ⟨dx, l, s _ _ h, r.go s⟩
/-- refs of what a comprehension made, each a list of places -/
theorem rows_of {f : Nat → List Nat} : ∀ {ys : List V} {G : Hp}, (∀ i y, ys[i]? = some y → ∃ b, y = .ref b ∧ Ints G b (f i)) → ∃ as : List Addr, ys = as.map V.ref ∧ Paired (fun b r => Ints G b r) as ((List.range ys.length).map f)
  | [], _, _ => ⟨[], rfl, .nil⟩
  | y :: ys, G, h => by
    obtain ⟨b, rfl, hb⟩ := h 0 y rfl
    obtain ⟨as, e, p⟩ := rows_of (f := fun i => f (i + 1)) (ys := ys) (G := G) fun i y hy => h (i + 1) y (by simpa using hy)
    refine ⟨b :: as, by rw [e]; rfl, ?_⟩
    rw [List.length_cons, List.range_succ_eq_map, List.map_cons, List.map_map]
    exact .cons hb p
end OP

namespace OP
open PySem PySem.Spec PyProof.Rows L2 Evl
section
variable {K : PySem.W.Frag} {σ : L2.St} {H H' : Hp} {ta tb te tv tl : TE} {t u : TT} {x y z v : V} {D : Ends} {tu tw tz : TS} {g : TG} {R : Rn}
/-- [[] for x in range(n)]: new empty lists, all apart -/
def Blank (n : Nat) : Rn := fun v gs G => ∃ (D : Addr) (as : List Addr), v = .ref D ∧ gs = D :: as ∧ (D :: as).Nodup ∧ as.length = n ∧ G D = some (.lst (as.map V.ref)) ∧ ∀ b ∈ as, G b = some (.lst [])
theorem en_blank {ta : TA} {j n : Nat} {vs : List Nat} (h : EvA ta σ H [.int n]) (hn : n ≤ 40000) (hw : ∀ x, wipe ((wipe σ vs).set j (some x)) vs = wipe σ vs) : EvN (tLc (iRng1 ta) (gName j) tYes (tLst tNil) vs) σ H (Blank n) := fun H0 e Q q =>
  h H0 e _ fun H1 e1 => ⟨n, rfl, by omega, by omega, fun D hD =>
  lc_range (lo := 0) (n := (n : Int).toNat) (fun i H' => Ex H1 H' ∧ ∃ as : List Addr, as.length = i ∧ (D :: as).Nodup ∧ H' D = some (.lst (as.map V.ref)) ∧ ∀ b ∈ as, H' b = some (.lst []) ∧ H1 b = none)
    ⟨Ex.new hD, [], rfl, by simp, upd_same, fun b hb => nomatch hb⟩
    (fun i H' hi ⟨e2, as, len, nd, hd, hb⟩ => ⟨hw _, by
      show (0 ≤ sizeLine) ∧ ∀ p, H' p = none → ∃ acc, upd H' p (.lst []) D = some (.lst acc) ∧ acc.length < sizeLine ∧ _
      refine ⟨Nat.zero_le _, fun p hp => ?_⟩
      have pD : p ≠ D := fun z => by rw [z, hd] at hp; cases hp
      have pas : p ∉ as := fun z => by rw [(hb p z).1] at hp; cases hp
      have Das : D ∉ as := (List.nodup_cons.mp nd).1
      refine ⟨as.map V.ref, by rw [upd_ne pD.symm]; exact hd, sz_lt (by rw [List.length_map]; omega), (e2.trans (Ex.new hp)).mut hD, as ++ [p], by simp [len], ?_, ?_, fun b hb' => ?_⟩
      · refine List.nodup_cons.mpr ⟨fun z => ?_, ?_⟩
        · rcases List.mem_append.mp z with z | z
          · exact Das z
          · exact pD (List.mem_singleton.mp z).symm
        · exact List.nodup_append.mpr ⟨(List.nodup_cons.mp nd).2, by simp, fun a ha b hb z => pas (by rw [List.mem_singleton.mp hb] at z; rw [← z]; exact ha)⟩
      · rw [upd_same, List.map_append]
        rfl
      · rcases List.mem_append.mp hb' with z | z
        · have bD : b ≠ D := fun w => Das (by rw [← w]; exact z)
          have bp : b ≠ p := fun w => pas (by rw [← w]; exact z)
          exact ⟨by rw [upd_ne bD, upd_ne bp]; exact (hb b z).1, (hb b z).2⟩
        · have z := List.mem_singleton.mp z
          subst z
          exact ⟨by rw [upd_ne pD, upd_same], fresh_back e2 hp⟩⟩)
    (fun H' ⟨e2, as, len, nd, hd, hb⟩ => q _ (D :: as) H' (e1.trans e2) (fun r hr => by
      rcases List.mem_cons.mp hr with z | z
      · rw [z]; exact fresh_back e1 hD
      · exact fresh_back e1 (hb r z).2) ⟨D, as, rfl, rfl, nd, by rw [len, Int.toNat_natCast], hd, fun b hb' => (hb b hb').1⟩)⟩
/-- o.f = e -/
theorem q_fld {a C dx : Addr} {fs : List (Str × V)} {f : Str} (h : Ev tv σ H v) (ho : Ev ta σ H (.ref a)) (ha : H a = some (.ins C dx fs)) (c : Cls K C) (n : NoAttr K C f) (len : fs.length < 1000)
    (k : ∀ H1, Ex H H1 → tz D σ (upd H1 a (.ins C dx (putF f v fs)))) : tSeq (sFld K ta tv f) tz D σ H :=
  h H (Ex.refl H) _ fun H1 e1 => ho H1 e1 _ fun H2 e2 => ⟨a, C, dx, fs, rfl, e2 _ _ (e1 _ _ ha), c, n, len, k H2 (e1.trans e2)⟩
theorem s_fld {a C dx : Addr} {fs : List (Str × V)} {f : Str} (h : Ev tv σ H v) (ho : Ev ta σ H (.ref a)) (ha : H a = some (.ins C dx fs)) (c : Cls K C) (n : NoAttr K C f) (len : fs.length < 1000)
    (k : ∀ H1, Ex H H1 → D.nx σ (upd H1 a (.ins C dx (putF f v fs)))) : sFld K ta tv f D σ H :=
  h H (Ex.refl H) _ fun H1 e1 => ho H1 e1 _ fun H2 e2 => ⟨a, C, dx, fs, rfl, e2 _ _ (e1 _ _ ha), c, n, len, k H2 (e1.trans e2)⟩
theorem q_fldN {a C dx : Addr} {fs : List (Str × V)} {f : Str} (h : EvN tv σ H R) (ho : Ev ta σ H (.ref a)) (ha : H a = some (.ins C dx fs)) (c : Cls K C) (n : NoAttr K C f) (len : fs.length < 1000)
    (k : ∀ v gs H1, Ex H H1 → (∀ p ∈ gs, H p = none) → R v gs H1 → ∀ H2, Ex H1 H2 → tz D σ (upd H2 a (.ins C dx (putF f v fs)))) : tSeq (sFld K ta tv f) tz D σ H :=
  h H (Ex.refl H) _ fun v gs H1 e1 fr r => ho H1 e1 _ fun H2 e2 => ⟨a, C, dx, fs, rfl, e2 _ _ (e1 _ _ ha), c, n, len, k v gs H1 e1 fr r H2 e2⟩
theorem s_fldN {a C dx : Addr} {fs : List (Str × V)} {f : Str} (h : EvN tv σ H R) (ho : Ev ta σ H (.ref a)) (ha : H a = some (.ins C dx fs)) (c : Cls K C) (n : NoAttr K C f) (len : fs.length < 1000)
    (k : ∀ v gs H1, Ex H H1 → (∀ p ∈ gs, H p = none) → R v gs H1 → ∀ H2, Ex H1 H2 → D.nx σ (upd H2 a (.ins C dx (putF f v fs)))) : sFld K ta tv f D σ H :=
  h H (Ex.refl H) _ fun v gs H1 e1 fr r => ho H1 e1 _ fun H2 e2 => ⟨a, C, dx, fs, rfl, e2 _ _ (e1 _ _ ha), c, n, len, k v gs H1 e1 fr r H2 e2⟩
/-- len(set(ps)) < len(ps) -/
theorem zip_keys : ∀ {as : List Addr} {ps : List (Nat × Nat)}, Paired (Pr H) as ps → ∃ ks : List (Addr × List Int), ks.map (·.1) = as ∧ ks.map (·.2) = ps.map (fun p => [(p.1 : Int), (p.2 : Int)]) ∧ ∀ k ∈ ks, H k.1 = some (.tup (k.2.map V.int))
  | _, _, .nil => ⟨[], rfl, rfl, fun _ h => nomatch h⟩
  | _, _, @Paired.cons _ _ _ a p as ps r t => by
    obtain ⟨ks, h1, h2, h3⟩ := zip_keys t
    refine ⟨(a, [(p.1 : Int), (p.2 : Int)]) :: ks, by rw [List.map_cons, h1], by rw [List.map_cons, h2]; rfl, fun k hk => ?_⟩
    rcases List.mem_cons.mp hk with e | hk
    · subst e; exact r
    · exact h3 k hk
theorem nodup_keys {ps : List (Nat × Nat)} : (ps.map (fun p => [(p.1 : Int), (p.2 : Int)])).Nodup ↔ ps.Nodup := by
  unfold List.Nodup
  rw [List.pairwise_map]
  constructor
  · exact fun h => h.imp fun hn e => hn (by rw [e])
  · refine fun h => h.imp fun {a b} hn e => hn ?_
    injection e with e1 e2
    injection e2 with e2 _
    exact Prod.ext (by omega) (by omega)
theorem et_dup {l : Addr} {ps : List (Nat × Nat)} (h : Ev te σ H (.ref l)) (hl : Prs H l ps) (few : ps.length < 1000) (hb : Ev tb σ H (.int ps.length)) :
    EvT (tTest (tOp (rI0 fun i j => .bl (decide (i < j))) (tLenSetT K te) tb)) σ H (!decide ps.Nodup) := fun H1 e1 Q q => h H1 e1 _ fun H2 e2 => by
  obtain ⟨as, h1, h2⟩ := hl
  obtain ⟨ks, k1, k2, k3⟩ := zip_keys h2
  have len : ks.length = ps.length := by rw [← List.length_map (f := (·.1)), k1, paired_len h2]
  refine ⟨l, ks, rfl, ex_l (e1.trans e2) (sq_of (by rw [← k1, List.map_map] at h1; exact h1)), fun k hk => ex_t (e1.trans e2) (st_of (k3 k hk)), by omega, fun n hn hiff => ?_⟩
  refine hb H2 (e1.trans e2) _ fun H3 e3 => ⟨_, _, rfl, rfl, _, rfl, ?_⟩
  rw [k2, nodup_keys, len] at hiff
  have : decide ((n : Int) < (ps.length : Nat)) = !decide ps.Nodup := by
    by_cases c : ps.Nodup
    · have := hiff.mpr c
      simp [c]
      omega
    · have : n ≠ ps.length := fun z => c (hiff.mp z)
      simp [c]
      omega
  rw [this]
  exact q H3 (e2.trans e3)
/-- all([..]) of tests -/
theorem ev_all {bs : List Bool} (h : EvL te σ H (bs.map V.bl)) : Ev (tCB (rAll K) (tCons te tNil)) σ H (.bl (bs.all id)) := fun H1 e Q q =>
  h H1 e _ fun p H2 hp e2 h2 => ⟨p, bs, rfl, sq_of h2, q H2 e2⟩
theorem ev_any {bs : List Bool} (h : EvL te σ H (bs.map V.bl)) : Ev (tCB (rAny K) (tCons te tNil)) σ H (.bl (bs.any id)) := fun H1 e Q q =>
  h H1 e _ fun p H2 hp e2 h2 => ⟨p, bs, rfl, sq_of h2, q H2 e2⟩
theorem ev_lenP {a : Addr} {ps : List (Nat × Nat)} (h : Ev te σ H (.ref a)) (hl : Prs H a ps) : Ev (tCB (rLenS K) (tCons te tNil)) σ H (.int (ps.length : Int)) := by
  obtain ⟨as, h1, h2⟩ := hl
  have := ev_len (K := K) h (sq_of h1)
  rw [List.length_map, paired_len h2] at this
  exact this
end
theorem pe_fldB {X : Cx} {K : PySem.W.Frag} {e : Expr} {ta : TE} {f : Str} {pos : Pos} (hk : X.K = K) (he : PE X e ta) (hb : attributeBase e f X.env (eval e X.env) = eval e X.env) : PE X (.Attribute e f pos) (tFld K ta f) := by
  subst hk
  exact pe_fld he hb
end OP

/-! Nets, plainly: their ties told, more. -/
namespace OP
open PySem PySem.Spec PyProof.Rows L2 Evl
structure WebOk (W : Web) : Prop where
  small : W.size ≤ 40
  len : W.near.length = W.size
  row : ∀ r ∈ W.near, r.length ≤ W.size ∧ ∀ x ∈ r, x < W.size
theorem webOk_of {n : Nat} (ps : List (Nat × Nat)) (h : n ≤ 40) : WebOk (webOf n ps) := by
  refine ⟨h, by simp [webOf], fun r hr => ?_⟩
  obtain ⟨i, _, rfl⟩ := List.mem_map.mp hr
  refine ⟨?_, fun x hx => (mem_nearOf.mp hx).1⟩
  unfold nearOf
  have := List.length_filter_le (fun j => ps.contains (i, j) || ps.contains (j, i)) (List.range n)
  rw [List.length_range] at this
  exact this
def upOf (W : Web) (i : Nat) : List (Nat × Nat) := ((W.near.getD i []).filter fun j => decide (i < j)).map fun j => (i, j)
def tiesOf (W : Web) : List (Nat × Nat) := (List.range W.size).flatMap (upOf W)
theorem near_web {n : Nat} (ps : List (Nat × Nat)) {i : Nat} (h : i < n) : (webOf n ps).near.getD i [] = nearOf n ps i := by
  unfold webOf
  rw [List.getD_eq_getElem?_getD]
  simp [h]
theorem near_web? {n : Nat} (ps : List (Nat × Nat)) {i : Nat} (h : i < n) : (webOf n ps).near[i]? = some (nearOf n ps i) := by
  unfold webOf
  simp [h]
theorem mem_tiesOf {n : Nat} {ps : List (Nat × Nat)} (ok : TiesOk n ps) {p : Nat × Nat} : p ∈ tiesOf (webOf n ps) ↔ p ∈ ps := by
  unfold tiesOf
  rw [List.mem_flatMap]
  constructor
  · rintro ⟨i, hi, hp⟩
    have hi : i < n := List.mem_range.mp hi
    unfold upOf at hp
    rw [near_web ps hi] at hp
    obtain ⟨j, hj, rfl⟩ := List.mem_map.mp hp
    obtain ⟨h1, h2⟩ := List.mem_filter.mp hj
    rcases (mem_nearOf.mp h1).2 with z | z
    · exact z
    · have := (ok _ z).1
      dsimp only at this
      simp at h2
      omega
  · intro hp
    obtain ⟨h1, h2⟩ := ok p hp
    refine ⟨p.1, List.mem_range.mpr (by show p.1 < n; omega), ?_⟩
    unfold upOf
    rw [near_web ps (by omega)]
    exact List.mem_map.mpr ⟨p.2, List.mem_filter.mpr ⟨mem_nearOf.mpr ⟨h2, .inl hp⟩, decide_eq_true h1⟩, rfl⟩
theorem upOf_fst {W : Web} {i : Nat} {p : Nat × Nat} (h : p ∈ upOf W i) : p.1 = i := by
  obtain ⟨j, _, rfl⟩ := List.mem_map.mp h
  rfl
theorem tiesOf_sorted (n : Nat) (ps : List (Nat × Nat)) : (tiesOf (webOf n ps)).Pairwise fun a b => a.1 < b.1 ∨ (a.1 = b.1 ∧ a.2 < b.2) := by
  unfold tiesOf
  show ((List.range n).flatMap _).Pairwise _
  rw [List.pairwise_flatMap]
  refine ⟨fun i hi => ?_, ?_⟩
  · unfold upOf
    rw [near_web ps (List.mem_range.mp hi), List.pairwise_map]
    exact ((nearOf_le n ps i).filter _).imp fun h => .inr ⟨rfl, h⟩
  · refine (List.pairwise_lt_range (n := n)).imp fun {i j} hij p hp q hq => .inl ?_
    rw [upOf_fst hp, upOf_fst hq]
    exact hij
theorem tiesOf_web {n : Nat} {ps : List (Nat × Nat)} (ok : TiesOk n ps) (nd : ps.Nodup) : tiesOf (webOf n ps) = srtP ps := by
  have s := tiesOf_sorted n ps
  have nd' : (tiesOf (webOf n ps)).Nodup := s.imp fun {a b} h e => by
    subst e
    omega
  exact srtP_one ((List.perm_ext_iff_of_nodup nd' nd).mpr fun p => mem_tiesOf ok) (s.imp fun h => leP_iff.mpr (h.imp id fun z => ⟨z.1, Nat.le_of_lt z.2⟩))
theorem upOf_len {W : Web} (ok : WebOk W) (i : Nat) : (upOf W i).length ≤ 40 := by
  unfold upOf
  rw [List.length_map]
  refine Nat.le_trans (List.length_filter_le _ _) ?_
  rw [List.getD_eq_getElem?_getD]
  cases h : W.near[i]? with
  | none => exact Nat.zero_le _
  | some r => exact Nat.le_trans (ok.row r (List.mem_of_getElem? h)).1 ok.small
theorem flat_len {α : Type} {f : Nat → List α} {m : Nat} (h : ∀ i, (f i).length ≤ m) (n : Nat) : ((List.range n).flatMap f).length ≤ n * m := by
  induction n with
  | zero => simp
  | succ n ih =>
    rw [List.range_succ, List.flatMap_append, List.length_append]
    have := h n
    simp only [List.flatMap_cons, List.flatMap_nil, List.append_nil]
    rw [Nat.succ_mul]
    omega
/-- the rows of a net in the heap -/
theorem Rows.row {H : Hp} {l : Addr} {rs : List (List Nat)} (h : Rows H l rs) {i : Nat} {r : List Nat} (hr : rs[i]? = some r) : ∃ (as : List Addr) (b : Addr), H l = some (.lst (as.map V.ref)) ∧ as[i]? = some b ∧ Ints H b r := by
  obtain ⟨as, h1, h2⟩ := h
  obtain ⟨b, hb, hi⟩ := paired_get h2 hr
  exact ⟨as, b, h1, hb, hi⟩
section
variable {K : PySem.W.Frag} {σ : L2.St} {H H' : Hp} {ta tb te tv tl : TE} {t u : TT} {x y z v : V} {D : Ends} {tu tw tz : TS} {g : TG} {R : Rn}
/-- net.near[i]: the row's address -/
theorem ev_near {C a : Addr} {W : Web} {i : Nat} {r : List Nat} (hn : NetAt C H a W) (cl : Cls K C) (na : NoAttr K C "near") (ho : Ev ta σ H (.ref a)) (hi : Ev tb σ H (vn i)) (hr : W.near[i]? = some r) :
    ∃ b, Ints H b r ∧ Ev (tOp (rIxL K) (tFld K ta "near") tb) σ H (.ref b) := by
  obtain ⟨dx, l, h, rw_⟩ := hn
  obtain ⟨as, b, h1, h2, h3⟩ := rw_.row hr
  exact ⟨b, h3, ev_op (ev_fld ho h cl na (netF_near _ _)) hi (rv_ixL (sq_of h1) (atI_nat (map_get' h2)))⟩
theorem ev_size {C a : Addr} {W : Web} (hn : NetAt C H a W) (cl : Cls K C) (na : NoAttr K C "size") (ho : Ev ta σ H (.ref a)) : Ev (tFld K ta "size") σ H (vn W.size) := by
  obtain ⟨dx, l, h, _⟩ := hn
  exact ev_fld ho h cl na (netF_size _ _)
end
end OP

/-! Comparing data; values of which a predicate tells. -/
namespace OP
open PySem PySem.Spec PyProof.Rows L2 Evl
theorem dec_int (i j : Int) : decide (V.int i = V.int j) = decide (i = j) := by
  by_cases h : i = j <;> simp [h]
theorem dec_nat (i j : Nat) : decide (vn i = vn j) = decide (i = j) := by
  rw [dec_int]
  by_cases h : i = j
  · simp [h]
  · have : ¬ (i : Int) = (j : Int) := by omega
    simp [h, this]
/-! ### data -/
theorem eqvAll_map {α : Type} [DecidableEq α] {f : α → PyData} (h : ∀ x y, PyData.eqv (f x) (f y) = decide (x = y)) : ∀ xs ys : List α, PyData.eqvAll (xs.map f) (ys.map f) = decide (xs = ys)
  | [], [] => by simp [PyData.eqvAll]
  | [], _ :: _ => by simp [PyData.eqvAll]
  | _ :: _, [] => by simp [PyData.eqvAll]
  | x :: xs, y :: ys => by
    simp only [List.map_cons, PyData.eqvAll]
    rw [h, eqvAll_map h xs ys]
    by_cases e : x = y
    · subst e
      by_cases e2 : xs = ys <;> simp [e2]
    · simp [e]
theorem lay_map {α : Type} {f : α → PyData} (h : ∀ x, (f x).canLay0 = true) : ∀ xs : List α, PyData.canLayAll0 (xs.map f) = true
  | [] => by simp [PyData.canLayAll0]
  | x :: xs => by simp [PyData.canLayAll0, h x, lay_map h xs]
theorem depth_map {α : Type} {f : α → PyData} {m : Nat} (h : ∀ x, (f x).depth ≤ m) : ∀ xs : List α, PyData.depthAll (xs.map f) ≤ m
  | [] => by simp [PyData.depthAll]
  | x :: xs => by
    have h1 := depth_map h xs
    have h2 := h x
    simp only [List.map_cons, PyData.depthAll]
    omega
theorem shaped_list {α : Type} {f : α → PyData} {m : Nat} (hm : m ≤ 60) (h : ∀ x, (f x).canLay0 = true) (hd : ∀ x, (f x).depth ≤ m) (xs : List α) : SeqAt.shaped (.list (xs.map f)) = true := by
  have h1 := depth_map hd xs
  have h2 : PyData.depth (.list (xs.map f)) ≤ 64 := by
    simp only [PyData.depth]
    omega
  show (PyData.canLay0 (.list (xs.map f)) && decide (PyData.depth (.list (xs.map f)) ≤ 64)) = true
  rw [Bool.and_eq_true]
  exact ⟨by simp only [PyData.canLay0]; exact lay_map h xs, decide_eq_true h2⟩
def nD (n : Nat) : PyData := .int n
def pD (p : Nat × Nat) : PyData := .tuple [.int p.1, .int p.2]
def oD : Option Nat → PyData
  | none => .none
  | some n => .int n
theorem nD_eqv (x y : Nat) : PyData.eqv (nD x) (nD y) = decide (x = y) := by
  simp only [nD, PyData.eqv]
  by_cases e : x = y
  · simp [e]
  · have : ¬ ((x : Int) = (y : Int)) := by omega
    simp [e, this]
theorem oD_eqv (x y : Option Nat) : PyData.eqv (oD x) (oD y) = decide (x = y) := by
  cases x <;> cases y <;> simp only [oD, PyData.eqv]
  · simp
  · simp
  · simp
  · rename_i x y
    have := nD_eqv x y
    simp only [nD, PyData.eqv] at this
    rw [this]
    simp
theorem pD_eqv (x y : Nat × Nat) : PyData.eqv (pD x) (pD y) = decide (x = y) := by
  obtain ⟨a, b⟩ := x
  obtain ⟨c, d⟩ := y
  have h1 := nD_eqv a c
  have h2 := nD_eqv b d
  simp only [nD] at h1 h2
  simp only [pD, PyData.eqv, PyData.eqvAll]
  simp only [PyData.eqv] at h1 h2
  rw [h1, h2]
  by_cases e1 : a = c <;> by_cases e2 : b = d <;> simp [e1, e2]
def nsD (ns : List Nat) : PyData := .list (ns.map nD)
def psD (ps : List (Nat × Nat)) : PyData := .list (ps.map pD)
def osD (os : List (Option Nat)) : PyData := .list (os.map oD)
def nssD (rs : List (List Nat)) : PyData := .list (rs.map nsD)
theorem nD_lay (x : Nat) : (nD x).canLay0 = true := by simp [nD, PyData.canLay0]
theorem nD_depth (x : Nat) : (nD x).depth ≤ 1 := by simp [nD, PyData.depth]
theorem oD_lay (x : Option Nat) : (oD x).canLay0 = true := by cases x <;> simp [oD, PyData.canLay0]
theorem oD_depth (x : Option Nat) : (oD x).depth ≤ 1 := by cases x <;> simp [oD, PyData.depth]
theorem pD_lay (x : Nat × Nat) : (pD x).canLay0 = true := by simp [pD, PyData.canLay0, PyData.canLayAll0]
theorem pD_depth (x : Nat × Nat) : (pD x).depth ≤ 2 := by simp [pD, PyData.depth, PyData.depthAll]
theorem nsD_lay (x : List Nat) : (nsD x).canLay0 = true := by
  simp only [nsD, PyData.canLay0]
  exact lay_map nD_lay x
theorem nsD_depth (x : List Nat) : (nsD x).depth ≤ 3 := by
  have := depth_map nD_depth x
  simp only [nsD, PyData.depth]
  omega
theorem nsD_shaped (ns : List Nat) : SeqAt.shaped (nsD ns) = true := shaped_list (by decide) nD_lay nD_depth ns
theorem psD_shaped (ns : List (Nat × Nat)) : SeqAt.shaped (psD ns) = true := shaped_list (by decide) pD_lay pD_depth ns
theorem osD_shaped (ns : List (Option Nat)) : SeqAt.shaped (osD ns) = true := shaped_list (by decide) oD_lay oD_depth ns
theorem nssD_shaped (ns : List (List Nat)) : SeqAt.shaped (nssD ns) = true := shaped_list (by decide) nsD_lay nsD_depth ns
theorem nsD_eqv (x y : List Nat) : PyData.eqv (nsD x) (nsD y) = decide (x = y) := by
  simp only [nsD, PyData.eqv]
  exact eqvAll_map nD_eqv x y
theorem psD_eqv (x y : List (Nat × Nat)) : PyData.eqv (psD x) (psD y) = decide (x = y) := by
  simp only [psD, PyData.eqv]
  exact eqvAll_map pD_eqv x y
theorem osD_eqv (x y : List (Option Nat)) : PyData.eqv (osD x) (osD y) = decide (x = y) := by
  simp only [osD, PyData.eqv]
  exact eqvAll_map oD_eqv x y
theorem nssD_eqv (x y : List (List Nat)) : PyData.eqv (nssD x) (nssD y) = decide (x = y) := by
  simp only [nssD, PyData.eqv]
  exact eqvAll_map nsD_eqv x y
section
variable {K : PySem.W.Frag} {H : Hp}
theorem dpAll_map {α : Type} {g : α → V} {f : α → PyData} (h : ∀ x, Dp K H (g x) (f x)) : ∀ xs : List α, DpAll K H (xs.map g) (xs.map f)
  | [] => .nil
  | x :: xs => .cons (h x) (dpAll_map h xs)
theorem dpAll_paired {α : Type} {F : Addr → α → Prop} {f : α → PyData} (h : ∀ a x, F a x → Dp K H (.ref a) (f x)) : ∀ {as : List Addr} {xs : List α}, Paired F as xs → DpAll K H (as.map V.ref) (xs.map f)
  | _, _, .nil => .nil
  | _, _, .cons r t => .cons (h _ _ r) (dpAll_paired h t)
theorem dp_vo (x : Option Nat) : Dp K H (vo x) (oD x) := by
  cases x
  · exact .non
  · exact .int _
theorem dp_ints {a : Addr} {ns : List Nat} (h : Ints H a ns) : Dp K H (.ref a) (nsD ns) := .lst (sq_of h) (dpAll_map (fun x => .int _) ns)
theorem dp_opts {a : Addr} {ns : List (Option Nat)} (h : Opts H a ns) : Dp K H (.ref a) (osD ns) := .lst (sq_of h) (dpAll_map dp_vo ns)
theorem dp_pr {a : Addr} {p : Nat × Nat} (h : Pr H a p) : Dp K H (.ref a) (pD p) := .tup (st_of h) (.cons (.int _) (.cons (.int _) .nil))
theorem dp_prs {a : Addr} {ps : List (Nat × Nat)} (h : Prs H a ps) : Dp K H (.ref a) (psD ps) := by
  obtain ⟨as, h1, h2⟩ := h
  exact .lst (sq_of h1) (dpAll_paired (fun _ _ r => dp_pr r) h2)
theorem dp_rows {a : Addr} {rs : List (List Nat)} (h : Rows H a rs) : Dp K H (.ref a) (nssD rs) := by
  obtain ⟨as, h1, h2⟩ := h
  exact .lst (sq_of h1) (dpAll_paired (fun _ _ r => dp_ints r) h2)
/-- two things told as data, compared -/
theorem rv_eqD {x y : V} {d e : PyData} {b : Bool} (h : ∀ H1, Ex H H1 → Dp K H1 x d ∧ Dp K H1 y e) (s1 : SeqAt.shaped d = true) (s2 : SeqAt.shaped e = true) (hb : PyData.eqv d e = b) : RV (rEqD K) x y H (.bl b) := fun H1 e1 Q q => by
  subst hb
  exact ⟨d, e, (h H1 e1).1, (h H1 e1).2, s1, s2, q H1 (Ex.refl H1)⟩
theorem rv_neD {x y : V} {d e : PyData} {b : Bool} (h : ∀ H1, Ex H H1 → Dp K H1 x d ∧ Dp K H1 y e) (s1 : SeqAt.shaped d = true) (s2 : SeqAt.shaped e = true) (hb : PyData.eqv d e = b) : RV (rNeD K) x y H (.bl (!b)) := fun H1 e1 Q q => by
  subst hb
  exact ⟨d, e, (h H1 e1).1, (h H1 e1).2, s1, s2, q H1 (Ex.refl H1)⟩
theorem rv_neI {a b : Addr} {x y : List Nat} (h1 : Ints H a x) (h2 : Ints H b y) : RV (rNeD K) (.ref a) (.ref b) H (.bl (!decide (x = y))) := rv_neD (fun _ e => ⟨dp_ints (h1.go e), dp_ints (h2.go e)⟩) (nsD_shaped _) (nsD_shaped _) (nsD_eqv _ _)
theorem rv_eqI {a b : Addr} {x y : List Nat} (h1 : Ints H a x) (h2 : Ints H b y) : RV (rEqD K) (.ref a) (.ref b) H (.bl (decide (x = y))) := rv_eqD (fun _ e => ⟨dp_ints (h1.go e), dp_ints (h2.go e)⟩) (nsD_shaped _) (nsD_shaped _) (nsD_eqv _ _)
theorem rv_neP {a b : Addr} {x y : List (Nat × Nat)} (h1 : Prs H a x) (h2 : Prs H b y) : RV (rNeD K) (.ref a) (.ref b) H (.bl (!decide (x = y))) := rv_neD (fun _ e => ⟨dp_prs (h1.go e), dp_prs (h2.go e)⟩) (psD_shaped _) (psD_shaped _) (psD_eqv _ _)
theorem rv_eqP {a b : Addr} {x y : List (Nat × Nat)} (h1 : Prs H a x) (h2 : Prs H b y) : RV (rEqD K) (.ref a) (.ref b) H (.bl (decide (x = y))) := rv_eqD (fun _ e => ⟨dp_prs (h1.go e), dp_prs (h2.go e)⟩) (psD_shaped _) (psD_shaped _) (psD_eqv _ _)
theorem rv_neO {a b : Addr} {x y : List (Option Nat)} (h1 : Opts H a x) (h2 : Opts H b y) : RV (rNeD K) (.ref a) (.ref b) H (.bl (!decide (x = y))) := rv_neD (fun _ e => ⟨dp_opts (h1.go e), dp_opts (h2.go e)⟩) (osD_shaped _) (osD_shaped _) (osD_eqv _ _)
theorem rv_eqO {a b : Addr} {x y : List (Option Nat)} (h1 : Opts H a x) (h2 : Opts H b y) : RV (rEqD K) (.ref a) (.ref b) H (.bl (decide (x = y))) := rv_eqD (fun _ e => ⟨dp_opts (h1.go e), dp_opts (h2.go e)⟩) (osD_shaped _) (osD_shaped _) (osD_eqv _ _)
theorem kind_prs {a : Addr} {ps : List (Nat × Nat)} (h : Prs H a ps) : Kind K H (.ref a) "list" true := by
  obtain ⟨as, h1, _⟩ := h
  exact kind_of (.base (.lst h1)) (by decide +kernel)
theorem prs_nil {a : Addr} (h : H a = some (.lst [])) : Prs H a [] := ⟨[], h, .nil⟩
end
theorem paired_imp {α β : Type} {F G : α → β → Prop} : ∀ {as : List α} {bs : List β}, Paired F as bs → (∀ a ∈ as, ∀ b, F a b → G a b) → Paired G as bs
  | _, _, .nil, _ => .nil
  | _, _, .cons r t, h => .cons (h _ List.mem_cons_self _ r) (paired_imp t fun a ha => h a (List.mem_cons_of_mem _ ha))
/-- a Net at a whose lists are new since H0 -/
def NetNew (C : Addr) (H0 H : Hp) (a : Addr) (W : Web) : Prop := ∃ (dx l : Addr) (as : List Addr), H a = some (.ins C dx (netF W.size l)) ∧ H0 l = none ∧ H l = some (.lst (as.map V.ref)) ∧ Paired (fun b r => Ints H b r) as W.near ∧ ∀ b ∈ as, H0 b = none
theorem NetNew.at {C : Addr} {H0 H : Hp} {a : Addr} {W : Web} (x : NetNew C H0 H a W) : NetAt C H a W := by
  obtain ⟨dx, l, as, h1, h2, h3, h4, h5⟩ := x
  exact ⟨dx, l, h1, as, h3, h4⟩
theorem NetNew.go {C : Addr} {H0 H H' : Hp} {a : Addr} {W : Web} (x : NetNew C H0 H a W) (s : Ex H H') : NetNew C H0 H' a W := by
  obtain ⟨dx, l, as, h1, h2, h3, h4, h5⟩ := x
  exact ⟨dx, l, as, s _ _ h1, h2, s _ _ h3, Paired.mapP h4 fun _ _ z => s _ _ z, h5⟩
theorem NetNew.back {C : Addr} {H00 H0 H : Hp} {a : Addr} {W : Web} (x : NetNew C H0 H a W) (s : Ex H00 H0) : NetNew C H00 H a W := by
  obtain ⟨dx, l, as, h1, h2, h3, h4, h5⟩ := x
  exact ⟨dx, l, as, h1, fresh_back s h2, h3, h4, fun b hb => fresh_back s (h5 b hb)⟩
theorem NetNew.set {C : Addr} {H0 H : Hp} {a d : Addr} {W : Web} {o : HO} {xs ys : List V} (x : NetNew C H0 H a W) (h0 : H0 d = some (.lst xs)) (h : H d = some (.lst ys)) : NetNew C H0 (upd H d o) a W := by
  obtain ⟨dx, l, as, h1, h2, h3, h4, h5⟩ := x
  have ne : ∀ b, H0 b = none → b ≠ d := fun b hb z => by rw [z, h0] at hb; cases hb
  refine ⟨dx, l, as, ?_, h2, ?_, ?_, h5⟩
  · rw [upd_ne (fun z => by rw [z, h] at h1; cases h1)]
    exact h1
  · rw [upd_ne (ne l h2)]
    exact h3
  · refine paired_imp h4 fun b hb r z => ?_
    show upd _ _ _ _ = _
    rw [upd_ne (ne _ (h5 _ hb))]
    exact z
theorem Prs.set {H : Hp} {l d : Addr} {ps : List (Nat × Nat)} {o : HO} {ys : List V} (x : Prs H l ps) (ne : l ≠ d) (h : H d = some (.lst ys)) : Prs (upd H d o) l ps := by
  obtain ⟨as, h1, h2⟩ := x
  refine ⟨as, by rw [upd_ne ne]; exact h1, Paired.mapP h2 fun b p z => ?_⟩
  show upd _ _ _ b = _
  rw [upd_ne (fun e => by rw [e] at z; have z := (show H d = _ from z).symm.trans h; cases z)]
  exact z
theorem nearOf_perm {n : Nat} {ps qs : List (Nat × Nat)} (h : ps.Perm qs) (i : Nat) : nearOf n ps i = nearOf n qs i := by
  unfold nearOf
  refine List.filter_congr fun j _ => ?_
  rw [Bool.eq_iff_iff]
  simp only [Bool.or_eq_true, List.contains_iff_mem, h.mem_iff]
theorem webOf_perm {n : Nat} {ps qs : List (Nat × Nat)} (h : ps.Perm qs) : webOf n ps = webOf n qs := by
  unfold webOf
  rw [show nearOf n ps = nearOf n qs from funext fun i => nearOf_perm h i]
/-! ### values of which P tells -/
abbrev HV := Hp → V → Prop
def EvP (te : TE) (σ : L2.St) (H : Hp) (P : HV) : Prop := ∀ H1, Ex H H1 → ∀ Q : VK, (∀ v H2, Ex H1 H2 → P H2 v → Q v H2) → te σ H1 Q
def EvPs (ta : TA) (σ : L2.St) (H : Hp) (n : Nat) (P : HV) : Prop := ∀ H1, Ex H H1 → ∀ Q : List V → Hp → Prop, (∀ vs H2, Ex H1 H2 → vs.length = n → (∀ x ∈ vs, P H2 x) → Q vs H2) → ta σ H1 Q
def EvPL (te : TE) (σ : L2.St) (H : Hp) (n : Nat) (P : HV) : Prop := ∀ H1, Ex H H1 → ∀ Q : VK, (∀ p vs H2, H1 p = none → Ex H1 H2 → H2 p = some (.lst vs) → vs.length = n → (∀ x ∈ vs, P H2 x) → Q (.ref p) H2) → te σ H1 Q
def Stay (P : HV) : Prop := ∀ (G G' : Hp) (v : V), Ex G G' → P G v → P G' v
section
variable {K : PySem.W.Frag} {σ : L2.St} {H H' : Hp} {ta tb te tx : TE} {x y z v : V} {P : HV} {n m : Nat}
theorem ep_v (h : Ev te σ H v) (p : ∀ G, Ex H G → P G v) : EvP te σ H P := fun H1 e Q q => h H1 e Q fun H2 e2 => q v H2 e2 (p H2 (e.trans e2))
theorem ep_u {xs : List V} (h : EvU te σ H xs) (p : ∀ a G, Ex H G → G a = some (.tup xs) → P G (.ref a)) : EvP te σ H P := fun H1 e Q q => h H1 e Q fun a H2 ha e2 h2 => q _ H2 e2 (p a H2 (e.trans e2) h2)
theorem ep_l {xs : List V} (h : EvL te σ H xs) (p : ∀ a G, Ex H G → G a = some (.lst xs) → P G (.ref a)) : EvP te σ H P := fun H1 e Q q => h H1 e Q fun a H2 ha e2 h2 => q _ H2 e2 (p a H2 (e.trans e2) h2)
theorem eps_nil : EvPs tNil σ H 0 P := fun H1 e Q q => q [] H1 (Ex.refl H1) rfl fun x hx => nomatch hx
theorem eps_cons {tr : TA} (stay : Stay P) (h : EvP te σ H P) (hr : EvPs tr σ H n P) : EvPs (tCons te tr) σ H (n + 1) P := fun H1 e Q q => h H1 e _ fun v H2 e2 pv => hr H2 (e.trans e2) _ fun vs H3 e3 len pvs =>
  q _ H3 (e2.trans e3) (by rw [List.length_cons, len]) fun x hx => by
    rcases List.mem_cons.mp hx with c | c
    · rw [c]; exact stay _ _ _ e3 pv
    · exact pvs x c
theorem epl_lst {ta : TA} (stay : Stay P) (h : EvPs ta σ H n P) (hn : n ≤ 100000) : EvPL (tLst ta) σ H n P := fun H1 e Q q => h H1 e _ fun vs H2 e2 len pvs => ⟨by rw [len]; exact sz_of hn, fun p hp =>
  q p vs _ (fresh_back e2 hp) (e2.trans (Ex.new hp)) upd_same len fun x hx => stay _ _ _ (Ex.new hp) (pvs x hx)⟩
theorem EvPL.mono (e : Ex H H') (h : EvPL te σ H n P) : EvPL te σ H' n P := fun H1 a Q q => h H1 (e.trans a) Q q
theorem EvP.mono (e : Ex H H') (h : EvP te σ H P) : EvP te σ H' P := fun H1 a Q q => h H1 (e.trans a) Q q
theorem EvP.imp {P' : HV} (h : EvP te σ H P) (k : ∀ G v, Ex H G → P G v → P' G v) : EvP te σ H P' := fun H1 e Q q => h H1 e Q fun v H2 e2 p => q v H2 e2 (k H2 v (e.trans e2) p)
theorem epl_cat (stay : Stay P) {a : Addr} {xs : List V} (h1 : Ev ta σ H (.ref a)) (ha : H a = some (.lst xs)) (hx : ∀ x ∈ xs, P H x) (h2 : EvPL tb σ H m P) (hl : xs.length + m ≤ 100000) : EvPL (tOp rCat ta tb) σ H (xs.length + m) P := fun H1 e Q q =>
  h1 H1 e _ fun H2 e2 => h2 H2 (e.trans e2) _ fun p vs H3 hp e3 h3 len pvs => ⟨a, p, xs, vs, rfl, rfl, e3 _ _ (e2 _ _ (e _ _ ha)), h3, by rw [len]; exact sz_of hl, fun r hr =>
    q r _ _ (fresh_back (e2.trans e3) hr) ((e2.trans e3).trans (Ex.new hr)) upd_same (by rw [List.length_append, len]) fun x hx' => by
      rcases List.mem_append.mp hx' with c | c
      · exact stay _ _ _ (((e.trans e2).trans e3).trans (Ex.new hr)) (hx x c)
      · exact stay _ _ _ (Ex.new hr) (pvs x c)⟩
/-- xs[i] -/
theorem ep_pick (stay : Stay P) (h : EvPL te σ H n P) {k : Nat} (hi : Ev tb σ H (.int (k : Int))) (hk : k < n) : EvP (tOp (rIxL K) te tb) σ H P := fun H1 e Q q => h H1 e _ fun p vs H2 hp e2 h2 len pvs => hi H2 (e.trans e2) _ fun H3 e3 => by
  have hlt : k < vs.length := by omega
  exact ⟨p, vs, _, vs[k], rfl, rfl, sq_of (e3 _ _ h2), atI_nat (List.getElem?_eq_getElem hlt), q _ H3 (e2.trans e3) (stay _ _ _ e3 (pvs _ (List.getElem_mem hlt)))⟩
/-- a call's value, one argument of which P tells -/
theorem ev_callP {sp : Sp} {dvs : List V} {E : XK} {tr : TA} {R : V → List V → Hp → Prop} (h : EvP ta σ H P) (hr : ∀ v H1, Ex H H1 → P H1 v → EvA tr σ H1 (y :: [])) (hs : ∀ v H1, Ex H H1 → P H1 v → SpV sp ((v :: [y]) ++ dvs) H1 z) (stay : Stay P) : Ev (tCall sp dvs E (tCons ta tr)) σ H z := fun H1 e Q q =>
  h H1 e _ fun v H2 e2 pv => hr v H2 (e.trans e2) pv H2 (Ex.refl H2) _ fun H3 e3 => hs v H3 ((e.trans e2).trans e3) (stay _ _ _ e3 pv) H3 (Ex.refl H3) Q (fun H4 e4 => q H4 ((e2.trans e3).trans e4)) E
theorem q_asgP {i : Nat} {D : Ends} {tz : TS} (h : EvP te σ H P) (k : ∀ v H1, Ex H H1 → P H1 v → tz D (σ.set i (some v)) H1) : tSeq (tAsg te (gName i)) tz D σ H := h H (Ex.refl H) _ fun v H1 e p => k v H1 e p
theorem q_asgPL {i : Nat} {D : Ends} {tz : TS} (h : EvPL te σ H n P) (k : ∀ p vs H1, H p = none → Ex H H1 → H1 p = some (.lst vs) → vs.length = n → (∀ x ∈ vs, P H1 x) → tz D (σ.set i (some (.ref p))) H1) : tSeq (tAsg te (gName i)) tz D σ H := h H (Ex.refl H) _ k
/-- an if without else, the places behind it told by M -/
theorem q_whenM {t : TT} {tu tz : TS} {D : Ends} {b : Bool} (h : EvT t σ H b) (M : L2.St → Hp → Prop) (k : ∀ σ' H', M σ' H' → tz D σ' H') (h1 : b = true → ∀ H1, Ex H H1 → (∀ σ' H', M σ' H' → tz D σ' H') → tu { D with nx := tz D } σ H1) (h2 : b = false → ∀ H1, Ex H H1 → M σ H1) : tSeq (tIfS t tu tNext) tz D σ H :=
  q_when h (fun c H1 e => h1 c H1 e k) (fun c H1 e => k _ _ (h2 c H1 e))
theorem q_ifM {t : TT} {tu tw tz : TS} {D : Ends} {b : Bool} (h : EvT t σ H b) (M : L2.St → Hp → Prop) (k : ∀ σ' H', M σ' H' → tz D σ' H') (h1 : b = true → ∀ H1, Ex H H1 → (∀ σ' H', M σ' H' → tz D σ' H') → tu { D with nx := tz D } σ H1) (h2 : b = false → ∀ H1, Ex H H1 → (∀ σ' H', M σ' H' → tz D σ' H') → tw { D with nx := tz D } σ H1) : tSeq (tIfS t tu tw) tz D σ H :=
  q_if h (fun c H1 e => h1 c H1 e k) (fun c H1 e => h2 c H1 e k)
/-- for i, x in enumerate(xs) -/
theorem q_forEnum {g : TG} {tu tz : TS} {D : Ends} {a : Addr} {xs : List V} {ta : TA} (h : EvA ta σ H [.ref a]) (hx : SqL K H a xs) (Pv : Nat → L2.St → Hp → Prop) (h0 : ∀ H1, Ex H H1 → Pv 0 σ H1) (hl : ∀ i σ' H', i ≤ xs.length → Pv i σ' H' → SqL K H' a xs)
    (hs : ∀ (i : Nat) (x : V) (t : Addr) σ' G G1, xs[i]? = some x → Pv i σ' G → Ex G G1 → G t = none → G1 t = some (.tup [.int (i : Nat), x]) → g (.ref t) σ' G1 fun σ2 H2 => tu { D with nx := Pv (i + 1), ct := Pv (i + 1), bk := tz D } σ2 H2)
    (hd : ∀ σ' H', Pv xs.length σ' H' → tz D σ' H') : tSeq (tFor (iEnum K ta) g tu) tz D σ H :=
  h H (Ex.refl H) _ fun H1 e1 => ⟨a, xs, rfl, ex_l e1 hx, for_it (D := { D with nx := tz D }) walk_enum Pv (h0 H1 e1) hl (fun i x σ' G G' hi p y => by
    obtain ⟨t, u, y', rfl, ht, rfl, hu, hy⟩ := y
    cases hu
    exact hs i y' t σ' G _ hy p (Ex.new ht) ht upd_same) hd⟩
/-- o.m(..) of a list, the value dropped -/
theorem s_dropM {r : V → List V → Hp → VK → Prop} {D : Ends} {l : Addr} {xs vs : List V} {tr : TA} (ho : Ev ta σ H (.ref l)) (hl : H l = some (.lst xs)) (h : EvA tr σ H vs) (k : ∀ H1, Ex H H1 → r (.ref l) vs H1 fun _ H2 => D.nx σ H2) : tDrop (tBM K "list" r ta tr) D σ H :=
  ho H (Ex.refl H) _ fun H1 e1 => ⟨.inl ⟨rfl, xs, sq_of (e1 _ _ hl)⟩, h H1 e1 _ fun H2 e2 => k H2 (e1.trans e2)⟩
end
section
variable {K : PySem.W.Frag} {σ : L2.St} {H H' : Hp} {ta tb te tx : TE} {x y z v : V}
theorem own_ins {H : Hp} {x dx C : Addr} (hx : H x = none) (hdx : H dx = none) (ne : dx ≠ x) : Ex H (upd (upd H dx (.own x)) x (.ins C dx [])) :=
  (Ex.new hdx).trans (Ex.new (by rw [upd_ne ne.symm]; exact hx))
theorem given_list {α : Type} (d : α) (l : List α) (f : α → Bool) (v : α → V) : given l.length (fun k => f (l.getD k d)) (fun k => v (l.getD k d)) = (l.filter f).map v := by
  have e : l = (List.range l.length).map fun k => l.getD k d := by
    apply List.ext_getElem
    · simp
    · intro i h1 h2
      simp [List.getD_eq_getElem?_getD, h1]
  have e2 : (l.filter f).map v = (((List.range l.length).map fun k => l.getD k d).filter f).map v := by rw [← e]
  rw [e2, List.filter_map, List.map_map]
  rfl
/-- [te for x in xs if t], xs a list of data -/
theorem el_filt {α : Type} {t : TT} {a : Addr} {l : List α} {g : α → V} {tl : TE} {j : Nat} {vs : List Nat} (d : α) (f : α → Bool) (v : α → V) (h : Ev tl σ H (.ref a)) (hx : SqL K H a (l.map g)) (hz : l.length ≤ 40000) (hw : ∀ x, wipe ((wipe σ vs).set j (some x)) vs = wipe σ vs)
    (ht : ∀ x H1, Ex H H1 → x ∈ l → EvT t ((wipe σ vs).set j (some (g x))) H1 (f x)) (he : ∀ x H1, Ex H H1 → x ∈ l → f x = true → Ev te ((wipe σ vs).set j (some (g x))) H1 (v x)) :
    EvL (tLc (iList K tl) (gName j) t te vs) σ H ((l.filter f).map v) := by
  rw [← given_list d]
  have key : ∀ (i : Nat) (x : V), (l.map g)[i]? = some x → x = g (l.getD i d) ∧ l.getD i d ∈ l := fun i x hx => by
    obtain ⟨y, hy, rfl⟩ := map_get hx
    have : l.getD i d = y := by rw [List.getD_eq_getElem?_getD, hy]; rfl
    rw [this]
    exact ⟨rfl, List.mem_of_getElem? hy⟩
  have := el_lcL (K := K) (te := te) (t := t) (j := j) (vs := vs) (fun k => f (l.getD k d)) (fun k => v (l.getD k d)) h hx (by rw [List.length_map]; exact hz) hw
    (fun i x H1 e hi => by rw [(key i x hi).1]; exact ht _ H1 e (key i x hi).2) (fun i x H1 e hi hf => by rw [(key i x hi).1]; exact he _ H1 e (key i x hi).2 hf)
  rw [List.length_map] at this
  exact this
/-- [te for x, y in ps if t], ps a list of pairs -/
theorem el_pairs {t : TT} {l : Addr} {ps : List (Nat × Nat)} {tl : TE} {i j : Nat} {vs : List Nat} (f : Nat × Nat → Bool) (v : Nat × Nat → V) (h : Ev tl σ H (.ref l)) (hl : Prs H l ps) (hz : ps.length ≤ 40000) (hw : ∀ x y, wipe (((wipe σ vs).set i (some x)).set j (some y)) vs = wipe σ vs)
    (ht : ∀ p H1, Ex H H1 → p ∈ ps → EvT t (((wipe σ vs).set i (some (vn p.1))).set j (some (vn p.2))) H1 (f p)) (he : ∀ p H1, Ex H H1 → p ∈ ps → f p = true → Ev te (((wipe σ vs).set i (some (vn p.1))).set j (some (vn p.2))) H1 (v p)) :
    EvL (tLc (iList K tl) (gTup K 2 (gCons (gName i) (gCons (gName j) gNil))) t te vs) σ H ((ps.filter f).map v) := by
  rw [← given_list (0, 0)]
  obtain ⟨as, ha, hp⟩ := hl
  have len := paired_len hp
  rw [← len]
  exact fun H0 e Q q => h H0 e _ fun H1 e1 => ⟨l, rfl, ⟨as.map V.ref, sq_of (e1 _ _ (e _ _ ha))⟩, fun Dl hD => lc_list (xs := as.map V.ref) (Cw H1 (fun k => f (ps.getD k (0, 0))) (fun k => v (ps.getD k (0, 0))) Dl) ⟨hD, Ex.new hD, upd_same⟩ (fun i H' _ p => sq_of (p.2.1 _ _ (e1 _ _ (e _ _ ha))))
    (fun k x H' hk p => by
      obtain ⟨b, hb, rfl⟩ := map_get hk
      obtain ⟨r, hr, hpr⟩ := paired_get' hp hb
      have eg : ps.getD k (0, 0) = r := by rw [List.getD_eq_getElem?_getD, hr]; rfl
      have hm := List.mem_of_getElem? hr
      refine ⟨b, [vn r.1, vn r.2], rfl, st_of (p.2.1 _ _ (e1 _ _ (e _ _ hpr))), rfl, _, _, rfl, _, _, rfl, rfl, hw _ _, ?_⟩
      refine cw_turn p (by have := (List.getElem?_eq_some_iff.mp hb).1; omega) ?_ ?_
      · show EvT t _ H1 (f (ps.getD k (0, 0)))
        rw [eg]
        exact ht r H1 (e.trans e1) hm
      · intro hf
        have hf : f (ps.getD k (0, 0)) = true := hf
        show Ev te _ H1 (v (ps.getD k (0, 0)))
        rw [eg] at hf ⊢
        exact he r H1 (e.trans e1) hm hf)
    (fun H' p => by
      rw [List.length_map] at p
      exact q Dl H' (fresh_back e1 p.1) (e1.trans p.2.1) p.2.2)⟩
theorem el_is {xs ys : List V} (h : EvL te σ H xs) (e : xs = ys) : EvL te σ H ys := by
  subst e
  exact h
/-- tuple(xs) -/
theorem ep_tupleP {P : HV} {l : Addr} {ps : List (Nat × Nat)} (h : Ev te σ H (.ref l)) (hl : Prs H l ps) (p : ∀ a G, Ex H G → ∀ xs, G a = some (.tup xs) → P G (.ref a)) :
    EvP (tCB (fun xs H Q => ∃ p ys, xs = [.ref p] ∧ ((SqL K H p ys ∧ ∀ l, H l = none → Q (.ref l) (upd H l (.tup ys))) ∨ (SqT K H p ys ∧ Q (.ref p) H))) (tCons te tNil)) σ H P := fun H1 e Q q => h H1 e _ fun H2 e2 => by
  obtain ⟨as, h1, h2⟩ := hl
  exact ⟨l, as.map V.ref, rfl, .inl ⟨sq_of (e2 _ _ (e _ _ h1)), fun r hr => q _ _ (e2.trans (Ex.new hr)) (p r _ ((e.trans e2).trans (Ex.new hr)) _ upd_same)⟩⟩
/-- lists, joined -/
theorem el_cat {xs ys : List V} (h1 : EvL ta σ H xs) (h2 : EvL tb σ H ys) (hl : xs.length + ys.length ≤ 100000) : EvL (tOp rCat ta tb) σ H (xs ++ ys) := fun H1 e Q q =>
  h1 H1 e _ fun a H2 ha e2 h2' => h2 H2 (e.trans e2) _ fun b H3 hb e3 h3 => ⟨a, b, xs, ys, rfl, rfl, e3 _ _ h2', h3, sz_of hl, fun p hp => q p _ (fresh_back (e2.trans e3) hp) ((e2.trans e3).trans (Ex.new hp)) upd_same⟩
theorem el_catV {a : Addr} {xs ys : List V} (h1 : Ev ta σ H (.ref a)) (ha : H a = some (.lst xs)) (h2 : EvL tb σ H ys) (hl : xs.length + ys.length ≤ 100000) : EvL (tOp rCat ta tb) σ H (xs ++ ys) := fun H1 e Q q =>
  h1 H1 e _ fun H2 e2 => h2 H2 (e.trans e2) _ fun b H3 hb e3 h3 => ⟨a, b, xs, ys, rfl, rfl, e3 _ _ (e2 _ _ (e _ _ ha)), h3, sz_of hl, fun p hp => q p _ (fresh_back (e2.trans e3) hp) ((e2.trans e3).trans (Ex.new hp)) upd_same⟩
theorem cut_take {xs : List V} {k : Nat} (h : k ≤ xs.length) : cutV xs none (some (k : Int)) = xs.take k := by
  unfold cutV
  rw [HT.sIx_none, HT.sIx_nat, Nat.min_eq_left h]
  simp
theorem cut_drop {xs : List V} {k : Nat} (h : k ≤ xs.length) : cutV xs (some (k : Int)) none = xs.drop k := by
  unfold cutV
  rw [HT.sIx_none, HT.sIx_nat, Nat.min_eq_left h]
  rw [← List.length_drop, List.take_length]
/-- a call's value, the second argument a new list, or what P tells of -/
theorem ev_call2L {sp : Sp} {dvs : List V} {E : XK} {xs : List V} (h1 : Ev ta σ H x) (h2 : EvL tb σ H xs) (hs : ∀ p H1, Ex H H1 → H1 p = some (.lst xs) → SpV sp ([x, .ref p] ++ dvs) H1 z) : Ev (tCall sp dvs E (tCons ta (tCons tb tNil))) σ H z := fun H1 e Q q =>
  h1 H1 e _ fun H2 e2 => h2 H2 (e.trans e2) _ fun p H3 hp e3 h3 => hs p H3 ((e.trans e2).trans e3) h3 H3 (Ex.refl H3) Q (fun H4 e4 => q H4 ((e2.trans e3).trans e4)) E
theorem ev_call2P {sp : Sp} {dvs : List V} {E : XK} {P : HV} (h1 : Ev ta σ H x) (h2 : EvP tb σ H P) (hs : ∀ u H1, Ex H H1 → P H1 u → SpV sp ([x, u] ++ dvs) H1 z) : Ev (tCall sp dvs E (tCons ta (tCons tb tNil))) σ H z := fun H1 e Q q =>
  h1 H1 e _ fun H2 e2 => h2 H2 (e.trans e2) _ fun u H3 e3 p3 => hs u H3 ((e.trans e2).trans e3) p3 H3 (Ex.refl H3) Q (fun H4 e4 => q H4 ((e2.trans e3).trans e4)) E
theorem ev_call2PL {sp : Sp} {dvs : List V} {E : XK} {P : HV} {xs : List V} (stay : Stay P) (h1 : EvP ta σ H P) (h2 : EvL tb σ H xs) (hs : ∀ u p H1, Ex H H1 → P H1 u → H1 p = some (.lst xs) → SpV sp ([u, .ref p] ++ dvs) H1 z) : Ev (tCall sp dvs E (tCons ta (tCons tb tNil))) σ H z := fun H1 e Q q =>
  h1 H1 e _ fun u H2 e2 pu => h2 H2 (e.trans e2) _ fun p H3 hp e3 h3 => hs u p H3 ((e.trans e2).trans e3) (stay _ _ _ e3 pu) h3 H3 (Ex.refl H3) Q (fun H4 e4 => q H4 ((e2.trans e3).trans e4)) E
/-- C(..): the new instance is at p -/
theorem make_of {C : Addr} {sp : Sp} {dvs vs : List V} {E : XK} {tr : TA} {Q : VK} (h : EvA tr σ H vs) (k : ∀ H1 p dx, Ex H H1 → H p = none → H1 p = some (.ins C dx []) → sp (.ref p :: (vs ++ dvs)) H1 (fun v H2 => v = .non ∧ Q (.ref p) H2) E) : tMake C sp dvs E tr σ H Q :=
  h H (Ex.refl H) _ fun H1 e1 p dx hp hdx ne => k _ p dx (e1.trans (own_ins hp hdx ne)) (fresh_back e1 hp) upd_same
theorem s_dropMake {C : Addr} {sp : Sp} {dvs vs : List V} {E : XK} {tr : TA} {D : Ends} (h : EvA tr σ H vs) (k : ∀ H1 p dx, Ex H H1 → H p = none → H1 p = some (.ins C dx []) → sp (.ref p :: (vs ++ dvs)) H1 (fun v H2 => v = .non ∧ D.nx σ H2) E) : tDrop (tMake C sp dvs E tr) D σ H := make_of h k
theorem q_asgMake {C : Addr} {sp : Sp} {dvs vs : List V} {E : XK} {tr : TA} {D : Ends} {tz : TS} {i : Nat} (h : EvA tr σ H vs) (k : ∀ H1 p dx, Ex H H1 → H p = none → H1 p = some (.ins C dx []) → sp (.ref p :: (vs ++ dvs)) H1 (fun v H2 => v = .non ∧ tz D (σ.set i (some (.ref p))) H2) E) : tSeq (tAsg (tMake C sp dvs E tr) (gName i)) tz D σ H := make_of (Q := fun x H1 => tz D (σ.set i (some x)) H1) h k
end
section
variable {K : PySem.W.Frag} {σ : L2.St} {H H' : Hp} {ta tb te tx : TE} {x y z v : V}
/-- a, b = e -/
theorem q_asg2N {i j : Nat} {R : Rn} {D : Ends} {tz : TS} (h : EvN te σ H R) (k : ∀ v fs H1, Ex H H1 → (∀ p ∈ fs, H p = none) → R v fs H1 → ∃ p x y, v = .ref p ∧ SqT K H1 p [x, y] ∧ tz D ((σ.set i (some x)).set j (some y)) H1) :
    tSeq (tAsg te (gTup K 2 (gCons (gName i) (gCons (gName j) gNil)))) tz D σ H := h H (Ex.refl H) _ fun v fs H1 e f r => by
  obtain ⟨p, x, y, rfl, hp, q⟩ := k v fs H1 e f r
  exact ⟨p, [x, y], rfl, hp, rfl, _, _, rfl, _, _, rfl, rfl, q⟩
/-- ps + [(i, j)] -/
theorem en_snocP {l : Addr} {ps : List (Nat × Nat)} {i j : Nat} (h1 : Ev ta σ H (.ref l)) (hl : Prs H l ps) (h2 : EvU tb σ H [vn i, vn j]) (few : ps.length ≤ 90000) : EvN (tOp rCat ta (tLst (tCons tb tNil))) σ H (fun v fs G => ∃ p, v = .ref p ∧ Prs G p (ps ++ [(i, j)])) := fun H1 e Q q =>
  h1 H1 e _ fun H2 e2 => h2 H2 (e.trans e2) _ fun t H3 ht e3 h3 => by
    obtain ⟨as, ha, hp⟩ := hl
    refine ⟨by show 1 ≤ sizeLine; decide, fun b hb => ?_⟩
    have e4 : Ex H3 (upd H3 b (.lst [.ref t])) := Ex.new hb
    refine ⟨l, b, as.map V.ref, [.ref t], rfl, rfl, e4 _ _ (e3 _ _ (e2 _ _ (e _ _ ha))), upd_same, sz_of (by rw [List.length_map, paired_len hp]; show ps.length + 1 ≤ 100000; omega), fun r hr => ?_⟩
    have e5 := e4.trans (Ex.new (o := .lst (as.map V.ref ++ [.ref t])) hr)
    refine q _ [] _ ((e2.trans e3).trans e5) (fun x hx => nomatch hx) ⟨r, rfl, as ++ [t], by rw [upd_same, List.map_append]; rfl, paired_app (Paired.mapP hp fun _ _ z => ?_) (.cons ?_ .nil)⟩
    · exact ((((e.trans e2).trans e3).trans e5) _ _ z)
    · exact e5 _ _ h3
end
open L2H (RoomH PinOk cxH inv_startH roomH_of) in
/-- such a def, called with the handled error in the suite, whatever its class is called there -/
theorem pe_callE2 {X : Cx} {k : Nat} {f D : Addr} {fd : FuncData} {y x : Str} {q pos : Pos} {e : Expr} {te : TE} {a : Addr} {oe : Obj} {cls : Value} {d : Option Addr} (F : FnE X.prog X.w X.K X.mg X.base k f fd y D) (hr : RoomH k X.A) (hp : (a, oe) ∈ X.pn) (hz : Zc cls d oe) (hf : ∃ vs, oe.data = .fields vs)
    (hg : Gl X x) (hm : X.mg x = some (.ref f)) (hk : PySem.W.keepIn X.K (.ref f) = true) (hb : Binds X.K fd [y] []) (he : PE X e te) (hdb : (x == ("__debug__" : Str)) = false := by decide)
    (hst : starEach [e] X.env = (false, eval e X.env) :: starEach [] X.env := by rfl) (hpl : (backTo pos (starEach [] X.env)).any (·.1) = false := by rfl) :
    PE X (.Call (.Name x q) [e] [] pos) (fun σ H Q => te σ H fun v H1 => v = .ref a ∧ cls = .ref D ∧ d = none ∧ ∀ H', Same H1 H' → Q (.bl true) H') := by
  by_cases c : cls = .ref D ∧ d = none
  · obtain ⟨rfl, rfl⟩ := c
    have z := pe_callE (q := q) (pos := pos) F hr hp hz hf hg hm hk hb he hdb hst hpl
    refine ⟨fun pins s σ H Q I h => z.run pins s σ H Q I ?_⟩
    have : (fun v H1 => v = V.ref a ∧ Value.ref D = .ref D ∧ (none : Option Addr) = none ∧ ∀ H', Same H1 H' → Q (.bl true) H') = fun v H1 => v = V.ref a ∧ ∀ H', Same H1 H' → Q (.bl true) H' := by
      funext v H1
      simp
    rw [← this]
    exact h
  · refine ⟨fun pins s σ H Q I h => ?_⟩
    refine wpAny_Call_Name_kw (ld_glob I hg hm ?_ hdb)
    refine PySem.W.callWith_K (h₀ := X.base) I.ok.mod.kin hk (thn ((pa_cons he pa_nil hst).run pos pins s σ H (fun vs H1 => False) I ?_) fun us s1 ⟨vs, H1, I1, r, ev⟩ => ev.elim) hst hpl
    show te σ H _
    have : (fun v H1 => v = V.ref a ∧ cls = .ref D ∧ d = none ∧ ∀ H', Same H1 H' → Q (.bl true) H') = fun (_ : V) (_ : Hp) => False := by
      funext v H1
      simp only [eq_iff_iff, iff_false]
      exact fun z => c ⟨z.2.1, z.2.2.1⟩
    rw [this] at h
    exact h
theorem rc_int1 {H : Hp} {k : Bool} : RC (fun xs H Q => (∃ i, xs = [.int i] ∧ Q (.int i) H) ∨ ∃ k, xs = [.bl k] ∧ Q (.int (if k then 1 else 0)) H) [.bl k] H (.int (if k then 1 else 0)) := fun H1 _ Q q => .inr ⟨k, rfl, q H1 (Ex.refl H1)⟩
theorem rc_isE {K : PySem.W.Frag} {H : Hp} {D a : Addr} {c : V} {cv : Value} {b : Bool} (k : ClsV c cv) (e : PySem.W.kitOne K (.ref D) cv = some b) : RC (rIsE K D a) [.ref a, c] H (.bl b) := fun H1 _ Q q => ⟨c, cv, b, rfl, fun u r => k.eq r, e, q H1 (Ex.refl H1)⟩
end OP

/-! Dicts of places, each True; what can be reached. -/
namespace OP
open PySem PySem.Spec PyProof.Rows L2 Evl
def keyP (k : Nat) : Key × V := (Sum.inl (k : Int), .bl true)
def Keys (H : Hp) (d : Addr) (ks : List Nat) : Prop := H d = some (.dK (ks.map keyP))
theorem Keys.go {H H' : Hp} {d : Addr} {ks : List Nat} (h : Keys H d ks) (e : Ex H H') : Keys H' d ks := e _ _ h
theorem inl_inj {x y : Nat} : ((Sum.inl (x : Int) : Key) = Sum.inl (y : Int)) ↔ x = y := by
  constructor
  · intro h
    injection h with h
    omega
  · intro h
    rw [h]
theorem valV_keys (ks : List Nat) (x : Nat) : (valV (ks.map keyP) (Sum.inl (x : Int))).isSome = decide (x ∈ ks) := by
  rw [← valV_any, List.any_map, Bool.eq_iff_iff, List.any_eq_true, decide_eq_true_iff]
  constructor
  · rintro ⟨y, hy, e⟩
    have e : y = x := inl_inj.mp (of_decide_eq_true e)
    rw [← e]
    exact hy
  · intro h
    exact ⟨x, h, decide_eq_true rfl⟩
theorem putK_keys (ks : List Nat) (x : Nat) : putK (ks.map keyP) (Sum.inl (x : Int)) (.bl true) = (if x ∈ ks then ks else ks ++ [x]).map keyP := by
  unfold putK
  rw [valV_any, valV_keys]
  by_cases h : x ∈ ks
  · rw [if_pos (decide_eq_true h), if_pos h, List.map_map]
    refine List.map_congr_left fun y hy => ?_
    show (if (keyP y).1 = _ then ((keyP y).1, V.bl true) else keyP y) = keyP y
    split
    · rfl
    · rfl
  · rw [if_neg (by simpa using h), if_neg h, List.map_append]
    rfl
theorem dropK_keys (ks : List Nat) (x : Nat) : dropK (ks.map keyP) (Sum.inl (x : Int)) = (ks.filter fun y => decide (y ≠ x)).map keyP := by
  unfold dropK
  rw [List.filter_map]
  congr 1
  refine List.filter_congr fun y _ => ?_
  show decide ((keyP y).1 ≠ _) = decide (y ≠ x)
  by_cases h : y = x
  · subst h
    simp [keyP]
  · have : ¬ ((keyP y).1 = Sum.inl (x : Int)) := fun z => h (inl_inj.mp z)
    simp [h, this]
theorem dropK_none (ks : List Nat) (x : Nat) (h : x ∉ ks) : (ks.filter fun y => decide (y ≠ x)) = ks := by
  rw [List.filter_eq_self]
  intro y hy
  exact decide_eq_true fun z => h (by rw [← z]; exact hy)
section
variable {K : PySem.W.Frag} {σ : L2.St} {H H' : Hp} {ta tb td ty tv te tx : TE} {x y z v : V} {D : Ends} {tz : TS} {d : Addr} {ks : List Nat} {k : Nat}
theorem ev_din (h1 : Ev ty σ H (vn k)) (h2 : Ev td σ H (.ref d)) (hk : Keys H d ks) : Ev (tDIn ty td) σ H (.bl (decide (k ∈ ks))) := fun H1 e Q q => h1 H1 e _ fun H2 e2 => h2 H2 (e.trans e2) _ fun H3 e3 =>
  ⟨d, _, rfl, .inl ⟨_, Sum.inl (k : Int), .inl (((e.trans e2).trans e3) _ _ hk), rfl, rfl⟩, by rw [valV_keys]; exact q H3 (e2.trans e3)⟩
theorem ev_dnotin (h1 : Ev ty σ H (vn k)) (h2 : Ev td σ H (.ref d)) (hk : Keys H d ks) : Ev (tDNotIn ty td) σ H (.bl (!decide (k ∈ ks))) := fun H1 e Q q => h1 H1 e _ fun H2 e2 => h2 H2 (e.trans e2) _ fun H3 e3 =>
  ⟨d, _, rfl, .inl ⟨_, Sum.inl (k : Int), .inl (((e.trans e2).trans e3) _ _ hk), rfl, rfl⟩, by rw [valV_keys]; exact q H3 (e2.trans e3)⟩
def addK (ks : List Nat) (k : Nat) : List Nat := if k ∈ ks then ks else ks ++ [k]
theorem s_dput (h1 : Ev td σ H (.ref d)) (h2 : Ev ty σ H (vn k)) (h3 : Ev tv σ H (.bl true)) (hk : Keys H d ks) (hl : ks.length < 90000) (c : ∀ H1, Ex H H1 → D.nx σ (upd H1 d (.dK ((addK ks k).map keyP)))) : sDPut td ty tv D σ H :=
  h3 H (Ex.refl H) _ fun H1 e1 => h1 H1 e1 _ fun H2 e2 => h2 H2 (e1.trans e2) _ fun H3 e3 => ⟨d, _, rfl, .inl ⟨_, Sum.inl (k : Int), ((e1.trans e2).trans e3) _ _ hk, rfl, sz_lt (by rw [List.length_map]; omega), rfl⟩, by
    rw [putK_keys]
    exact c H3 ((e1.trans e2).trans e3)⟩
theorem q_dput (h1 : Ev td σ H (.ref d)) (h2 : Ev ty σ H (vn k)) (h3 : Ev tv σ H (.bl true)) (hk : Keys H d ks) (hl : ks.length < 90000) (c : ∀ H1, Ex H H1 → tz D σ (upd H1 d (.dK ((addK ks k).map keyP)))) : tSeq (sDPut td ty tv) tz D σ H :=
  s_dput (D := { D with nx := tz D }) h1 h2 h3 hk hl c
/-- d.pop(k, None), dropped -/
theorem s_dpop (h1 : Ev td σ H (.ref d)) (h2 : Ev ty σ H (vn k)) (hk : Keys H d ks) (c : ∀ H1, Ex H H1 → D.nx σ (upd H1 d (.dK ((ks.filter fun y => decide (y ≠ k)).map keyP)))) (c2 : ∀ H1, Ex H H1 → Keys H1 d (ks.filter fun y => decide (y ≠ k)) → D.nx σ H1) : tDrop (tDPop2 td ty (tC .non)) D σ H :=
  h1 H (Ex.refl H) _ fun H1 e1 => ⟨d, rfl, .inl ⟨_, .inl (e1 _ _ hk)⟩, h2 H1 e1 _ fun H2 e2 => ⟨_, Sum.inl (k : Int), e2 _ _ (e1 _ _ hk), rfl, fun v hv => by
    rw [dropK_keys]
    exact c H2 (e1.trans e2), fun hn => by
    have : k ∉ ks := fun z => by
      have h := valV_keys ks k
      rw [hn] at h
      simp [z] at h
    exact c2 H2 (e1.trans e2) (by rw [dropK_none ks k this]; exact e2 _ _ (e1 _ _ hk))⟩⟩
theorem s_dpopX (h1 : Ev td σ H (.ref d)) (hk : Keys H d ks) (h : ∀ H1, Ex H H1 → ∀ Q : VK, ty σ H1 Q) : tDrop (tDPop2 td ty te) D σ H :=
  h1 H (Ex.refl H) _ fun H1 e1 => ⟨d, rfl, .inl ⟨_, .inl (e1 _ _ hk)⟩, h H1 e1 _⟩
theorem x_call {sp : Sp} {dvs vs : List V} {E : XK} {tr : TA} (h : EvA tr σ H vs) (hs : ∀ H1, Ex H H1 → ∀ Q : VK, sp (vs ++ dvs) H1 Q E) (Q : VK) : tCall sp dvs E tr σ H Q := h H (Ex.refl H) _ fun H1 e1 => hs H1 e1 Q
/-- {k: True} -/
theorem en_disp1 (h1 : Ev ty σ H (vn k)) (h2 : Ev tv σ H (.bl true)) : EvN (tDisp [(ty, tv)]) σ H (fun v fs G => ∃ p, v = .ref p ∧ fs = [p] ∧ Keys G p [k]) := fun H1 e Q q p hp => by
  have e1 : Ex H1 (upd H1 p (.dK [])) := Ex.new hp
  show ty σ _ _
  refine h1 _ (e.trans e1) _ fun H2 e2 => h2 H2 ((e.trans e1).trans e2) _ fun H3 e3 => ⟨e3 _ _ (e2 _ _ upd_same), [keyP k], rfl, by show 1 ≤ 15; decide, ?_⟩
  exact q _ [p] _ (((e1.trans e2).trans e3).mut hp) (fun r hr => by rw [List.mem_singleton.mp hr]; exact hp) ⟨p, rfl, rfl, upd_same⟩
theorem en_dnew : EvN tDNewK σ H (fun v fs G => ∃ p, v = .ref p ∧ fs = [p] ∧ Keys G p []) := fun H1 e Q q p hp =>
  q _ [p] _ (Ex.new hp) (fun r hr => by rw [List.mem_singleton.mp hr]; exact hp) ⟨p, rfl, rfl, upd_same⟩
/-- sorted(d) -/
def rSortedDI (K : PySem.W.Frag) : List V → Hp → VK → Prop := fun xs H Q => ∃ (a : Addr) (kvs : List (Key × V)) (ks : List Int), xs = [.ref a] ∧ Rd H a (.dK kvs) ∧ kvs.map (·.1) = ks.map Sum.inl ∧ ks.length < 64 ∧
    ∀ (ys : List Int) (p : Addr), ys.Perm ks → ys.Pairwise (· ≤ ·) → H p = none → Q (.ref p) (upd H p (.lst (ys.map V.int)))
theorem el_sortedD {ta : TA} (h : EvA ta σ H [.ref d]) (hk : Keys H d ks) (hl : ks.length < 64) : EvL (tCB (rSortedDI K) ta) σ H ((srt ks).map vn) := fun H1 e Q q => h H1 e _ fun H2 e2 =>
  ⟨d, _, ks.map (fun n : Nat => (n : Int)), rfl, .inl (e2 _ _ (e _ _ hk)), by rw [List.map_map, List.map_map]; rfl, by rw [List.length_map]; exact hl, fun ys p pm pw hp => by
    rw [srt_ints pm pw]
    exact q p _ (fresh_back e2 hp) (e2.trans (Ex.new hp)) upd_same⟩
/-- x = xs.pop() -/
theorem q_popAsg {l : Addr} {ws : List Nat} {i : Nat} (h : Ev ta σ H (.ref l)) (hl : Ints H l (ws ++ [k])) (c : ∀ H1, Ex H H1 → tz D (σ.set i (some (vn k))) (upd H1 l (.lst (ws.map vn)))) : tSeq (tAsg (tBM0 K "list" rPop ta) (gName i)) tz D σ H :=
  h H (Ex.refl H) _ fun H1 e1 => ⟨.inl ⟨rfl, _, sq_of (e1 _ _ hl)⟩, l, (ws ++ [k]).map vn, vn k, rfl, rfl, e1 _ _ hl, by simp, by
    have : ((ws ++ [k]).map vn).dropLast = ws.map vn := by rw [List.map_append]; exact List.dropLast_concat
    rw [this]
    exact c H1 e1⟩
end
/-! ### what can be reached -/
inductive Reach (nb : Nat → List Nat) (th : Nat → Bool) (s : Nat) : Nat → Prop
  | base : Reach nb th s s
  | step {x y : Nat} : Reach nb th s x → y ∈ nb x → th y = true → Reach nb th s y
open Classical in
noncomputable def partL (n : Nat) (nb : Nat → List Nat) (th : Nat → Bool) (s : Nat) : List Nat := (List.range n).filter fun x => decide (Reach nb th s x)
structure Dfs (n : Nat) (nb : Nat → List Nat) (th : Nat → Bool) (s : Nat) (ms ws : List Nat) : Prop where
  nd : ms.Nodup
  start : s ∈ ms
  lt : ∀ x ∈ ms, x < n
  re : ∀ x ∈ ms, Reach nb th s x
  sub : ∀ x ∈ ws, x ∈ ms
  cl : ∀ x ∈ ms, x ∈ ws ∨ ∀ y ∈ nb x, th y = true → y ∈ ms
structure DfsM (n : Nat) (nb : Nat → List Nat) (th : Nat → Bool) (s : Nat) (ms ws : List Nat) (h k : Nat) : Prop where
  nd : ms.Nodup
  start : s ∈ ms
  here : h ∈ ms
  lt : ∀ x ∈ ms, x < n
  re : ∀ x ∈ ms, Reach nb th s x
  sub : ∀ x ∈ ws, x ∈ ms
  cl : ∀ x ∈ ms, x ∈ ws ∨ x = h ∨ ∀ y ∈ nb x, th y = true → y ∈ ms
  pre : ∀ y ∈ (nb h).take k, th y = true → y ∈ ms
section
variable {n : Nat} {nb : Nat → List Nat} {th : Nat → Bool} {s : Nat} {ms ws : List Nat} {h k y : Nat}
theorem dfs_init (hs : s < n) : Dfs n nb th s [s] [s] := by
  refine ⟨by simp, by simp, fun x hx => ?_, fun x hx => ?_, fun x hx => hx, fun x hx => .inl hx⟩
  · rw [List.mem_singleton.mp hx]; exact hs
  · rw [List.mem_singleton.mp hx]; exact .base
theorem dfs_pop (d : Dfs n nb th s ms (ws ++ [h])) : DfsM n nb th s ms ws h 0 := by
  refine ⟨d.nd, d.start, d.sub h (by simp), d.lt, d.re, fun x hx => d.sub x (by simp [hx]), fun x hx => ?_, fun y hy => by simp at hy⟩
  rcases d.cl x hx with z | z
  · rcases List.mem_append.mp z with z | z
    · exact .inl z
    · exact .inr (.inl (List.mem_singleton.mp z))
  · exact .inr (.inr z)
theorem dfs_no (d : DfsM n nb th s ms ws h k) (hy : (nb h)[k]? = some y) (no : th y = true → y ∈ ms) : DfsM n nb th s ms ws h (k + 1) := by
  refine ⟨d.nd, d.start, d.here, d.lt, d.re, d.sub, d.cl, fun z hz => ?_⟩
  rw [take_snoc hy] at hz
  rcases List.mem_append.mp hz with c | c
  · exact d.pre z c
  · rw [List.mem_singleton.mp c]; exact no
theorem dfs_yes (d : DfsM n nb th s ms ws h k) (hy : (nb h)[k]? = some y) (ht : th y = true) (ny : y ∉ ms) (yn : y < n) : DfsM n nb th s (ms ++ [y]) (ws ++ [y]) h (k + 1) := by
  have up : ∀ x, x ∈ ms → x ∈ ms ++ [y] := fun x hx => List.mem_append_left _ hx
  refine ⟨?_, up _ d.start, up _ d.here, fun x hx => ?_, fun x hx => ?_, fun x hx => ?_, fun x hx => ?_, fun z hz ht' => ?_⟩
  · exact List.nodup_append.mpr ⟨d.nd, by simp, fun a ha b hb z => ny (by rw [List.mem_singleton.mp hb] at z; rw [← z]; exact ha)⟩
  · rcases List.mem_append.mp hx with c | c
    · exact d.lt x c
    · rw [List.mem_singleton.mp c]; exact yn
  · rcases List.mem_append.mp hx with c | c
    · exact d.re x c
    · rw [List.mem_singleton.mp c]; exact .step (d.re h d.here) (List.mem_of_getElem? hy) ht
  · rcases List.mem_append.mp hx with c | c
    · exact up x (d.sub x c)
    · exact List.mem_append_right _ c
  · rcases List.mem_append.mp hx with c | c
    · rcases d.cl x c with e | e | e
      · exact .inl (List.mem_append_left _ e)
      · exact .inr (.inl e)
      · exact .inr (.inr fun z hz hz' => up z (e z hz hz'))
    · exact .inl (List.mem_append_right _ c)
  · rw [take_snoc hy] at hz
    rcases List.mem_append.mp hz with c | c
    · exact up z (d.pre z c ht')
    · exact List.mem_append_right _ c
theorem dfs_done (d : DfsM n nb th s ms ws h (nb h).length) : Dfs n nb th s ms ws := by
  refine ⟨d.nd, d.start, d.lt, d.re, d.sub, fun x hx => ?_⟩
  rcases d.cl x hx with e | e | e
  · exact .inl e
  · subst e
    refine .inr fun y hy => d.pre y ?_
    rw [List.take_length]
    exact hy
  · exact .inr e
theorem dfs_mem (d : Dfs n nb th s ms []) (x : Nat) : x ∈ ms ↔ Reach nb th s x := by
  refine ⟨d.re x, fun r => ?_⟩
  induction r with
  | base => exact d.start
  | step r hy ht ih =>
    rcases d.cl _ ih with c | c
    · cases c
    · exact c _ hy ht
theorem partL_le (n : Nat) (nb : Nat → List Nat) (th : Nat → Bool) (s : Nat) : (partL n nb th s).Pairwise (· < ·) := List.Pairwise.filter _ List.pairwise_lt_range
theorem partL_nodup (n : Nat) (nb : Nat → List Nat) (th : Nat → Bool) (s : Nat) : (partL n nb th s).Nodup := (partL_le n nb th s).imp fun h => Nat.ne_of_lt h
open Classical in
theorem mem_partL {x : Nat} : x ∈ partL n nb th s ↔ x < n ∧ Reach nb th s x := by
  unfold partL
  rw [List.mem_filter, List.mem_range]
  exact and_congr_right fun _ => ⟨fun h => of_decide_eq_true h, fun h => decide_eq_true h⟩
theorem dfs_end (d : Dfs n nb th s ms []) : srt ms = partL n nb th s := by
  refine (srt_one ?_ ((partL_le n nb th s).imp fun h => Nat.le_of_lt h)).symm
  refine (List.perm_ext_iff_of_nodup (partL_nodup _ _ _ _) d.nd).mpr fun x => ?_
  rw [mem_partL, dfs_mem d]
  exact ⟨fun h => h.2, fun h => ⟨d.lt x ((dfs_mem d x).mpr h), h⟩⟩
theorem few_of {ms : List Nat} (nd : ms.Nodup) (lt : ∀ x ∈ ms, x < n) : ms.length ≤ n := by
  have : ms.Perm ((List.range n).filter fun x => decide (x ∈ ms)) := by
    refine (List.perm_ext_iff_of_nodup nd (List.nodup_range.filter _)).mpr fun x => ?_
    rw [List.mem_filter, List.mem_range, decide_eq_true_iff]
    exact ⟨fun h => ⟨lt x h, h⟩, fun h => h.2⟩
  rw [this.length_eq]
  have := List.length_filter_le (fun x => decide (x ∈ ms)) (List.range n)
  rw [List.length_range] at this
  exact this
end
end OP

/-! The parts of a net, plainly. -/
namespace OP
open PySem PySem.Spec PyProof.Rows L2 Evl
def nbOf (W : Web) (i : Nat) : List Nat := W.near.getD i []
def inK (ks : List Nat) (x : Nat) : Bool := decide (x ∈ ks)
theorem WebOk.nb {W : Web} (ok : WebOk W) {h : Nat} (hh : h < W.size) : ∃ r, W.near[h]? = some r ∧ nbOf W h = r ∧ r.length ≤ 40 ∧ ∀ x ∈ r, x < W.size := by
  obtain ⟨r, hr⟩ : ∃ r, W.near[h]? = some r := ⟨_, List.getElem?_eq_getElem (by rw [ok.len]; exact hh)⟩
  have := ok.row r (List.mem_of_getElem? hr)
  exact ⟨r, hr, by rw [nbOf, List.getD_eq_getElem?_getD, hr]; rfl, Nat.le_trans this.1 ok.small, this.2⟩
noncomputable def partsStep (n : Nat) (nb : Nat → List Nat) (th : Nat → Bool) (acc : List (List Nat)) (i : Nat) : List (List Nat) := if th i = true ∧ i ∉ acc.flatten then acc ++ [partL n nb th i] else acc
noncomputable def partsPre (n : Nat) (nb : Nat → List Nat) (th : Nat → Bool) (i : Nat) : List (List Nat) := (List.range i).foldl (partsStep n nb th) []
noncomputable def partsL (n : Nat) (nb : Nat → List Nat) (th : Nat → Bool) : List (List Nat) := partsPre n nb th n
section
variable {n : Nat} {nb : Nat → List Nat} {th : Nat → Bool}
theorem partsPre_succ (i : Nat) : partsPre n nb th (i + 1) = partsStep n nb th (partsPre n nb th i) i := by
  unfold partsPre
  rw [List.range_succ, List.foldl_append]
  rfl
theorem partsPre_yes {i : Nat} (h : th i = true ∧ i ∉ (partsPre n nb th i).flatten) : partsPre n nb th (i + 1) = partsPre n nb th i ++ [partL n nb th i] := by
  rw [partsPre_succ, partsStep, if_pos h]
theorem partsPre_no {i : Nat} (h : ¬ (th i = true ∧ i ∉ (partsPre n nb th i).flatten)) : partsPre n nb th (i + 1) = partsPre n nb th i := by
  rw [partsPre_succ, partsStep, if_neg h]
theorem partsPre_len (i : Nat) : (partsPre n nb th i).length ≤ i := by
  induction i with
  | zero => exact Nat.le_refl _
  | succ i ih =>
    by_cases h : th i = true ∧ i ∉ (partsPre n nb th i).flatten
    · rw [partsPre_yes h, List.length_append, List.length_singleton]
      omega
    · rw [partsPre_no h]
      omega
/-- every part has its own first place -/
theorem partsPre_mem (i : Nat) (hi : i ≤ n) : ∀ p ∈ partsPre n nb th i, ∃ s, s < n ∧ th s = true ∧ p = partL n nb th s := by
  induction i with
  | zero => intro p hp; cases hp
  | succ i ih =>
    intro p hp
    by_cases h : th i = true ∧ i ∉ (partsPre n nb th i).flatten
    · rw [partsPre_yes h] at hp
      rcases List.mem_append.mp hp with c | c
      · exact ih (by omega) p c
      · exact ⟨i, by omega, h.1, List.mem_singleton.mp c⟩
    · rw [partsPre_no h] at hp
      exact ih (by omega) p hp
theorem partL_self {s : Nat} (h : s < n) : s ∈ partL n nb th s := mem_partL.mpr ⟨h, .base⟩
theorem partsL_ne : ∀ p ∈ partsL n nb th, p ≠ [] := fun p hp => by
  obtain ⟨s, hs, _, rfl⟩ := partsPre_mem n (Nat.le_refl _) p hp
  intro z
  have := partL_self (nb := nb) (th := th) hs
  rw [z] at this
  cases this
theorem partL_few {s : Nat} : (partL n nb th s).length ≤ n := few_of (partL_nodup _ _ _ _) fun x hx => (mem_partL.mp hx).1
end
theorem mem_addK {ks : List Nat} {k x : Nat} : x ∈ addK ks k ↔ x ∈ ks ∨ x = k := by
  unfold addK
  split
  · rename_i h
    exact ⟨fun z => .inl z, fun z => z.elim id fun e => by rw [e]; exact h⟩
  · rw [List.mem_append, List.mem_singleton]
theorem addK_nodup {ks : List Nat} {k : Nat} (h : ks.Nodup) : (addK ks k).Nodup := by
  unfold addK
  split
  · exact h
  · rename_i c
    exact List.nodup_append.mpr ⟨h, by simp, fun a ha b hb z => c (by rw [List.mem_singleton.mp hb] at z; rw [← z]; exact ha)⟩
/-- the places that are left -/
def thOf (n : Nat) (ts : List Nat) (x : Nat) : Bool := decide (x < n) && !decide (x ∈ ts)
theorem thOf_of {n : Nat} {ks ts : List Nat} (h : ∀ x, x ∈ ks ↔ x < n ∧ x ∉ ts) : inK ks = thOf n ts := by
  funext x
  unfold inK thOf
  by_cases c : x ∈ ks
  · have := (h x).mp c
    simp [c, this]
  · have := mt (h x).mpr c
    simp only [c, decide_false]
    by_cases c1 : x < n
    · have : x ∈ ts := Classical.byContradiction fun z => this ⟨c1, z⟩
      simp [this]
    · simp [c1]
section
variable {K : PySem.W.Frag} {σ : L2.St} {H H' : Hp} {ta tb td ty tv te tx : TE} {x y z v : V}
theorem s_dropX {D : Ends} (h : ∀ Q : VK, te σ H Q) : tDrop te D σ H := h _
theorem s_dropX1 {D : Ends} (h : te σ H (fun _ H1 => D.nx σ H1)) : tDrop te D σ H := h
theorem paired_at' {α β : Type} {F : α → β → Prop} {as : List α} {bs : List β} {i : Nat} {a : α} {b : β} (p : Paired F as bs) (ha : as[i]? = some a) (hb : bs[i]? = some b) : F a b := by
  obtain ⟨b', h1, h2⟩ := paired_get' p ha
  rw [hb] at h1
  cases h1
  exact h2
theorem ep_lF {P : HV} {xs : List V} (h : EvL te σ H xs) (p : ∀ a G, Ex H G → H a = none → G a = some (.lst xs) → P G (.ref a)) : EvP te σ H P := fun H1 e Q q => h H1 e Q fun a H2 ha e2 h2 => q _ H2 e2 (p a H2 (e.trans e2) (fresh_back e ha) h2)
theorem q_forN {R : Rn} {D : Ends} {tu tz : TS} {tl : TE} {j : Nat} (h : EvN tl σ H R) (k : ∀ v fs H1, Ex H H1 → (∀ p ∈ fs, H p = none) → R v fs H1 → ∃ a xs, v = .ref a ∧ SqL K H1 a xs ∧ ∃ Pv : Nat → L2.St → Hp → Prop, Pv 0 σ H1 ∧ (∀ i σ' H', i ≤ xs.length → Pv i σ' H' → SqL K H' a xs) ∧
    (∀ i x σ' H', xs[i]? = some x → Pv i σ' H' → tu { D with nx := Pv (i + 1), ct := Pv (i + 1), bk := tz D } (σ'.set j (some x)) H') ∧ (∀ σ' H', Pv xs.length σ' H' → tz D σ' H')) : tSeq (tFor (iList K tl) (gName j) tu) tz D σ H :=
  h H (Ex.refl H) _ fun v fs H1 e f r => by
    obtain ⟨a, xs, rfl, hx, Pv, h0, hl, hs, hd⟩ := k v fs H1 e f r
    exact ⟨a, rfl, ⟨xs, hx⟩, for_list (D := { D with nx := tz D }) Pv h0 hl hs hd⟩
theorem en_of_epl {P : HV} {n : Nat} (h : EvPL te σ H n P) : EvN te σ H (fun v fs G => ∃ p vs, v = .ref p ∧ fs = [p] ∧ G p = some (.lst vs) ∧ vs.length = n ∧ ∀ x ∈ vs, P G x) := fun H1 e Q q => h H1 e Q fun p vs H2 hp e2 h2 len pv => q _ [p] H2 e2 (fun r hr => by rw [List.mem_singleton.mp hr]; exact hp) ⟨p, vs, rfl, rfl, h2, len, pv⟩
/-- o.m(..) of a list, the value dropped -/
theorem q_dropM {r : V → List V → Hp → VK → Prop} {D : Ends} {tz : TS} {l : Addr} {xs vs : List V} {tr : TA} (ho : Ev ta σ H (.ref l)) (hl : H l = some (.lst xs)) (h : EvA tr σ H vs) (k : ∀ H1, Ex H H1 → r (.ref l) vs H1 fun _ H2 => tz D σ H2) : tSeq (tDrop (tBM K "list" r ta tr)) tz D σ H :=
  ho H (Ex.refl H) _ fun H1 e1 => ⟨.inl ⟨rfl, xs, sq_of (e1 _ _ hl)⟩, h H1 e1 _ fun H2 e2 => k H2 (e1.trans e2)⟩
theorem q_dropM0 {r : V → List V → Hp → VK → Prop} {D : Ends} {tz : TS} {l : Addr} {xs : List V} (ho : Ev ta σ H (.ref l)) (hl : H l = some (.lst xs)) (k : ∀ H1, Ex H H1 → r (.ref l) [] H1 fun _ H2 => tz D σ H2) : tSeq (tDrop (tBM0 K "list" r ta)) tz D σ H :=
  ho H (Ex.refl H) _ fun H1 e1 => ⟨.inl ⟨rfl, xs, sq_of (e1 _ _ hl)⟩, k H1 e1⟩
/-- i % m, m > 0 -/
theorem ev_modN {i : Int} {m : Nat} (hm : 0 < m) (h : Ev te σ H (.int i)) (h2 : Ev tb σ H (vn m)) : Ev (tOp (rI (fun _ j => 0 < j) fun i j => .int (i % j)) te tb) σ H (vn (i % m).toNat) := ev_is (ev_op h h2 (rv_I (by omega))) (by
  have := Int.emod_nonneg i (show (m : Int) ≠ 0 by omega)
  show V.int _ = V.int _
  rw [Int.toNat_of_nonneg this])
theorem modN_lt (i : Int) {m : Nat} (hm : 0 < m) : (i % m).toNat < m := by
  have h1 := Int.emod_nonneg i (show (m : Int) ≠ 0 by omega)
  have h2 := Int.emod_lt_of_pos i (show (0 : Int) < m by omega)
  omega
/-- xs.append(e), e a new thing -/
theorem q_appN {R : Rn} {D : Ends} {tz : TS} {l : Addr} {xs : List V} (hl : H l = some (.lst xs)) (ha : Ev ta σ H (.ref l)) (h : EvN te σ H R) (hz : xs.length < 100000) (k : ∀ v fs H1, Ex H H1 → (∀ p ∈ fs, H p = none) → R v fs H1 → tz D σ (upd H1 l (.lst (xs ++ [v])))) :
    tSeq (tDrop (tBM K "list" rAppend ta (tCons te tNil))) tz D σ H := ha H (Ex.refl H) _ fun H1 e1 =>
  ⟨Or.inl ⟨rfl, xs, sq_of (e1 l _ hl)⟩, h H1 e1 _ fun v fs H2 e2 fr r => ⟨l, xs, v, rfl, rfl, e2 l _ (e1 l _ hl), sz_lt hz, k v fs H2 (e1.trans e2) (fun p hp => fresh_back e1 (fr p hp)) r⟩⟩
theorem atI_last {xs : List V} {v : V} : atI (xs ++ [v]) (-1) = some v := by
  have : ixN (xs ++ [v]).length (-1) = some xs.length := by
    unfold ixN
    rw [if_neg (by decide)]
    rw [List.length_append, List.length_singleton]
    rw [if_pos (by omega)]
    congr 1
    omega
  unfold atI
  rw [this]
  simp
/-- [(e, True) for i in range(n) if t] -/
theorem en_pairsTrue {tr : TA} {t : TT} {j n : Nat} {vs : List Nat} (f : Nat → Bool) (h : EvA tr σ H [.int n]) (hn : n ≤ 40000) (hw : ∀ x, wipe ((wipe σ vs).set j (some x)) vs = wipe σ vs)
    (ht : ∀ (i : Nat) H1, Ex H H1 → i < n → EvT t ((wipe σ vs).set j (some (vn i))) H1 (f i)) (he : ∀ (i : Nat) H1, Ex H H1 → i < n → EvU te ((wipe σ vs).set j (some (vn i))) H1 [vn i, .bl true]) :
    EvN (tLc (iRng1 tr) (gName j) t te vs) σ H (fun v fs G => ∃ D as, v = .ref D ∧ G D = some (.lst (as.map V.ref)) ∧ Paired (fun p k => G p = some (.tup [vn k, .bl true])) as ((List.range n).filter f)) := fun H0 e Q q =>
  h H0 e _ fun H1 e1 => ⟨n, rfl, by omega, by omega, fun D hD =>
  lc_range (lo := 0) (n := (n : Int).toNat) (fun i H' => Ex H1 H' ∧ ∃ as, H' D = some (.lst (as.map V.ref)) ∧ Paired (fun p k => H' p = some (.tup [vn k, .bl true])) as ((List.range i).filter f))
    ⟨Ex.new hD, [], upd_same, .nil⟩
    (fun i H' hi ⟨e2, as, hd, hp⟩ => by
      have e0 : (0 : Int) + (i : Int) = (i : Int) := Int.zero_add _
      rw [Int.toNat_natCast] at hi
      show wipe ((wipe σ vs).set j (some (.int ((0 : Int) + (i : Int))))) vs = wipe σ vs ∧ t ((wipe σ vs).set j (some (.int ((0 : Int) + (i : Int))))) H' fun b H3 => if b = true then te ((wipe σ vs).set j (some (.int ((0 : Int) + (i : Int))))) H3 fun y H4 => ∃ acc, H4 D = some (.lst acc) ∧ acc.length < sizeLine ∧ _ else _
      rw [e0]
      refine ⟨hw _, ht i H' ((e.trans e1).trans e2) hi H' (Ex.refl H') _ fun H3 e3 => ?_⟩
      have len : as.length ≤ i := by
        rw [paired_len hp]
        have := List.length_filter_le f (List.range i)
        rw [List.length_range] at this
        exact this
      cases hf : f i with
      | false =>
        show Ex H1 H3 ∧ _
        refine ⟨e2.trans e3, as, e3 _ _ hd, ?_⟩
        rw [List.range_succ, List.filter_append]
        simp only [List.filter_cons, List.filter_nil, hf, Bool.false_eq_true, if_false, List.append_nil]
        exact Paired.mapP hp fun _ _ z => e3 _ _ z
      | true =>
        show te _ H3 _
        refine he i H' ((e.trans e1).trans e2) hi H3 e3 _ fun p H4 hp4 e4 hpt => ⟨as.map V.ref, e4 _ _ (e3 _ _ hd), sz_lt (by rw [List.length_map]; omega), ((e2.trans e3).trans e4).mut hD, as ++ [p], by rw [upd_same, List.map_append]; rfl, ?_⟩
        rw [List.range_succ, List.filter_append]
        simp only [List.filter_cons, List.filter_nil, hf, if_true]
        have ne : ∀ b k, H' b = some (.tup [vn k, .bl true]) → b ≠ D := fun b k z w => by rw [w, hd] at z; cases z
        refine paired_app (Paired.mapP hp fun b k z => ?_) (.cons ?_ .nil)
        · rw [upd_ne (ne b k z)]
          exact e4 _ _ (e3 _ _ z)
        · rw [upd_ne (fun w => by rw [w, e3 _ _ hd] at hp4; cases hp4)]
          exact hpt)
    (fun H' ⟨e2, as, hd, hp⟩ => by
      rw [Int.toNat_natCast] at hp
      exact q _ [] H' (e1.trans e2) (fun r hr => nomatch hr) ⟨D, as, rfl, hd, hp⟩)⟩
def rDictP (K : PySem.W.Frag) : List V → Hp → VK → Prop := fun xs H Q => ∃ (a : Addr) (ps : List Addr) (kvs : List (Key × V)), xs = [.ref a] ∧ SqL K H a (ps.map V.ref) ∧ Paired (fun p kv => SqT K H p [kV kv.1, kv.2]) ps kvs ∧
    ∀ p, H p = none → Q (.ref p) (upd H p (.dK (mergeK [] kvs)))
theorem mergeK_keys : ∀ (ks acc : List Nat), (acc ++ ks).Nodup → mergeK (acc.map keyP) (ks.map keyP) = (acc ++ ks).map keyP
  | [], acc, _ => by rw [List.append_nil]; rfl
  | k :: ks, acc, nd => by
    show mergeK (putK (acc.map keyP) (Sum.inl (k : Int)) (.bl true)) (ks.map keyP) = _
    have : k ∉ acc := fun z => by
      have := (List.nodup_append.mp nd).2.2 k z k List.mem_cons_self
      exact this rfl
    rw [putK_keys, if_neg this, mergeK_keys ks (acc ++ [k]) (by rw [List.append_assoc]; exact nd), List.append_assoc]
    rfl
theorem paired_mapR {α β γ : Type} {F : α → β → Prop} {G : α → γ → Prop} {g : β → γ} : ∀ {as : List α} {bs : List β}, Paired F as bs → (∀ a b, F a b → G a (g b)) → Paired G as (bs.map g)
  | _, _, .nil, _ => .nil
  | _, _, .cons r t, h => .cons (h _ _ r) (paired_mapR t h)
/-- dict([(k, True) ..]) -/
theorem en_dictTrue {ks : List Nat} (nd : ks.Nodup) (h : EvN ta σ H (fun v fs G => ∃ D as, v = .ref D ∧ G D = some (.lst (as.map V.ref)) ∧ Paired (fun p k => G p = some (.tup [vn k, .bl true])) as ks)) : EvN (tCB (rDictP K) (tCons ta tNil)) σ H (fun v fs G => ∃ p, v = .ref p ∧ fs = [p] ∧ Keys G p ks) := fun H1 e Q q =>
  h H1 e _ fun v fs H2 e2 fr r => by
    obtain ⟨D, as, rfl, hD, hp⟩ := r
    refine ⟨D, as, ks.map keyP, rfl, sq_of hD, ?_, fun p hp2 => ?_⟩
    · exact paired_mapR hp fun a k z => st_of z
    · have := mergeK_keys ks [] nd
      rw [show mergeK [] (ks.map keyP) = ks.map keyP from this]
      exact q _ [p] _ (e2.trans (Ex.new hp2)) (fun r hr => by rw [List.mem_singleton.mp hr]; exact fresh_back e2 hp2) ⟨p, rfl, rfl, upd_same⟩
end
end OP

/-! Pairings, plainly. -/
namespace OP
open PySem PySem.Spec PyProof.Rows L2 Evl
def Apart (p q : Nat × Nat) : Prop := p.1 ≠ q.1 ∧ p.1 ≠ q.2 ∧ p.2 ≠ q.1 ∧ p.2 ≠ q.2
structure PairsOk (W : Web) (ps : List (Nat × Nat)) : Prop where
  tie : ∀ p ∈ ps, p.1 < p.2 ∧ p.2 < W.size ∧ p.2 ∈ nbOf W p.1
  apart : ps.Pairwise Apart
def mateOf (ps : List (Nat × Nat)) (i : Nat) : Option Nat := ps.findSome? fun p => if p.1 = i then some p.2 else if p.2 = i then some p.1 else none
def mateL (n : Nat) (ps : List (Nat × Nat)) : List (Option Nat) := (List.range n).map (mateOf ps)
theorem mateL_len (n : Nat) (ps : List (Nat × Nat)) : (mateL n ps).length = n := by simp [mateL]
theorem mateL_get {n : Nat} (ps : List (Nat × Nat)) {i : Nat} (h : i < n) : (mateL n ps)[i]? = some (mateOf ps i) := by
  unfold mateL
  simp [h]
theorem mateOf_none {ps : List (Nat × Nat)} {i : Nat} : mateOf ps i = none ↔ ∀ p ∈ ps, p.1 ≠ i ∧ p.2 ≠ i := by
  unfold mateOf
  rw [List.findSome?_eq_none_iff]
  refine forall_congr' fun p => forall_congr' fun hp => ?_
  by_cases h1 : p.1 = i
  · simp [h1]
  · by_cases h2 : p.2 = i
    · simp [h1, h2]
    · simp [h1, h2]
theorem PairsOk.pre {W : Web} {ps qs : List (Nat × Nat)} (h : PairsOk W (ps ++ qs)) : PairsOk W ps :=
  ⟨fun p hp => h.tie p (List.mem_append_left _ hp), (List.pairwise_append.mp h.apart).1⟩
theorem PairsOk.snoc {W : Web} {ps : List (Nat × Nat)} {q : Nat × Nat} : PairsOk W (ps ++ [q]) ↔ PairsOk W ps ∧ (q.1 < q.2 ∧ q.2 < W.size ∧ q.2 ∈ nbOf W q.1) ∧ ∀ p ∈ ps, Apart p q := by
  constructor
  · intro h
    exact ⟨h.pre, h.tie q (by simp), fun p hp => (List.pairwise_append.mp h.apart).2.2 p hp q (by simp)⟩
  · rintro ⟨h1, h2, h3⟩
    refine ⟨fun p hp => ?_, List.pairwise_append.mpr ⟨h1.apart, by simp, fun p hp r hr => by rw [List.mem_singleton.mp hr]; exact h3 p hp⟩⟩
    rcases List.mem_append.mp hp with c | c
    · exact h1.tie p c
    · rw [List.mem_singleton.mp c]; exact h2
theorem apart_free {ps : List (Nat × Nat)} {q : Nat × Nat} : (∀ p ∈ ps, Apart p q) ↔ mateOf ps q.1 = none ∧ mateOf ps q.2 = none := by
  rw [mateOf_none, mateOf_none]
  constructor
  · intro h
    exact ⟨fun p hp => ⟨(h p hp).1, (h p hp).2.2.1⟩, fun p hp => ⟨(h p hp).2.1, (h p hp).2.2.2⟩⟩
  · rintro ⟨h1, h2⟩ p hp
    exact ⟨(h1 p hp).1, (h2 p hp).1, (h1 p hp).2, (h2 p hp).2⟩
theorem mateOf_snoc {ps : List (Nat × Nat)} {q : Nat × Nat} (ne : q.1 ≠ q.2) (f1 : mateOf ps q.1 = none) (f2 : mateOf ps q.2 = none) (i : Nat) : mateOf (ps ++ [q]) i = if i = q.2 then some q.1 else if i = q.1 then some q.2 else mateOf ps i := by
  have e : mateOf (ps ++ [q]) i = (mateOf ps i).or (if q.1 = i then some q.2 else if q.2 = i then some q.1 else none) := by
    unfold mateOf
    rw [List.findSome?_append]
    congr 1
    rw [List.findSome?_cons]
    split
    · rename_i h
      rw [h]
    · rename_i h
      rw [h]
      rfl
  rw [e]
  by_cases h2 : i = q.2
  · subst h2
    rw [f2, if_pos rfl, if_neg ne, if_pos rfl]
    rfl
  · rw [if_neg h2]
    by_cases h1 : i = q.1
    · subst h1
      rw [f1, if_pos rfl, if_pos rfl]
      rfl
    · rw [if_neg h1, if_neg (fun z => h1 z.symm), if_neg (fun z => h2 z.symm), Option.or_none]
theorem mateOf_some {W : Web} {ps : List (Nat × Nat)} (ok : PairsOk W ps) {i j : Nat} : mateOf ps i = some j ↔ (i, j) ∈ ps ∨ (j, i) ∈ ps := by
  constructor
  · intro h
    unfold mateOf at h
    obtain ⟨p, hp, e⟩ := List.exists_of_findSome?_eq_some h
    split at e
    · rename_i c
      cases e
      rw [← c]
      exact .inl hp
    · split at e
      · rename_i c
        cases e
        rw [← c]
        exact .inr hp
      · cases e
  · intro h
    -- the first one that has i is the only one
    have key : ∀ p ∈ ps, (p.1 = i ∨ p.2 = i) → ∀ q ∈ ps, (q.1 = i ∨ q.2 = i) → p = q := fun p hp h1 q hq h2 => by
      refine Classical.byContradiction fun ne => ?_
      have ap : Apart p q ∨ Apart q p := by
        have := List.pairwise_iff_getElem.mp ok.apart
        obtain ⟨a, ha, rfl⟩ := List.getElem_of_mem hp
        obtain ⟨b, hb, rfl⟩ := List.getElem_of_mem hq
        rcases Nat.lt_trichotomy a b with c | c | c
        · exact .inl (this a b ha hb c)
        · subst c; exact absurd rfl ne
        · exact .inr (this b a hb ha c)
      rcases ap with ⟨x1, x2, x3, x4⟩ | ⟨x1, x2, x3, x4⟩ <;> omega
    cases e : mateOf ps i with
    | none =>
      have := mateOf_none.mp e
      rcases h with h | h
      · exact absurd rfl (this _ h).1
      · exact absurd rfl (this _ h).2
    | some k =>
      have e2 := e
      unfold mateOf at e2
      obtain ⟨p, hp, e2⟩ := List.exists_of_findSome?_eq_some e2
      split at e2
      · rename_i c
        cases e2
        rcases h with h | h
        · have := key p hp (.inl c) _ h (.inl rfl)
          rw [this]
        · have := key p hp (.inl c) _ h (.inr rfl)
          have t := ok.tie _ h
          rw [this] at c
          dsimp only at c t
          omega
      · split at e2
        · rename_i c
          cases e2
          rcases h with h | h
          · have := key p hp (.inr c) _ h (.inl rfl)
            have t := ok.tie _ h
            rw [this] at c
            dsimp only at c t
            omega
          · have := key p hp (.inr c) _ h (.inr rfl)
            rw [this]
        · cases e2
/-- the pairs that mates tell -/
def upB (ms : List (Option Nat)) (i : Nat) : Bool := match ms.getD i none with
  | some j => decide (i < j)
  | none => false
def pairsOf (ms : List (Option Nat)) : List (Nat × Nat) := ((List.range ms.length).filter (upB ms)).map fun i => (i, (ms.getD i none).getD 0)
theorem mem_pairsOf {ms : List (Option Nat)} {p : Nat × Nat} : p ∈ pairsOf ms ↔ ms[p.1]? = some (some p.2) ∧ p.1 < p.2 := by
  unfold pairsOf
  rw [List.mem_map]
  constructor
  · rintro ⟨i, hi, rfl⟩
    obtain ⟨h1, h2⟩ := List.mem_filter.mp hi
    have h1 := List.mem_range.mp h1
    unfold upB at h2
    rw [List.getD_eq_getElem?_getD] at h2 ⊢
    rw [List.getElem?_eq_getElem h1] at h2 ⊢
    dsimp only [Option.getD_some] at h2 ⊢
    split at h2
    · rename_i j e
      rw [e]
      exact ⟨rfl, by simpa using h2⟩
    · cases h2
  · rintro ⟨h1, h2⟩
    obtain ⟨hl, he⟩ := List.getElem?_eq_some_iff.mp h1
    refine ⟨p.1, List.mem_filter.mpr ⟨List.mem_range.mpr hl, ?_⟩, ?_⟩
    · unfold upB
      rw [List.getD_eq_getElem?_getD, h1]
      exact decide_eq_true h2
    · rw [List.getD_eq_getElem?_getD, h1]
      rfl
theorem pairsOf_sorted (ms : List (Option Nat)) : (pairsOf ms).Pairwise fun a b => a.1 < b.1 := by
  unfold pairsOf
  rw [List.pairwise_map]
  exact List.pairwise_lt_range.filter _
theorem pairsOf_len (ms : List (Option Nat)) : (pairsOf ms).length ≤ ms.length := by
  unfold pairsOf
  rw [List.length_map]
  have := List.length_filter_le (upB ms) (List.range ms.length)
  rw [List.length_range] at this
  exact this
theorem PairsOk.nodup {W : Web} {ps : List (Nat × Nat)} (ok : PairsOk W ps) : ps.Nodup := ok.apart.imp fun h e => h.1 (by rw [e])
theorem pairsOf_mates {W : Web} {ps : List (Nat × Nat)} (ok : PairsOk W ps) : pairsOf (mateL W.size ps) = srtP ps := by
  have s := pairsOf_sorted (mateL W.size ps)
  refine srtP_one ((List.perm_ext_iff_of_nodup (s.imp fun h e => ?_) ok.nodup).mpr fun p => ?_) (s.imp fun h => leP_iff.mpr (.inl h))
  · rw [e] at h
    omega
  · rw [mem_pairsOf]
    constructor
    · rintro ⟨h1, h2⟩
      have hl := (List.getElem?_eq_some_iff.mp h1).1
      rw [mateL_len] at hl
      rw [mateL_get ps hl] at h1
      rcases (mateOf_some ok).mp (Option.some.inj h1) with c | c
      · exact c
      · have := (ok.tie _ c).1
        dsimp only at this
        omega
    · intro hp
      obtain ⟨t1, t2, _⟩ := ok.tie p hp
      refine ⟨?_, t1⟩
      rw [mateL_get ps (by omega)]
      exact congrArg some ((mateOf_some ok).mpr (.inl hp))
theorem PairsOk.few {W : Web} {ps : List (Nat × Nat)} (ok : PairsOk W ps) : ps.length ≤ W.size := by
  rw [← (srtP_perm ps).length_eq, ← pairsOf_mates ok]
  have := pairsOf_len (mateL W.size ps)
  rw [mateL_len] at this
  exact this
theorem PairsOk.perm {W : Web} {ps qs : List (Nat × Nat)} (h : ps.Perm qs) (ok : PairsOk W ps) : PairsOk W qs :=
  ⟨fun p hp => ok.tie p (h.mem_iff.mpr hp), ok.apart.perm h fun {a b} x => ⟨fun z => x.1 z.symm, fun z => x.2.2.1 z.symm, fun z => x.2.1 z.symm, fun z => x.2.2.2 z.symm⟩⟩
theorem getD_get {α : Type} {l : List α} {i : Nat} (d : α) (h : i < l.length) : l[i]? = some (l.getD i d) := by
  rw [List.getD_eq_getElem?_getD, List.getElem?_eq_getElem h]
  rfl
def aloneOf (n : Nat) (ms : List (Option Nat)) : List Nat := (List.range n).filter fun i => decide (ms.getD i none = none)
theorem inV_nat (x : Nat) (ts : List Nat) : inV (vn x) (ts.map vn) = decide (x ∈ ts) := by
  unfold inV
  rw [List.any_map, Bool.eq_iff_iff, List.any_eq_true, decide_eq_true_iff]
  constructor
  · rintro ⟨y, hy, e⟩
    have : x = y := by
      have e : ((y : Int) == (x : Int)) = true := e
      have := eq_of_beq e
      omega
    rw [this]
    exact hy
  · intro h
    exact ⟨x, h, beq_self_eq_true (x : Int)⟩
theorem flat_nats (ts : List Nat) : (ts.map vn).all flatV = true := by
  rw [List.all_map, List.all_eq_true]
  intro x _
  rfl
section
variable {K : PySem.W.Frag} {σ : L2.St} {H H' : Hp} {ta tb td ty tv te tx : TE} {x y z v : V}
/-- [(.., ..) for i in range(n) if t] -/
theorem en_pairsNew {tr : TA} {t : TT} {j n : Nat} {vs : List Nat} (f : Nat → Bool) (g : Nat → Nat × Nat) (h : EvA tr σ H [.int n]) (hn : n ≤ 40000) (hw : ∀ x, wipe ((wipe σ vs).set j (some x)) vs = wipe σ vs)
    (ht : ∀ (i : Nat) H1, Ex H H1 → i < n → EvT t ((wipe σ vs).set j (some (vn i))) H1 (f i)) (he : ∀ (i : Nat) H1, Ex H H1 → i < n → f i = true → EvU te ((wipe σ vs).set j (some (vn i))) H1 [vn (g i).1, vn (g i).2]) :
    EvN (tLc (iRng1 tr) (gName j) t te vs) σ H (fun v fs G => ∃ D as, v = .ref D ∧ fs = [D] ∧ G D = some (.lst (as.map V.ref)) ∧ Paired (Pr G) as (((List.range n).filter f).map g)) := fun H0 e Q q =>
  h H0 e _ fun H1 e1 => ⟨n, rfl, by omega, by omega, fun D hD =>
  lc_range (lo := 0) (n := (n : Int).toNat) (fun i H' => Ex H1 H' ∧ ∃ as, H' D = some (.lst (as.map V.ref)) ∧ Paired (Pr H') as (((List.range i).filter f).map g))
    ⟨Ex.new hD, [], upd_same, .nil⟩
    (fun i H' hi ⟨e2, as, hd, hp⟩ => by
      have e0 : (0 : Int) + (i : Int) = (i : Int) := Int.zero_add _
      rw [Int.toNat_natCast] at hi
      show wipe ((wipe σ vs).set j (some (.int ((0 : Int) + (i : Int))))) vs = wipe σ vs ∧ t ((wipe σ vs).set j (some (.int ((0 : Int) + (i : Int))))) H' fun b H3 => if b = true then te ((wipe σ vs).set j (some (.int ((0 : Int) + (i : Int))))) H3 fun y H4 => ∃ acc, H4 D = some (.lst acc) ∧ acc.length < sizeLine ∧ _ else _
      rw [e0]
      refine ⟨hw _, ht i H' ((e.trans e1).trans e2) hi H' (Ex.refl H') _ fun H3 e3 => ?_⟩
      have len : as.length ≤ i := by
        rw [paired_len hp, List.length_map]
        have := List.length_filter_le f (List.range i)
        rw [List.length_range] at this
        exact this
      cases hf : f i with
      | false =>
        show Ex H1 H3 ∧ _
        refine ⟨e2.trans e3, as, e3 _ _ hd, ?_⟩
        rw [List.range_succ, List.filter_append]
        simp only [List.filter_cons, List.filter_nil, hf, Bool.false_eq_true, if_false, List.append_nil]
        exact Paired.mapP hp fun _ _ z => e3 _ _ z
      | true =>
        show te _ H3 _
        refine he i H' ((e.trans e1).trans e2) hi hf H3 e3 _ fun p H4 hp4 e4 hpt => ⟨as.map V.ref, e4 _ _ (e3 _ _ hd), sz_lt (by rw [List.length_map]; omega), ((e2.trans e3).trans e4).mut hD, as ++ [p], by rw [upd_same, List.map_append]; rfl, ?_⟩
        rw [List.range_succ, List.filter_append, List.map_append]
        simp only [List.filter_cons, List.filter_nil, hf, if_true, List.map_cons, List.map_nil]
        have ne : ∀ b k, Pr H' b k → b ≠ D := fun b k z w => by
          have z' : H' b = _ := z
          rw [w, hd] at z'
          cases z'
        refine paired_app (Paired.mapP hp fun b k z => ?_) (.cons ?_ .nil)
        · show upd _ _ _ b = _
          rw [upd_ne (ne b k z)]
          exact e4 _ _ (e3 _ _ z)
        · show upd _ _ _ p = _
          rw [upd_ne (fun w => by rw [w, e3 _ _ hd] at hp4; cases hp4)]
          exact hpt)
    (fun H' ⟨e2, as, hd, hp⟩ => by
      rw [Int.toNat_natCast] at hp
      exact q _ [D] H' (e1.trans e2) (fun r hr => by rw [List.mem_singleton.mp hr]; exact fresh_back e1 hD) ⟨D, as, rfl, rfl, hd, hp⟩)⟩
theorem call_x {sp : Sp} {dvs vs : List V} {E : XK} {tr : TA} {Q : VK} (h : EvA tr σ H vs) (k : ∀ H1, Ex H H1 → sp (vs ++ dvs) H1 Q E) : tCall sp dvs E tr σ H Q := h H (Ex.refl H) _ fun H1 e1 => k H1 e1
theorem call1_x {sp : Sp} {dvs : List V} {E : XK} {Q : VK} (h : te σ H fun v H1 => sp ([v] ++ dvs) H1 Q E) : tCall sp dvs E (tCons te tNil) σ H Q := h
theorem s_ret_x {D : Ends} (h : te σ H D.rt) : tRet te D σ H := h
theorem q_asg_x {D : Ends} {tz : TS} {i : Nat} (h : te σ H fun v H1 => tz D (σ.set i (some v)) H1) : tSeq (tAsg te (gName i)) tz D σ H := h
theorem s_drop_x {D : Ends} (h : te σ H fun _ H1 => D.nx σ H1) : tDrop te D σ H := h
/-- a, b = a pair -/
theorem q_asg2 {i j : Nat} {D : Ends} {tz : TS} {p : Addr} (h : Ev te σ H (.ref p)) (hp : SqT K H p [x, y]) (k : ∀ H1, Ex H H1 → tz D ((σ.set i (some x)).set j (some y)) H1) : tSeq (tAsg te (gTup K 2 (gCons (gName i) (gCons (gName j) gNil)))) tz D σ H :=
  h H (Ex.refl H) _ fun H1 e => ⟨p, [x, y], rfl, ex_t e hp, rfl, _, _, rfl, _, _, rfl, rfl, k H1 e⟩
end
theorem units65 {k : Nat} {A : Around} (r : Room k A) : A.units + 65 < cLine := by
  have := r.un
  omega
/-- what is not come to -/
theorem pss_dead {X : Cx} {sts : List Stmt} : PSs X sts (fun _ _ _ => False) := ⟨fun _ _ _ _ _ _ h => h.elim⟩
theorem pe_callDead {X : Cx} {x : Str} {f : Addr} {p pos : Pos} {e : Expr} {es : List Expr} {t : TA} (hg : Gl X x) (hm : X.mg x = some (.ref f)) (hk : PySem.W.keepIn X.K (.ref f) = true) (ha : PA X (e :: es) t) (hdb : (x == ("__debug__" : Str)) = false := by decide)
    (he : starEach (e :: es) X.env = (false, eval e X.env) :: starEach es X.env := by rfl) (hpl : (backTo pos (starEach es X.env)).any (·.1) = false := by rfl) : PE X (.Call (.Name x p) (e :: es) [] pos) (fun σ H _ => t σ H fun _ _ => False) := by
  refine ⟨fun pins s σ H Q I h => ?_⟩
  refine wpAny_Call_Name_kw (ld_glob I hg hm ?_ hdb)
  exact PySem.W.callWith_K (h₀ := X.base) I.ok.mod.kin hk (thn (ha.run pos pins s σ H _ I h) fun us s1 ⟨vs, H1, I1, r, q⟩ => q.elim) he hpl
mutual
theorem dp_go {K : PySem.W.Frag} {H H' : Hp} (e : Ex H H') : ∀ {v : V} {d : PyData}, Dp K H v d → Dp K H' v d
  | _, _, .non => .non
  | _, _, .bl b => .bl b
  | _, _, .int i => .int i
  | _, _, .str x => .str x
  | _, _, .lst h a => .lst (ex_l e h) (dpAll_go e a)
  | _, _, .tup h a => .tup (ex_t e h) (dpAll_go e a)
theorem dpAll_go {K : PySem.W.Frag} {H H' : Hp} (e : Ex H H') : ∀ {vs : List V} {ds : List PyData}, DpAll K H vs ds → DpAll K H' vs ds
  | _, _, .nil => .nil
  | _, _, .cons h t => .cons (dp_go e h) (dpAll_go e t)
end
def DatV (K : PySem.W.Frag) (G : Hp) (v : V) : Prop := ∃ d, Dp K G v d ∧ d.canLay0 = true ∧ d.depth ≤ 5
theorem DatV.go {K : PySem.W.Frag} {G G' : Hp} {v : V} (h : DatV K G v) (e : Ex G G') : DatV K G' v := by
  obtain ⟨d, h1, h2⟩ := h
  exact ⟨d, dp_go e h1, h2⟩
section
variable {K : PySem.W.Frag} {σ : L2.St} {H H' : Hp} {ta tb td ty tv te tx : TE} {x y z v : V}
theorem dat_ii {G : Hp} {a : Addr} {i j : Int} (h : G a = some (.tup [.int i, .int j])) : DatV K G (.ref a) := ⟨.tuple [.int i, .int j], .tup (st_of h) (.cons (.int _) (.cons (.int _) .nil)), by simp [PyData.canLay0, PyData.canLayAll0], by simp [PyData.depth, PyData.depthAll]⟩
theorem dat_ib {G : Hp} {a : Addr} {i : Int} {b : Bool} (h : G a = some (.tup [.int i, .bl b])) : DatV K G (.ref a) := ⟨.tuple [.int i, .bool b], .tup (st_of h) (.cons (.int _) (.cons (.bl _) .nil)), by simp [PyData.canLay0, PyData.canLayAll0], by simp [PyData.depth, PyData.depthAll]⟩
theorem dat_i {G : Hp} {a : Addr} {i : Int} (h : G a = some (.tup [.int i])) : DatV K G (.ref a) := ⟨.tuple [.int i], .tup (st_of h) (.cons (.int _) .nil), by simp [PyData.canLay0, PyData.canLayAll0], by simp [PyData.depth, PyData.depthAll]⟩
theorem dat_l {G : Hp} {a : Addr} {i j : Int} (h : G a = some (.lst [.int i, .int j])) : DatV K G (.ref a) := ⟨.list [.int i, .int j], .lst (sq_of h) (.cons (.int _) (.cons (.int _) .nil)), by simp [PyData.canLay0, PyData.canLayAll0], by simp [PyData.depth, PyData.depthAll]⟩
theorem dat_non {G : Hp} : DatV K G .non := ⟨.none, .non, by simp [PyData.canLay0], by simp [PyData.depth]⟩
theorem dat_str {G : Hp} (z : Str) (h : PyData.strOk z = true) : DatV K G (.str z) := ⟨.str z, .str z, by simp [PyData.canLay0, h], by simp [PyData.depth]⟩
theorem dat_pr {G : Hp} {a : Addr} {p : Nat × Nat} (h : Pr G a p) : DatV K G (.ref a) := dat_ii h
theorem dat_all {G : Hp} : ∀ {vs : List V}, (∀ v ∈ vs, DatV K G v) → ∃ ds, DpAll K G vs ds ∧ PyData.canLayAll0 ds = true ∧ PyData.depthAll ds ≤ 5
  | [], _ => ⟨[], .nil, by simp [PyData.canLayAll0], by simp [PyData.depthAll]⟩
  | v :: vs, h => by
    obtain ⟨d, h1, h2, h3⟩ := h v List.mem_cons_self
    obtain ⟨ds, g1, g2, g3⟩ := dat_all (vs := vs) fun u hu => h u (List.mem_cons_of_mem _ hu)
    exact ⟨d :: ds, .cons h1 g1, by simp [PyData.canLayAll0, h2, g2], by simp only [PyData.depthAll]; omega⟩
/-- a list of data equals its copy -/
theorem rv_neSame {a b : Addr} {xs : List V} (h1 : H a = some (.lst xs)) (h2 : H b = some (.lst xs)) (h : ∀ v ∈ xs, DatV K H v) : RV (rNeD K) (.ref a) (.ref b) H (.bl false) := by
  obtain ⟨ds, g1, g2, g3⟩ := dat_all h
  have lay : PyData.canLay0 (.list ds) = true := by
    simp only [PyData.canLay0]
    exact g2
  have dp : PyData.depth (.list ds) ≤ 64 := by
    simp only [PyData.depth]
    omega
  have sh : SeqAt.shaped (.list ds) = true := by
    show (PyData.canLay0 (.list ds) && decide (PyData.depth (.list ds) ≤ 64)) = true
    rw [Bool.and_eq_true]
    exact ⟨lay, decide_eq_true dp⟩
  exact rv_neD (b := true) (fun H1 e => ⟨.lst (sq_of (e _ _ h1)) (dpAll_go e g1), .lst (sq_of (e _ _ h2)) (dpAll_go e g1)⟩) sh sh (PySem.SeqAt.eqv_refl _ lay)
theorem ev_opU1 {r : R2} {xs : List V} (ha : EvU ta σ H xs) (hb : ∀ H1, Ex H H1 → Ev tb σ H1 y) (hr : ∀ p H1, H1 p = some (.tup xs) → Ex H H1 → RV r (.ref p) y H1 z) : Ev (tOp r ta tb) σ H z := fun H1 e Q q =>
  ha H1 e _ fun p H2 hp e2 h2 => hb H2 (e.trans e2) H2 (Ex.refl H2) _ fun H3 e3 => hr p H3 (e3 _ _ h2) ((e.trans e2).trans e3) H3 (Ex.refl H3) Q fun H4 e4 => q H4 ((e2.trans e3).trans e4)
theorem rv_notInP {p l : Addr} {q : Nat × Nat} {ps : List (Nat × Nat)} (h1 : Pr H p q) (h2 : Prs H l ps) : RV (rNotInD K) (.ref p) (.ref l) H (.bl (!decide (q ∈ ps))) := fun H1 e Q k => by
  have h1' : Pr H1 p q := e _ _ h1
  refine ⟨pD q, ps.map pD, dp_pr h1', dp_prs (h2.go e), ?_, psD_shaped ps, ?_⟩
  · have := pD_depth q
    show ((pD q).canLay0 && decide ((pD q).depth ≤ 64)) = true
    rw [Bool.and_eq_true]
    exact ⟨pD_lay q, decide_eq_true (by omega)⟩
  · have : ((ps.map pD).any fun z => PyData.eqv z (pD q)) = decide (q ∈ ps) := by
      rw [List.any_map, Bool.eq_iff_iff, List.any_eq_true, decide_eq_true_iff]
      constructor
      · rintro ⟨y, hy, e⟩
        have e : PyData.eqv (pD y) (pD q) = true := e
        rw [pD_eqv] at e
        rw [← of_decide_eq_true e]
        exact hy
      · intro h
        exact ⟨q, h, by show PyData.eqv (pD q) (pD q) = true; rw [pD_eqv]; simp⟩
    rw [this]
    exact k H1 (Ex.refl H1)
theorem rv_inP {p l : Addr} {q : Nat × Nat} {ps : List (Nat × Nat)} (h1 : Pr H p q) (h2 : Prs H l ps) : RV (rInD K) (.ref p) (.ref l) H (.bl (decide (q ∈ ps))) := fun H1 e Q k => by
  have h1' : Pr H1 p q := e _ _ h1
  refine ⟨pD q, ps.map pD, dp_pr h1', dp_prs (h2.go e), ?_, psD_shaped ps, ?_⟩
  · have := pD_depth q
    show ((pD q).canLay0 && decide ((pD q).depth ≤ 64)) = true
    rw [Bool.and_eq_true]
    exact ⟨pD_lay q, decide_eq_true (by omega)⟩
  · have : ((ps.map pD).any fun z => PyData.eqv z (pD q)) = decide (q ∈ ps) := by
      rw [List.any_map, Bool.eq_iff_iff, List.any_eq_true, decide_eq_true_iff]
      constructor
      · rintro ⟨y, hy, e⟩
        have e : PyData.eqv (pD y) (pD q) = true := e
        rw [pD_eqv] at e
        rw [← of_decide_eq_true e]
        exact hy
      · intro h
        exact ⟨q, h, by show PyData.eqv (pD q) (pD q) = true; rw [pD_eqv]; simp⟩
    rw [this]
    exact k H1 (Ex.refl H1)
theorem s_retP {P : HV} {D : Ends} (h : EvP te σ H P) (k : ∀ v H1, Ex H H1 → P H1 v → D.rt v H1) : tRet te D σ H := h H (Ex.refl H) _ k
/-- xs[0] or xs[-1] -/
theorem ep_ends {xs : List V} {i : Int} (h : EvL te σ H xs) (hi : Ev tb σ H (.int i)) (h01 : i = 0 ∨ i = -1) (ne : xs ≠ []) : EvP (tOp (rIxL K) te tb) σ H (fun _ v => v ∈ xs) := fun H1 e Q q => h H1 e _ fun p H2 hp e2 h2 => hi H2 (e.trans e2) _ fun H3 e3 => by
  have key : ∃ v, atI xs i = some v ∧ v ∈ xs := by
    rcases h01 with rfl | rfl
    · cases xs with
      | nil => exact absurd rfl ne
      | cons x xs => exact ⟨x, atI_nat (j := 0) rfl, List.mem_cons_self⟩
    · have e := List.dropLast_concat_getLast ne
      refine ⟨xs.getLast ne, ?_, List.getLast_mem ne⟩
      have := atI_last (xs := xs.dropLast) (v := xs.getLast ne)
      rw [e] at this
      exact this
  obtain ⟨v, h1, h3⟩ := key
  exact ⟨p, xs, i, v, rfl, rfl, sq_of (e3 _ _ h2), h1, q v H3 (e2.trans e3) h3⟩
theorem paired_zip {α β : Type} {F : α → β → Prop} : ∀ {as : List α} {bs : List β}, Paired F as bs → (∀ z ∈ as.zip bs, F z.1 z.2) ∧ (as.zip bs).map Prod.fst = as ∧ (as.zip bs).map Prod.snd = bs
  | _, _, .nil => ⟨fun z h => (by cases h), rfl, rfl⟩
  | _, _, .cons r t => by
    obtain ⟨h1, h2, h3⟩ := paired_zip t
    refine ⟨fun z hz => ?_, ?_, ?_⟩
    · rw [List.zip_cons_cons] at hz
      rcases List.mem_cons.mp hz with c | c
      · rw [c]; exact r
      · exact h1 z c
    · rw [List.zip_cons_cons, List.map_cons, h2]
    · rw [List.zip_cons_cons, List.map_cons, h3]
end
section
variable {K : PySem.W.Frag} {σ : L2.St} {H H' : Hp} {ta tb td ty tv te tx : TE} {x y z v : V}
theorem cut_drop1 (xs : List V) : cutV xs (some ((1 : Nat) : Int)) none = xs.drop 1 := by
  cases xs with
  | nil => rfl
  | cons x xs => exact cut_drop (by simp)
theorem et_yes : EvT tYes σ H true := fun H1 _ Q q => q H1 (Ex.refl H1)
theorem el_pairsY {l : Addr} {ps : List (Nat × Nat)} {tl : TE} {i j : Nat} {vs : List Nat} (v : Nat × Nat → V) (h : Ev tl σ H (.ref l)) (hl : Prs H l ps) (hz : ps.length ≤ 40000) (hw : ∀ x y, wipe (((wipe σ vs).set i (some x)).set j (some y)) vs = wipe σ vs)
    (he : ∀ p H1, Ex H H1 → p ∈ ps → Ev te (((wipe σ vs).set i (some (vn p.1))).set j (some (vn p.2))) H1 (v p)) : EvL (tLc (iList K tl) (gTup K 2 (gCons (gName i) (gCons (gName j) gNil))) tYes te vs) σ H (ps.map v) := by
  have := el_pairs (K := K) (fun _ => true) v h hl hz hw (fun _ _ _ _ => et_yes) (fun p H1 e hp _ => he p H1 e hp)
  rwa [List.filter_eq_self.mpr (by simp)] at this
theorem Prs.snoc {H : Hp} {l t : Addr} {ps : List (Nat × Nat)} {p : Nat × Nat} {as : List Addr} (hl : H l = some (.lst (as.map V.ref))) (hp : Paired (Pr H) as ps) (ht : Pr H t p) : Prs (upd H l (.lst (as.map V.ref ++ [.ref t]))) l (ps ++ [p]) := by
  have ne : ∀ b q, Pr H b q → b ≠ l := fun b q z w => by
    have z : H b = _ := z
    rw [w, hl] at z
    cases z
  have go : ∀ b q, Pr H b q → Pr (upd H l (.lst (as.map V.ref ++ [.ref t]))) b q := fun b q z => by
    show upd _ _ _ b = _
    rw [upd_ne (ne b q z)]
    exact z
  exact ⟨as ++ [t], by rw [upd_same, List.map_append]; rfl, paired_app (Paired.mapP hp go) (.cons (go t p ht) .nil)⟩
/-- found.append((i, j)) -/
theorem q_appP {D : Ends} {tz : TS} {l : Addr} {ps : List (Nat × Nat)} {i j : Nat} (hl : Prs H l ps) (few : ps.length ≤ 90000) (ha : Ev ta σ H (.ref l)) (h : EvU te σ H [vn i, vn j]) (k : ∀ H1 o, Ex H H1 → Prs (upd H1 l o) l (ps ++ [(i, j)]) → tz D σ (upd H1 l o)) : tSeq (tDrop (tBM K "list" rAppend ta (tCons te tNil))) tz D σ H := by
  obtain ⟨as, h1, h2⟩ := hl
  exact q_appU h1 ha h (by rw [List.length_map, paired_len h2]; omega) fun t H1 ht e1 ht1 => k H1 _ e1 (Prs.snoc (e1 _ _ h1) (Paired.mapP h2 fun _ _ z => e1 _ _ z) ht1)
/-- f(..).append((i, j)), what f(..) tells is new -/
theorem q_dropO {D : Ends} {tz : TS} {ps : List (Nat × Nat)} {i j : Nat} (ho : EvN ta σ H (fun v fs G => ∃ p, v = .ref p ∧ fs = [p] ∧ Prs G p ps)) (few : ps.length ≤ 90000) (h : ∀ H1, Ex H H1 → EvU te σ H1 [vn i, vn j]) (k : ∀ H', Ex H H' → tz D σ H') : tSeq (tDrop (tBM K "list" rAppend ta (tCons te tNil))) tz D σ H :=
  ho H (Ex.refl H) _ fun v fs H1 e1 fr r => by
    obtain ⟨p, rfl, rfl, as, h1, h2⟩ := r
    exact ⟨.inl ⟨rfl, _, sq_of h1⟩, h H1 e1 H1 (Ex.refl H1) _ fun t H2 ht e2 ht2 => ⟨p, as.map V.ref, .ref t, rfl, rfl, e2 _ _ h1, sz_lt (by rw [List.length_map, paired_len h2]; omega), k _ ((e1.trans e2).mut (fr p List.mem_cons_self))⟩⟩
theorem alone_due {W : Web} {qs : List (Nat × Nat)} : aloneOf W.size (mateL W.size qs) = (List.range W.size).filter fun i => !decide (i ∈ qs.map (fun p => p.1) ++ qs.map (fun p => p.2)) := by
  unfold aloneOf
  refine List.filter_congr fun i hi => ?_
  have hi := List.mem_range.mp hi
  rw [List.getD_eq_getElem?_getD, mateL_get qs hi]
  show decide (mateOf qs i = none) = _
  have : (mateOf qs i = none) ↔ i ∉ qs.map (fun p => p.1) ++ qs.map (fun p => p.2) := by
    rw [mateOf_none, List.mem_append, List.mem_map, List.mem_map]
    constructor
    · rintro h (⟨p, hp, e⟩ | ⟨p, hp, e⟩)
      · exact (h p hp).1 e
      · exact (h p hp).2 e
    · intro h p hp
      exact ⟨fun e => h (.inl ⟨p, hp, e⟩), fun e => h (.inr ⟨p, hp, e⟩)⟩
  by_cases c : mateOf qs i = none
  · simp only [c, this.mp c, decide_true, decide_false, Bool.not_false]
  · have := mt this.mpr c
    simp only [c, decide_false, Classical.not_not.mp this, decide_true, Bool.not_true]
end
end OP

/-! len(set(places)), the places with doubles or without; ways. -/
namespace OP
open PySem PySem.Spec PyProof.Rows L2 Evl
open L2H (RoomH PinOk cxH inv_startH roomH_of)
theorem firstMet_len (ns : List Int) : ∀ i, i ≤ ns.length → (firstMet (fun i => ns.getD i 0) i).length ≤ i ∧ ((firstMet (fun i => ns.getD i 0) i).length = i ↔ (ns.take i).Nodup)
  | 0, _ => by simp [firstMet_zero]
  | i + 1, h => by
    obtain ⟨ih1, ih2⟩ := firstMet_len ns i (by omega)
    have hi : ns[i]? = some ns[i] := List.getElem?_eq_getElem (by omega)
    have hv : ns.getD i 0 = ns[i] := by rw [List.getD_eq_getElem?_getD, hi]; rfl
    have tk : ns.take (i + 1) = ns.take i ++ [ns[i]] := take_snoc hi
    have anyE := firstMet_any (fun i => ns.getD i 0) i (ns.getD i 0)
    have mapE : (List.range i).map (fun i => ns.getD i 0) = ns.take i := by
      apply List.ext_getElem
      · simp; omega
      · intro j h1 h2
        simp at h1
        simp [List.getD_eq_getElem?_getD, show j < ns.length by omega]
    rw [mapE] at anyE
    rw [firstMet_succ]
    unfold step_dedup
    rw [tk, List.nodup_append]
    by_cases c : ((firstMet (fun i => ns.getD i 0) i).any (· == ns.getD i 0)) = true
    · rw [if_pos c]
      refine ⟨by omega, fun z => by omega, fun z => ?_⟩
      rw [anyE, hv, List.any_eq_true] at c
      obtain ⟨y, hy, e⟩ := c
      exact absurd (eq_of_beq e) (z.2.2 y hy _ List.mem_cons_self)
    · rw [if_neg c, List.length_append, List.length_singleton]
      refine ⟨by omega, fun z => ⟨ih2.mp (by omega), by simp, fun a ha b hb e => c ?_⟩, fun z => by rw [ih2.mpr z.1]⟩
      rw [anyE, hv, List.any_eq_true]
      rw [List.mem_singleton.mp hb] at e
      exact ⟨a, ha, by rw [e]; exact beq_self_eq_true _⟩
def tLenSetD (K : PySem.W.Frag) (ta : TE) : TE := fun σ H Q => ta σ H fun x H1 => ∃ (l : Addr) (ns : List Int), x = V.ref l ∧ SqL K H1 l (ns.map V.int) ∧ ns.length < 4000 ∧ ∀ m : Nat, m ≤ ns.length → (m = ns.length ↔ ns.Nodup) → Q (.int m) H1
theorem pe_lenSetD {X : Cx} {a : Expr} {ta : TE} {p p2 q pos : Pos} (hc : X.calm = true) (hg : Gl X "len") (hm : X.mg "len" = none) (hg2 : Gl X "set") (hm2 : X.mg "set" = none) (ha : PE X a ta)
    (na : starEach [a] X.env = (false, eval a X.env) :: starEach [] X.env := by rfl) : PE X (.Call (.Name "len" p) [.Call (.Name "set" p2) [a] [] q] [] pos) (tLenSetD X.K ta) := by
  refine ⟨fun pins s σ H Q I h => ?_⟩
  refine Call_ (ld_blt I hg hm PySem.boot_len ?_)
  refine PyProof.Rows.callWith_builtin1 (PyProof.Rows.args_cons ?_ rfl) rfl rfl
  refine Call_ (ld_blt I hg2 hm2 PyProof.Rows.boot_set ?_)
  refine PyProof.Rows.callWith_type1 (PyProof.Rows.args_cons (thn (ha.run pins s σ H _ I h) fun v s1 ⟨x, H1, I1, r1, q1⟩ => PyProof.Rows.args_nil ?_) na) na rfl
  obtain ⟨l, ns, rfl, hq, h1, q1⟩ := q1
  cases r1
  obtain ⟨its, r, pl, hz⟩ := I1.list hq
  have hl : its.toArray.size = ns.length := by rw [List.size_toArray, ← r.length, List.length_map]
  refine call_set_list (I1.ok.hd hc) pl.isList (ns := ns) (by simpa using r.ints) (by unfold scanBound; omega) fun h' tk hS hk => ?_
  rw [hl] at hS
  obtain ⟨m1, m2⟩ := firstMet_len ns ns.length (Nat.le_refl _)
  rw [List.take_length] at m2
  refine PyProof.Rows.args_nil ?_
  obtain ⟨o, es, ep, t, ho, hex, hd, _, _, _, hf, hn⟩ := hS
  have I2 : Inv X pins σ H1 { s1 with heap := h', toks := tk } := I1.kept fun b o e => hk b o (Heap.lt_size e) e
  exact call_len_set ho hex hd hf (by rw [hn] <;> omega) ⟨.int (firstMet (fun i => ns.getD i 0) ns.length).length, H1, I2.tok _, ⟨_, by rw [hn]⟩, q1 _ m1 m2⟩
section
variable {K : PySem.W.Frag} {σ : L2.St} {H H' : Hp} {ta tb te tx : TE} {x y z v : V}
/-- len(set(way)) < len(way) -/
theorem et_dupI {l : Addr} {ns : List Nat} (h : Ev te σ H (.ref l)) (hl : Ints H l ns) (few : ns.length < 4000) (hb : Ev tb σ H (.int ns.length)) :
    EvT (tTest (tOp (rI0 fun i j => .bl (decide (i < j))) (tLenSetD K te) tb)) σ H (!decide ns.Nodup) := fun H1 e1 Q q => h H1 e1 _ fun H2 e2 => by
  refine ⟨l, ns.map fun n : Nat => (n : Int), rfl, sq_of (by rw [List.map_map]; exact e2 _ _ (e1 _ _ hl)), by rw [List.length_map]; exact few, fun m hm hiff => ?_⟩
  rw [List.length_map] at hm hiff
  have nn : (ns.map fun n : Nat => (n : Int)).Nodup ↔ ns.Nodup := by
    unfold List.Nodup
    rw [List.pairwise_map]
    exact ⟨fun h => h.imp fun z e => z (by rw [e]), fun h => h.imp fun z e => z (by omega)⟩
  rw [nn] at hiff
  refine hb H2 (e1.trans e2) _ fun H3 e3 => ⟨_, _, rfl, rfl, _, rfl, ?_⟩
  have : decide ((m : Int) < (ns.length : Nat)) = !decide ns.Nodup := by
    by_cases c : ns.Nodup
    · have := hiff.mpr c
      simp [c]
      omega
    · have : m ≠ ns.length := fun z => c (hiff.mp z)
      simp [c]
      omega
  rw [this]
  exact q H3 (e2.trans e3)
end
end OP
namespace OP
open PySem PySem.Spec PyProof.Rows L2 Evl
section
variable {K : PySem.W.Frag} {σ : L2.St} {H H' : Hp} {ta tb te tx : TE} {x y z v : V}
theorem rgC_two {k : Nat} (hk : k ≤ 10000) : RgC 0 ((2 * k : Nat) : Int) 2 k := by
  refine ⟨by decide, by decide, ?_, ?_⟩
  · have fit : ∀ i : Int, -100000 ≤ i → i ≤ 100000 → Builtin.Range.rangeFitsLong i = true := fun i h1 h2 => by
      unfold Builtin.Range.rangeFitsLong
      rw [Bool.and_eq_true]
      exact ⟨decide_eq_true (Int.le_trans (by decide) h1), decide_eq_true (Int.lt_of_le_of_lt h2 (by decide))⟩
    have sz : Builtin.Range.rangeSize 0 ((2 * k : Nat) : Int) 2 = (k : Int) := by
      rw [PyProof.Rows.rangeSize_pos (by decide) (by omega)]
      omega
    unfold Builtin.Range.small
    rw [sz, fit 0 (by decide) (by decide), fit _ (by omega) (by omega), fit 2 (by decide) (by decide), fit (k : Int) (by omega) (by omega), if_pos (by decide), fit _ (by omega) (by omega)]
    simp
  · rw [PyProof.Rows.rangeSize_pos (by decide) (by omega)]
    omega
/-- for i in range(0, 2 k, 2) -/
theorem q_forR3 {D : Ends} {tu tz : TS} {tr : TA} {j k : Nat} (h : EvA tr σ H [.int 0, .int ((2 * k : Nat) : Int), .int 2]) (hk : k ≤ 10000) (Pv : Nat → L2.St → Hp → Prop) (h0 : ∀ H1, Ex H H1 → Pv 0 σ H1)
    (hs : ∀ (i : Nat) σ' H', i < k → Pv i σ' H' → tu { D with nx := Pv (i + 1), ct := Pv (i + 1), bk := tz D } (σ'.set j (some (vn (2 * i)))) H') (hd : ∀ σ' H', Pv k σ' H' → tz D σ' H') : tSeq (tFor (iRng3 tr) (gName j) tu) tz D σ H :=
  h H (Ex.refl H) _ fun H1 e => ⟨0, ((2 * k : Nat) : Int), 2, k, rfl, rgC_two hk, for_it (D := { D with nx := tz D }) walk_rangeC Pv (h0 H1 e) (fun _ _ _ _ _ => trivial) (fun i x σ' G G' hi p y => by
    obtain ⟨rfl, rfl⟩ := y
    have : V.int (0 + (i : Nat) * 2) = vn (2 * i) := by
      show V.int _ = V.int _
      congr 1
      omega
    show tu { D with nx := Pv (i + 1), ct := Pv (i + 1), bk := tz D } (σ'.set j (some (V.int (0 + (i : Nat) * 2)))) _
    rw [this]
    exact hs i σ' _ hi p) hd⟩
end
end OP

/-! A way turned, plainly. -/
namespace OP
open PySem PySem.Spec PyProof.Rows L2 Evl
def turnK (ms : List (Option Nat)) (ns : List Nat) : Nat → List (Option Nat)
  | 0 => ms
  | k + 1 => ((turnK ms ns k).set (ns.getD (2 * k) 0) (some (ns.getD (2 * k + 1) 0))).set (ns.getD (2 * k + 1) 0) (some (ns.getD (2 * k) 0))
theorem turnK_len (ms : List (Option Nat)) (ns : List Nat) : ∀ k, (turnK ms ns k).length = ms.length
  | 0 => rfl
  | k + 1 => by rw [turnK, List.length_set, List.length_set, turnK_len ms ns k]
def turnL (ms : List (Option Nat)) (ns : List Nat) : List (Option Nat) := turnK ms ns (ns.length / 2)
theorem turnL_len (ms : List (Option Nat)) (ns : List Nat) : (turnL ms ns).length = ms.length := turnK_len _ _ _
theorem set_get_ne {α : Type} {l : List α} {i j : Nat} {x : α} (h : i ≠ j) : (l.set i x)[j]? = l[j]? := by
  rw [List.getElem?_set]
  simp [h]
theorem set_get_eq {α : Type} {l : List α} {i : Nat} {x : α} (h : i < l.length) : (l.set i x)[i]? = some x := by
  rw [List.getElem?_set]
  simp [h]
theorem nd_ix'' {l : List Nat} {i j : Nat} {x : Nat} (h : l.Nodup) (hi : l[i]? = some x) (hj : l[j]? = some x) : i = j := by
  obtain ⟨h1, e1⟩ := List.getElem?_eq_some_iff.mp hi
  obtain ⟨h2, e2⟩ := List.getElem?_eq_some_iff.mp hj
  exact (List.getElem_inj h).mp (e1.trans e2.symm)
/-- behind k turns -/
theorem turnK_get {ms : List (Option Nat)} {ns : List Nat} (nd : ns.Nodup) (lt : ∀ x ∈ ns, x < ms.length) : ∀ k, 2 * k ≤ ns.length →
    (∀ j x y, j < k → ns[2 * j]? = some x → ns[2 * j + 1]? = some y → (turnK ms ns k)[x]? = some (some y) ∧ (turnK ms ns k)[y]? = some (some x)) ∧ (∀ x, (∀ i, i < 2 * k → ns[i]? ≠ some x) → (turnK ms ns k)[x]? = ms[x]?)
  | 0, _ => ⟨fun j x y hj => absurd hj (Nat.not_lt_zero _), fun x _ => rfl⟩
  | k + 1, h => by
    obtain ⟨ih1, ih2⟩ := turnK_get nd lt k (by omega)
    have a0 : ns[2 * k]? = some (ns.getD (2 * k) 0) := getD_get 0 (by omega)
    have a1 : ns[2 * k + 1]? = some (ns.getD (2 * k + 1) 0) := getD_get 0 (by omega)
    obtain ⟨u, hu⟩ : ∃ u, u = ns.getD (2 * k) 0 := ⟨_, rfl⟩
    obtain ⟨w, hw⟩ : ∃ w, w = ns.getD (2 * k + 1) 0 := ⟨_, rfl⟩
    rw [turnK, ← hu, ← hw]
    rw [← hu] at a0
    rw [← hw] at a1
    have uw : u ≠ w := fun z => by
      rw [z] at a0
      have := nd_ix'' nd a0 a1
      omega
    have lu : u < (turnK ms ns k).length := by rw [turnK_len]; exact lt u (List.mem_of_getElem? a0)
    have lw : w < ((turnK ms ns k).set u (some w)).length := by rw [List.length_set, turnK_len]; exact lt w (List.mem_of_getElem? a1)
    constructor
    · intro j x y hj hx hy
      by_cases e : j = k
      · subst e
        have : x = u := Option.some.inj (hx.symm.trans a0)
        subst this
        have : y = w := Option.some.inj (hy.symm.trans a1)
        subst this
        exact ⟨by rw [set_get_ne (Ne.symm uw), set_get_eq lu], set_get_eq lw⟩
      · obtain ⟨g1, g2⟩ := ih1 j x y (by omega) hx hy
        have n1 : u ≠ x := fun z => by rw [z] at a0; have := nd_ix'' nd a0 hx; omega
        have n2 : u ≠ y := fun z => by rw [z] at a0; have := nd_ix'' nd a0 hy; omega
        have n3 : w ≠ x := fun z => by rw [z] at a1; have := nd_ix'' nd a1 hx; omega
        have n4 : w ≠ y := fun z => by rw [z] at a1; have := nd_ix'' nd a1 hy; omega
        exact ⟨by rw [set_get_ne n3, set_get_ne n1, g1], by rw [set_get_ne n4, set_get_ne n2, g2]⟩
    · intro x hx
      have n1 : u ≠ x := fun z => hx (2 * k) (by omega) (by rw [a0, z])
      have n2 : w ≠ x := fun z => hx (2 * k + 1) (by omega) (by rw [a1, z])
      rw [set_get_ne n2, set_get_ne n1]
      exact ih2 x fun i hi => hx i (by omega)
theorem turnL_get {ms : List (Option Nat)} {ns : List Nat} (nd : ns.Nodup) (ev : ns.length % 2 = 0) (lt : ∀ x ∈ ns, x < ms.length) :
    (∀ j x y, ns[2 * j]? = some x → ns[2 * j + 1]? = some y → (turnL ms ns)[x]? = some (some y) ∧ (turnL ms ns)[y]? = some (some x)) ∧ (∀ x, x ∉ ns → (turnL ms ns)[x]? = ms[x]?) := by
  obtain ⟨h1, h2⟩ := turnK_get (ms := ms) nd lt (ns.length / 2) (by omega)
  refine ⟨fun j x y hx hy => h1 j x y ?_ hx hy, fun x hx => h2 x fun i _ e => hx (List.mem_of_getElem? e)⟩
  have := (List.getElem?_eq_some_iff.mp hy).1
  omega
section
variable {K : PySem.W.Frag} {σ : L2.St} {H H' : Hp} {te : TE}
/-- xs[::-1] -/
theorem el_rev {a : Addr} {xs : List V} (h : Ev te σ H (.ref a)) (ha : H a = some (.lst xs)) : EvL (tRevL K te) σ H xs.reverse := fun H1 e Q q => h H1 e _ fun H2 e2 =>
  ⟨a, xs, rfl, sq_of (e2 _ _ (e _ _ ha)), fun p hp => q p _ (fresh_back e2 hp) (e2.trans (Ex.new hp)) upd_same⟩
end
def tieOf (x y : Nat) : Nat × Nat := if x < y then (x, y) else (y, x)
theorem tieOf_comm (x y : Nat) : tieOf x y = tieOf y x := by
  unfold tieOf
  by_cases h : x < y
  · rw [if_pos h, if_neg (by omega)]
  · by_cases h2 : y < x
    · rw [if_neg h, if_pos h2]
    · have : x = y := by omega
      subst this
      rfl
theorem tieOf_cases (x y : Nat) : (tieOf x y = (x, y) ∧ x < y) ∨ (tieOf x y = (y, x) ∧ y ≤ x) := by
  unfold tieOf
  by_cases h : x < y
  · exact .inl ⟨if_pos h, h⟩
  · exact .inr ⟨if_neg h, by omega⟩
theorem tieOf_ok {n x y : Nat} (hx : x < n) (hy : y < n) (ne : x ≠ y) : (tieOf x y).1 < (tieOf x y).2 ∧ (tieOf x y).2 < n := by
  rcases tieOf_cases x y with ⟨e, h⟩ | ⟨e, h⟩ <;> rw [e] <;> dsimp only <;> omega
theorem apart_tie {a b c d : Nat} (h1 : a ≠ c) (h2 : a ≠ d) (h3 : b ≠ c) (h4 : b ≠ d) : Apart (tieOf a b) (tieOf c d) := by
  rcases tieOf_cases a b with ⟨e, _⟩ | ⟨e, _⟩ <;> rcases tieOf_cases c d with ⟨f, _⟩ | ⟨f, _⟩ <;> rw [e, f] <;> exact ⟨by assumption, by assumption, by assumption, by assumption⟩
theorem tieOf_inj {a b c d : Nat} (h : tieOf a b = tieOf c d) : (a = c ∧ b = d) ∨ (a = d ∧ b = c) := by
  rcases tieOf_cases a b with ⟨e, _⟩ | ⟨e, _⟩ <;> rcases tieOf_cases c d with ⟨f, _⟩ | ⟨f, _⟩ <;> rw [e, f] at h <;> injection h with h1 h2 <;> omega
/-- tied, told by the tie of the two -/
theorem near_tie {n : Nat} {ts : List (Nat × Nat)} (ok : TiesOk n ts) {x y : Nat} (hx : x < n) : y ∈ nbOf (webOf n ts) x ↔ x ≠ y ∧ tieOf x y ∈ ts := by
  rw [nbOf, near_web ts hx, mem_nearOf]
  constructor
  · rintro ⟨_, h | h⟩
    · have := (ok _ h).1
      dsimp only at this
      refine ⟨by omega, ?_⟩
      rw [tieOf, if_pos this]
      exact h
    · have := (ok _ h).1
      dsimp only at this
      refine ⟨by omega, ?_⟩
      rw [tieOf, if_neg (by omega)]
      exact h
  · rintro ⟨ne, h⟩
    have t := ok _ h
    rcases tieOf_cases x y with ⟨e, _⟩ | ⟨e, _⟩
    · rw [e] at h t
      exact ⟨t.2, .inl h⟩
    · rw [e] at h t
      dsimp only at t
      exact ⟨by omega, .inr h⟩
theorem mate_tie {W : Web} {ps : List (Nat × Nat)} (ok : PairsOk W ps) {x y : Nat} (ne : x ≠ y) (h : tieOf x y ∈ ps) : mateOf ps x = some y ∧ mateOf ps y = some x := by
  rcases tieOf_cases x y with ⟨e, _⟩ | ⟨e, _⟩
  · rw [e] at h
    exact ⟨(mateOf_some ok).mpr (.inl h), (mateOf_some ok).mpr (.inr h)⟩
  · rw [e] at h
    exact ⟨(mateOf_some ok).mpr (.inr h), (mateOf_some ok).mpr (.inl h)⟩
theorem mate_iff {W : Web} {ps : List (Nat × Nat)} (ok : PairsOk W ps) {x y : Nat} : mateOf ps x = some y ↔ x ≠ y ∧ tieOf x y ∈ ps := by
  constructor
  · intro h
    rcases (mateOf_some ok).mp h with h | h
    · have := (ok.tie _ h).1
      dsimp only at this
      exact ⟨by omega, by rw [tieOf, if_pos this]; exact h⟩
    · have := (ok.tie _ h).1
      dsimp only at this
      exact ⟨by omega, by rw [tieOf, if_neg (by omega)]; exact h⟩
  · exact fun h => (mate_tie ok h.1 h.2).1
theorem mateL_ext {n : Nat} {ms : List (Option Nat)} {ps : List (Nat × Nat)} (l : ms.length = n) (h : ∀ x, x < n → ms[x]? = some (mateOf ps x)) : ms = mateL n ps := by
  apply List.ext_getElem?
  intro i
  by_cases c : i < n
  · rw [h i c, mateL_get ps c]
  · rw [List.getElem?_eq_none (by omega), List.getElem?_eq_none (by rw [mateL_len]; omega)]
/-! ### a way and the pairs along it -/
/-- the pairs that are taken up when a way is turned -/
def outPairs (ns : List Nat) : List (Nat × Nat) := (List.range (ns.length / 2)).map fun j => tieOf (ns.getD (2 * j) 0) (ns.getD (2 * j + 1) 0)
def midPairs (ns : List Nat) : List (Nat × Nat) := (List.range (ns.length / 2 - 1)).map fun j => tieOf (ns.getD (2 * j + 1) 0) (ns.getD (2 * j + 2) 0)
theorem nd_getD {ns : List Nat} (nd : ns.Nodup) {i j : Nat} (hi : i < ns.length) (hj : j < ns.length) (ne : i ≠ j) : ns.getD i 0 ≠ ns.getD j 0 := fun e => by
  have h1 : ns[i]? = some (ns.getD i 0) := getD_get 0 hi
  have h2 : ns[j]? = some (ns.getD j 0) := getD_get 0 hj
  rw [e] at h1
  exact ne (nd_ix'' nd h1 h2)
theorem out_apart {ns : List Nat} (nd : ns.Nodup) : (outPairs ns).Pairwise Apart := by
  unfold outPairs
  rw [List.pairwise_map]
  refine List.Pairwise.imp_of_mem (fun {i j} hi hj h => ?_) (List.pairwise_lt_range (n := ns.length / 2))
  have hi := List.mem_range.mp hi
  have hj := List.mem_range.mp hj
  exact apart_tie (nd_getD nd (by omega) (by omega) (by omega)) (nd_getD nd (by omega) (by omega) (by omega)) (nd_getD nd (by omega) (by omega) (by omega)) (nd_getD nd (by omega) (by omega) (by omega))
theorem mid_apart {ns : List Nat} (nd : ns.Nodup) : (midPairs ns).Pairwise Apart := by
  unfold midPairs
  rw [List.pairwise_map]
  refine List.Pairwise.imp_of_mem (fun {i j} hi hj h => ?_) (List.pairwise_lt_range (n := ns.length / 2 - 1))
  have hi := List.mem_range.mp hi
  have hj := List.mem_range.mp hj
  exact apart_tie (nd_getD nd (by omega) (by omega) (by omega)) (nd_getD nd (by omega) (by omega) (by omega)) (nd_getD nd (by omega) (by omega) (by omega)) (nd_getD nd (by omega) (by omega) (by omega))
end OP

/-! A net along a way. -/
namespace OP
open PySem PySem.Spec PyProof.Rows L2 Evl
structure IsWay (W : Web) (ms : List (Option Nat)) (ns : List Nat) : Prop where
  two : 2 ≤ ns.length
  even : ns.length % 2 = 0
  lt : ∀ x ∈ ns, x < W.size
  nd : ns.Nodup
  first : ∀ x, ns[0]? = some x → ms[x]? = some none
  last : ∀ x, ns[ns.length - 1]? = some x → ms[x]? = some none
  step : ∀ i x y, ns[i]? = some x → ns[i + 1]? = some y → y ∈ nbOf W x ∧ (ms[x]? = some (some y) ↔ i % 2 = 1)
structure Lay (n : Nat) (ts : List (Nat × Nat)) (ns : List Nat) (X : List (Nat × Nat)) : Prop where
  tok : TiesOk n ts
  nd : ns.Nodup
  ev : ns.length % 2 = 0
  two : 2 ≤ ns.length
  lt : ∀ x ∈ ns, x < n
  xin : ∀ p ∈ X, p ∈ ts
  xap : X.Pairwise Apart
  xout : ∀ p ∈ X, p.1 ∉ ns ∧ p.2 ∉ ns
  mid : ∀ p ∈ midPairs ns, p ∈ ts
  out : ∀ p ∈ outPairs ns, p ∈ ts
theorem pairsOk_of {n : Nat} {ts ps : List (Nat × Nat)} (tok : TiesOk n ts) (h : ∀ p ∈ ps, p ∈ ts) (ap : ps.Pairwise Apart) : PairsOk (webOf n ts) ps :=
  ⟨fun p hp => by
    obtain ⟨h1, h2⟩ := tok p (h p hp)
    refine ⟨h1, h2, ?_⟩
    rw [nbOf, near_web ts (show p.1 < n by omega)]
    exact mem_nearOf.mpr ⟨h2, .inl (h p hp)⟩, ap⟩
theorem mem_getD {ns : List Nat} {i : Nat} (h : i < ns.length) : ns.getD i 0 ∈ ns := List.mem_of_getElem? (getD_get 0 h)
theorem in_mid {ns : List Nat} {p : Nat × Nat} (h : p ∈ midPairs ns) : ∃ j, 2 * j + 2 < ns.length ∧ p = tieOf (ns.getD (2 * j + 1) 0) (ns.getD (2 * j + 2) 0) := by
  obtain ⟨j, hj, rfl⟩ := List.mem_map.mp h
  have := List.mem_range.mp hj
  exact ⟨j, by omega, rfl⟩
theorem in_out {ns : List Nat} {p : Nat × Nat} (h : p ∈ outPairs ns) : ∃ j, 2 * j + 1 < ns.length ∧ p = tieOf (ns.getD (2 * j) 0) (ns.getD (2 * j + 1) 0) := by
  obtain ⟨j, hj, rfl⟩ := List.mem_map.mp h
  have := List.mem_range.mp hj
  exact ⟨j, by omega, rfl⟩
theorem tie_ends {x y : Nat} : ((tieOf x y).1 = x ∧ (tieOf x y).2 = y) ∨ ((tieOf x y).1 = y ∧ (tieOf x y).2 = x) := by
  rcases tieOf_cases x y with ⟨e, _⟩ | ⟨e, _⟩ <;> rw [e]
  · exact .inl ⟨rfl, rfl⟩
  · exact .inr ⟨rfl, rfl⟩
theorem cross {ns : List Nat} {q : Nat × Nat} {x y : Nat} (hx : x ∈ ns) (hy : y ∈ ns) (h : q.1 ∉ ns ∧ q.2 ∉ ns) : Apart (tieOf x y) q := by
  have key : ∀ z, z ∈ ns → z ≠ q.1 ∧ z ≠ q.2 := fun z hz => ⟨fun e => h.1 (by rw [← e]; exact hz), fun e => h.2 (by rw [← e]; exact hz)⟩
  rcases tie_ends (x := x) (y := y) with ⟨e1, e2⟩ | ⟨e1, e2⟩ <;> unfold Apart <;> rw [e1, e2]
  · exact ⟨(key x hx).1, (key x hx).2, (key y hy).1, (key y hy).2⟩
  · exact ⟨(key y hy).1, (key y hy).2, (key x hx).1, (key x hx).2⟩
section
variable {n : Nat} {ts X : List (Nat × Nat)} {ns : List Nat}
theorem Lay.pOk (l : Lay n ts ns X) : PairsOk (webOf n ts) (midPairs ns ++ X) := by
  refine pairsOk_of l.tok (fun p hp => (List.mem_append.mp hp).elim (l.mid p) (l.xin p)) (List.pairwise_append.mpr ⟨mid_apart l.nd, l.xap, fun p hp q hq => ?_⟩)
  obtain ⟨j, hj, rfl⟩ := in_mid hp
  exact cross (mem_getD (by omega)) (mem_getD (by omega)) (l.xout q hq)
theorem Lay.dOk (l : Lay n ts ns X) : PairsOk (webOf n ts) (outPairs ns ++ X) := by
  refine pairsOk_of l.tok (fun p hp => (List.mem_append.mp hp).elim (l.out p) (l.xin p)) (List.pairwise_append.mpr ⟨out_apart l.nd, l.xap, fun p hp q hq => ?_⟩)
  obtain ⟨j, hj, rfl⟩ := in_out hp
  exact cross (mem_getD (by omega)) (mem_getD (by omega)) (l.xout q hq)
theorem Lay.atX (l : Lay n ts ns X) {x y : Nat} (h : tieOf x y ∈ X) : x ∉ ns ∧ y ∉ ns := by
  have := l.xout _ h
  rcases tie_ends (x := x) (y := y) with ⟨e1, e2⟩ | ⟨e1, e2⟩ <;> rw [e1, e2] at this
  · exact this
  · exact ⟨this.2, this.1⟩
theorem at_ix {i : Nat} {x : Nat} (h : ns[i]? = some x) : x = ns.getD i 0 ∧ i < ns.length := by
  have hl := (List.getElem?_eq_some_iff.mp h).1
  exact ⟨Option.some.inj (h.symm.trans (getD_get 0 hl)), hl⟩
/-- two places of the way that are a pair -/
theorem Lay.pair_ix (l : Lay n ts ns X) {i k : Nat} (hi : i < ns.length) (hk : k < ns.length) (h : mateOf (midPairs ns ++ X) (ns.getD i 0) = some (ns.getD k 0)) : ∃ j, (i = 2 * j + 1 ∧ k = 2 * j + 2) ∨ (i = 2 * j + 2 ∧ k = 2 * j + 1) := by
  obtain ⟨ne, hm⟩ := (mate_iff l.pOk).mp h
  rcases List.mem_append.mp hm with hm | hm
  · obtain ⟨j, hj, e⟩ := in_mid hm
    have same : ∀ a b, a < ns.length → b < ns.length → ns.getD a 0 = ns.getD b 0 → a = b := fun a b ha hb e => Classical.byContradiction fun ne => nd_getD l.nd ha hb ne e
    rcases tieOf_inj e with ⟨e1, e2⟩ | ⟨e1, e2⟩
    · exact ⟨j, .inl ⟨same _ _ hi (by omega) e1, same _ _ hk (by omega) e2⟩⟩
    · exact ⟨j, .inr ⟨same _ _ hi (by omega) e1, same _ _ hk (by omega) e2⟩⟩
  · exact absurd (mem_getD hi) (l.atX hm).1
theorem Lay.mate_mid (l : Lay n ts ns X) {j : Nat} (h : 2 * j + 2 < ns.length) : mateOf (midPairs ns ++ X) (ns.getD (2 * j + 1) 0) = some (ns.getD (2 * j + 2) 0) ∧ mateOf (midPairs ns ++ X) (ns.getD (2 * j + 2) 0) = some (ns.getD (2 * j + 1) 0) := by
  have ev := l.ev
  exact mate_tie l.pOk (nd_getD l.nd (by omega) (by omega) (by omega)) (List.mem_append_left _ (List.mem_map.mpr ⟨j, List.mem_range.mpr (by omega), rfl⟩))
theorem Lay.mate_out (l : Lay n ts ns X) {j : Nat} (h : 2 * j + 1 < ns.length) : mateOf (outPairs ns ++ X) (ns.getD (2 * j) 0) = some (ns.getD (2 * j + 1) 0) ∧ mateOf (outPairs ns ++ X) (ns.getD (2 * j + 1) 0) = some (ns.getD (2 * j) 0) := by
  have ev := l.ev
  exact mate_tie l.dOk (nd_getD l.nd (by omega) (by omega) (by omega)) (List.mem_append_left _ (List.mem_map.mpr ⟨j, List.mem_range.mpr (by omega), rfl⟩))
theorem Lay.free (l : Lay n ts ns X) {i : Nat} (hi : i < ns.length) (h : i = 0 ∨ i + 1 = ns.length) : mateOf (midPairs ns ++ X) (ns.getD i 0) = none := by
  have ev := l.ev
  cases e : mateOf (midPairs ns ++ X) (ns.getD i 0) with
  | none => rfl
  | some z =>
    obtain ⟨ne, hm⟩ := (mate_iff l.pOk).mp e
    rcases List.mem_append.mp hm with hm | hm
    · obtain ⟨j, hj, e⟩ := in_mid hm
      rcases tieOf_inj e with ⟨e1, e2⟩ | ⟨e1, e2⟩
      · exact absurd e1 (nd_getD l.nd hi (by omega) (by omega))
      · exact absurd e1 (nd_getD l.nd hi (by omega) (by omega))
    · exact absurd (mem_getD hi) (l.atX hm).1
theorem Lay.way (l : Lay n ts ns X) : IsWay (webOf n ts) (mateL n (midPairs ns ++ X)) ns := by
  have ev := l.ev
  have two := l.two
  have mt : ∀ {x}, x ∈ ns → (mateL n (midPairs ns ++ X))[x]? = some (mateOf (midPairs ns ++ X) x) := fun {x} hx => mateL_get _ (l.lt x hx)
  refine ⟨l.two, l.ev, l.lt, l.nd, fun x hx => ?_, fun x hx => ?_, fun i x y hx hy => ?_⟩
  · obtain ⟨e, hl⟩ := at_ix hx
    rw [mt (List.mem_of_getElem? hx), e, l.free hl (.inl rfl)]
  · obtain ⟨e, hl⟩ := at_ix hx
    rw [mt (List.mem_of_getElem? hx), e, l.free hl (.inr (by omega))]
  · obtain ⟨ex, hlx⟩ := at_ix hx
    obtain ⟨ey, hly⟩ := at_ix hy
    have lx := l.lt x (List.mem_of_getElem? hx)
    have ne : x ≠ y := by rw [ex, ey]; exact nd_getD l.nd hlx hly (by omega)
    constructor
    · refine (near_tie l.tok lx).mpr ⟨ne, ?_⟩
      by_cases c : i % 2 = 1
      · obtain ⟨j, hj⟩ : ∃ j, i = 2 * j + 1 := ⟨i / 2, by omega⟩
        subst hj
        rw [ex, ey]
        exact l.mid _ (List.mem_map.mpr ⟨j, List.mem_range.mpr (by omega), rfl⟩)
      · obtain ⟨j, hj⟩ : ∃ j, i = 2 * j := ⟨i / 2, by omega⟩
        subst hj
        rw [ex, ey]
        exact l.out _ (List.mem_map.mpr ⟨j, List.mem_range.mpr (by omega), rfl⟩)
    · rw [mt (List.mem_of_getElem? hx)]
      constructor
      · intro h
        have h := Option.some.inj h
        rw [ex, ey] at h
        obtain ⟨j, h⟩ := l.pair_ix hlx hly h
        omega
      · intro c
        obtain ⟨j, hj⟩ : ∃ j, i = 2 * j + 1 := ⟨i / 2, by omega⟩
        subst hj
        rw [ex, ey]
        exact congrArg some (l.mate_mid (by omega)).1
theorem Lay.turn (l : Lay n ts ns X) : turnL (mateL n (midPairs ns ++ X)) ns = mateL n (outPairs ns ++ X) := by
  have ev := l.ev
  have ml := mateL_len n (midPairs ns ++ X)
  obtain ⟨t1, t2⟩ := turnL_get (ms := mateL n (midPairs ns ++ X)) l.nd l.ev (fun x hx => by rw [ml]; exact l.lt x hx)
  refine mateL_ext (by rw [turnL_len, ml]) fun x hx => ?_
  by_cases c : x ∈ ns
  · obtain ⟨i, hi⟩ := List.getElem?_of_mem c
    obtain ⟨ex, hl⟩ := at_ix hi
    by_cases e : i % 2 = 0
    · obtain ⟨j, hj⟩ : ∃ j, i = 2 * j := ⟨i / 2, by omega⟩
      subst hj
      rw [(t1 j x _ hi (getD_get 0 (by omega))).1, ex]
      exact congrArg some (l.mate_out (by omega)).1.symm
    · obtain ⟨j, hj⟩ : ∃ j, i = 2 * j + 1 := ⟨i / 2, by omega⟩
      subst hj
      rw [(t1 j _ x (getD_get 0 (by omega)) hi).2, ex]
      exact congrArg some (l.mate_out hl).2.symm
  · rw [t2 x c, mateL_get _ hx]
    refine congrArg some (Option.ext fun z => ?_)
    rw [mate_iff l.pOk, mate_iff l.dOk]
    refine and_congr_right fun _ => ?_
    rw [List.mem_append, List.mem_append]
    constructor
    · rintro (h | h)
      · obtain ⟨j, hj, e⟩ := in_mid h
        rcases tieOf_inj e with ⟨e1, _⟩ | ⟨e1, _⟩ <;> exact absurd (by rw [e1]; exact mem_getD (by omega)) c
      · exact .inr h
    · rintro (h | h)
      · obtain ⟨j, hj, e⟩ := in_out h
        rcases tieOf_inj e with ⟨e1, _⟩ | ⟨e1, _⟩ <;> exact absurd (by rw [e1]; exact mem_getD (by omega)) c
      · exact .inr h
end
end OP
namespace OP
open PySem PySem.Spec PyProof.Rows L2 Evl
theorem mateL_perm {W : Web} {ps qs : List (Nat × Nat)} (ok : PairsOk W ps) (h : qs.Perm ps) (n : Nat) : mateL n qs = mateL n ps := by
  have ok2 : PairsOk W qs := ok.perm h.symm
  unfold mateL
  refine List.map_congr_left fun x _ => Option.ext fun z => ?_
  rw [mate_iff ok, mate_iff ok2, h.mem_iff]
end OP

/-! Comprehensions over range(.., .., 2). -/
namespace OP
open PySem PySem.Spec PyProof.Rows L2 Evl
theorem rgC_step {lo k : Nat} (hk : k ≤ 10000) (hl : lo ≤ 10000) : RgC (lo : Int) ((lo + 2 * k : Nat) : Int) 2 k := by
  have fit : ∀ i : Int, -100000 ≤ i → i ≤ 100000 → Builtin.Range.rangeFitsLong i = true := fun i h1 h2 => by
    unfold Builtin.Range.rangeFitsLong
    rw [Bool.and_eq_true]
    exact ⟨decide_eq_true (Int.le_trans (by decide) h1), decide_eq_true (Int.lt_of_le_of_lt h2 (by decide))⟩
  have sz : Builtin.Range.rangeSize (lo : Int) ((lo + 2 * k : Nat) : Int) 2 = (k : Int) := by
    unfold Builtin.Range.rangeSize
    rw [if_pos (by decide)]
    split <;> omega
  refine ⟨by decide, by decide, ?_, sz⟩
  unfold Builtin.Range.small
  rw [sz, fit _ (by omega) (by omega), fit _ (by omega) (by omega), fit 2 (by decide) (by decide), fit (k : Int) (by omega) (by omega), if_pos (by decide), fit _ (by omega) (by omega)]
  simp
section
variable {K : PySem.W.Frag} {σ : L2.St} {H H' : Hp} {te : TE}
/-- [(.., ..) for i in range(lo, lo + 2 k, 2)] -/
theorem en_pairs3 {tr : TA} {j lo k : Nat} {vs : List Nat} (g : Nat → Nat × Nat) (h : EvA tr σ H [.int (lo : Int), .int ((lo + 2 * k : Nat) : Int), .int 2]) (hk : k ≤ 10000) (hlo : lo ≤ 10000) (hw : ∀ x, wipe ((wipe σ vs).set j (some x)) vs = wipe σ vs)
    (he : ∀ (i : Nat) H1, Ex H H1 → i < k → EvU te ((wipe σ vs).set j (some (vn (lo + 2 * i)))) H1 [vn (g i).1, vn (g i).2]) :
    EvN (tLc (iRng3 tr) (gName j) tYes te vs) σ H (fun v fs G => ∃ D as, v = .ref D ∧ fs = [D] ∧ G D = some (.lst (as.map V.ref)) ∧ Paired (Pr G) as ((List.range k).map g)) := fun H0 e Q q =>
  h H0 e _ fun H1 e1 => ⟨_, _, 2, k, rfl, rgC_step hk hlo, fun D hD =>
  lc_it walk_rangeC (fun i H' => Ex H1 H' ∧ ∃ as, H' D = some (.lst (as.map V.ref)) ∧ Paired (Pr H') as ((List.range i).map g))
    ⟨Ex.new hD, [], upd_same, .nil⟩ (fun _ _ _ _ => trivial)
    (fun i x G G' hi p y => by
      obtain ⟨rfl, rfl⟩ := y
      obtain ⟨e2, as, hd, hp⟩ := p
      have ex : V.int ((lo : Int) + (i : Nat) * 2) = vn (lo + 2 * i) := by
        show V.int _ = V.int _
        congr 1
        omega
      show wipe ((wipe σ vs).set j (some (V.int ((lo : Int) + (i : Nat) * 2)))) vs = wipe σ vs ∧ te ((wipe σ vs).set j (some (V.int ((lo : Int) + (i : Nat) * 2)))) _ fun y H4 => ∃ acc, H4 D = some (.lst acc) ∧ acc.length < sizeLine ∧ _
      rw [ex]
      have len : as.length = i := by rw [paired_len hp, List.length_map, List.length_range]
      refine ⟨hw _, he i _ ((e.trans e1).trans e2) hi _ (Ex.refl _) _ fun p H4 hp4 e4 hpt => ⟨as.map V.ref, e4 _ _ hd, sz_lt (by rw [List.length_map]; omega), (e2.trans e4).mut hD, as ++ [p], by rw [upd_same, List.map_append]; rfl, ?_⟩⟩
      rw [List.range_succ, List.map_append]
      have ne : ∀ b k, Pr _ b k → b ≠ D := fun b k z w => by
        have z' := z
        rw [w] at z'
        have z' := (show _ = some _ from z').symm.trans hd
        cases z'
      refine paired_app (paired_imp hp fun b hb k z => ?_) (.cons ?_ .nil)
      · show upd _ _ _ b = _
        rw [upd_ne (ne b k z)]
        exact e4 _ _ z
      · show upd _ _ _ p = _
        rw [upd_ne (fun w => by rw [w, hd] at hp4; cases hp4)]
        exact hpt)
    (fun H' ⟨e2, as, hd, hp⟩ => q _ [D] H' (e1.trans e2) (fun r hr => by rw [List.mem_singleton.mp hr]; exact fresh_back e1 hD) ⟨D, as, rfl, rfl, hd, hp⟩)⟩
end
end OP
namespace OP
open PySem PySem.Spec PyProof.Rows L2 Evl
/-- the pair beside the way -/
def besideX (rs : List Nat) : List (Nat × Nat) := if 2 ≤ rs.length then [tieOf (rs.getD 0 0) (rs.getD 1 0)] else []
theorem lay_of {n : Nat} {ts : List (Nat × Nat)} {ns rs : List Nat} (tok : TiesOk n ts) (nd : (ns ++ rs).Nodup) (lt : ∀ x ∈ ns ++ rs, x < n) (ev : ns.length % 2 = 0) (two : 2 ≤ ns.length)
    (mid : ∀ p ∈ midPairs ns, p ∈ ts) (out : ∀ p ∈ outPairs ns, p ∈ ts) (xin : ∀ p ∈ besideX rs, p ∈ ts) : Lay n ts ns (besideX rs) := by
  obtain ⟨n1, n2, n3⟩ := List.nodup_append.mp nd
  refine ⟨tok, n1, ev, two, fun x hx => lt x (List.mem_append_left _ hx), xin, ?_, fun p hp => ?_, mid, out⟩
  · unfold besideX
    split <;> simp
  · unfold besideX at hp
    split at hp
    · rename_i h
      rw [List.mem_singleton.mp hp]
      have a0 : rs.getD 0 0 ∈ rs := mem_getD (by omega)
      have a1 : rs.getD 1 0 ∈ rs := mem_getD (by omega)
      have key : ∀ z, z ∈ rs → z ∉ ns := fun z hz hn => n3 z hn z hz rfl
      rcases tie_ends (x := rs.getD 0 0) (y := rs.getD 1 0) with ⟨e1, e2⟩ | ⟨e1, e2⟩ <;> rw [e1, e2]
      · exact ⟨key _ a0, key _ a1⟩
      · exact ⟨key _ a1, key _ a0⟩
    · cases hp
/-- the first step alone is a way for all other pairs -/
theorem Lay.first {n : Nat} {ts X : List (Nat × Nat)} {ns : List Nat} (l : Lay n ts ns X) (h : 4 ≤ ns.length) : Lay n ts (ns.take 2) ((midPairs ns ++ X).drop 1) := by
  have two := l.two
  have g0 : (ns.take 2).getD 0 0 = ns.getD 0 0 := by
    rw [List.getD_eq_getElem?_getD, List.getD_eq_getElem?_getD, List.getElem?_take_of_lt (by decide)]
  have g1 : (ns.take 2).getD 1 0 = ns.getD 1 0 := by
    rw [List.getD_eq_getElem?_getD, List.getD_eq_getElem?_getD, List.getElem?_take_of_lt (by decide)]
  have tl : (ns.take 2).length = 2 := by rw [List.length_take]; omega
  have t2 : ∀ x ∈ ns.take 2, x = ns.getD 0 0 ∨ x = ns.getD 1 0 := fun x hx => by
    obtain ⟨i, hi⟩ := List.getElem?_of_mem hx
    have hl := (List.getElem?_eq_some_iff.mp hi).1
    obtain ⟨ex, _⟩ := at_ix hi
    rw [tl] at hl
    have : i = 0 ∨ i = 1 := by omega
    rcases this with rfl | rfl
    · exact .inl (ex.trans g0)
    · exact .inr (ex.trans g1)
  have md : midPairs ns = tieOf (ns.getD 1 0) (ns.getD 2 0) :: (midPairs ns).drop 1 := by
    have hl : 0 < (midPairs ns).length := by unfold midPairs; rw [List.length_map, List.length_range]; omega
    have e : (midPairs ns)[0] = tieOf (ns.getD 1 0) (ns.getD 2 0) := by
      unfold midPairs
      simp
    conv => lhs; rw [← List.drop_zero (l := midPairs ns), List.drop_eq_getElem_cons hl, e]
  have dropE : (midPairs ns ++ X).drop 1 = (midPairs ns).drop 1 ++ X := by
    conv => lhs; rw [md]
    rfl
  have ap := l.pOk.apart
  refine ⟨l.tok, l.nd.sublist (List.take_sublist 2 ns), by rw [tl], by rw [tl]; decide, fun x hx => l.lt x (List.mem_of_mem_take hx), fun p hp => ?_, ap.sublist (List.drop_sublist 1 _), fun p hp => ?_, fun p hp => ?_, fun p hp => ?_⟩
  · rcases List.mem_append.mp (List.mem_of_mem_drop hp) with c | c
    · exact l.mid p c
    · exact l.xin p c
  · have free : ∀ x, (x = ns.getD 0 0 ∨ x = ns.getD 1 0) → p.1 ≠ x ∧ p.2 ≠ x := fun x hx => by
      rcases hx with rfl | rfl
      · exact mateOf_none.mp (l.free (i := 0) (by omega) (.inl rfl)) p (List.mem_of_mem_drop hp)
      · rw [dropE] at hp
        have ap2 : (tieOf (ns.getD 1 0) (ns.getD 2 0) :: ((midPairs ns).drop 1 ++ X)).Pairwise Apart := by
          have : midPairs ns ++ X = tieOf (ns.getD 1 0) (ns.getD 2 0) :: ((midPairs ns).drop 1 ++ X) := by
            conv => lhs; rw [md]
            rfl
          rw [← this]
          exact ap
        have a := (List.pairwise_cons.mp ap2).1 p hp
        rcases tie_ends (x := ns.getD 1 0) (y := ns.getD 2 0) with ⟨e1, e2⟩ | ⟨e1, e2⟩
        · unfold Apart at a
          rw [e1] at a
          exact ⟨fun z => a.1 z.symm, fun z => a.2.1 z.symm⟩
        · unfold Apart at a
          rw [e2] at a
          exact ⟨fun z => a.2.2.1 z.symm, fun z => a.2.2.2 z.symm⟩
    exact ⟨fun z => (free _ (t2 _ z)).1 rfl, fun z => (free _ (t2 _ z)).2 rfl⟩
  · obtain ⟨j, hj, _⟩ := in_mid hp
    rw [tl] at hj
    omega
  · obtain ⟨j, hj, rfl⟩ := in_out hp
    rw [tl] at hj
    have : j = 0 := by omega
    subst this
    rw [show 2 * 0 = 0 from rfl, show 0 + 1 = 1 from rfl, g0, g1]
    exact l.out _ (List.mem_map.mpr ⟨0, List.mem_range.mpr (by omega), rfl⟩)
end OP

/-! Loops with any target; the heap without some lists; ways turned twice. -/
namespace OP
open PySem PySem.Spec PyProof.Rows L2 Evl
section
variable {K : PySem.W.Frag} {σ : L2.St} {H H' : Hp} {ta tb te tx : TE} {x y z v : V}
theorem q_forNg {g : TG} {R : Rn} {D : Ends} {tu tz : TS} {tl : TE} (h : EvN tl σ H R) (k : ∀ v fs H1, Ex H H1 → (∀ p ∈ fs, H p = none) → R v fs H1 → ∃ a xs, v = .ref a ∧ SqL K H1 a xs ∧ ∃ Pv : Nat → L2.St → Hp → Prop, Pv 0 σ H1 ∧ (∀ i σ' H', i ≤ xs.length → Pv i σ' H' → SqL K H' a xs) ∧
    (∀ i x σ' H', xs[i]? = some x → Pv i σ' H' → g x σ' H' fun σ2 H2 => tu { D with nx := Pv (i + 1), ct := Pv (i + 1), bk := tz D } σ2 H2) ∧ (∀ σ' H', Pv xs.length σ' H' → tz D σ' H')) : tSeq (tFor (iList K tl) g tu) tz D σ H :=
  h H (Ex.refl H) _ fun v fs H1 e f r => by
    obtain ⟨a, xs, rfl, hx, Pv, h0, hl, hs, hd⟩ := k v fs H1 e f r
    exact ⟨a, rfl, ⟨xs, hx⟩, for_list (D := { D with nx := tz D }) Pv h0 hl hs hd⟩
/-- the heap without some objects -/
def cutH (ds : List Addr) (H : Hp) : Hp := fun p => if p ∈ ds then none else H p
theorem cutH_ex (ds : List Addr) (H : Hp) : Ex (cutH ds H) H := fun p o e => by
  unfold cutH at e
  split at e
  · cases e
  · exact e
theorem cutH_mono (ds : List Addr) (e : Ex H H') : Ex (cutH ds H) (cutH ds H') := fun p o h => by
  unfold cutH at h ⊢
  split at h
  · cases h
  · rename_i n
    rw [if_neg n]
    exact e _ _ h
theorem cutH_none {ds : List Addr} {p : Addr} (h : p ∈ ds) : cutH ds H p = none := by
  unfold cutH
  rw [if_pos h]
theorem cutH_at {ds : List Addr} {p : Addr} {o : HO} (h : p ∉ ds) (e : H p = some o) : cutH ds H p = some o := by
  unfold cutH
  rw [if_neg h]
  exact e
theorem Ints.cut {ds : List Addr} {a : Addr} {ns : List Nat} (h : Ints H a ns) (n : a ∉ ds) : Ints (cutH ds H) a ns := cutH_at n h
theorem Prs.cut {ds : List Addr} {a : Addr} {ps : List (Nat × Nat)} (h : Prs H a ps) (n : a ∉ ds) (l : ∀ d ∈ ds, ∃ xs, H d = some (.lst xs)) : Prs (cutH ds H) a ps := by
  obtain ⟨as, h1, h2⟩ := h
  refine ⟨as, cutH_at n h1, Paired.mapP h2 fun b r hb => cutH_at (fun hd => ?_) hb⟩
  obtain ⟨xs, hx⟩ := l _ hd
  have hb : H b = _ := hb
  rw [hx] at hb
  cases hb
theorem ex_cut {ds : List Addr} (e : Ex H H') (n : ∀ d ∈ ds, H d = none) : Ex H (cutH ds H') := fun p o h => cutH_at (fun hp => by rw [n p hp] at h; cases h) (e _ _ h)
theorem ep_ofN {R : Rn} {P : HV} (h : EvN te σ H R) (k : ∀ v fs G, Ex H G → (∀ p ∈ fs, H p = none) → R v fs G → P G v) : EvP te σ H P := fun H1 e Q q => h H1 e Q fun v fs H2 e2 fr r => q v H2 e2 (k v fs H2 (e.trans e2) (fun p hp => fresh_back e (fr p hp)) r)
theorem ep_tup3 {P1 P2 P3 : HV} {tc : TE} (s1 : Stay P1) (s2 : Stay P2) (s3 : Stay P3) (h1 : EvP ta σ H P1) (h2 : EvP tb σ H P2) (h3 : EvP tc σ H P3) : EvP (tTup (tCons ta (tCons tb (tCons tc tNil)))) σ H (fun G v => ∃ p x y z, v = .ref p ∧ H p = none ∧ G p = some (.tup [x, y, z]) ∧ P1 G x ∧ P2 G y ∧ P3 G z) := fun H1 e Q q => by
  unfold tTup
  unfold tCons
  refine h1 H1 e _ fun x H2 e2 p1 => ?_
  refine h2 H2 (e.trans e2) _ fun y H3 e3 p2 => ?_
  refine h3 H3 ((e.trans e2).trans e3) _ fun z H4 e4 p3 => ?_
  have e14 := (e2.trans e3).trans e4
  refine ⟨by show 3 ≤ sizeLine; decide, fun p hp => ?_⟩
  have en := Ex.new (H := H4) (o := .tup [x, y, z]) hp
  exact q (.ref p) _ (e14.trans en) ⟨p, x, y, z, rfl, fresh_back (e.trans e14) hp, upd_same, s1 _ _ _ ((e3.trans e4).trans en) p1, s2 _ _ _ (e4.trans en) p2, s3 _ _ _ en p3⟩
/-- a list of a list of pairs and a list of places -/
def mixD (ps : List (Nat × Nat)) (ns : List Nat) : PyData := .list [psD ps, nsD ns]
theorem mixD_eqv (ps : List (Nat × Nat)) (ns : List Nat) : PyData.eqv (mixD ps ns) (mixD ps ns) = true := by
  have h1 := psD_eqv ps ps
  have h2 := nsD_eqv ns ns
  simp at h1 h2
  show PyData.eqv (.list [psD ps, nsD ns]) (.list [psD ps, nsD ns]) = true
  simp [PyData.eqv, PyData.eqvAll, h1, h2]
theorem mixD_shaped (ps : List (Nat × Nat)) (ns : List Nat) : SeqAt.shaped (mixD ps ns) = true := by
  have h1 := lay_map (f := pD) pD_lay ps
  have h2 := lay_map (f := nD) (fun _ => by simp [nD, PyData.canLay0]) ns
  have d1 := depth_map (f := pD) pD_depth ps
  have d2 := depth_map (f := nD) (m := 60) (fun _ => by simp [nD, PyData.depth]) ns
  show (PyData.canLay0 (mixD ps ns) && decide (PyData.depth (mixD ps ns) ≤ 64)) = true
  rw [Bool.and_eq_true]
  refine ⟨by simp [mixD, psD, nsD, PyData.canLay0, PyData.canLayAll0, h1, h2], decide_eq_true ?_⟩
  have d2' := depth_map (f := nD) (m := 1) (fun _ => by simp [nD, PyData.depth]) ns
  simp only [mixD, psD, nsD, PyData.depth, PyData.depthAll]
  omega
theorem rv_neMix {a b : Addr} {l1 l2 l3 l4 : Addr} {ps : List (Nat × Nat)} {ns : List Nat} (ha : H a = some (.lst [.ref l1, .ref l2])) (hb : H b = some (.lst [.ref l3, .ref l4])) (h1 : Prs H l1 ps) (h2 : Ints H l2 ns) (h3 : Prs H l3 ps) (h4 : Ints H l4 ns) :
    RV (rNeD K) (.ref a) (.ref b) H (.bl false) :=
  rv_neD (b := true) (d := mixD ps ns) (e := mixD ps ns) (fun G e => ⟨.lst (sq_of (e _ _ ha)) (.cons (dp_prs (h1.go e)) (.cons (dp_ints (h2.go e)) .nil)), .lst (sq_of (e _ _ hb)) (.cons (dp_prs (h3.go e)) (.cons (dp_ints (h4.go e)) .nil))⟩) (mixD_shaped ps ns) (mixD_shaped ps ns) (mixD_eqv ps ns)
end
theorem out_take2 {ns : List Nat} (h : 2 ≤ ns.length) : outPairs (ns.take 2) = [tieOf (ns.getD 0 0) (ns.getD 1 0)] := by
  match ns, h with
  | a :: b :: t, _ => simp [outPairs]
theorem mid_take2 {ns : List Nat} (h : 2 ≤ ns.length) : midPairs (ns.take 2) = [] := by
  match ns, h with
  | a :: b :: t, _ => simp [midPairs]
theorem Lay.told {n : Nat} {ts X : List (Nat × Nat)} {ns : List Nat} (l : Lay n ts ns X) : pairsOf (turnL (mateL n (midPairs ns ++ X)) ns) = srtP (outPairs ns ++ X) := by
  rw [l.turn]
  exact pairsOf_mates l.dOk
/-- the first step alone, told -/
theorem Lay.toldFirst {n : Nat} {ts X : List (Nat × Nat)} {ns : List Nat} (l : Lay n ts ns X) (h : 4 ≤ ns.length) : pairsOf (turnL (mateL n ((midPairs ns ++ X).drop 1)) (ns.take 2)) = srtP ((midPairs ns ++ X).drop 1 ++ [tieOf (ns.getD 0 0) (ns.getD 1 0)]) := by
  have f := l.first h
  have t := f.told
  rw [out_take2 (by omega), mid_take2 (by omega), List.nil_append] at t
  rw [t]
  exact srtP_one ((srtP_perm _).trans List.perm_append_comm) (srtP_le _)
/-- ties of a row told by their indices -/
theorem idx_nodup {os : List Nat} (nd : os.Nodup) {I : List (Nat × Nat)} (hI : I.Nodup) (lt : ∀ p ∈ I, p.1 < p.2 ∧ p.2 < os.length) : (I.map fun p => tieOf (os.getD p.1 0) (os.getD p.2 0)).Nodup := by
  unfold List.Nodup
  rw [List.pairwise_map]
  refine List.Pairwise.imp_of_mem (fun {p q} hp hq ne e => ne ?_) hI
  obtain ⟨p1, p2⟩ := lt p hp
  obtain ⟨q1, q2⟩ := lt q hq
  have same : ∀ a b, a < os.length → b < os.length → os.getD a 0 = os.getD b 0 → a = b := fun a b ha hb e => Classical.byContradiction fun ne => nd_getD nd ha hb ne e
  rcases tieOf_inj e with ⟨e1, e2⟩ | ⟨e1, e2⟩
  · exact Prod.ext (same _ _ (by omega) (by omega) e1) (same _ _ (by omega) (by omega) e2)
  · have := same _ _ (by omega) (by omega) e1
    have := same _ _ (by omega) (by omega) e2
    omega
theorem idx_ok {os : List Nat} {n : Nat} (nd : os.Nodup) (ltn : ∀ x ∈ os, x < n) {I : List (Nat × Nat)} (lt : ∀ p ∈ I, p.1 < p.2 ∧ p.2 < os.length) : TiesOk n (I.map fun p => tieOf (os.getD p.1 0) (os.getD p.2 0)) := fun t ht => by
  obtain ⟨p, hp, rfl⟩ := List.mem_map.mp ht
  obtain ⟨p1, p2⟩ := lt p hp
  exact tieOf_ok (ltn _ (mem_getD (by omega))) (ltn _ (mem_getD p2)) (nd_getD nd (by omega) p2 (by omega))
def midI (s : Nat) : List (Nat × Nat) := (List.range (s - 1)).map fun j => (2 * j + 1, 2 * j + 2)
def outI (s : Nat) : List (Nat × Nat) := (List.range s).map fun j => (2 * j, 2 * j + 1)
def xI (s m : Nat) : List (Nat × Nat) := if 1 < m then [(2 * s, 2 * s + 1)] else []
def twoI (s : Nat) : List (Nat × Nat) := if 2 < s then [(0, 2), (1, 2 * s - 2)] else []
def allI (s m : Nat) : List (Nat × Nat) := midI s ++ outI s ++ xI s m ++ twoI s
theorem mapR_nodup {f : Nat → Nat × Nat} (h : ∀ i j, f i = f j → i = j) (n : Nat) : ((List.range n).map f).Nodup := by
  unfold List.Nodup
  rw [List.pairwise_map]
  exact List.Pairwise.imp (fun {a b} lt e => by have := h _ _ e; omega) List.pairwise_lt_range
theorem mem_allI {s m : Nat} {p : Nat × Nat} : p ∈ allI s m ↔ (∃ j, j + 1 < s ∧ p = (2 * j + 1, 2 * j + 2)) ∨ (∃ j, j < s ∧ p = (2 * j, 2 * j + 1)) ∨ (1 < m ∧ p = (2 * s, 2 * s + 1)) ∨ (2 < s ∧ (p = (0, 2) ∨ p = (1, 2 * s - 2))) := by
  have h1 : p ∈ midI s ↔ ∃ j, j + 1 < s ∧ p = (2 * j + 1, 2 * j + 2) := by
    unfold midI
    rw [List.mem_map]
    constructor
    · rintro ⟨j, hj, rfl⟩
      rw [List.mem_range] at hj
      exact ⟨j, by omega, rfl⟩
    · rintro ⟨j, hj, rfl⟩
      exact ⟨j, List.mem_range.mpr (by omega), rfl⟩
  have h2 : p ∈ outI s ↔ ∃ j, j < s ∧ p = (2 * j, 2 * j + 1) := by
    unfold outI
    rw [List.mem_map]
    constructor
    · rintro ⟨j, hj, rfl⟩
      exact ⟨j, List.mem_range.mp hj, rfl⟩
    · rintro ⟨j, hj, rfl⟩
      exact ⟨j, List.mem_range.mpr hj, rfl⟩
  have h3 : p ∈ xI s m ↔ 1 < m ∧ p = (2 * s, 2 * s + 1) := by
    unfold xI
    split
    · rename_i h
      rw [List.mem_singleton]
      exact ⟨fun e => ⟨h, e⟩, fun e => e.2⟩
    · rename_i h
      exact ⟨fun e => (nomatch e), fun e => absurd e.1 h⟩
  have h4 : p ∈ twoI s ↔ 2 < s ∧ (p = (0, 2) ∨ p = (1, 2 * s - 2)) := by
    unfold twoI
    split
    · rename_i h
      rw [List.mem_cons, List.mem_singleton]
      exact ⟨fun e => ⟨h, e⟩, fun e => e.2⟩
    · rename_i h
      exact ⟨fun e => (nomatch e), fun e => absurd e.1 h⟩
  unfold allI
  rw [List.mem_append, List.mem_append, List.mem_append, h1, h2, h3, h4, or_assoc, or_assoc]
theorem allI_lt {s m : Nat} (hs : 1 ≤ s) : ∀ p ∈ allI s m, p.1 < p.2 ∧ p.2 < 2 * s + m := fun p hp => by
  rcases mem_allI.mp hp with ⟨j, hj, rfl⟩ | ⟨j, hj, rfl⟩ | ⟨hm, rfl⟩ | ⟨h2, rfl | rfl⟩ <;> dsimp only <;> omega
theorem allI_nodup {s m : Nat} (hs : 1 ≤ s) : (allI s m).Nodup := by
  have n1 : (midI s).Nodup := mapR_nodup (fun i j e => by injection e with e1 e2; omega) _
  have n2 : (outI s).Nodup := mapR_nodup (fun i j e => by injection e with e1 e2; omega) _
  have n3 : (xI s m).Nodup := by unfold xI; split <;> simp
  have n4 : (twoI s).Nodup := by
    unfold twoI
    split
    · rw [List.nodup_cons]
      refine ⟨fun h => ?_, by simp⟩
      have := List.mem_singleton.mp h
      injection this with e1 e2
      omega
    · simp
  have m1 : ∀ p ∈ midI s, ∃ j, j + 1 < s ∧ p = (2 * j + 1, 2 * j + 2) := fun p hp => by
    obtain ⟨j, hj, rfl⟩ := List.mem_map.mp hp
    rw [List.mem_range] at hj
    exact ⟨j, by omega, rfl⟩
  have m2 : ∀ p ∈ outI s, ∃ j, j < s ∧ p = (2 * j, 2 * j + 1) := fun p hp => by
    obtain ⟨j, hj, rfl⟩ := List.mem_map.mp hp
    exact ⟨j, List.mem_range.mp hj, rfl⟩
  have m3 : ∀ p ∈ xI s m, p = (2 * s, 2 * s + 1) := fun p hp => by
    unfold xI at hp
    split at hp
    · exact List.mem_singleton.mp hp
    · cases hp
  have m4 : ∀ p ∈ twoI s, 2 < s ∧ (p = (0, 2) ∨ p = (1, 2 * s - 2)) := fun p hp => by
    unfold twoI at hp
    split at hp
    · rename_i h
      rw [List.mem_cons, List.mem_singleton] at hp
      exact ⟨h, hp⟩
    · cases hp
  refine List.nodup_append.mpr ⟨List.nodup_append.mpr ⟨List.nodup_append.mpr ⟨n1, n2, fun p hp q hq e => ?_⟩, n3, fun p hp q hq e => ?_⟩, n4, fun p hp q hq e => ?_⟩
  · subst e
    obtain ⟨j, hj, e1⟩ := m1 p hp
    obtain ⟨k, hk, e2⟩ := m2 p hq
    rw [e1] at e2
    injection e2 with z1 z2
    omega
  · subst e
    have e2 := m3 p hq
    rcases List.mem_append.mp hp with hp | hp
    · obtain ⟨j, hj, e1⟩ := m1 p hp
      rw [e1] at e2
      injection e2 with z1 z2
      omega
    · obtain ⟨j, hj, e1⟩ := m2 p hp
      rw [e1] at e2
      injection e2 with z1 z2
      omega
  · subst e
    obtain ⟨h2, e2⟩ := m4 p hq
    rcases List.mem_append.mp hp with hp | hp
    · rcases List.mem_append.mp hp with hp | hp
      · obtain ⟨j, hj, e1⟩ := m1 p hp
        rw [e1] at e2
        rcases e2 with e2 | e2 <;> injection e2 with z1 z2 <;> omega
      · obtain ⟨j, hj, e1⟩ := m2 p hp
        rw [e1] at e2
        rcases e2 with e2 | e2 <;> injection e2 with z1 z2 <;> omega
    · have e1 := m3 p hp
      rw [e1] at e2
      rcases e2 with e2 | e2 <;> injection e2 with z1 z2 <;> omega
/-- ties told by indices of the order -/
def tiesI (os : List Nat) (I : List (Nat × Nat)) : List (Nat × Nat) := I.map fun p => tieOf (os.getD p.1 0) (os.getD p.2 0)
theorem getD_take {os : List Nat} {m i : Nat} (h : i < m) : (os.take m).getD i 0 = os.getD i 0 := by
  rw [List.getD_eq_getElem?_getD, List.getD_eq_getElem?_getD, List.getElem?_take_of_lt h]
theorem getD_drop (os : List Nat) (m i : Nat) : (os.drop m).getD i 0 = os.getD (m + i) 0 := by
  rw [List.getD_eq_getElem?_getD, List.getD_eq_getElem?_getD, List.getElem?_drop]
theorem mid_tiesI {os : List Nat} {s m : Nat} (len : os.length = 2 * s + m) : midPairs (os.take (2 * s)) = tiesI os (midI s) := by
  unfold midPairs tiesI midI
  rw [List.length_take, List.map_map, show min (2 * s) os.length / 2 - 1 = s - 1 by omega]
  refine List.map_congr_left fun j hj => ?_
  rw [List.mem_range] at hj
  show tieOf _ _ = tieOf _ _
  rw [getD_take (by omega), getD_take (by omega)]
theorem out_tiesI {os : List Nat} {s m : Nat} (len : os.length = 2 * s + m) : outPairs (os.take (2 * s)) = tiesI os (outI s) := by
  unfold outPairs tiesI outI
  rw [List.length_take, List.map_map, show min (2 * s) os.length / 2 = s by omega]
  refine List.map_congr_left fun j hj => ?_
  rw [List.mem_range] at hj
  show tieOf _ _ = tieOf _ _
  rw [getD_take (by omega), getD_take (by omega)]
theorem beside_tiesI {os : List Nat} {s m : Nat} (len : os.length = 2 * s + m) : besideX (os.drop (2 * s)) = tiesI os (xI s m) := by
  unfold besideX tiesI xI
  rw [List.length_drop, show os.length - 2 * s = m by omega]
  by_cases h : 1 < m
  · rw [if_pos h, if_pos (by omega), getD_drop, getD_drop]
    rfl
  · rw [if_neg h, if_neg (by omega)]
    rfl
end OP
namespace OP
open PySem PySem.Spec PyProof.Rows L2 Evl
section
variable {K : PySem.W.Frag} {σ : L2.St} {H H' : Hp} {ta tb te tx : TE} {x y z v : V} {ps qs : List (Nat × Nat)}
/-- a list of pairs, old or new; a new one -/
def EvPr (te : TE) (σ : L2.St) (H : Hp) (ps : List (Nat × Nat)) : Prop := EvN te σ H (fun v _ G => ∃ p, v = .ref p ∧ Prs G p ps)
def EvPrF (te : TE) (σ : L2.St) (H : Hp) (ps : List (Nat × Nat)) : Prop := EvN te σ H (fun v fs G => ∃ p, v = .ref p ∧ fs = [p] ∧ Prs G p ps)
theorem EvPrF.old (h : EvPrF te σ H ps) : EvPr te σ H ps := EvN.imp h fun _ _ _ _ ⟨p, h1, _, h3⟩ => ⟨p, h1, h3⟩
theorem evpr_var {a : Addr} (h : Ev te σ H (.ref a)) (hp : Prs H a ps) : EvPr te σ H ps := fun H1 e Q q => h H1 e _ fun H2 e2 => q _ [] H2 e2 (fun _ hp => nomatch hp) ⟨a, rfl, hp.go (e.trans e2)⟩
theorem EvPrF.el (h : EvPrF te σ H ps) {Q : VK} {H1 : Hp} (e : Ex H H1) (q : ∀ p H2, H1 p = none → Ex H1 H2 → Prs H2 p ps → Q (.ref p) H2) : te σ H1 Q :=
  h H1 e Q fun v fs H2 e2 fr ⟨p, h1, h2, h3⟩ => by
    subst h1
    exact q p H2 (fr p (by rw [h2]; exact List.mem_cons_self)) e2 h3
theorem evpr_cat (h1 : EvPr ta σ H ps) (h2 : EvPr tb σ H qs) (few : ps.length + qs.length ≤ 90000) : EvPrF (tOp rCat ta tb) σ H (ps ++ qs) := fun H1 e Q q =>
  h1 H1 e _ fun v fs H2 e2 _ r => h2 H2 (e.trans e2) _ fun v2 fs2 H3 e3 _ r2 => by
    obtain ⟨a, rfl, as, ha, hpa⟩ := r
    obtain ⟨b, rfl, bs, hb, hpb⟩ := r2
    refine ⟨a, b, as.map V.ref, bs.map V.ref, rfl, rfl, e3 _ _ ha, hb, sz_of (by rw [List.length_map, List.length_map, paired_len hpa, paired_len hpb]; omega), fun r hr => ?_⟩
    have e5 := Ex.new (H := H3) (o := .lst (as.map V.ref ++ bs.map V.ref)) hr
    have e25 := (e2.trans e3).trans e5
    refine q _ [r] _ e25 (fun x hx => by rw [List.mem_singleton.mp hx]; exact fresh_back (e2.trans e3) hr) ⟨r, rfl, rfl, as ++ bs, by rw [upd_same, List.map_append], paired_app (Paired.mapP hpa fun _ _ z => ?_) (Paired.mapP hpb fun _ _ z => ?_)⟩
    · exact (e3.trans e5) _ _ z
    · exact e5 _ _ z
theorem evpr_one {i j : Nat} (h : EvU te σ H [vn i, vn j]) : EvPrF (tLst (tCons te tNil)) σ H [(i, j)] := fun H1 e Q q => h H1 e _ fun t H2 ht e2 h2 => ⟨by show 1 ≤ sizeLine; decide, fun b hb => by
  have e3 := Ex.new (H := H2) (o := .lst [.ref t]) hb
  exact q _ [b] _ (e2.trans e3) (fun x hx => by rw [List.mem_singleton.mp hx]; exact fresh_back e2 hb) ⟨b, rfl, rfl, [t], upd_same, .cons (e3 _ _ h2) .nil⟩⟩
theorem evpr_two {i j k l : Nat} (h : EvU ta σ H [vn i, vn j]) (h' : EvU tb σ H [vn k, vn l]) : EvPrF (tLst (tCons ta (tCons tb tNil))) σ H [(i, j), (k, l)] := fun H1 e Q q => h H1 e _ fun t H2 ht e2 h2 => h' H2 (e.trans e2) _ fun u H3 hu e3 h3 => ⟨by show 2 ≤ sizeLine; decide, fun b hb => by
  have e4 := Ex.new (H := H3) (o := .lst [.ref t, .ref u]) hb
  exact q _ [b] _ ((e2.trans e3).trans e4) (fun x hx => by rw [List.mem_singleton.mp hx]; exact fresh_back (e2.trans e3) hb) ⟨b, rfl, rfl, [t, u], upd_same, .cons (e4 _ _ (e3 _ _ h2)) (.cons (e4 _ _ h3) .nil)⟩⟩
theorem evpr_sorted (h : EvPr te σ H ps) : EvPrF (tCB (rSortedPO K) (tCons te tNil)) σ H (srtP ps) := fun H1 e Q q => h H1 e _ fun v fs H2 e2 _ r => by
  obtain ⟨p, rfl, hp⟩ := r
  have ar : EvA (fun _ G Q => Q [.ref p] G) σ H2 [.ref p] := fun G _ Q q => q G (Ex.refl G)
  exact en_sortedP (K := K) ar hp H2 (Ex.refl H2) _ fun v fs H3 e3 fr r => by
    obtain ⟨a, bs, rfl, rfl, ha, hpr⟩ := r
    exact q _ [a] H3 (e2.trans e3) (fun x hx => fresh_back e2 (fr x hx)) ⟨a, rfl, rfl, bs, ha, Paired.mapP hpr fun _ _ z => e3 _ _ z⟩
theorem paired_rev {α β : Type} {F : α → β → Prop} : ∀ {as : List α} {bs : List β}, Paired F as bs → Paired F as.reverse bs.reverse
  | _, _, .nil => .nil
  | _, _, .cons r t => by
    rw [List.reverse_cons, List.reverse_cons]
    exact paired_app (paired_rev t) (.cons r .nil)
theorem evpr_rev {a : Addr} (h : Ev te σ H (.ref a)) (hp : Prs H a ps) : EvPrF (tRevL K te) σ H ps.reverse := fun H1 e Q q => by
  obtain ⟨as, ha, hpr⟩ := hp
  exact el_rev (K := K) h ha H1 e _ fun p H2 hp e2 hl => q _ [p] H2 e2 (fun x hx => by rw [List.mem_singleton.mp hx]; exact hp) ⟨p, rfl, rfl, as.reverse, by rw [hl, List.map_reverse], paired_rev (Paired.mapP hpr fun _ _ z => (e.trans e2) _ _ z)⟩
theorem cutDropA (xs : List V) (m : Nat) : cutV xs (some (m : Int)) none = xs.drop m := by
  by_cases h : m ≤ xs.length
  · exact cut_drop h
  · unfold cutV
    rw [HT.sIx_none, HT.sIx_nat, Nat.min_eq_right (by omega), List.drop_eq_nil_of_le (Nat.le_refl _), List.drop_eq_nil_of_le (by omega), List.take_nil]
theorem evpr_drop {a : Addr} {m : Nat} {tl : TO} (h : Ev te σ H (.ref a)) (hp : Prs H a ps) (ho : EvO tl σ H (some (m : Int))) : EvPrF (tSl (rSlL K) te tl tNoPart) σ H (ps.drop m) := fun H1 e Q q => by
  obtain ⟨as, ha, hpr⟩ := hp
  exact el_is (el_sl (K := K) (lo := some (m : Int)) (hi := none) h ho eo_none (sq_of ha)) (cutDropA _ m) H1 e _ fun p H2 hp e2 hl => q _ [p] H2 e2 (fun x hx => by rw [List.mem_singleton.mp hx]; exact hp) ⟨p, rfl, rfl, as.drop m, by rw [hl, List.map_drop], paired_drop m (Paired.mapP hpr fun _ _ z => (e.trans e2) _ _ z)⟩
theorem q_asgPr {i : Nat} {D : Ends} {tz : TS} (h : EvPrF te σ H ps) (k : ∀ p H1, H p = none → Ex H H1 → Prs H1 p ps → tz D (σ.set i (some (.ref p))) H1) : tSeq (tAsg te (gName i)) tz D σ H := h.el (Ex.refl H) k
/-- a != b, lists of pairs -/
theorem evpr_ne {b : Bool} (h1 : EvPr ta σ H ps) (h2 : EvPr tb σ H qs) (hb : decide (ps = qs) = b) : Ev (tOp (rNeD K) ta tb) σ H (.bl (!b)) := fun H1 e Q q =>
  h1 H1 e _ fun v fs H2 e2 _ r => h2 H2 (e.trans e2) _ fun v2 fs2 H3 e3 _ r2 => by
    obtain ⟨a, rfl, ha⟩ := r
    obtain ⟨c, rfl, hc⟩ := r2
    have hr := rv_neP (K := K) (ha.go e3) hc
    rw [hb] at hr
    exact hr H3 (Ex.refl H3) _ fun H4 e4 => q H4 ((e2.trans e3).trans e4)
theorem evpr_eq {b : Bool} (h1 : EvPr ta σ H ps) (h2 : EvPr tb σ H qs) (hb : decide (ps = qs) = b) : Ev (tOp (rEqD K) ta tb) σ H (.bl b) := fun H1 e Q q =>
  h1 H1 e _ fun v fs H2 e2 _ r => h2 H2 (e.trans e2) _ fun v2 fs2 H3 e3 _ r2 => by
    obtain ⟨a, rfl, ha⟩ := r
    obtain ⟨c, rfl, hc⟩ := r2
    have hr := rv_eqP (K := K) (ha.go e3) hc
    rw [hb] at hr
    exact hr H3 (Ex.refl H3) _ fun H4 e4 => q H4 ((e2.trans e3).trans e4)
theorem EvPr.ep {P : HV} (h : EvPr te σ H ps) (k : ∀ p G, Ex H G → Prs G p ps → P G (.ref p)) : EvP te σ H P := fun H1 e Q q => h H1 e Q fun v fs H2 e2 _ ⟨p, h1, h3⟩ => by
  subst h1
  exact q _ H2 e2 (k p H2 (e.trans e2) h3)
theorem EvPrF.ep {P : HV} (h : EvPrF te σ H ps) (k : ∀ p G, H p = none → Ex H G → Prs G p ps → P G (.ref p)) : EvP te σ H P := fun H1 e Q q => h.el e fun p H2 hp e2 h3 => q _ H2 e2 (k p H2 (fresh_back e hp) (e.trans e2) h3)
end
end OP
namespace OP
open PySem PySem.Spec PyProof.Rows L2 Evl
section
variable {K : PySem.W.Frag} {σ : L2.St} {H H' : Hp} {ta tb te tl tx : TE} {x y z v : V} {ps qs : List (Nat × Nat)} {D : Ends} {tz : TS}
theorem s_appP {l : Addr} {i j : Nat} (hl : Prs H l ps) (few : ps.length ≤ 90000) (ha : Ev ta σ H (.ref l)) (h : EvU te σ H [vn i, vn j]) (k : ∀ H1 o, Ex H H1 → Prs (upd H1 l o) l (ps ++ [(i, j)]) → D.nx σ (upd H1 l o)) : tDrop (tBM K "list" rAppend ta (tCons te tNil)) D σ H := by
  obtain ⟨as, h1, h2⟩ := hl
  exact s_appU h1 ha h (by rw [List.length_map, paired_len h2]; omega) fun t H1 ht e1 ht1 => k H1 _ e1 (Prs.snoc (e1 _ _ h1) (Paired.mapP h2 fun _ _ z => e1 _ _ z) ht1)
/-- found.append(x), x a pair that is there -/
theorem q_appR {l t : Addr} {r : Nat × Nat} (hl : Prs H l ps) (few : ps.length ≤ 90000) (ha : Ev ta σ H (.ref l)) (h : Ev te σ H (.ref t)) (ht : Pr H t r) (k : ∀ H1 o, Ex H H1 → Prs (upd H1 l o) l (ps ++ [r]) → tz D σ (upd H1 l o)) : tSeq (tDrop (tBM K "list" rAppend ta (tCons te tNil))) tz D σ H := by
  obtain ⟨as, h1, h2⟩ := hl
  refine q_dropM (vs := [.ref t]) ha h1 (ea_cons h ea_nil) fun H1 e1 => ⟨l, as.map V.ref, .ref t, rfl, rfl, e1 _ _ h1, sz_lt (by rw [List.length_map, paired_len h2]; omega), ?_⟩
  exact k H1 _ e1 (Prs.snoc (e1 _ _ h1) (Paired.mapP h2 fun _ _ z => e1 _ _ z) (e1 _ _ ht))
theorem s_appR {l t : Addr} {r : Nat × Nat} (hl : Prs H l ps) (few : ps.length ≤ 90000) (ha : Ev ta σ H (.ref l)) (h : Ev te σ H (.ref t)) (ht : Pr H t r) (k : ∀ H1 o, Ex H H1 → Prs (upd H1 l o) l (ps ++ [r]) → D.nx σ (upd H1 l o)) : tDrop (tBM K "list" rAppend ta (tCons te tNil)) D σ H := by
  obtain ⟨as, h1, h2⟩ := hl
  refine s_dropM (vs := [.ref t]) ha h1 (ea_cons h ea_nil) fun H1 e1 => ⟨l, as.map V.ref, .ref t, rfl, rfl, e1 _ _ h1, sz_lt (by rw [List.length_map, paired_len h2]; omega), ?_⟩
  exact k H1 _ e1 (Prs.snoc (e1 _ _ h1) (Paired.mapP h2 fun _ _ z => e1 _ _ z) (e1 _ _ ht))
theorem prs_last {l : Addr} {r : Nat × Nat} (h : Prs H l (ps ++ [r])) : ∃ xs t, H l = some (.lst (xs ++ [.ref t])) ∧ Pr H t r := by
  obtain ⟨as, h1, h2⟩ := h
  have len := paired_len h2
  rw [List.length_append, List.length_singleton] at len
  obtain ⟨t, ht, hp⟩ := paired_get (i := ps.length) (b := r) h2 (by simp)
  have e := take_snoc ht
  rw [← len, List.take_length] at e
  refine ⟨(as.take ps.length).map V.ref, t, ?_, hp⟩
  rw [h1]
  conv => lhs; rw [e]
  rw [List.map_append]
  rfl
theorem atI_neg {xs : List V} {m : Nat} {v : V} (h1 : 1 ≤ m) (h2 : m ≤ xs.length) (h : xs[xs.length - m]? = some v) : atI xs (-(m : Int)) = some v := by
  unfold atI ixN
  rw [if_neg (by omega), if_pos (by omega)]
  show xs[(-(m : Int) + (xs.length : Int)).toNat]? = _
  rw [← h]
  congr 1
  omega
theorem ev_allTup {l : Addr} {j : Nat} {vs : List Nat} (h : Ev tl σ H (.ref l)) (hl : Prs H l ps) (few : ps.length ≤ 40000) (hw : ∀ x, wipe ((wipe σ vs).set j (some x)) vs = wipe σ vs) (hv : ∀ x, ((wipe σ vs).set j (some x))[j]? = some (some x)) :
    Ev (tCB (rAll K) (tCons (tLc (iList K tl) (gName j) tYes (tCB (rIsi K) (tCons (tVar j) (tCons (tC (.ty "tuple")) tNil))) vs) tNil)) σ H (.bl true) := by
  obtain ⟨as, h1, h2⟩ := hl
  have len := paired_len h2
  refine ev_is (ev_all (bs := List.replicate as.length true) (el_map (xs := as.map V.ref) h (sq_of h1) (by rw [List.length_map]; omega) hw (by simp) (fun i x y H1 e1 hx hy => ?_))) (by simp)
  obtain ⟨b, hb, rfl⟩ := map_get hx
  obtain ⟨r, _, hr⟩ := prs_pick h2 b (List.mem_of_getElem? hb)
  have : y = .bl true := by
    rw [List.map_replicate] at hy
    exact (List.mem_replicate.mp (List.mem_of_getElem? hy)).2
  subst this
  exact ev_cb (ea_cons (ev_var (hv _)) (ea_cons ev_c ea_nil)) (rc_kind (kind_of (.base (.tup (e1 _ _ hr))) (by decide +kernel)))
end
end OP
namespace OP
open PySem PySem.Spec PyProof.Rows L2 Evl
section
variable {K : PySem.W.Frag} {σ : L2.St} {H H' : Hp} {te : TE} {tr : TA} {v : V} {Q : List V → Hp → Prop}
theorem ag_ev (h : Ev te σ H v) (k : ∀ H1, Ex H H1 → tr σ H1 fun vs H2 => Q (v :: vs) H2) : tCons te tr σ H Q := h H (Ex.refl H) _ fun H1 e => k H1 e
theorem ag_el {xs : List V} (h : EvL te σ H xs) (k : ∀ p H1, H p = none → Ex H H1 → H1 p = some (.lst xs) → tr σ H1 fun vs H2 => Q (.ref p :: vs) H2) : tCons te tr σ H Q := h H (Ex.refl H) _ fun p H1 hp e h1 => k p H1 hp e h1
theorem ag_nil (h : Q [] H) : tNil σ H Q := h
theorem call_ag {sp : Sp} {dvs : List V} {E : XK} {ta : TA} {R : VK} (h : ta σ H fun vs H1 => sp (vs ++ dvs) H1 R E) : tCall sp dvs E ta σ H R := h
end
end OP

namespace OP
open PySem PySem.Spec PyProof.Rows L2 Evl
open L2H (RoomH PinOk cxH inv_startH roomH_of)
def top (i : Nat) : Stmt := PySem.Challenge.pw_oddpairs_k04_ways_turned.main.body.getD i (.Pass ⟨0, 0, 0, 0⟩)
abbrev s_is_whole : Stmt := top 11
abbrev N_is_whole : List Str := ["thing"]
theorem sc_is_whole : FnScope N_is_whole ["thing"] (defScope s_is_whole) := ⟨rfl, rfl, rfl, by decide +kernel, rfl, by decide +kernel, by decide +kernel⟩
abbrev s_is_place : Stmt := top 12
abbrev N_is_place : List Str := ["size", "thing"]
theorem sc_is_place : FnScope N_is_place ["size", "thing"] (defScope s_is_place) := ⟨rfl, rfl, rfl, by decide +kernel, rfl, by decide +kernel, by decide +kernel⟩
abbrev s_is_tie : Stmt := top 13
abbrev N_is_tie : List Str := ["size", "thing"]
theorem sc_is_tie : FnScope N_is_tie ["size", "thing"] (defScope s_is_tie) := ⟨rfl, rfl, rfl, by decide +kernel, rfl, by decide +kernel, by decide +kernel⟩
abbrev s_Net_init : Stmt := inClass (top 14) 0
abbrev N_Net_init : List Str := ["self", "size", "ties", "one", "other", "place", "row", "tie"]
theorem sc_Net_init : FnScope N_Net_init ["self", "size", "ties"] (defScope s_Net_init) := ⟨rfl, rfl, rfl, by decide +kernel, rfl, by decide +kernel, by decide +kernel⟩
abbrev s_Net_ties : Stmt := inClass (top 14) 1
abbrev N_Net_ties : List Str := ["self", "found", "one", "other"]
theorem sc_Net_ties : FnScope N_Net_ties ["self"] (defScope s_Net_ties) := ⟨rfl, rfl, rfl, by decide +kernel, rfl, by decide +kernel, by decide +kernel⟩
abbrev s_mates_of : Stmt := top 17
abbrev N_mates_of : List Str := ["net", "pairs", "mates", "pair", "one", "other", "place"]
theorem sc_mates_of : FnScope N_mates_of ["net", "pairs"] (defScope s_mates_of) := ⟨rfl, rfl, rfl, by decide +kernel, rfl, by decide +kernel, by decide +kernel⟩
abbrev s_pairs_of : Stmt := top 18
abbrev N_pairs_of : List Str := ["mates", "place"]
theorem sc_pairs_of : FnScope N_pairs_of ["mates"] (defScope s_pairs_of) := ⟨rfl, rfl, rfl, by decide +kernel, rfl, by decide +kernel, by decide +kernel⟩
abbrev s_is_way : Stmt := top 19
abbrev N_is_way : List Str := ["net", "mates", "way", "at", "place"]
theorem sc_is_way : FnScope N_is_way ["net", "mates", "way"] (defScope s_is_way) := ⟨rfl, rfl, rfl, by decide +kernel, rfl, by decide +kernel, by decide +kernel⟩
abbrev s_turned_mates : Stmt := top 20
abbrev N_turned_mates : List Str := ["mates", "way", "found", "at"]
theorem sc_turned_mates : FnScope N_turned_mates ["mates", "way"] (defScope s_turned_mates) := ⟨rfl, rfl, rfl, by decide +kernel, rfl, by decide +kernel, by decide +kernel⟩
abbrev s_turned : Stmt := top 21
abbrev N_turned : List Str := ["net", "pairs", "way", "mates"]
theorem sc_turned : FnScope N_turned ["net", "pairs", "way"] (defScope s_turned) := ⟨rfl, rfl, rfl, by decide +kernel, rfl, by decide +kernel, by decide +kernel⟩
abbrev s_l_sole : Stmt := top 23
abbrev N_l_sole : List Str := ["_law_error", "_law_many"]
theorem sc_l_sole : FnScope N_l_sole ["_law_error"] (defScope s_l_sole) := ⟨rfl, rfl, rfl, by decide +kernel, rfl, by decide +kernel, by decide +kernel⟩
abbrev s_l_cell_at : Stmt := top 25
abbrev N_l_cell_at : List Str := ["_law_script", "_law_k"]
theorem sc_l_cell_at : FnScope N_l_cell_at ["_law_script", "_law_k"] (defScope s_l_cell_at) := ⟨rfl, rfl, rfl, by decide +kernel, rfl, by decide +kernel, by decide +kernel⟩
abbrev s_l_mixed : Stmt := top 26
abbrev N_l_mixed : List Str := ["_law_size", "_law_cell", "_law_found", "_law_place"]
theorem sc_l_mixed : FnScope N_l_mixed ["_law_size", "_law_cell"] (defScope s_l_mixed) := ⟨rfl, rfl, rfl, by decide +kernel, rfl, by decide +kernel, by decide +kernel⟩
abbrev s_l_tie : Stmt := top 27
abbrev N_l_tie : List Str := ["_law_one", "_law_other"]
theorem sc_l_tie : FnScope N_l_tie ["_law_one", "_law_other"] (defScope s_l_tie) := ⟨rfl, rfl, rfl, by decide +kernel, rfl, by decide +kernel, by decide +kernel⟩
abbrev s_l_refused : Stmt := top 28
abbrev N_l_refused : List Str := ["_law_net", "_law_pairs", "_law_way", "_law_error"]
theorem sc_l_refused : FnScope N_l_refused ["_law_net", "_law_pairs", "_law_way"] (defScope s_l_refused) := ⟨rfl, rfl, rfl, by decide +kernel, rfl, by decide +kernel, by decide +kernel⟩
abbrev s_l_wrong_by : Stmt := top 29
abbrev N_l_wrong_by : List Str := ["_law_way", "_law_cell", "_law_at"]
theorem sc_l_wrong_by : FnScope N_l_wrong_by ["_law_way", "_law_cell"] (defScope s_l_wrong_by) := ⟨rfl, rfl, rfl, by decide +kernel, rfl, by decide +kernel, by decide +kernel⟩
abbrev s_l_wrong : Stmt := top 30
abbrev N_l_wrong : List Str := ["_law_way", "_law_cell", "_law_some"]
theorem sc_l_wrong : FnScope N_l_wrong ["_law_way", "_law_cell"] (defScope s_l_wrong) := ⟨rfl, rfl, rfl, by decide +kernel, rfl, by decide +kernel, by decide +kernel⟩
abbrev s_l_untied : Stmt := top 31
abbrev N_l_untied : List Str := ["_law_way", "_law_ties", "_law_at"]
theorem sc_l_untied : FnScope N_l_untied ["_law_way", "_law_ties"] (defScope s_l_untied) := ⟨rfl, rfl, rfl, by decide +kernel, rfl, by decide +kernel, by decide +kernel⟩
abbrev s_l_other_way : Stmt := top 32
abbrev N_l_other_way : List Str := ["_law_net", "_law_handed", "_law_pairs", "_law_way", "_law_due", "_law_row", "_law_road", "_law_end"]
theorem sc_l_other_way : FnScope N_l_other_way ["_law_net", "_law_handed", "_law_pairs", "_law_way", "_law_due"] (defScope s_l_other_way) := ⟨rfl, rfl, rfl, by decide +kernel, rfl, by decide +kernel, by decide +kernel⟩
abbrev s_l_all_refused : Stmt := top 33
abbrev N_l_all_refused : List Str := ["_law_net", "_law_handed", "_law_way", "_law_ties", "_law_wrong_here", "_law_other"]
theorem sc_l_all_refused : FnScope N_l_all_refused ["_law_net", "_law_handed", "_law_way", "_law_ties", "_law_wrong_here"] (defScope s_l_all_refused) := ⟨rfl, rfl, rfl, by decide +kernel, rfl, by decide +kernel, by decide +kernel⟩
abbrev s_law : Stmt := top 34
abbrev N_law : List Str := ["_law_script", "_law_steps", "_law_more", "_law_order", "_law_way", "_law_rest", "_law_pairs", "_law_due", "_law_ties", "_law_k", "_law_cell", "_law_other", "_law_net", "_law_handed", "_law_given", "_law_found", "_law_wrong_here", "_law_at", "_law_pair"]
theorem sc_law : FnScope N_law ["_law_script"] (defScope s_law) := ⟨rfl, rfl, rfl, by decide +kernel, rfl, by decide +kernel, by decide +kernel⟩
structure Txt (K : PySem.W.Frag) (mg : Str → Option Value) where
  C_NetError : Addr
  g_NetError : mg "NetError" = some (.ref C_NetError)
  C_BadNet : Addr
  g_BadNet : mg "BadNet" = some (.ref C_BadNet)
  C_NoPlace : Addr
  g_NoPlace : mg "NoPlace" = some (.ref C_NoPlace)
  C_BadPairs : Addr
  g_BadPairs : mg "BadPairs" = some (.ref C_BadPairs)
  C_BadWay : Addr
  g_BadWay : mg "BadWay" = some (.ref C_BadWay)
  C_TieThere : Addr
  g_TieThere : mg "TieThere" = some (.ref C_TieThere)
  C_NoTie : Addr
  g_NoTie : mg "NoTie" = some (.ref C_NoTie)
  C_OddRing : Addr
  g_OddRing : mg "OddRing" = some (.ref C_OddRing)
  C_Net : Addr
  g_Net : mg "Net" = some (.ref C_Net)
  x_NetError : PySem.W.excIn K C_NetError [.type "ValueError", .type "Exception", .type "BaseException", .type "object"] "ValueError.__new__" = true
  kp_NetError : PySem.W.keepIn K (.ref C_NetError) = true
  sb_NetError : PySem.W.subIn K (.ref C_NetError) (.type "BaseException") = some true
  ty_NetError : PySem.W.typeIn K (.ref C_NetError) = some (.type "type")
  ic_NetError : PySem.W.isClsIn K C_NetError = true
  ec_NetError : ExcC K C_NetError
  ve_NetError : PySem.W.kitOne K (.ref C_NetError) (.type "ValueError") = some true
  ki_NetError_NetError : PySem.W.kitOne K (.ref C_NetError) (.ref C_NetError) = some true
  em_NetError : PySem.W.exmOne K (.ref C_NetError) (.ref C_NetError) = some true
  x_BadNet : PySem.W.excIn K C_BadNet [.type "ValueError", .type "Exception", .type "BaseException", .type "object"] "ValueError.__new__" = true
  kp_BadNet : PySem.W.keepIn K (.ref C_BadNet) = true
  sb_BadNet : PySem.W.subIn K (.ref C_BadNet) (.type "BaseException") = some true
  ty_BadNet : PySem.W.typeIn K (.ref C_BadNet) = some (.type "type")
  ic_BadNet : PySem.W.isClsIn K C_BadNet = true
  ec_BadNet : ExcC K C_BadNet
  ve_BadNet : PySem.W.kitOne K (.ref C_BadNet) (.type "ValueError") = some true
  ki_BadNet_NetError : PySem.W.kitOne K (.ref C_BadNet) (.ref C_NetError) = some true
  ki_BadNet_BadNet : PySem.W.kitOne K (.ref C_BadNet) (.ref C_BadNet) = some true
  ki_BadNet_NoPlace : PySem.W.kitOne K (.ref C_BadNet) (.ref C_NoPlace) = some false
  ki_BadNet_BadPairs : PySem.W.kitOne K (.ref C_BadNet) (.ref C_BadPairs) = some false
  ki_BadNet_BadWay : PySem.W.kitOne K (.ref C_BadNet) (.ref C_BadWay) = some false
  ki_BadNet_TieThere : PySem.W.kitOne K (.ref C_BadNet) (.ref C_TieThere) = some false
  ki_BadNet_NoTie : PySem.W.kitOne K (.ref C_BadNet) (.ref C_NoTie) = some false
  ki_BadNet_OddRing : PySem.W.kitOne K (.ref C_BadNet) (.ref C_OddRing) = some false
  em_BadNet : PySem.W.exmOne K (.ref C_BadNet) (.ref C_BadNet) = some true
  x_NoPlace : PySem.W.excIn K C_NoPlace [.type "ValueError", .type "Exception", .type "BaseException", .type "object"] "ValueError.__new__" = true
  kp_NoPlace : PySem.W.keepIn K (.ref C_NoPlace) = true
  sb_NoPlace : PySem.W.subIn K (.ref C_NoPlace) (.type "BaseException") = some true
  ty_NoPlace : PySem.W.typeIn K (.ref C_NoPlace) = some (.type "type")
  ic_NoPlace : PySem.W.isClsIn K C_NoPlace = true
  ec_NoPlace : ExcC K C_NoPlace
  ve_NoPlace : PySem.W.kitOne K (.ref C_NoPlace) (.type "ValueError") = some true
  ki_NoPlace_NetError : PySem.W.kitOne K (.ref C_NoPlace) (.ref C_NetError) = some true
  ki_NoPlace_BadNet : PySem.W.kitOne K (.ref C_NoPlace) (.ref C_BadNet) = some false
  ki_NoPlace_NoPlace : PySem.W.kitOne K (.ref C_NoPlace) (.ref C_NoPlace) = some true
  ki_NoPlace_BadPairs : PySem.W.kitOne K (.ref C_NoPlace) (.ref C_BadPairs) = some false
  ki_NoPlace_BadWay : PySem.W.kitOne K (.ref C_NoPlace) (.ref C_BadWay) = some false
  ki_NoPlace_TieThere : PySem.W.kitOne K (.ref C_NoPlace) (.ref C_TieThere) = some false
  ki_NoPlace_NoTie : PySem.W.kitOne K (.ref C_NoPlace) (.ref C_NoTie) = some false
  ki_NoPlace_OddRing : PySem.W.kitOne K (.ref C_NoPlace) (.ref C_OddRing) = some false
  em_NoPlace : PySem.W.exmOne K (.ref C_NoPlace) (.ref C_NoPlace) = some true
  x_BadPairs : PySem.W.excIn K C_BadPairs [.type "ValueError", .type "Exception", .type "BaseException", .type "object"] "ValueError.__new__" = true
  kp_BadPairs : PySem.W.keepIn K (.ref C_BadPairs) = true
  sb_BadPairs : PySem.W.subIn K (.ref C_BadPairs) (.type "BaseException") = some true
  ty_BadPairs : PySem.W.typeIn K (.ref C_BadPairs) = some (.type "type")
  ic_BadPairs : PySem.W.isClsIn K C_BadPairs = true
  ec_BadPairs : ExcC K C_BadPairs
  ve_BadPairs : PySem.W.kitOne K (.ref C_BadPairs) (.type "ValueError") = some true
  ki_BadPairs_NetError : PySem.W.kitOne K (.ref C_BadPairs) (.ref C_NetError) = some true
  ki_BadPairs_BadNet : PySem.W.kitOne K (.ref C_BadPairs) (.ref C_BadNet) = some false
  ki_BadPairs_NoPlace : PySem.W.kitOne K (.ref C_BadPairs) (.ref C_NoPlace) = some false
  ki_BadPairs_BadPairs : PySem.W.kitOne K (.ref C_BadPairs) (.ref C_BadPairs) = some true
  ki_BadPairs_BadWay : PySem.W.kitOne K (.ref C_BadPairs) (.ref C_BadWay) = some false
  ki_BadPairs_TieThere : PySem.W.kitOne K (.ref C_BadPairs) (.ref C_TieThere) = some false
  ki_BadPairs_NoTie : PySem.W.kitOne K (.ref C_BadPairs) (.ref C_NoTie) = some false
  ki_BadPairs_OddRing : PySem.W.kitOne K (.ref C_BadPairs) (.ref C_OddRing) = some false
  em_BadPairs : PySem.W.exmOne K (.ref C_BadPairs) (.ref C_BadPairs) = some true
  x_BadWay : PySem.W.excIn K C_BadWay [.type "ValueError", .type "Exception", .type "BaseException", .type "object"] "ValueError.__new__" = true
  kp_BadWay : PySem.W.keepIn K (.ref C_BadWay) = true
  sb_BadWay : PySem.W.subIn K (.ref C_BadWay) (.type "BaseException") = some true
  ty_BadWay : PySem.W.typeIn K (.ref C_BadWay) = some (.type "type")
  ic_BadWay : PySem.W.isClsIn K C_BadWay = true
  ec_BadWay : ExcC K C_BadWay
  ve_BadWay : PySem.W.kitOne K (.ref C_BadWay) (.type "ValueError") = some true
  ki_BadWay_NetError : PySem.W.kitOne K (.ref C_BadWay) (.ref C_NetError) = some true
  ki_BadWay_BadNet : PySem.W.kitOne K (.ref C_BadWay) (.ref C_BadNet) = some false
  ki_BadWay_NoPlace : PySem.W.kitOne K (.ref C_BadWay) (.ref C_NoPlace) = some false
  ki_BadWay_BadPairs : PySem.W.kitOne K (.ref C_BadWay) (.ref C_BadPairs) = some false
  ki_BadWay_BadWay : PySem.W.kitOne K (.ref C_BadWay) (.ref C_BadWay) = some true
  ki_BadWay_TieThere : PySem.W.kitOne K (.ref C_BadWay) (.ref C_TieThere) = some false
  ki_BadWay_NoTie : PySem.W.kitOne K (.ref C_BadWay) (.ref C_NoTie) = some false
  ki_BadWay_OddRing : PySem.W.kitOne K (.ref C_BadWay) (.ref C_OddRing) = some false
  em_BadWay : PySem.W.exmOne K (.ref C_BadWay) (.ref C_BadWay) = some true
  x_TieThere : PySem.W.excIn K C_TieThere [.type "ValueError", .type "Exception", .type "BaseException", .type "object"] "ValueError.__new__" = true
  kp_TieThere : PySem.W.keepIn K (.ref C_TieThere) = true
  sb_TieThere : PySem.W.subIn K (.ref C_TieThere) (.type "BaseException") = some true
  ty_TieThere : PySem.W.typeIn K (.ref C_TieThere) = some (.type "type")
  ic_TieThere : PySem.W.isClsIn K C_TieThere = true
  ec_TieThere : ExcC K C_TieThere
  ve_TieThere : PySem.W.kitOne K (.ref C_TieThere) (.type "ValueError") = some true
  ki_TieThere_NetError : PySem.W.kitOne K (.ref C_TieThere) (.ref C_NetError) = some true
  ki_TieThere_BadNet : PySem.W.kitOne K (.ref C_TieThere) (.ref C_BadNet) = some false
  ki_TieThere_NoPlace : PySem.W.kitOne K (.ref C_TieThere) (.ref C_NoPlace) = some false
  ki_TieThere_BadPairs : PySem.W.kitOne K (.ref C_TieThere) (.ref C_BadPairs) = some false
  ki_TieThere_BadWay : PySem.W.kitOne K (.ref C_TieThere) (.ref C_BadWay) = some false
  ki_TieThere_TieThere : PySem.W.kitOne K (.ref C_TieThere) (.ref C_TieThere) = some true
  ki_TieThere_NoTie : PySem.W.kitOne K (.ref C_TieThere) (.ref C_NoTie) = some false
  ki_TieThere_OddRing : PySem.W.kitOne K (.ref C_TieThere) (.ref C_OddRing) = some false
  em_TieThere : PySem.W.exmOne K (.ref C_TieThere) (.ref C_TieThere) = some true
  x_NoTie : PySem.W.excIn K C_NoTie [.type "ValueError", .type "Exception", .type "BaseException", .type "object"] "ValueError.__new__" = true
  kp_NoTie : PySem.W.keepIn K (.ref C_NoTie) = true
  sb_NoTie : PySem.W.subIn K (.ref C_NoTie) (.type "BaseException") = some true
  ty_NoTie : PySem.W.typeIn K (.ref C_NoTie) = some (.type "type")
  ic_NoTie : PySem.W.isClsIn K C_NoTie = true
  ec_NoTie : ExcC K C_NoTie
  ve_NoTie : PySem.W.kitOne K (.ref C_NoTie) (.type "ValueError") = some true
  ki_NoTie_NetError : PySem.W.kitOne K (.ref C_NoTie) (.ref C_NetError) = some true
  ki_NoTie_BadNet : PySem.W.kitOne K (.ref C_NoTie) (.ref C_BadNet) = some false
  ki_NoTie_NoPlace : PySem.W.kitOne K (.ref C_NoTie) (.ref C_NoPlace) = some false
  ki_NoTie_BadPairs : PySem.W.kitOne K (.ref C_NoTie) (.ref C_BadPairs) = some false
  ki_NoTie_BadWay : PySem.W.kitOne K (.ref C_NoTie) (.ref C_BadWay) = some false
  ki_NoTie_TieThere : PySem.W.kitOne K (.ref C_NoTie) (.ref C_TieThere) = some false
  ki_NoTie_NoTie : PySem.W.kitOne K (.ref C_NoTie) (.ref C_NoTie) = some true
  ki_NoTie_OddRing : PySem.W.kitOne K (.ref C_NoTie) (.ref C_OddRing) = some false
  em_NoTie : PySem.W.exmOne K (.ref C_NoTie) (.ref C_NoTie) = some true
  x_OddRing : PySem.W.excIn K C_OddRing [.type "ValueError", .type "Exception", .type "BaseException", .type "object"] "ValueError.__new__" = true
  kp_OddRing : PySem.W.keepIn K (.ref C_OddRing) = true
  sb_OddRing : PySem.W.subIn K (.ref C_OddRing) (.type "BaseException") = some true
  ty_OddRing : PySem.W.typeIn K (.ref C_OddRing) = some (.type "type")
  ic_OddRing : PySem.W.isClsIn K C_OddRing = true
  ec_OddRing : ExcC K C_OddRing
  ve_OddRing : PySem.W.kitOne K (.ref C_OddRing) (.type "ValueError") = some true
  ki_OddRing_NetError : PySem.W.kitOne K (.ref C_OddRing) (.ref C_NetError) = some true
  ki_OddRing_BadNet : PySem.W.kitOne K (.ref C_OddRing) (.ref C_BadNet) = some false
  ki_OddRing_NoPlace : PySem.W.kitOne K (.ref C_OddRing) (.ref C_NoPlace) = some false
  ki_OddRing_BadPairs : PySem.W.kitOne K (.ref C_OddRing) (.ref C_BadPairs) = some false
  ki_OddRing_BadWay : PySem.W.kitOne K (.ref C_OddRing) (.ref C_BadWay) = some false
  ki_OddRing_TieThere : PySem.W.kitOne K (.ref C_OddRing) (.ref C_TieThere) = some false
  ki_OddRing_NoTie : PySem.W.kitOne K (.ref C_OddRing) (.ref C_NoTie) = some false
  ki_OddRing_OddRing : PySem.W.kitOne K (.ref C_OddRing) (.ref C_OddRing) = some true
  em_OddRing : PySem.W.exmOne K (.ref C_OddRing) (.ref C_OddRing) = some true
  cl_Net : Cls K C_Net
  na_Net_size : NoAttr K C_Net "size"
  na_Net_near : NoAttr K C_Net "near"
  f_is_whole : Addr
  fd_is_whole : FuncData
  F_is_whole : Fun K "is_whole" "is_whole" s_is_whole f_is_whole fd_is_whole
  b_is_whole : Binds K fd_is_whole ["thing"] []
  g_is_whole : mg "is_whole" = some (.ref f_is_whole)
  f_is_place : Addr
  fd_is_place : FuncData
  F_is_place : Fun K "is_place" "is_place" s_is_place f_is_place fd_is_place
  b_is_place : Binds K fd_is_place ["size", "thing"] []
  g_is_place : mg "is_place" = some (.ref f_is_place)
  f_is_tie : Addr
  fd_is_tie : FuncData
  F_is_tie : Fun K "is_tie" "is_tie" s_is_tie f_is_tie fd_is_tie
  b_is_tie : Binds K fd_is_tie ["size", "thing"] []
  g_is_tie : mg "is_tie" = some (.ref f_is_tie)
  f_Net_init : Addr
  fd_Net_init : FuncData
  F_Net_init : Fun K "__init__" "Net.__init__" s_Net_init f_Net_init fd_Net_init
  b_Net_init : Binds K fd_Net_init ["self", "size", "ties"] []
  mk_Net : L2.Mk K C_Net f_Net_init
  f_Net_ties : Addr
  fd_Net_ties : FuncData
  F_Net_ties : Fun K "ties" "Net.ties" s_Net_ties f_Net_ties fd_Net_ties
  b_Net_ties : Binds K fd_Net_ties ["self"] []
  m_Net_ties : Meth K C_Net "ties" f_Net_ties
  f_mates_of : Addr
  fd_mates_of : FuncData
  F_mates_of : Fun K "mates_of" "mates_of" s_mates_of f_mates_of fd_mates_of
  b_mates_of : Binds K fd_mates_of ["net", "pairs"] []
  g_mates_of : mg "mates_of" = some (.ref f_mates_of)
  f_pairs_of : Addr
  fd_pairs_of : FuncData
  F_pairs_of : Fun K "pairs_of" "pairs_of" s_pairs_of f_pairs_of fd_pairs_of
  b_pairs_of : Binds K fd_pairs_of ["mates"] []
  g_pairs_of : mg "pairs_of" = some (.ref f_pairs_of)
  f_is_way : Addr
  fd_is_way : FuncData
  F_is_way : Fun K "is_way" "is_way" s_is_way f_is_way fd_is_way
  b_is_way : Binds K fd_is_way ["net", "mates", "way"] []
  g_is_way : mg "is_way" = some (.ref f_is_way)
  f_turned_mates : Addr
  fd_turned_mates : FuncData
  F_turned_mates : Fun K "turned_mates" "turned_mates" s_turned_mates f_turned_mates fd_turned_mates
  b_turned_mates : Binds K fd_turned_mates ["mates", "way"] []
  g_turned_mates : mg "turned_mates" = some (.ref f_turned_mates)
  f_turned : Addr
  fd_turned : FuncData
  F_turned : Fun K "turned" "turned" s_turned f_turned fd_turned
  b_turned : Binds K fd_turned ["net", "pairs", "way"] []
  g_turned : mg "turned" = some (.ref f_turned)
  f_l_sole : Addr
  fd_l_sole : FuncData
  F_l_sole : Fun K "_law_sole" "_law_sole" s_l_sole f_l_sole fd_l_sole
  b_l_sole : Binds K fd_l_sole ["_law_error"] []
  g_l_sole : mg "_law_sole" = some (.ref f_l_sole)
  f_l_cell_at : Addr
  fd_l_cell_at : FuncData
  F_l_cell_at : Fun K "_law_cell_at" "_law_cell_at" s_l_cell_at f_l_cell_at fd_l_cell_at
  b_l_cell_at : Binds K fd_l_cell_at ["_law_script", "_law_k"] []
  g_l_cell_at : mg "_law_cell_at" = some (.ref f_l_cell_at)
  f_l_mixed : Addr
  fd_l_mixed : FuncData
  F_l_mixed : Fun K "_law_mixed" "_law_mixed" s_l_mixed f_l_mixed fd_l_mixed
  b_l_mixed : Binds K fd_l_mixed ["_law_size", "_law_cell"] []
  g_l_mixed : mg "_law_mixed" = some (.ref f_l_mixed)
  f_l_tie : Addr
  fd_l_tie : FuncData
  F_l_tie : Fun K "_law_tie" "_law_tie" s_l_tie f_l_tie fd_l_tie
  b_l_tie : Binds K fd_l_tie ["_law_one", "_law_other"] []
  g_l_tie : mg "_law_tie" = some (.ref f_l_tie)
  f_l_refused : Addr
  fd_l_refused : FuncData
  F_l_refused : Fun K "_law_refused" "_law_refused" s_l_refused f_l_refused fd_l_refused
  b_l_refused : Binds K fd_l_refused ["_law_net", "_law_pairs", "_law_way"] []
  g_l_refused : mg "_law_refused" = some (.ref f_l_refused)
  f_l_wrong_by : Addr
  fd_l_wrong_by : FuncData
  F_l_wrong_by : Fun K "_law_wrong_by" "_law_wrong_by" s_l_wrong_by f_l_wrong_by fd_l_wrong_by
  b_l_wrong_by : Binds K fd_l_wrong_by ["_law_way", "_law_cell"] []
  g_l_wrong_by : mg "_law_wrong_by" = some (.ref f_l_wrong_by)
  f_l_wrong : Addr
  fd_l_wrong : FuncData
  F_l_wrong : Fun K "_law_wrong" "_law_wrong" s_l_wrong f_l_wrong fd_l_wrong
  b_l_wrong : Binds K fd_l_wrong ["_law_way", "_law_cell"] []
  g_l_wrong : mg "_law_wrong" = some (.ref f_l_wrong)
  f_l_untied : Addr
  fd_l_untied : FuncData
  F_l_untied : Fun K "_law_untied" "_law_untied" s_l_untied f_l_untied fd_l_untied
  b_l_untied : Binds K fd_l_untied ["_law_way", "_law_ties"] []
  g_l_untied : mg "_law_untied" = some (.ref f_l_untied)
  f_l_other_way : Addr
  fd_l_other_way : FuncData
  F_l_other_way : Fun K "_law_other_way" "_law_other_way" s_l_other_way f_l_other_way fd_l_other_way
  b_l_other_way : Binds K fd_l_other_way ["_law_net", "_law_handed", "_law_pairs", "_law_way", "_law_due"] []
  g_l_other_way : mg "_law_other_way" = some (.ref f_l_other_way)
  f_l_all_refused : Addr
  fd_l_all_refused : FuncData
  F_l_all_refused : Fun K "_law_all_refused" "_law_all_refused" s_l_all_refused f_l_all_refused fd_l_all_refused
  b_l_all_refused : Binds K fd_l_all_refused ["_law_net", "_law_handed", "_law_way", "_law_ties", "_law_wrong_here"] []
  g_l_all_refused : mg "_law_all_refused" = some (.ref f_l_all_refused)
  f_law : Addr
  fd_law : FuncData
  F_law : Fun K "law" "law" s_law f_law fd_law
  b_law : Binds K fd_law ["_law_script"] []
  g_law : mg "law" = some (.ref f_law)
  g_MOST_PLACES : ∃ t, mg "MOST_PLACES" = some (.int 40 t)
  n_ValueError : mg "ValueError" = none
  n_all : mg "all" = none
  n_bool : mg "bool" = none
  n_int : mg "int" = none
  n_isinstance : mg "isinstance" = none
  n_len : mg "len" = none
  n_list : mg "list" = none
  n_max : mg "max" = none
  n_min : mg "min" = none
  n_range : mg "range" = none
  n_set : mg "set" = none
  n_sorted : mg "sorted" = none
  n_tuple : mg "tuple" = none
local macro_rules | `(tactic| walk_at "f") => `(tactic| first
  | with_reducible assumption
  | (with_reducible refine sq_of ?_; walk_at "f")
  | (with_reducible refine st_of ?_; walk_at "f")
  | (with_reducible refine ex_l (by with_reducible assumption) ?_; walk_at "f")
  | (with_reducible refine ex_t (by with_reducible assumption) ?_; walk_at "f")
  | (refine (by with_reducible assumption : Ex _ _) _ _ ?_; walk_at "f"))
local macro_rules | `(tactic| walk_at "ev") => `(tactic| repeat' (first
  | with_reducible exact ev_c
  | with_reducible exact ev_var rfl
  | exact ev_var rfl
  | with_reducible exact ea_nil
  | with_reducible refine ea_cons ?_ ?_
  | with_reducible refine ev_op ?_ ?_ rv_I0
  | with_reducible refine ev_op ?_ ?_ rv_isN
  | with_reducible refine ev_op ?_ ?_ rv_notN
  | with_reducible refine ev_op ?_ ?_ (rv_eq ?_)
  | with_reducible refine ev_op ?_ ?_ (rv_ne ?_)
  | with_reducible refine ev_op ?_ ?_ (rv_I ?_)
  | with_reducible refine ev_op ?_ ?_ (rv_ixL ?_ ?_)
  | with_reducible refine ev_op ?_ ?_ (rv_ixT ?_ ?_)
  | with_reducible refine ev_un ?_ ru_neg
  | with_reducible refine et_test ?_
  | with_reducible refine et_B ?_
  | with_reducible refine et_not ?_
  | with_reducible refine et_and ?_ (fun _ => ?_)
  | with_reducible refine et_or ?_ (fun _ => ?_)
  | with_reducible refine ev_andV ?_ (fun _ => ?_)
  | with_reducible refine ev_orV ?_ (fun _ => ?_)
  | with_reducible refine ev_notV ?_
  | with_reducible refine ev_call ?_ ?_
  | (refine ev_len ?_ ?_)
  | (with_reducible refine ev_cb ?_ ?_)))
section
variable {P : Program} {w : World} {K : PySem.W.Frag} {mg : Str → Option Value} {base : Heap}
/-! is_whole -/
def R_whole (K : PySem.W.Frag) (H : Hp) (v z : V) : Prop := (∃ i, v = .int i ∧ z = .bl true) ∨ (NonInt K H v ∧ z = .bl false)
def sp_is_whole (K : PySem.W.Frag) : Sp := pureSp fun H vs z => ∃ v, vs = [v] ∧ R_whole K H v z
theorem ok_is_whole (T : Txt K mg) : FnOk P w K mg base CX0 1 T.f_is_whole T.fd_is_whole ["thing"] (sp_is_whole K) := by
  refine T.F_is_whole.ok sc_is_whole (fun vs H Q E h => ?_) (fun cdv A outer s H vs Q E hr h => ?_)
  · obtain ⟨z, ⟨v, rfl, _⟩, _⟩ := h
    rfl
  · obtain ⟨z, ⟨v, rfl, r⟩, q⟩ := h
    refine ⟨_, (pss_one (ps_ret (pe_and (pe_callB (r := rIsi K) call_isi (by rfl) T.n_isinstance (by decide +kernel) (pa_cons (pv 0) (pa_cons (pe_bltn (v := .ty "int") (by rfl) T.n_int (by decide +kernel) rfl) pa_nil))) (pe_one (pe_not (pe_callB (r := rIsi K) call_isi (by rfl) T.n_isinstance (by decide +kernel) (pa_cons (pv 0) (pa_cons (pe_bltn (v := .ty "bool") (by rfl) T.n_bool (by decide +kernel) rfl) pa_nil)))))))), s_ret ?_ q⟩
    obtain ⟨t, b1, b2, ty, k1, k2, e⟩ : ∃ t b1 b2, TyX K H v t ∧ PySem.W.kitOne K t (.type "int") = some b1 ∧ PySem.W.kitOne K t (.type "bool") = some b2 ∧ z = .bl (b1 && !b2) := by
      rcases r with ⟨i, rfl, rfl⟩ | ⟨⟨t, b1, b2, ty, k1, k2, e⟩, rfl⟩
      · exact ⟨_, _, _, .base (.int i), kit_ty (by decide +kernel : _ = some true), kit_ty (by decide +kernel : _ = some false), rfl⟩
      · exact ⟨_, _, _, ty, k1, k2, by rw [e]⟩
    exact ev_is (ev_andV (ev_cb (ea_cons (ev_var rfl) (ea_cons ev_c ea_nil)) (rc_isi ty (.ty _) k1)) (fun _ => ev_notV (ev_cb (ea_cons (ev_var rfl) (ea_cons ev_c ea_nil)) (rc_isi ty (.ty _) k2)))) e.symm
theorem R_whole.go {H H' : Hp} {v z : V} (r : R_whole K H v z) (s : Ex H H') : R_whole K H' v z := r.imp id fun ⟨n, e⟩ => ⟨n.go s, e⟩
theorem spv_whole {H : Hp} {v z : V} (r : R_whole K H v z) : SpV (sp_is_whole K) [v] H z := spv_pure fun H1 e => ⟨v, rfl, r.go e⟩
/-! is_place -/
def isPl (n : Int) (v : V) : Bool := match v with | .int i => decide (0 ≤ i) && decide (i < n) | _ => false
/-- an int, or what is none -/
def Sca (K : PySem.W.Frag) (H : Hp) (v : V) : Prop := (∃ i, v = .int i) ∨ NonInt K H v ∧ ∀ i, v ≠ .int i
theorem Sca.go {H H' : Hp} {v : V} (r : Sca K H v) (s : Ex H H') : Sca K H' v := r.imp id fun ⟨n, e⟩ => ⟨n.go s, e⟩
theorem sca_int (H : Hp) (i : Int) : Sca K H (.int i) := .inl ⟨i, rfl⟩
theorem sca_bl (G : Hp) (b : Bool) : Sca K G (.bl b) := .inr ⟨nonInt_bl b, fun i z => by cases z⟩
theorem sca_str (G : Hp) (z : Str) : Sca K G (.str z) := .inr ⟨nonInt_str z, fun i z => by cases z⟩
theorem sca_non (G : Hp) : Sca K G .non := .inr ⟨nonInt_non, fun i z => by cases z⟩
def sp_is_place (K : PySem.W.Frag) : Sp := pureSp fun H vs z => ∃ n v, vs = [.int n, v] ∧ Sca K H v ∧ z = .bl (isPl n v)
theorem ok_is_place (T : Txt K mg) : FnOk P w K mg base CX0 2 T.f_is_place T.fd_is_place ["size", "thing"] (sp_is_place K) := by
  refine T.F_is_place.ok sc_is_place (fun vs H Q E h => ?_) (fun cdv A outer s H vs Q E hr h => ?_)
  · obtain ⟨z, ⟨n, v, rfl, _⟩, _⟩ := h
    rfl
  · obtain ⟨z, ⟨n, v, rfl, r, rfl⟩, q⟩ := h
    refine ⟨_, (pss_one (ps_ret (pe_and (pe_call (ok_is_whole T) (hr.mono (by decide)) (by rfl) T.g_is_whole T.F_is_whole.kp T.b_is_whole .nil pass0 (pa_cons (pv 1) pa_nil)) (pe_one (pe_chain op_le op_lt pe_int (pv 1) (pv 0)))))), s_ret ?_ q⟩
    rcases r with ⟨i, rfl⟩ | ⟨ni, no⟩
    · exact ev_is (ev_andV (a := true) (ev_call (ea_cons (ev_var rfl) ea_nil) (spv_whole (.inl ⟨i, rfl, rfl⟩))) (fun _ => ev_chain ev_c (ev_var rfl) rv_I0 (fun _ => ev_var rfl) (fun _ => rv_I0))) (by simp [isPl])
    · have e : isPl n v = false := by
        unfold isPl
        split
        · exact absurd rfl (no _)
        · rfl
      exact ev_is (ev_andV (a := false) (b := false) (ev_call (ea_cons (ev_var rfl) ea_nil) (spv_whole (.inr ⟨ni, rfl⟩))) (fun z => nomatch z)) (by rw [e]; rfl)
theorem spv_place {H : Hp} {n : Int} {v : V} (r : Sca K H v) : SpV (sp_is_place K) [.int n, v] H (.bl (isPl n v)) := spv_pure fun H1 e => ⟨n, v, rfl, r.go e, rfl⟩
def placeOf (v : V) : Nat := match v with | .int i => i.toNat | _ => 0
theorem isPl_of {n : Nat} {v : V} (h : isPl n v = true) : v = vn (placeOf v) ∧ placeOf v < n := by
  unfold isPl at h
  split at h
  · rename_i i
    simp at h
    refine ⟨?_, ?_⟩
    · show V.int i = V.int ((i.toNat : Nat) : Int)
      rw [Int.toNat_of_nonneg h.1]
    · show i.toNat < n
      omega
  · cases h
/-! is_tie -/
def ltV (x y : V) : Bool := match x, y with | .int i, .int j => decide (i < j) | _, _ => false
/-- is_tie's answer -/
def IsTie (K : PySem.W.Frag) (H : Hp) (n : Int) (v : V) (b : Bool) : Prop :=
  (Kind K H v "tuple" false ∧ b = false) ∨ (∃ a xs, v = .ref a ∧ SqT K H a xs ∧ Kind K H v "tuple" true ∧ xs.length ≠ 2 ∧ b = false) ∨
    (∃ a x y, v = .ref a ∧ SqT K H a [x, y] ∧ Kind K H v "tuple" true ∧ Sca K H x ∧ Sca K H y ∧ b = (isPl n x && isPl n y && ltV x y))
theorem IsTie.go {H H' : Hp} {n : Int} {v : V} {b : Bool} (r : IsTie K H n v b) (s : Ex H H') : IsTie K H' n v b := by
  rcases r with ⟨k, e⟩ | ⟨a, xs, e, h, k, l, f⟩ | ⟨a, x, y, e, h, k, s1, s2, f⟩
  · exact .inl ⟨k.go s, e⟩
  · exact .inr (.inl ⟨a, xs, e, ex_t s h, k.go s, l, f⟩)
  · exact .inr (.inr ⟨a, x, y, e, ex_t s h, k.go s, s1.go s, s2.go s, f⟩)
theorem kind_tup {H : Hp} {a : Addr} {xs : List V} (h : H a = some (.tup xs)) : Kind K H (.ref a) "tuple" true := kind_of (.base (.tup h)) (by decide +kernel)
theorem isTie_pair {H : Hp} {n : Int} {a : Addr} {i j : Int} (h : H a = some (.tup [.int i, .int j])) : IsTie K H n (.ref a) (decide (0 ≤ i) && decide (i < n) && (decide (0 ≤ j) && decide (j < n)) && decide (i < j)) :=
  .inr (.inr ⟨a, _, _, rfl, st_of h, kind_tup h, sca_int _ _, sca_int _ _, rfl⟩)
def sp_is_tie (K : PySem.W.Frag) : Sp := pureSp fun H vs z => ∃ n v b, vs = [.int n, v] ∧ IsTie K H n v b ∧ z = .bl b
theorem ok_is_tie (T : Txt K mg) : FnOk P w K mg base CX0 3 T.f_is_tie T.fd_is_tie ["size", "thing"] (sp_is_tie K) := by
  refine T.F_is_tie.ok sc_is_tie (fun vs H Q E h => ?_) (fun cdv A outer s H vs Q E hr h => ?_)
  · obtain ⟨z, ⟨n, v, b, rfl, _⟩, _⟩ := h
    rfl
  · obtain ⟨z, ⟨n, v, b, rfl, r, rfl⟩, q⟩ := h
    refine ⟨_, (pss_cons (ps_if (PW.pt (pw_or (pt_not (pt_val (pe_callB (r := rIsi K) call_isi (by rfl) T.n_isinstance (by decide +kernel) (pa_cons (pv 1) (pa_cons (pe_bltn (v := .ty "tuple") (by rfl) T.n_tuple (by decide +kernel) rfl) pa_nil))))) (pw_or1 (pt_cmpR op_ne (pe_callB (r := rLenS K) call_len_seq (by rfl) T.n_len (by decide +kernel) (pa_cons (pv 1) pa_nil)) pe_int (nomark _))))) (pss_one (ps_ret pe_bl)) pss_nil)
  (pss_one (ps_ret (pe_and (pe_call (ok_is_place T) (hr.mono (by decide)) (by rfl) T.g_is_place T.F_is_place.kp T.b_is_place .nil pass0 (pa_cons (pv 0) (pa_cons (pe_ix (r := rIxT K) ix_tup (pv 1) pe_int (fun _ _ => rfl)) pa_nil))) (pe_and (pe_call (ok_is_place T) (hr.mono (by decide)) (by rfl) T.g_is_place T.F_is_place.kp T.b_is_place .nil pass0 (pa_cons (pv 0) (pa_cons (pe_ix (r := rIxT K) ix_tup (pv 1) pe_int (fun _ _ => rfl)) pa_nil))) (pe_one (pe_cmpR op_lt (pe_ix (r := rIxT K) ix_tup (pv 1) pe_int (fun _ _ => rfl)) (pe_ix (r := rIxT K) ix_tup (pv 1) pe_int (fun _ _ => rfl)) (nomark _)))))))), ?_⟩
    have len : ∀ a (xs : List V), v = .ref a → SqT K H a xs → Ev (tCB (rLenS K) (tCons (tVar 1) tNil)) (start N_is_tie [.int n, v]) H (.int (xs.length : Nat)) := fun a xs e h => by
      subst e
      exact ev_cb (ea_cons (ev_var rfl) ea_nil) fun H1 e1 Q q => ⟨a, xs, rfl, .inr (ex_t e1 h), q H1 (Ex.refl H1)⟩
    rcases r with ⟨k, rfl⟩ | ⟨a, xs, ev, h, k, l, rfl⟩ | ⟨a, x, y, ev, h, k, s1, s2, rfl⟩
    · exact q_when (et_or (a := true) (b := true) (et_not (et_B (ev_cb (ea_cons (ev_var rfl) (ea_cons ev_c ea_nil)) (rc_kind k)))) (fun z => nomatch z)) (fun _ H1 e1 => s_ret ev_c fun H2 e2 => q H2 (e1.trans e2)) (fun z => nomatch z)
    · refine q_when (et_or (a := false) (b := true) (et_not (et_B (ev_cb (ea_cons (ev_var rfl) (ea_cons ev_c ea_nil)) (rc_kind k)))) (fun _ => et_is (et_test (ev_op (len a xs ev h) ev_c (rv_ne rfl))) ?_)) (fun _ H1 e1 => s_ret ev_c fun H2 e2 => q H2 (e1.trans e2)) (fun z => nomatch z)
      have : ¬ (V.int (xs.length : Nat) = V.int 2) := fun z => l (by injection z with z; omega)
      simp [this]
    · refine q_when (et_or (a := false) (b := false) (et_not (et_B (ev_cb (ea_cons (ev_var rfl) (ea_cons ev_c ea_nil)) (rc_kind k)))) (fun _ => et_is (et_test (ev_op (len a [x, y] ev h) ev_c (rv_ne rfl))) rfl)) (fun z => nomatch z) (fun _ H1 e1 => ?_)
      subst ev
      have i0 : ∀ H1, Ex H H1 → Ev (tOp (rIxT K) (tVar 1) (tC (.int 0))) (start N_is_tie [.int n, .ref a]) H1 x := fun H1 e1 => ev_op (ev_var rfl) ev_c (rv_ixT (K := K) (ex_t e1 h) (atI_nat (j := 0) rfl))
      have i1 : ∀ H1, Ex H H1 → Ev (tOp (rIxT K) (tVar 1) (tC (.int 1))) (start N_is_tie [.int n, .ref a]) H1 y := fun H1 e1 => ev_op (ev_var rfl) ev_c (rv_ixT (K := K) (ex_t e1 h) (atI_nat (j := 1) rfl))
      refine s_ret (ev_is (ev_andV (a := isPl n x) (ev_call (ea_cons (ev_var rfl) (ea_cons (i0 H1 e1) ea_nil)) (spv_place (s1.go e1))) (fun p1 => ev_andV (b := ltV x y) (ev_call (ea_cons (ev_var rfl) (ea_cons (i1 H1 e1) ea_nil)) (spv_place (s2.go e1))) (fun p2 => ?_))) (by rw [Bool.and_assoc])) fun H2 e2 => q H2 (e1.trans e2)
      unfold isPl at p1 p2
      split at p1
      · split at p2
        · exact ev_op (i0 H1 e1) (i1 H1 e1) rv_I0
        · cases p2
      · cases p1
theorem spv_tie {H : Hp} {n : Int} {v : V} {b : Bool} (r : IsTie K H n v b) : SpV (sp_is_tie K) [.int n, v] H (.bl b) := spv_pure fun H1 e => ⟨n, v, b, rfl, r.go e, rfl⟩
/-! Net.__init__ -/
def sp_Net_init (K : PySem.W.Frag) (C E1 : Addr) : Sp := fun vs H Q E => ∃ (p dx : Addr) (v u : V), vs = [.ref p, v, u] ∧ H p = some (.ins C dx []) ∧
  ((Sca K H v ∧ (∀ i, v = .int i → ¬ (1 ≤ i ∧ i ≤ 40)) ∧ ∀ H', Ex H H' → E (.ref E1) none H') ∨
  (∃ n : Nat, v = vn n ∧ 1 ≤ n ∧ n ≤ 40 ∧ Kind K H u "list" false ∧ ∀ H', Ex H H' → E (.ref E1) none H') ∨
  (∃ (n : Nat) (l : Addr) (xs : List V) (bs : List Bool), v = vn n ∧ 1 ≤ n ∧ n ≤ 40 ∧ u = .ref l ∧ H l = some (.lst xs) ∧ xs.length ≤ 30000 ∧ bs.length = xs.length ∧ (∀ (i : Nat) (x : V) (b : Bool), xs[i]? = some x → bs[i]? = some b → IsTie K H n x b) ∧ bs.all id = false ∧ ∀ H', Ex H H' → E (.ref E1) none H') ∨
  (∃ (n : Nat) (l : Addr) (ps : List (Nat × Nat)), v = vn n ∧ 1 ≤ n ∧ n ≤ 40 ∧ u = .ref l ∧ Prs H l ps ∧ TiesOk n ps ∧ ps.length < 1000 ∧ (¬ ps.Nodup → ∀ H', Ex H H' → E (.ref E1) none H') ∧
    (ps.Nodup → ∀ H', But [p] H H' → NetNew C H H' p (webOf n ps) → Q .non H')))
/-- what is no size, of what is an int or not -/
def badSize (v : V) : Bool := match v with | .int i => !(decide (1 ≤ i) && decide (i ≤ 40)) | _ => true
theorem kind_lst {H : Hp} {a : Addr} {xs : List V} (h : H a = some (.lst xs)) : Kind K H (.ref a) "list" true := kind_of (.base (.lst h)) (by decide +kernel)
theorem ok_Net_init (T : Txt K mg) : FnOk P w K mg base (L2.CX P w) 4 T.f_Net_init T.fd_Net_init ["self", "size", "ties"] (sp_Net_init K T.C_Net T.C_BadNet) := by
  refine T.F_Net_init.okX sc_Net_init (fun vs H Q E h => ?_) (fun cdv A outer s H vs Q E hr h => ?_)
  · obtain ⟨p, dx, v, u, rfl, _⟩ := h
    rfl
  · obtain ⟨p, dx, v, u, rfl, hp, h⟩ := h
    obtain ⟨tk, gK_MOST_PLACES⟩ := T.g_MOST_PLACES
    refine ⟨_, (pss_cons (ps_if (PW.pt (pw_or (pt_not (pt_val (pe_call (ok_is_whole T) (hr.mono (by decide)) (by rfl) T.g_is_whole T.F_is_whole.kp T.b_is_whole .nil pass0 (pa_cons (pv 1) pa_nil)))) (pw_or1 (pt_not (pt_chain op_le op_le pe_int (pv 1) (pe_glob (v := .int 40) rfl gK_MOST_PLACES ⟨_, rfl⟩)))))) (pss_one (ps_raise rfl (takes_of rfl rfl rfl rfl) (pmk_own PySem.F.excBase_ValueError T.x_BadNet T.g_BadNet T.kp_BadNet (raises_own T.sb_BadNet T.ty_BadNet) (by rfl)))) pss_nil)
  (pss_cons (ps_if (PW.pt (pw_or (pt_not (pt_val (pe_callB (r := rIsi K) call_isi (by rfl) T.n_isinstance (by decide +kernel) (pa_cons (pv 2) (pa_cons (pe_bltn (v := .ty "list") (by rfl) T.n_list (by decide +kernel) rfl) pa_nil))))) (pw_or1 (pt_not (pt_val (pe_callB (r := rAll K) (cr_all rfl) (by rfl) T.n_all (by decide +kernel) (pa_cons (pe_lc (own := [("tie", 7)]) (g := gName 7) (tt := tYes) rfl sc_Net_init.nd (pi_list (pv 2)) (blkOk_by (own := [("tie", 7)]) (N := N_Net_init) (sc := defScope s_Net_init) (by decide +kernel)) (fun _ _ _ _ _ => (pg_name (i := 7) sc_Net_init.nd rfl (Or.inl rfl))) (fun _ _ _ _ _ => pts_nil) (fun _ _ _ _ _ => (pe_call (ok_is_tie T) (hr.mono (by decide)) (by rfl) T.g_is_tie T.F_is_tie.kp T.b_is_tie .nil pass0 (pa_cons (pv 1) (pa_cons (pv 7) pa_nil))))) pa_nil))))))) (pss_one (ps_raise rfl (takes_of rfl rfl rfl rfl) (pmk_own PySem.F.excBase_ValueError T.x_BadNet T.g_BadNet T.kp_BadNet (raises_own T.sb_BadNet T.ty_BadNet) (by rfl)))) pss_nil)
  (pss_cons (ps_if (pt_cmpR op_lt (pe_lenSetT hr rfl (by rfl) T.n_len (by rfl) T.n_set (pv 2)) (pe_callB (r := rLenS K) call_len_seq (by rfl) T.n_len (by decide +kernel) (pa_cons (pv 2) pa_nil)) (nomark _)) (pss_one (ps_raise rfl (takes_of rfl rfl rfl rfl) (pmk_own PySem.F.excBase_ValueError T.x_BadNet T.g_BadNet T.kp_BadNet (raises_own T.sb_BadNet T.ty_BadNet) (by rfl)))) pss_nil)
  (pss_cons (ps_fld (pv 0) (pv 1) rfl)
  (pss_cons (ps_fld (pv 0) (pe_lc (own := [("place", 5)]) (g := gName 5) (tt := tYes) rfl sc_Net_init.nd (pi_range1 (by rfl) T.n_range (pa_cons (pv 1) pa_nil)) (blkOk_by (own := [("place", 5)]) (N := N_Net_init) (sc := defScope s_Net_init) (by decide +kernel)) (fun _ _ _ _ _ => (pg_name (i := 5) sc_Net_init.nd rfl (Or.inl rfl))) (fun _ _ _ _ _ => pts_nil) (fun _ _ _ _ _ => (pe_lst pa_nil))) rfl)
  (pss_cons (ps_for (passes_of rfl) rfl (pi_list (pe_callB (r := rSortedPO K) cr_sortedPO (by rfl) T.n_sorted (by decide +kernel) (pa_cons (pv 2) pa_nil))) (pg_tup rfl (pgs_cons (pg_name (i := 3) sc_Net_init.nd rfl (Or.inl rfl)) (pgs_cons (pg_name (i := 4) sc_Net_init.nd rfl (Or.inl rfl)) pgs_nil)))
    (pss_cons (ps_expr (pe_bm PySem.F.plainAttrs_list PySem.F.slot_list_append PySem.F.type_list_append mt_append (pe_ix (r := rIxL K) ix_list (pe_fldB (K := K) rfl (pv 0) rfl) (pv 3) (fun _ _ => rfl)) (pa_cons (pv 4) pa_nil)))
  (pss_one (ps_expr (pe_bm PySem.F.plainAttrs_list PySem.F.slot_list_append PySem.F.type_list_append mt_append (pe_ix (r := rIxL K) ix_list (pe_fldB (K := K) rfl (pv 0) rfl) (pv 4) (fun _ _ => rfl)) (pa_cons (pv 3) pa_nil))))))
  (pss_one (ps_fld (pv 0) (pe_lc (own := [("row", 6)]) (g := gName 6) (tt := tYes) rfl sc_Net_init.nd (pi_list (pe_fldB (K := K) rfl (pv 0) rfl)) (blkOk_by (own := [("row", 6)]) (N := N_Net_init) (sc := defScope s_Net_init) (by decide +kernel)) (fun _ _ _ _ _ => (pg_name (i := 6) sc_Net_init.nd rfl (Or.inl rfl))) (fun _ _ _ _ _ => pts_nil) (fun _ _ _ _ _ => (pe_callB (r := rSortedI K) cr_sortedI (by rfl) T.n_sorted (by decide +kernel) (pa_cons (pv 6) pa_nil)))) rfl)))))))), ?_⟩
    have e0 : start N_Net_init [.ref p, v, u] = [some (.ref p), some v, some u, none, none, none, none, none] := rfl
    rw [e0]
    have sc : Sca K H v := by
      rcases h with ⟨sc, _⟩ | ⟨n, rfl, _⟩ | ⟨n, l, xs, bs, rfl, _⟩ | ⟨n, l, ps, rfl, _⟩
      · exact sc
      · exact sca_int _ _
      · exact sca_int _ _
      · exact sca_int _ _
    refine q_when (b := badSize v) ?size ?bad ?good
    case size =>
      rcases sc with ⟨i, rfl⟩ | ⟨ni, hn⟩
      · refine et_is (et_or (a := false) (et_not (et_B (ev_call (ea_cons (ev_var rfl) ea_nil) (spv_whole (.inl ⟨i, rfl, rfl⟩))))) (fun _ => et_not (et_test (ev_chain ev_c (ev_var rfl) rv_I0 (fun _ => ev_c) (fun _ => rv_I0))))) ?_
        rfl
      · refine et_is (et_or (a := true) (b := true) (et_not (et_B (ev_call (ea_cons (ev_var rfl) ea_nil) (spv_whole (.inr ⟨ni, rfl⟩))))) (fun z => nomatch z)) ?_
        unfold badSize
        split
        · exact absurd rfl (hn _)
        · rfl
    case bad =>
      intro hb H1 e1
      have nob : ∀ n : Nat, 1 ≤ n → n ≤ 40 → badSize (vn n) = true → False := fun n h1 h2 h => by
        simp [badSize] at h
        omega
      rcases h with ⟨_, _, hE⟩ | ⟨n, rfl, n1, n40, _⟩ | ⟨n, l, xs, bs, rfl, n1, n40, _⟩ | ⟨n, l, ps, rfl, n1, n40, _⟩
      · exact hE H1 e1
      · exact (nob n n1 n40 hb).elim
      · exact (nob n n1 n40 hb).elim
      · exact (nob n n1 n40 hb).elim
    intro hgood H1 e1
    rcases h with ⟨sc, no, hE⟩ | ⟨n, rfl, n1, n40, k, hE⟩ | ⟨n, l, xs, bs, rfl, n1, n40, rfl, hl, few, len, ties, bad, hE⟩ | ⟨n, l, ps, rfl, n1, n40, rfl, hl, tok, few, dup, good⟩
    · exfalso
      unfold badSize at hgood
      split at hgood
      · rename_i _ i _
        refine no i rfl ?_
        simp at hgood
        omega
      · cases hgood
    · exact q_when (et_or (a := true) (b := true) (et_not (et_B (ev_cb (ea_cons (ev_var rfl) (ea_cons ev_c ea_nil)) (rc_kind (k.go e1))))) (fun z => nomatch z)) (fun _ H2 e2 => hE H2 (e1.trans e2)) (fun z => nomatch z)
    · have h1 := e1 _ _ hl
      refine q_when (b := true) ?_ (fun _ H2 e2 => hE H2 (e1.trans e2)) (fun z => nomatch z)
      refine et_is (et_or (a := false) (et_not (et_B (ev_cb (ea_cons (ev_var rfl) (ea_cons ev_c ea_nil)) (rc_kind (kind_lst h1))))) (fun _ => et_not (et_B (ev_all (el_map (xs := xs) (ev_var rfl) (sq_of h1) (by omega) (fun _ => rfl) (by rw [List.length_map, len]) (fun i x y H2 e2 hx hy => ?_)))))) (by rw [bad]; rfl)
      obtain ⟨b, hb, rfl⟩ := map_get hy
      exact ev_call (ea_cons (ev_var rfl) (ea_cons (ev_var rfl) ea_nil)) (spv_tie ((ties i x b hx hb).go (e1.trans e2)))
    · have P1 := hl.go e1
      obtain ⟨as, ha, hpr⟩ := P1
      have P1 : Prs H1 l ps := ⟨as, ha, hpr⟩
      refine q_when (b := false) ?_ (fun z => nomatch z) (fun _ H2 e2 => ?_)
      · refine et_is (et_or (a := false) (et_not (et_B (ev_cb (ea_cons (ev_var rfl) (ea_cons ev_c ea_nil)) (rc_kind (kind_lst ha))))) (fun _ => et_not (et_B (ev_all (bs := ps.map fun _ => true) (el_map (xs := as.map V.ref) (ev_var rfl) (sq_of ha) (by rw [List.length_map, paired_len hpr]; omega) (fun _ => rfl) (by rw [List.length_map, List.length_map, List.length_map, paired_len hpr]) (fun i x y H2 e2 hx hy => ?_)))))) ?_
        · obtain ⟨b, hb, rfl⟩ := map_get hx
          obtain ⟨q, hq, rq⟩ := paired_get' hpr hb
          obtain ⟨b1, hb1, rfl⟩ := map_get hy
          obtain ⟨b2, hb2, rfl⟩ := map_get hb1
          have ok := tok q (List.mem_of_getElem? hq)
          have := (isTie_pair (K := K) (n := n) rq).go e2
          rw [decide_eq_true (by omega), decide_eq_true (by omega), decide_eq_true (by omega), decide_eq_true (by omega), decide_eq_true (by omega)] at this
          exact ev_call (ea_cons (ev_var rfl) (ea_cons (ev_var rfl) ea_nil)) (spv_tie this)
        · simp
      have P2 := P1.go e2
      refine q_when (et_dup (ev_var rfl) P2 few (ev_lenP (ev_var rfl) P2)) (fun c H3 e3 => dup (by simpa using c) H3 ((e1.trans e2).trans e3)) (fun c H3 e3 => ?_)
      have nd : ps.Nodup := by simpa using c
      have e03 := (e1.trans e2).trans e3
      have hp3 := e03 _ _ hp
      -- self.size = size
      refine q_fld (ev_var rfl) (ev_var rfl) hp3 T.cl_Net T.na_Net_size (by show 0 < 1000; decide) fun H4 e4 => ?_
      rw [put_size]
      obtain ⟨H5, eH5⟩ : ∃ H5, H5 = upd H4 p (.ins T.C_Net dx [("size", vn n)]) := ⟨_, rfl⟩
      rw [← eH5]
      have hp5 : H5 p = some (.ins T.C_Net dx [("size", vn n)]) := by rw [eH5, upd_same]
      have b5 : But [p] H H5 := by
        rw [eH5]
        exact (But.of (e03.trans e4)).trans (But.set List.mem_cons_self)
      -- self.near = [[] for place in range(size)]
      refine q_fldN (en_blank (n := n) (ea_cons (ev_var rfl) ea_nil) (by omega) (fun _ => rfl)) (ev_var rfl) hp5 T.cl_Net T.na_Net_near (by show 1 < 1000; decide) fun v gs H6 e6 fr r H7 e7 => ?_
      obtain ⟨D, rs, rfl, rfl, ndD, lrs, hD, hrs⟩ := r
      rw [put_near]
      have pD : D ≠ p := fun z => by
        have := fr D List.mem_cons_self
        rw [z, hp5] at this
        cases this
      have prs : ∀ b ∈ rs, b ≠ p := fun b hb z => by
        have := fr b (List.mem_cons_of_mem _ hb)
        rw [z, hp5] at this
        cases this
      obtain ⟨H8, eH8⟩ : ∃ H8, H8 = upd H7 p (.ins T.C_Net dx (netF n D)) := ⟨_, rfl⟩
      rw [← eH8]
      have hp8 : H8 p = some (.ins T.C_Net dx (netF n D)) := by rw [eH8, upd_same]
      have b8 : But [p] H H8 := by
        rw [eH8]
        exact (b5.then (e6.trans e7)).trans (But.set List.mem_cons_self)
      have at8 : ∀ b o, b ≠ p → H6 b = some o → H8 b = some o := fun b o hb hh => by
        rw [eH8, upd_ne hb]
        exact e7 _ _ hh
      have fr0 : ∀ b ∈ D :: rs, H b = none := fun b hb => by
        have hb5 := fr b hb
        cases q : H b with
        | none => rfl
        | some o =>
          have nb : b ∉ [p] := fun z => by
            have := List.mem_singleton.mp z
            rw [this, hp5] at hb5
            cases hb5
          rw [b5 b o nb q] at hb5
          cases hb5
      have tup : ∀ (G : Hp), But [p] H G → ∀ b q, Pr H b q → Pr G b q := fun G hG b q hh => hG b _ (fun z => by
        have := List.mem_singleton.mp z
        have hh' : H b = _ := hh
        rw [this, hp] at hh'
        cases hh') hh
      have lp : l ≠ p := fun z => by
        obtain ⟨as0, h0, _⟩ := hl
        rw [z, hp] at h0
        cases h0
      obtain ⟨as0, hl0, hpr0⟩ := hl
      have P8 : Prs H8 l ps := ⟨as0, b8 l _ (fun z => lp (List.mem_singleton.mp z)) hl0, Paired.mapP hpr0 fun b q hh => tup H8 b8 b q hh⟩
      -- for one, other in sorted(ties)
      refine (en_sortedP (K := K) (ta := tCons (tVar 2) tNil) (σ := [some (.ref p), some (vn n), some (.ref l), none, none, none, none, none]) (ea_cons (ev_var rfl) ea_nil) P8) H8 (Ex.refl H8) _ fun v fs H9 e9 fr9 r9 => ?_
      obtain ⟨sr, bs, rfl, rfl, hsr, hbs⟩ := r9
      have okq : ∀ q ∈ srtP ps, q.1 < q.2 ∧ q.2 < n := fun q hq => tok q ((srtP_perm ps).mem_iff.mp hq)
      have srD : sr ∉ D :: rs := fun z => by
        have h1 := fr9 sr List.mem_cons_self
        rcases List.mem_cons.mp z with z | z
        · rw [z, at8 D _ pD hD] at h1; cases h1
        · rw [at8 sr _ (prs sr z) (hrs sr z)] at h1; cases h1
      have srp : sr ≠ p := fun z => by
        have h1 := fr9 sr List.mem_cons_self
        rw [z, hp8] at h1
        cases h1
      have hlen : (bs.map V.ref).length = ps.length := by rw [List.length_map, paired_len hbs, (srtP_perm ps).length_eq]
      refine ⟨sr, rfl, ⟨_, sq_of hsr⟩, for_list (K := K) (a := sr) (xs := bs.map V.ref) (fun i σ' H' => ∃ x3 x4, σ' = [some (.ref p), some (vn n), some (.ref l), x3, x4, none, none, none] ∧ But [p] H H' ∧ H' p = some (.ins T.C_Net dx (netF n D)) ∧ H' D = some (.lst (rs.map V.ref)) ∧
          H' sr = some (.lst (bs.map V.ref)) ∧ Paired (Pr H') bs (srtP ps) ∧ ∀ j b, rs[j]? = some b → Ints H' b (rowBy j ((srtP ps).take i)))
          ⟨none, none, rfl, b8.then e9, e9 _ _ hp8, e9 _ _ (at8 D _ pD hD), hsr, Paired.mapP hbs fun b q hh => e9 _ _ hh, fun j b hb => e9 _ _ (at8 b _ (prs b (List.mem_of_getElem? hb)) (hrs b (List.mem_of_getElem? hb)))⟩
        (fun i σ' H' _ ⟨_, _, _, _, _, _, h, _⟩ => sq_of h) ?_ ?_⟩
      · rintro i y σ' G hy ⟨x3, x4, rfl, bG, gp, gD, gs, gt, grows⟩
        obtain ⟨b, hb, rfl⟩ := map_get hy
        obtain ⟨q, hq, rq⟩ := paired_get' gt hb
        obtain ⟨q1, q2⟩ := okq q (List.mem_of_getElem? hq)
        have hi : i < ps.length := by
          have := (List.getElem?_eq_some_iff.mp hb).1
          rw [← List.length_map (f := V.ref), hlen] at this
          exact this
        obtain ⟨r1, hr1⟩ : ∃ r, rs[q.1]? = some r := ⟨_, List.getElem?_eq_getElem (by omega)⟩
        obtain ⟨r2, hr2⟩ : ∃ r, rs[q.2]? = some r := ⟨_, List.getElem?_eq_getElem (by omega)⟩
        have ndr := (List.nodup_cons.mp ndD).2
        have r12 : r1 ≠ r2 := fun z => by
          rw [z] at hr1
          have := nd_ix ndr hr1 hr2
          omega
        have Drs := (List.nodup_cons.mp ndD).1
        have rD : ∀ {j : Nat} {r : Addr}, rs[j]? = some r → r ≠ D := fun h z => Drs (by rw [← z]; exact List.mem_of_getElem? h)
        have rp : ∀ {j : Nat} {r : Addr}, rs[j]? = some r → r ≠ p := fun h => prs _ (List.mem_of_getElem? h)
        have rsr : ∀ {j : Nat} {r : Addr}, rs[j]? = some r → r ≠ sr := fun h z => srD (by rw [← z]; exact List.mem_cons_of_mem _ (List.mem_of_getElem? h))
        have g1 := grows _ _ hr1
        have g2 := grows _ _ hr2
        have l1 := rowBy_len q.1 ((srtP ps).take i)
        have l2 := rowBy_len q.2 ((srtP ps).take i)
        have lt : ((srtP ps).take i).length ≤ i := by rw [List.length_take]; omega
        -- one, other = the pair
        refine ⟨b, [vn q.1, vn q.2], rfl, st_of rq, rfl, _, _, rfl, _, _, rfl, rfl, ?_⟩
        show tSeq _ _ _ [some (.ref p), some (vn n), some (.ref l), some (vn q.1), some (vn q.2), none, none, none] G
        -- self.near[one].append(other)
        refine q_app (l := r1) g1 (ev_op (ev_fld (ev_var rfl) gp T.cl_Net T.na_Net_near (netF_near n D)) (ev_var rfl) (rv_ixL (sq_of gD) (atI_nat (map_get' hr1)))) (ev_var rfl) (by rw [List.length_map]; omega) fun G1 e10 => ?_
        obtain ⟨G2, eG2⟩ : ∃ G2, G2 = upd G1 r1 (.lst ((rowBy q.1 ((srtP ps).take i)).map vn ++ [vn q.2])) := ⟨_, rfl⟩
        rw [← eG2]
        have k2 : ∀ c o, c ≠ r1 → G c = some o → G2 c = some o := fun c o hc ho => by rw [eG2, upd_ne hc]; exact e10 _ _ ho
        have gp2 := k2 p _ (rp hr1).symm gp
        have gD2 := k2 D _ (rD hr1).symm gD
        -- self.near[other].append(one)
        refine s_app (l := r2) (k2 r2 _ r12.symm g2) (ev_op (ev_fld (ev_var rfl) gp2 T.cl_Net T.na_Net_near (netF_near n D)) (ev_var rfl) (rv_ixL (sq_of gD2) (atI_nat (map_get' hr2)))) (ev_var rfl) (by rw [List.length_map]; omega) fun G3 e11 => ?_
        obtain ⟨G4, eG4⟩ : ∃ G4, G4 = upd G3 r2 (.lst ((rowBy q.2 ((srtP ps).take i)).map vn ++ [vn q.1])) := ⟨_, rfl⟩
        rw [← eG4]
        have k4 : ∀ c o, c ≠ r2 → G2 c = some o → G4 c = some o := fun c o hc ho => by rw [eG4, upd_ne hc]; exact e11 _ _ ho
        have kt : ∀ c o, c ≠ r1 → c ≠ r2 → G c = some o → G4 c = some o := fun c o h1 h2 ho => k4 c o h2 (k2 c o h1 ho)
        have f1 : H r1 = none := fr0 r1 (List.mem_cons_of_mem _ (List.mem_of_getElem? hr1))
        have f2 : H r2 = none := fr0 r2 (List.mem_cons_of_mem _ (List.mem_of_getElem? hr2))
        refine ⟨_, _, rfl, fun c o hc ho => kt c o (ne_of_none ho f1) (ne_of_none ho f2) (bG c o hc ho), kt _ _ (rp hr1).symm (rp hr2).symm gp, kt _ _ (rD hr1).symm (rD hr2).symm gD, kt _ _ (rsr hr1).symm (rsr hr2).symm gs,
          Paired.mapP gt fun c z hc => kt _ _ (ne_of hc g1 (by intro w; cases w)) (ne_of hc g2 (by intro w; cases w)) hc, fun j c hc => ?_⟩
        rw [take_snoc hq, rowBy_snoc]
        by_cases j1 : q.1 = j
        · rw [if_pos j1]
          subst j1
          have : c = r1 := Option.some.inj (hc.symm.trans hr1)
          subst this
          refine k4 _ _ r12 ?_
          rw [eG2, upd_same, List.map_append]
          rfl
        · rw [if_neg j1]
          by_cases j2 : q.2 = j
          · rw [if_pos j2]
            subst j2
            have : c = r2 := Option.some.inj (hc.symm.trans hr2)
            subst this
            show G4 c = _
            rw [eG4, upd_same, List.map_append]
            rfl
          · rw [if_neg j2, List.append_nil]
            refine kt _ _ (fun w => j1 ?_) (fun w => j2 ?_) (grows j c hc)
            · rw [w] at hc; exact nd_ix ndr hr1 hc
            · rw [w] at hc; exact nd_ix ndr hr2 hc
      · rintro σ' G ⟨x3, x4, rfl, bG, gp, gD, gs, gt, grows⟩
        have full : (srtP ps).take (bs.map V.ref).length = srtP ps := by rw [hlen, ← (srtP_perm ps).length_eq]; exact List.take_length
        rw [full] at grows
        -- self.near = [sorted(row) for row in self.near]
        refine s_fldN (en_map (F := fun k v fs G => ∃ b, v = .ref b ∧ fs = [b] ∧ Ints G b (srt (rowBy k (srtP ps)))) (fun k v fs G G' hk ⟨b, e1, e2, e3⟩ => ⟨b, e1, e2, hk b (by rw [e2]; exact List.mem_cons_self) _ e3⟩) (xs := rs.map V.ref) (ev_fld (ev_var rfl) gp T.cl_Net T.na_Net_near (netF_near n D)) (sq_of gD) (by rw [List.length_map]; omega) (fun _ => rfl) (fun k x H1 e1 hx => ?_))
          (ev_var rfl) gp T.cl_Net T.na_Net_near (by show 2 < 1000; decide) fun v gs' G1 e10 fr1 r G2 e11 => ?_
        · obtain ⟨b, hb, rfl⟩ := map_get hx
          exact (en_of_el (el_sorted (K := K) (a := b) (l := rowBy k (srtP ps)) (ea_cons (ev_var rfl) ea_nil) (sq_of (e1 _ _ (grows k b hb))))).imp fun v fs H2 _ ⟨c, h1, h2, h3⟩ => ⟨c, h1, h2, h3⟩
        · obtain ⟨D2, ys, fss, rfl, rfl, hD2, ly, lf, hF⟩ := r
          rw [put_near2]
          have fr0 : ∀ b, G b = none → H b = none := fun b hb => by
            cases hh : H b with
            | none => rfl
            | some o =>
              have nb : b ∉ [p] := fun z => by
                have := List.mem_singleton.mp z
                rw [this, gp] at hb
                cases hb
              rw [bG b o nb hh] at hb
              cases hb
          have D2p : D2 ≠ p := fun z => by
            have := fr1 D2 List.mem_cons_self
            rw [z, gp] at this
            cases this
          have each : ∀ (k : Nat) (y : V), ys[k]? = some y → ∃ b, y = .ref b ∧ Ints G1 b (srt (rowBy k (srtP ps))) ∧ b ≠ p ∧ H b = none := fun k y hy => by
            obtain ⟨fs, hfs⟩ : ∃ fs, fss[k]? = some fs := ⟨_, List.getElem?_eq_getElem (by have := (List.getElem?_eq_some_iff.mp hy).1; omega)⟩
            obtain ⟨b, h1, h2, h3⟩ := hF k y fs hy hfs
            have hb := fr1 b (List.mem_cons_of_mem _ (List.mem_flatten.mpr ⟨fs, List.mem_of_getElem? hfs, by rw [h2]; exact List.mem_cons_self⟩))
            refine ⟨b, h1, h3, fun z => ?_, fr0 b hb⟩
            rw [z, gp] at hb
            cases hb
          obtain ⟨as, ey, hp2⟩ := rows_of (f := nearOf n ps) (ys := ys) (G := upd G2 p (.ins T.C_Net dx (netF n D2))) fun k y hy => by
            obtain ⟨b, h1, h2, h3, _⟩ := each k y hy
            refine ⟨b, h1, ?_⟩
            rw [row_is tok nd (srtP_perm ps)] at h2
            show upd _ _ _ b = _
            rw [upd_ne h3]
            exact e11 _ _ h2
          refine good nd _ (fun c o hc ho => ?_) ⟨dx, D2, as, upd_same, fr0 D2 (fr1 D2 List.mem_cons_self), ?_, ?_, fun b hb => ?_⟩
          · rw [upd_ne (fun z => hc (by rw [z]; exact List.mem_cons_self))]
            exact e11 _ _ (e10 _ _ (bG c o hc ho))
          · rw [upd_ne D2p, ← ey]
            exact e11 _ _ hD2
          · rw [ly, List.length_map, lrs] at hp2
            exact hp2
          · obtain ⟨k, hk⟩ := List.getElem?_of_mem hb
            obtain ⟨b', h1, _, _, h4⟩ := each k (.ref b) (by rw [ey]; exact map_get' hk)
            cases h1
            exact h4
theorem en_net {σ : L2.St} {H : Hp} {ta tb : TE} {C E1 : Addr} {n : Nat} {ps : List (Nat × Nat)} {as : List Addr} (n1 : 1 ≤ n) (n40 : n ≤ 40) (tok : TiesOk n ps) (nd : ps.Nodup) (few : ps.length < 1000) (hp : Paired (Pr H) as ps) (h1 : Ev ta σ H (vn n)) (h2 : EvL tb σ H (as.map V.ref)) :
    EvN (tMake C (sp_Net_init K C E1) [] E0 (tCons ta (tCons tb tNil))) σ H (fun v fs G => ∃ x, v = .ref x ∧ NetNew C H G x (webOf n ps)) := fun H1 e Q q =>
  h1 H1 e _ fun H2 e2 => h2 H2 (e.trans e2) _ fun p H3 hp3 e3 h3 x dx hx hdx hne => by
    have e4 := own_ins (C := C) hx hdx hne
    have e04 := ((e.trans e2).trans e3).trans e4
    refine ⟨x, dx, vn n, .ref p, rfl, upd_same, .inr (.inr (.inr ⟨n, p, ps, rfl, n1, n40, rfl, ⟨as, e4 _ _ h3, Paired.mapP hp fun _ _ z => e04 _ _ z⟩, tok, few, fun z => absurd nd z, fun _ H5 b5 net => ⟨rfl, q (.ref x) [] H5 (fun b o hb => ?_) (fun r hr => nomatch hr) ⟨x, rfl, net.back e04⟩⟩⟩))⟩
    have hb3 := e3 _ _ (e2 _ _ hb)
    exact b5 b o (fun z => by
      have := List.mem_singleton.mp z
      rw [this, hx] at hb3
      cases hb3) (e4 _ _ hb3)
/-! Net.ties -/
def sp_Net_ties (C : Addr) : Sp := newSp fun H vs S => ∃ a W, vs = [.ref a] ∧ NetAt C H a W ∧ WebOk W ∧ S = fun v fs G => ∃ p, v = .ref p ∧ fs = [p] ∧ Prs G p (tiesOf W)
theorem ok_Net_ties (T : Txt K mg) : FnOk P w K mg base CX0 1 T.f_Net_ties T.fd_Net_ties ["self"] (sp_Net_ties T.C_Net) := by
  refine T.F_Net_ties.ok sc_Net_ties (fun vs H Q E h => ?_) (fun cdv A outer s H vs Q E hr h => ?_)
  · obtain ⟨S, ⟨a, W, rfl, _⟩, _⟩ := h
    rfl
  · obtain ⟨S, ⟨a, W, rfl, hn, ok, rfl⟩, q⟩ := h
    refine ⟨_, (pss_cons (ps_set (i := 1) sc_Net_ties.nd rfl (Or.inl rfl) (pe_lst pa_nil))
  (pss_cons (ps_for PassesOwn.never rfl (pi_range1 (by rfl) T.n_range (pa_cons (pe_fldB (K := K) rfl (pv 0) rfl) pa_nil)) (pg_name (i := 2) sc_Net_ties.nd rfl (Or.inl rfl))
    (pss_one (ps_for PassesOwn.never rfl (pi_list (pe_ix (r := rIxL K) ix_list (pe_fldB (K := K) rfl (pv 0) rfl) (pv 2) (fun _ _ => rfl))) (pg_name (i := 3) sc_Net_ties.nd rfl (Or.inl rfl))
    (pss_one (ps_if (pt_cmpR op_lt (pv 2) (pv 3) (nomark _)) (pss_one (ps_expr (pe_bm PySem.F.plainAttrs_list PySem.F.slot_list_append PySem.F.type_list_append mt_append (pv 1) (pa_cons (pe_tup (pa_cons (pv 2) (pa_cons (pv 3) pa_nil))) pa_nil)))) pss_nil)))))
  (pss_one (ps_ret (pv 1))))), ?_⟩
    have e0 : start N_Net_ties [.ref a] = [some (.ref a), none, none, none] := rfl
    rw [e0]
    refine q_asgL (el_lst ea_nil (by decide)) fun l H1 hl e1 hl1 => ?_
    have n1 := hn.go e1
    refine q_forR1 (n := (W.size : Nat)) (ea_cons (ev_size n1 T.cl_Net T.na_Net_size (ev_var rfl)) ea_nil) (by have := ok.small; omega)
      (fun i σ' H' => ∃ x2 x3 as, σ' = [some (.ref a), some (.ref l), x2, x3] ∧ Ex H H' ∧ H' l = some (.lst (as.map V.ref)) ∧ Paired (Pr H') as ((List.range i).flatMap (upOf W)))
      (fun H2 e2 => ⟨none, none, [], rfl, e1.trans e2, e2 _ _ hl1, .nil⟩) ?_ ?_
    · rintro i σ' G hi ⟨x2, x3, as, rfl, eG, gl, gp⟩
      obtain ⟨r, hr⟩ : ∃ r, W.near[i]? = some r := ⟨_, List.getElem?_eq_getElem (by have := ok.len; omega)⟩
      have upi : upOf W i = (r.filter fun j => decide (i < j)).map fun j => (i, j) := by
        unfold upOf
        rw [List.getD_eq_getElem?_getD, hr]
        rfl
      obtain ⟨b, hb, eb⟩ := ev_near (ta := tVar 0) (tb := tVar 2) (σ := [some (.ref a), some (.ref l), some (vn i), x3]) (hn.go eG) T.cl_Net T.na_Net_near (ev_var rfl) (ev_var rfl) hr
      have flat := flat_len (upOf_len ok) i
      have rl := (ok.row r (List.mem_of_getElem? hr)).1
      have sm := ok.small
      refine s_forLn (a := b) (xs := r.map vn) eb (sq_of hb)
        (fun k σ' H' => ∃ x3 bs, σ' = [some (.ref a), some (.ref l), some (vn i), x3] ∧ Ex H H' ∧ H' l = some (.lst (bs.map V.ref)) ∧ Ints H' b r ∧ Paired (Pr H') bs ((List.range i).flatMap (upOf W) ++ ((r.take k).filter fun j => decide (i < j)).map fun j => (i, j)))
        (fun H2 e2 => ⟨x3, as, rfl, eG.trans e2, e2 _ _ gl, hb.go e2, by simpa using Paired.mapP gp fun c z hc => e2 _ _ hc⟩) (fun k σ' H' _ ⟨_, _, _, _, _, h, _⟩ => sq_of h) ?_ ?_
      · rintro k y σ' G' hy ⟨x3, bs, rfl, eG', gl', hb', gp'⟩
        obtain ⟨j, hj, rfl⟩ := map_get hy
        have bl := paired_len gp'
        have fl : (((r.take k).filter fun j => decide (i < j)).map fun j => (i, j)).length ≤ 40 := by
          rw [List.length_map]
          refine Nat.le_trans (List.length_filter_le _ _) ?_
          rw [List.length_take]
          omega
        rw [List.length_append] at bl
        refine s_when (et_test (ev_op (ev_var rfl) (ev_var rfl) rv_I0)) (fun c G1 e3 => ?_) (fun c G1 e3 => ?_)
        · have c : i < j := by simpa using c
          refine s_appU (l := l) (e3 _ _ gl') (ev_var rfl) (eu_tup (ea_cons (ev_var rfl) (ea_cons (ev_var rfl) ea_nil)) (by show 2 ≤ 100000; decide)) (by rw [List.length_map]; omega) fun t G2 ht e4 ht2 => ?_
          have tl : t ≠ l := fun z => by rw [z, e3 _ _ gl'] at ht; cases ht
          refine ⟨_, bs ++ [t], rfl, ((eG'.trans e3).trans e4).mut hl, by rw [upd_same, List.map_append]; rfl, ?_, ?_⟩
          · show upd _ _ _ b = _
            rw [upd_ne (fun z => by rw [z] at hb'; have := hb'.symm.trans gl'; injection this with this; injection this with this; cases r <;> cases bs <;> simp at this hj)]
            exact e4 _ _ (e3 _ _ hb')
          · rw [take_snoc hj, List.filter_append, List.map_append, ← List.append_assoc]
            refine paired_app (Paired.mapP gp' fun c' z hc => ?_) ?_
            · show upd _ _ _ c' = _
              rw [upd_ne (ne_of hc gl' (by intro z; cases z))]
              exact e4 _ _ (e3 _ _ hc)
            · simp only [List.filter_cons, List.filter_nil, c, decide_true, if_true, List.map_cons, List.map_nil]
              refine .cons ?_ .nil
              show upd _ _ _ t = _
              rw [upd_ne tl]
              exact ht2
        · have c : ¬ i < j := by simpa using c
          refine ⟨_, bs, rfl, eG'.trans e3, e3 _ _ gl', hb'.go e3, ?_⟩
          rw [take_snoc hj, List.filter_append]
          simp only [List.filter_cons, List.filter_nil, c, decide_false, Bool.false_eq_true, if_false, List.append_nil]
          exact Paired.mapP gp' fun c' z hc => e3 _ _ hc
      · rintro σ' G' ⟨x3, bs, rfl, eG', gl', hb', gp'⟩
        refine ⟨_, x3, bs, rfl, eG', gl', ?_⟩
        rw [List.length_map, List.take_length] at gp'
        rw [List.range_succ, List.flatMap_append]
        simp only [List.flatMap_cons, List.flatMap_nil, List.append_nil]
        rw [upi]
        exact gp'
    · rintro σ' G ⟨x2, x3, as, rfl, eG, gl, gp⟩
      refine s_ret (ev_var rfl) fun H2 e2 => q _ [l] H2 (eG.trans e2) (fun r hr => by rw [List.mem_singleton.mp hr]; exact hl) ⟨l, rfl, rfl, as, e2 _ _ gl, Paired.mapP gp fun c z hc => e2 _ _ hc⟩
theorem en_ties {σ : L2.St} {G : Hp} {te : TE} {C x : Addr} {n : Nat} {ps : List (Nat × Nat)} {E : XK} (n40 : n ≤ 40) (tok : TiesOk n ps) (nd : ps.Nodup) (self : srtP ps = ps) (hev : Ev te σ G (.ref x)) (hna : NetAt C G x (webOf n ps)) : EvN (tMeth C "ties" (sp_Net_ties C) [] E te tNil) σ G (fun v fs G' => ∃ p, v = .ref p ∧ fs = [p] ∧ Prs G' p ps) := fun G1 e Q q => hev G1 e _ fun G2 e2 => by
  obtain ⟨dx', l', h1, h2⟩ := id hna
  refine ⟨x, dx', _, rfl, e2 _ _ (e _ _ h1), netF_no _ _ (by decide +kernel) (by decide +kernel), _, ⟨x, webOf n ps, rfl, (hna.go e).go e2, webOk_of ps n40, rfl⟩, fun v fs G3 e3 fr r => ?_⟩
  obtain ⟨p, rfl, rfl, hp⟩ := r
  rw [tiesOf_web tok nd, self] at hp
  exact q _ [p] G3 (e2.trans e3) (fun r hr => fresh_back e2 (fr r hr)) ⟨p, rfl, rfl, hp⟩
/-! mates_of -/
/-- what an item of a list of pairs is -/
def CPair (K : PySem.W.Frag) (H : Hp) (n : Nat) (v : V) : Option (Nat × Nat) → Prop
  | none => IsTie K H n v false
  | some q => ∃ a, v = .ref a ∧ Pr H a q ∧ q.1 < q.2 ∧ q.2 < n
theorem CPair.go {H H' : Hp} {n : Nat} {v : V} {c : Option (Nat × Nat)} (h : CPair K H n v c) (e : Ex H H') : CPair K H' n v c := by
  cases c with
  | none => exact IsTie.go h e
  | some q =>
    obtain ⟨a, h1, h2, h3⟩ := h
    exact ⟨a, h1, e _ _ h2, h3⟩
def Valid (W : Web) (cs : List (Option (Nat × Nat))) (ps : List (Nat × Nat)) : Prop := cs = ps.map some ∧ PairsOk W ps
def sp_mates_of (K : PySem.W.Frag) (C E1 : Addr) : Sp := fun vs H Q E => ∃ a W v, vs = [.ref a, v] ∧ NetAt C H a W ∧ WebOk W ∧
  ((Kind K H v "list" false ∧ ∀ H', Ex H H' → E (.ref E1) none H') ∨
   ∃ l xs cs, v = .ref l ∧ H l = some (.lst xs) ∧ xs.length ≤ 30000 ∧ Paired (CPair K H W.size) xs cs ∧ ((∀ ps, ¬ Valid W cs ps) → ∀ H', Ex H H' → E (.ref E1) none H') ∧
    (∀ ps, Valid W cs ps → ∀ p H', Ex H H' → H p = none → Opts H' p (mateL W.size ps) → Q (.ref p) H'))
theorem vo_non {o : Option Nat} : decide (vo o = .non) = decide (o = none) := by
  cases o with
  | none => rfl
  | some n => rfl
theorem isTie_true {H : Hp} {n : Nat} {a : Addr} {q : Nat × Nat} (h : Pr H a q) (h1 : q.1 < q.2) (h2 : q.2 < n) : IsTie K H n (.ref a) true := by
  have := isTie_pair (K := K) (n := n) h
  rw [decide_eq_true (by omega), decide_eq_true (by omega), decide_eq_true (by omega), decide_eq_true (by omega), decide_eq_true (by omega)] at this
  exact this
theorem mates_set {n : Nat} {ps : List (Nat × Nat)} {q : Nat × Nat} (ne : q.1 ≠ q.2) (f1 : mateOf ps q.1 = none) (f2 : mateOf ps q.2 = none) : (((mateL n ps).set q.1 (some q.2)).set q.2 (some q.1)) = mateL n (ps ++ [q]) := by
  apply List.ext_getElem
  · simp [mateL]
  · intro i h1 h2
    rw [mateL_len] at h2
    have e : (mateL n (ps ++ [q]))[i]? = some (mateOf (ps ++ [q]) i) := mateL_get _ h2
    have e0 : (mateL n ps)[i]? = some (mateOf ps i) := mateL_get _ h2
    rw [mateOf_snoc ne f1 f2] at e
    have e' := (List.getElem?_eq_some_iff.mp e).2
    have e0' := (List.getElem?_eq_some_iff.mp e0).2
    rw [e', List.getElem_set, List.getElem_set]
    by_cases c2 : q.2 = i
    · rw [if_pos c2, if_pos (show i = q.2 from c2.symm)]
    · rw [if_neg c2, if_neg (show ¬ i = q.2 from fun z => c2 z.symm)]
      by_cases c1 : q.1 = i
      · rw [if_pos c1, if_pos (show i = q.1 from c1.symm)]
      · rw [if_neg c1, if_neg (show ¬ i = q.1 from fun z => c1 z.symm)]
        exact e0'
theorem ok_mates_of (T : Txt K mg) : FnOk P w K mg base (L2.CX P w) 4 T.f_mates_of T.fd_mates_of ["net", "pairs"] (sp_mates_of K T.C_Net T.C_BadPairs) := by
  refine T.F_mates_of.okX sc_mates_of (fun vs H Q E h => ?_) (fun cdv A outer s H vs Q E hr h => ?_)
  · obtain ⟨a, W, v, rfl, _⟩ := h
    rfl
  · obtain ⟨a, W, v, rfl, hn, ok, h⟩ := h
    refine ⟨_, (pss_cons (ps_if (pt_not (pt_val (pe_callB (r := rIsi K) call_isi (by rfl) T.n_isinstance (by decide +kernel) (pa_cons (pv 1) (pa_cons (pe_bltn (v := .ty "list") (by rfl) T.n_list (by decide +kernel) rfl) pa_nil))))) (pss_one (ps_raise rfl (takes_of rfl rfl rfl rfl) (pmk_own PySem.F.excBase_ValueError T.x_BadPairs T.g_BadPairs T.kp_BadPairs (raises_own T.sb_BadPairs T.ty_BadPairs) (by rfl)))) pss_nil)
  (pss_cons (ps_setLc (i := 2) (own := [("place", 6)]) (g := gName 6) (tt := tYes) rfl sc_mates_of.nd rfl rfl (sw_true rfl rfl rfl (by decide +kernel)) (pi_range1 (by rfl) T.n_range (pa_cons (pe_fldB (K := K) rfl (pv 0) rfl) pa_nil)) (blkOk_by (own := [("place", 6)]) (N := N_mates_of) (sc := defScope s_mates_of) (by decide +kernel)) (fun _ _ _ _ _ => (pg_name (i := 6) sc_mates_of.nd rfl (Or.inl rfl))) (fun _ _ _ _ _ => pts_nil) (fun _ _ _ _ _ => pe_non))
  (pss_cons (ps_for (passes_of rfl) rfl (pi_list (pv 1)) (pg_name (i := 3) sc_mates_of.nd rfl (Or.inl rfl))
    (pss_cons (ps_if (PW.pt (pw_or (pt_not (pt_val (pe_call (ok_is_tie T) (hr.mono (by decide)) (by rfl) T.g_is_tie T.F_is_tie.kp T.b_is_tie .nil pass0 (pa_cons (pe_fldB (K := K) rfl (pv 0) rfl) (pa_cons (pv 3) pa_nil))))) (pw_or1 (pt_cmpR (r := rIn K true) op_notIn_seq (pe_ix (r := rIxT K) ix_tup (pv 3) pe_int (fun _ _ => rfl)) (pe_ix (r := rIxL K) ix_list (pe_fldB (K := K) rfl (pv 0) rfl) (pe_ix (r := rIxT K) ix_tup (pv 3) pe_int (fun _ _ => rfl)) (fun _ _ => rfl)) (by with_unfolding_all rfl))))) (pss_one (ps_raise rfl (takes_of rfl rfl rfl rfl) (pmk_own PySem.F.excBase_ValueError T.x_BadPairs T.g_BadPairs T.kp_BadPairs (raises_own T.sb_BadPairs T.ty_BadPairs) (by rfl)))) pss_nil)
  (pss_cons (ps_asg (pv 3) (pg_tup rfl (pgs_cons (pg_name (i := 4) sc_mates_of.nd rfl (Or.inl rfl)) (pgs_cons (pg_name (i := 5) sc_mates_of.nd rfl (Or.inl rfl)) pgs_nil))))
  (pss_cons (ps_if (PW.pt (pw_or (pt_cmpR op_notN (pe_ix (r := rIxL K) ix_list (pv 2) (pv 4) (fun _ _ => rfl)) pe_non (nomark _)) (pw_or1 (pt_cmpR op_notN (pe_ix (r := rIxL K) ix_list (pv 2) (pv 5) (fun _ _ => rfl)) pe_non (nomark _))))) (pss_one (ps_raise rfl (takes_of rfl rfl rfl rfl) (pmk_own PySem.F.excBase_ValueError T.x_BadPairs T.g_BadPairs T.kp_BadPairs (raises_own T.sb_BadPairs T.ty_BadPairs) (by rfl)))) pss_nil)
  (pss_cons (ps_asg (pv 5) (pg_sub (pv 2) (pv 4) set_list))
  (pss_one (ps_asg (pv 4) (pg_sub (pv 2) (pv 5) set_list))))))))
  (pss_one (ps_ret (pv 2)))))), ?_⟩
    have e0 : start N_mates_of [.ref a, v] = [some (.ref a), some v, none, none, none, none, none] := rfl
    rw [e0]
    have sz : ∀ {σ : L2.St} {G : Hp} {te : TE}, Ev te σ G (.ref a) → NetAt T.C_Net G a W → Ev (tFld K te "size") σ G (vn W.size) := fun h hna => ev_size hna T.cl_Net T.na_Net_size h
    rcases h with ⟨k, hE⟩ | ⟨l, xs, cs, rfl, hl, few, pr, bad, good⟩
    · exact q_when (b := true) (et_is (et_not (et_B (ev_cb (ea_cons (ev_var rfl) (ea_cons ev_c ea_nil)) (rc_kind k)))) rfl) (fun _ H1 e1 => hE H1 e1) (fun z => nomatch z)
    refine q_when (b := false) (et_is (et_not (et_B (ev_cb (ea_cons (ev_var rfl) (ea_cons ev_c ea_nil)) (rc_kind (kind_lst hl))))) rfl) (fun z => nomatch z) (fun _ H1 e1 => ?_)
    have sm := ok.small
    refine q_asgL (xs := (mateL W.size []).map vo) (el_mapR (n := W.size) (ea_cons (sz (ev_var rfl) (hn.go e1)) ea_nil) (by omega) (fun _ => rfl) (by rw [List.length_map, mateL_len]) (fun i y G g hy => ?_)) fun m H2 hm e2 hm2 => ?_
    · obtain ⟨o, ho, rfl⟩ := map_get hy
      have hi := (List.getElem?_eq_some_iff.mp ho).1
      rw [mateL_len] at hi
      rw [mateL_get [] hi] at ho
      cases ho
      exact ev_c
    have mF : H m = none := fresh_back e1 hm
    refine q_forLn (a := l) (xs := xs) (ev_var rfl) (sq_of (e2 _ _ (e1 _ _ hl)))
      (fun k σ' G => ∃ x3 x4 x5 ps, σ' = [some (.ref a), some (.ref l), some (.ref m), x3, x4, x5, none] ∧ Ex H G ∧ Opts G m (mateL W.size ps) ∧ cs.take k = ps.map some ∧ PairsOk W ps)
      (fun G g => ⟨none, none, none, [], rfl, (e1.trans e2).trans g, g _ _ hm2, rfl, ⟨fun p hp => (by cases hp), .nil⟩⟩) (fun k σ' G _ ⟨_, _, _, _, _, eh, _⟩ => sq_of (eh _ _ hl)) ?_ ?_
    · rintro k y σ' G hy ⟨x3, x4, x5, ps, rfl, eG, hm', pre, pok⟩
      obtain ⟨c, hc, cp⟩ := paired_get' pr hy
      have cp := cp.go eG
      have nG := hn.go eG
      -- which prefix a valid list has
      have vp : ∀ qs, Valid W cs qs → ∃ q r, c = some q ∧ qs = ps ++ q :: r := fun qs ⟨h1, h2⟩ => by
        rw [h1, List.getElem?_map] at hc
        cases e : qs[k]? with
        | none => rw [e] at hc; cases hc
        | some q =>
          rw [e] at hc
          refine ⟨q, qs.drop (k + 1), (Option.some.inj hc).symm, ?_⟩
          have t1 : qs.take k = ps := by
            rw [h1, ← List.map_take] at pre
            exact (List.map_inj_right (fun x y h => Option.some.inj h)).mp pre
          have hk := (List.getElem?_eq_some_iff.mp e).1
          have t2 : qs = qs.take k ++ qs.drop k := (List.take_append_drop k qs).symm
          rw [t1, List.drop_eq_getElem_cons hk, (List.getElem?_eq_some_iff.mp e).2] at t2
          exact t2
      cases c with
      | none =>
        refine q_when (b := true) (et_or (a := true) (b := true) (et_is (et_not (et_B (ev_call (ea_cons (sz (ev_var rfl) nG) (ea_cons (ev_var rfl) ea_nil)) (spv_tie cp)))) rfl) (fun z => nomatch z)) (fun _ G1 g1 => bad (fun qs vq => ?_) G1 (eG.trans g1)) (fun z => nomatch z)
        obtain ⟨q, _, h1, _⟩ := vp qs vq
        cases h1
      | some q =>
        obtain ⟨b, rfl, hb, q1, q2⟩ := cp
        obtain ⟨r, hr, er, rl, rlt⟩ := ok.nb (show q.1 < W.size by omega)
        have i0 : ∀ {σ : L2.St} {G1 : Hp} {te : TE}, Ex G G1 → Ev te σ G1 (.ref b) → Ev (tOp (rIxT K) te (tC (.int 0))) σ G1 (vn q.1) := fun g h => ev_op h ev_c (rv_ixT (K := K) (st_of (g _ _ hb)) (atI_nat (j := 0) rfl))
        have i1 : ∀ {σ : L2.St} {G1 : Hp} {te : TE}, Ex G G1 → Ev te σ G1 (.ref b) → Ev (tOp (rIxT K) te (tC (.int 1))) σ G1 (vn q.2) := fun g h => ev_op h ev_c (rv_ixT (K := K) (st_of (g _ _ hb)) (atI_nat (j := 1) rfl))
        obtain ⟨rb, hrb, eb⟩ := ev_near (ta := tVar 0) (tb := tOp (rIxT K) (tVar 3) (tC (.int 0))) (σ := [some (.ref a), some (.ref l), some (.ref m), some (.ref b), x4, x5, none]) nG T.cl_Net T.na_Net_near (ev_var rfl) (i0 (Ex.refl G) (ev_var rfl)) hr
        refine q_when (b := !decide (q.2 ∈ r)) (et_is (et_or (a := false) (et_is (et_not (et_B (ev_call (ea_cons (sz (ev_var rfl) nG) (ea_cons (ev_var rfl) ea_nil)) (spv_tie (isTie_true hb q1 q2))))) rfl) fun _ => et_is (b := !decide (q.2 ∈ r)) (et_test (ev_op (i1 (Ex.refl G) (ev_var rfl)) eb (rv_niL (sq_of hrb) rfl (flat_nats r)))) (by rw [inV_nat])) rfl) (fun c G1 g1 => bad (fun qs vq => ?_) G1 (eG.trans g1)) (fun c G1 g1 => ?_)
        · obtain ⟨q', rest, h1, h2⟩ := vp qs vq
          cases h1
          have := (vq.2.tie q (by rw [h2]; simp)).2.2
          rw [er] at this
          simp [this] at c
        have qr : q.2 ∈ r := by simpa using c
        refine q_asg2 (ev_var rfl) (st_of (g1 _ _ hb)) fun G1 g1b => ?_
        have g1 := g1.trans g1b
        have m1 := hm'.go g1
        have s1 : (mateL W.size ps)[q.1]? = some (mateOf ps q.1) := mateL_get ps (by omega)
        have s2 : (mateL W.size ps)[q.2]? = some (mateOf ps q.2) := mateL_get ps (by omega)
        refine q_when (b := !decide (mateOf ps q.1 = none) || !decide (mateOf ps q.2 = none)) (et_or (a := !decide (mateOf ps q.1 = none)) (b := !decide (mateOf ps q.2 = none)) (et_is (et_test (ev_op (ev_op (ev_var rfl) (ev_var rfl) (rv_ixL (K := K) (sq_of m1) (atI_nat (map_get' s1)))) ev_c rv_notN)) (by rw [vo_non])) fun _ => et_is (et_test (ev_op (ev_op (ev_var rfl) (ev_var rfl) (rv_ixL (K := K) (sq_of m1) (atI_nat (map_get' s2)))) ev_c rv_notN)) (by rw [vo_non])) (fun c G2 g2 => bad (fun qs vq => ?_) G2 ((eG.trans g1).trans g2)) (fun c G2 g2 => ?_)
        · obtain ⟨q', rest, h1, h2⟩ := vp qs vq
          cases h1
          have ok2 : PairsOk W (ps ++ [q]) := by
            have := vq.2
            rw [h2, show ps ++ q :: rest = (ps ++ [q]) ++ rest by simp] at this
            exact this.pre
          have := apart_free.mp (PairsOk.snoc.mp ok2).2.2
          simp [this.1, this.2] at c
        have fr : mateOf ps q.1 = none ∧ mateOf ps q.2 = none := by simpa using c
        have m2 := m1.go g2
        have ml : ((mateL W.size ps).map vo).length = W.size := by rw [List.length_map, mateL_len]
        refine q_setL (l := m) m2 (ev_var rfl) (ev_var rfl) (ev_var rfl) (by omega) fun G3 g3 => ?_
        obtain ⟨G4, hG4⟩ : ∃ G4, G4 = upd G3 m (.lst (((mateL W.size ps).map vo).set q.1 (vn q.2))) := ⟨_, rfl⟩
        rw [← hG4]
        have m4 : G4 m = some (.lst (((mateL W.size ps).map vo).set q.1 (vn q.2))) := by rw [hG4, upd_same]
        have e4 : Ex H G4 := by rw [hG4]; exact (((eG.trans g1).trans g2).trans g3).mut mF
        refine s_setL (l := m) m4 (ev_var rfl) (ev_var rfl) (ev_var rfl) (by rw [List.length_set]; omega) fun G5 g5 => ⟨_, _, _, ps ++ [q], rfl, (e4.trans g5).mut mF, ?_, ?_, PairsOk.snoc.mpr ⟨pok, ⟨q1, q2, by rw [er]; exact qr⟩, apart_free.mpr fr⟩⟩
        · show upd _ _ _ m = _
          rw [upd_same, ← mates_set (show q.1 ≠ q.2 by omega) fr.1 fr.2, List.map_set, List.map_set]
          rfl
        · rw [take_snoc hc, pre, List.map_append]
          rfl
    · rintro σ' G ⟨x3, x4, x5, ps, rfl, eG, hm', pre, pok⟩
      rw [paired_len pr, List.take_length] at pre
      exact s_ret (ev_var rfl) fun G1 g1 => good ps ⟨pre, pok⟩ m G1 (eG.trans g1) mF (hm'.go g1)
/-! pairs_of -/
def sp_pairs_of : Sp := newSp fun H vs S => ∃ m ms, vs = [.ref m] ∧ Opts H m ms ∧ ms.length ≤ 1000 ∧ S = fun v fs G => ∃ p, v = .ref p ∧ fs = [p] ∧ Prs G p (pairsOf ms)
theorem ok_pairs_of (T : Txt K mg) : FnOk P w K mg base CX0 1 T.f_pairs_of T.fd_pairs_of ["mates"] sp_pairs_of := by
  refine T.F_pairs_of.ok sc_pairs_of (fun vs H Q E h => ?_) (fun cdv A outer s H vs Q E hr h => ?_)
  · obtain ⟨S, ⟨m, ms, rfl, _⟩, _⟩ := h
    rfl
  · obtain ⟨S, ⟨m, ms, rfl, hm, few, rfl⟩, q⟩ := h
    refine ⟨_, (pss_one (ps_ret (pe_lc (own := [("place", 1)]) (g := gName 1) rfl sc_pairs_of.nd (pi_range1 (by rfl) T.n_range (pa_cons (pe_callB (r := rLenS K) call_len_seq (by rfl) T.n_len (by decide +kernel) (pa_cons (pv 0) pa_nil)) pa_nil)) (blkOk_by (own := [("place", 1)]) (N := N_pairs_of) (sc := defScope s_pairs_of) (by decide +kernel)) (fun _ _ _ _ _ => (pg_name (i := 1) sc_pairs_of.nd rfl (Or.inl rfl))) (fun _ _ _ _ _ => (pts_one (PW.pt (pw_and (pt_cmpR op_notN (pe_ix (r := rIxL K) ix_list (pv 0) (pv 1) (fun _ _ => rfl)) pe_non (nomark _)) (pw_and1 (pt_cmpR op_lt (pv 1) (pe_ix (r := rIxL K) ix_list (pv 0) (pv 1) (fun _ _ => rfl)) (nomark _))))))) (fun _ _ _ _ _ => (pe_tup (pa_cons (pv 1) (pa_cons (pe_ix (r := rIxL K) ix_list (pv 0) (pv 1) (fun _ _ => rfl)) pa_nil))))))), ?_⟩
    have e0 : start N_pairs_of [.ref m] = [some (.ref m), none] := rfl
    rw [e0]
    have at_ : ∀ (i : Nat), i < ms.length → ∀ {σ : L2.St} {G : Hp} {t1 t2 : TE}, Ex H G → Ev t1 σ G (.ref m) → Ev t2 σ G (vn i) → Ev (tOp (rIxL K) t1 t2) σ G (vo (ms.getD i none)) := fun i hi σ G t1 t2 e h1 h2 => ev_op h1 h2 (rv_ixL (K := K) (sq_of (e _ _ hm)) (atI_nat (map_get' (by rw [List.getD_eq_getElem?_getD, List.getElem?_eq_getElem hi]; rfl))))
    refine s_retN (en_pairsNew (n := ms.length) (upB ms) (fun i => (i, (ms.getD i none).getD 0)) (ea_cons (ev_is (ev_len (K := K) (ev_var rfl) (sq_of hm)) (by rw [List.length_map])) ea_nil) (by omega) (fun _ => rfl) (fun i G g hi => ?_) (fun i G g hi hu => ?_)) fun v fs G g fr r => ?_
    · refine et_is (et_and (a := !decide (ms.getD i none = none)) (b := upB ms i) (et_is (et_test (ev_op (at_ i hi g (ev_var rfl) (ev_var rfl)) ev_c rv_notN)) (by rw [vo_non])) fun c => ?_) ?_
      · cases e : ms.getD i none with
        | none => rw [e] at c; simp at c
        | some j =>
          have h := at_ i hi (σ := [some (.ref m), some (vn i)]) (t1 := tVar 0) (t2 := tVar 1) g (ev_var rfl) (ev_var rfl)
          rw [e] at h
          refine et_is (et_test (ev_op (ev_var rfl) h rv_I0)) ?_
          unfold upB
          rw [e]
          show decide ((i : Int) < (j : Int)) = decide (i < j)
          by_cases c2 : i < j
          · rw [decide_eq_true c2, decide_eq_true (by omega)]
          · rw [decide_eq_false c2, decide_eq_false (by omega)]
      · unfold upB
        cases e : ms.getD i none <;> simp
    · cases e : ms.getD i none with
      | none => unfold upB at hu; rw [e] at hu; cases hu
      | some j =>
        have h := at_ i hi (σ := [some (.ref m), some (vn i)]) (t1 := tVar 0) (t2 := tVar 1) g (ev_var rfl) (ev_var rfl)
        rw [e] at h
        exact eu_tup (ea_cons (ev_var rfl) (ea_cons h ea_nil)) (by show 2 ≤ 100000; decide)
    · obtain ⟨D, as, rfl, rfl, hD, hp⟩ := r
      exact q _ [D] G g (fun r hr => by rw [List.mem_singleton.mp hr]; exact fr D List.mem_cons_self) ⟨D, rfl, rfl, as, hD, hp⟩
/-! is_way -/
def WayArg (K : PySem.W.Frag) (H : Hp) (W : Web) (ms : List (Option Nat)) (v : V) (b : Bool) : Prop :=
  (Kind K H v "list" false ∧ b = false) ∨ ∃ l xs, v = .ref l ∧ H l = some (.lst xs) ∧ xs.length ≤ 3000 ∧ (∀ x ∈ xs, Sca K H x) ∧ (b = true ↔ ∃ ns : List Nat, xs = ns.map vn ∧ IsWay W ms ns)
theorem WayArg.go {H H' : Hp} {W : Web} {ms : List (Option Nat)} {v : V} {b : Bool} (h : WayArg K H W ms v b) (e : Ex H H') : WayArg K H' W ms v b := by
  rcases h with ⟨k, h⟩ | ⟨l, xs, h1, h2, h3, h4, h5⟩
  · exact .inl ⟨k.go e, h⟩
  · exact .inr ⟨l, xs, h1, e _ _ h2, h3, fun x hx => (h4 x hx).go e, h5⟩
def sp_is_way (K : PySem.W.Frag) (C : Addr) : Sp := pureSp fun H vs z => ∃ a W m ms v b, vs = [.ref a, .ref m, v] ∧ NetAt C H a W ∧ WebOk W ∧ Opts H m ms ∧ ms.length = W.size ∧ WayArg K H W ms v b ∧ z = .bl b
theorem dec_vo (o : Option Nat) (y : Nat) : decide (vo o = vn y) = decide (o = some y) := by
  cases o with
  | none => rfl
  | some x =>
    show decide (vn x = vn y) = _
    rw [dec_nat]
    by_cases h : x = y <;> simp [h]
theorem scal_vo (o : Option Nat) (y : Nat) : scal (vo o) (vn y) = true := by cases o <;> rfl
theorem ok_is_way (T : Txt K mg) : FnOk P w K mg base CX0 3 T.f_is_way T.fd_is_way ["net", "mates", "way"] (sp_is_way K T.C_Net) := by
  refine T.F_is_way.ok sc_is_way (fun vs H Q E h => ?_) (fun cdv A outer s H vs Q E hr h => ?_)
  · obtain ⟨z, ⟨a, W, m, ms, v, b, rfl, _⟩, _⟩ := h
    rfl
  · obtain ⟨z, ⟨a, W, m, ms, v, b, rfl, hn, ok, hm, ml, h, rfl⟩, q⟩ := h
    refine ⟨_, (pss_cons (ps_if (PW.pt (pw_or (pt_not (pt_val (pe_callB (r := rIsi K) call_isi (by rfl) T.n_isinstance (by decide +kernel) (pa_cons (pv 2) (pa_cons (pe_bltn (v := .ty "list") (by rfl) T.n_list (by decide +kernel) rfl) pa_nil))))) (pw_or (pt_cmpR op_lt (pe_callB (r := rLenS K) call_len_seq (by rfl) T.n_len (by decide +kernel) (pa_cons (pv 2) pa_nil)) pe_int (nomark _)) (pw_or1 (pt_cmpR op_eq (pe_op op_mod (pe_callB (r := rLenS K) call_len_seq (by rfl) T.n_len (by decide +kernel) (pa_cons (pv 2) pa_nil)) pe_int) pe_int (nomark _)))))) (pss_one (ps_ret pe_bl)) pss_nil)
  (pss_cons (ps_if (PW.pt (pw_or (pt_not (pt_val (pe_callB (r := rAll K) (cr_all rfl) (by rfl) T.n_all (by decide +kernel) (pa_cons (pe_lc (own := [("place", 4)]) (g := gName 4) (tt := tYes) rfl sc_is_way.nd (pi_list (pv 2)) (blkOk_by (own := [("place", 4)]) (N := N_is_way) (sc := defScope s_is_way) (by decide +kernel)) (fun _ _ _ _ _ => (pg_name (i := 4) sc_is_way.nd rfl (Or.inl rfl))) (fun _ _ _ _ _ => pts_nil) (fun _ _ _ _ _ => (pe_call (ok_is_place T) (hr.mono (by decide)) (by rfl) T.g_is_place T.F_is_place.kp T.b_is_place .nil pass0 (pa_cons (pe_fldB (K := K) rfl (pv 0) rfl) (pa_cons (pv 4) pa_nil))))) pa_nil)))) (pw_or1 (pt_cmpR op_lt (pe_lenSetD rfl (by rfl) T.n_len (by rfl) T.n_set (pv 2)) (pe_callB (r := rLenS K) call_len_seq (by rfl) T.n_len (by decide +kernel) (pa_cons (pv 2) pa_nil)) (nomark _))))) (pss_one (ps_ret pe_bl)) pss_nil)
  (pss_cons (ps_if (PW.pt (pw_or (pt_cmpR op_notN (pe_ix (r := rIxL K) ix_list (pv 1) (pe_ix (r := rIxL K) ix_list (pv 2) pe_int (fun _ _ => rfl)) (fun _ _ => rfl)) pe_non (nomark _)) (pw_or1 (pt_cmpR op_notN (pe_ix (r := rIxL K) ix_list (pv 1) (pe_ix (r := rIxL K) ix_list (pv 2) (pe_un un_neg pe_int) (fun _ _ => rfl)) (fun _ _ => rfl)) pe_non (nomark _))))) (pss_one (ps_ret pe_bl)) pss_nil)
  (pss_cons (ps_for PassesOwn.never rfl (pi_range1 (by rfl) T.n_range (pa_cons (pe_op op_sub (pe_callB (r := rLenS K) call_len_seq (by rfl) T.n_len (by decide +kernel) (pa_cons (pv 2) pa_nil)) pe_int) pa_nil)) (pg_name (i := 3) sc_is_way.nd rfl (Or.inl rfl))
    (pss_one (ps_if (PW.pt (pw_or (pt_cmpR (r := rIn K true) op_notIn_seq (pe_ix (r := rIxL K) ix_list (pv 2) (pe_op op_add (pv 3) pe_int) (fun _ _ => rfl)) (pe_ix (r := rIxL K) ix_list (pe_fldB (K := K) rfl (pv 0) rfl) (pe_ix (r := rIxL K) ix_list (pv 2) (pv 3) (fun _ _ => rfl)) (fun _ _ => rfl)) (by with_unfolding_all rfl)) (pw_or1 (pt_cmpR op_ne (pe_cmpR op_eq (pe_ix (r := rIxL K) ix_list (pv 1) (pe_ix (r := rIxL K) ix_list (pv 2) (pv 3) (fun _ _ => rfl)) (fun _ _ => rfl)) (pe_ix (r := rIxL K) ix_list (pv 2) (pe_op op_add (pv 3) pe_int) (fun _ _ => rfl)) (nomark _)) (pe_cmpR op_eq (pe_op op_mod (pv 3) pe_int) pe_int (nomark _)) (nomark _))))) (pss_one (ps_ret pe_bl)) pss_nil)))
  (pss_one (ps_ret pe_bl)))))), ?_⟩
    have e0 : start N_is_way [.ref a, .ref m, v] = [some (.ref a), some (.ref m), some v, none, none] := rfl
    rw [e0]
    rcases h with ⟨k, rfl⟩ | ⟨l, xs, rfl, hl, xl, sc, hb⟩
    · exact q_when (b := true) (et_or (a := true) (b := true) (et_is (et_not (et_B (ev_cb (ea_cons (ev_var rfl) (ea_cons ev_c ea_nil)) (rc_kind k)))) rfl) (fun z => nomatch z)) (fun _ H1 e1 => s_ret ev_c fun H2 e2 => q H2 (e1.trans e2)) (fun z => nomatch z)
    have no : ∀ H', (∀ ns : List Nat, xs = ns.map vn → IsWay W ms ns → False) → (∀ H1, Ex H H1 → Q (.bl b) H1) → Ex H H' → Q (.bl false) H' := fun H' hno q e => by
      have : b = false := by
        cases b with
        | false => rfl
        | true =>
          obtain ⟨ns, h1, h2⟩ := hb.mp rfl
          exact (hno ns h1 h2).elim
      rw [← this]
      exact q H' e
    have lenE : ∀ {σ : L2.St} {G : Hp} {te : TE}, Ex H G → Ev te σ G (.ref l) → Ev (tCB (rLenS K) (tCons te tNil)) σ G (.int (xs.length : Nat)) := fun g h => ev_len (K := K) h (sq_of (g _ _ hl))
    -- the length
    refine q_when (b := decide (xs.length < 2) || decide (xs.length % 2 = 1)) (et_is (et_or (a := false) (et_is (et_not (et_B (ev_cb (ea_cons (ev_var rfl) (ea_cons ev_c ea_nil)) (rc_kind (kind_lst hl))))) rfl) fun _ => et_or (et_is (b := decide (xs.length < 2)) (et_test (ev_op (lenE (Ex.refl H) (ev_var rfl)) ev_c rv_I0)) (by
      by_cases c : xs.length < 2
      · rw [decide_eq_true c, decide_eq_true (by omega)]
      · rw [decide_eq_false c, decide_eq_false (by omega)])) fun _ => et_is (b := decide (xs.length % 2 = 1)) (et_test (ev_op (ev_op (lenE (Ex.refl H) (ev_var rfl)) ev_c (rv_I (by decide))) ev_c (rv_eq rfl))) (by
      rw [dec_int]
      by_cases c : xs.length % 2 = 1
      · rw [decide_eq_true c, decide_eq_true (by omega)]
      · rw [decide_eq_false c, decide_eq_false (by omega)])) rfl) (fun c H1 e1 => s_ret ev_c fun H2 e2 => no H2 (fun ns h1 h2 => ?_) q (e1.trans e2)) (fun c H1 e1 => ?_)
    · have t := h2.two
      have ev := h2.even
      have : xs.length = ns.length := by rw [h1, List.length_map]
      simp at c
      omega
    have c2 : 2 ≤ xs.length ∧ xs.length % 2 = 0 := by
      simp at c
      omega
    -- the places
    have sz : ∀ {σ : L2.St} {G : Hp} {te : TE}, Ex H G → Ev te σ G (.ref a) → Ev (tFld K te "size") σ G (vn W.size) := fun g h => ev_size (hn.go g) T.cl_Net T.na_Net_size h
    have allE : ∀ G, Ex H G → Ev (tCB (rAll K) (tCons (tLc (iList K (tVar 2)) (gName 4) tYes (tCall (sp_is_place K) [] E0 (tCons (tFld K (tVar 0) "size") (tCons (tVar 4) tNil))) [4]) tNil)) [some (.ref a), some (.ref m), some (.ref l), none, none] G (.bl ((xs.map (isPl W.size)).all id)) := fun G g =>
      ev_all (el_map (xs := xs) (ev_var rfl) (sq_of (g _ _ hl)) (by omega) (fun _ => rfl) (by rw [List.length_map, List.length_map]) (fun i x y G1 g1 hx hy => by
        obtain ⟨b', hb', rfl⟩ := map_get hy
        obtain ⟨x', hx', rfl⟩ := map_get hb'
        have : x' = x := Option.some.inj (hx'.symm.trans hx)
        subst this
        exact ev_call (ea_cons (sz (g.trans g1) (ev_var rfl)) (ea_cons (ev_var rfl) ea_nil)) (spv_place ((sc x' (List.mem_of_getElem? hx)).go (g.trans g1)))))
    by_cases ap : ((xs.map (isPl W.size)).all id) = true
    case neg =>
      have ap : ((xs.map (isPl W.size)).all id) = false := by simpa using ap
      refine q_when (b := true) (et_or (a := true) (b := true) (et_is (et_not (et_B (allE H1 e1))) (by rw [ap]; rfl)) (fun z => nomatch z)) (fun _ H2 e2 => s_ret ev_c fun H3 e3 => no H3 (fun ns h1 h2 => ?_) q ((e1.trans e2).trans e3)) (fun z => nomatch z)
      rw [List.all_map, List.all_eq_false] at ap
      obtain ⟨x, hx, hx2⟩ := ap
      rw [h1] at hx
      obtain ⟨t, ht, rfl⟩ := List.mem_map.mp hx
      have := h2.lt t ht
      simp [isPl] at hx2
      omega
    have pls : ∀ x ∈ xs, isPl W.size x = true := fun x hx => by
      rw [List.all_map, List.all_eq_true] at ap
      exact ap x hx
    obtain ⟨ns, hns⟩ : ∃ ns : List Nat, xs = ns.map vn := ⟨xs.map placeOf, by
      rw [List.map_map]
      refine (List.map_id xs).symm.trans (List.map_congr_left fun x hx => ?_)
      exact (isPl_of (pls x hx)).1⟩
    have lt : ∀ t ∈ ns, t < W.size := fun t ht => by
      have := pls (vn t) (by rw [hns]; exact List.mem_map.mpr ⟨t, ht, rfl⟩)
      simpa [isPl] using this
    subst hns
    have inj : ∀ ns' : List Nat, ns.map vn = ns'.map vn → ns' = ns := fun ns' h => ((List.map_inj_right (fun x y h => by injection h with h; omega)).mp h).symm
    have no : ∀ H', ¬ IsWay W ms ns → (∀ H1, Ex H H1 → Q (.bl b) H1) → Ex H H' → Q (.bl false) H' := fun H' hno q e => no H' (fun ns' h1 h2 => hno (by rw [← inj ns' h1]; exact h2)) q e
    have Il : ∀ G, Ex H G → Ints G l ns := fun G g => g _ _ hl
    have nl : (ns.map vn).length = ns.length := List.length_map _
    rw [nl] at c2 xl lenE
    refine q_when (b := !decide ns.Nodup) (et_is (et_or (a := false) (et_is (et_not (et_B (allE H1 e1))) (by rw [ap]; rfl)) fun _ => et_dupI (ev_var rfl) (Il H1 e1) (by omega) (lenE e1 (ev_var rfl))) rfl) (fun c H2 e2 => s_ret ev_c fun H3 e3 => no H3 (fun h => ?_) q ((e1.trans e2).trans e3)) (fun c H2 e2 => ?_)
    · have := h.nd
      simp [this] at c
    have nd : ns.Nodup := by simpa using c
    have e02 := e1.trans e2
    -- the ends
    have at_ : ∀ {σ : L2.St} {G : Hp} {te tb : TE} {i x : Nat}, Ex H G → Ev te σ G (.ref l) → Ev tb σ G (vn i) → ns[i]? = some x → Ev (tOp (rIxL K) te tb) σ G (vn x) := fun g h1 h2 hx => ev_op h1 h2 (rv_ixL (K := K) (sq_of (g _ _ hl)) (atI_nat (map_get' hx)))
    have mt : ∀ {σ : L2.St} {G : Hp} {te tb : TE} {x : Nat}, Ex H G → Ev te σ G (.ref m) → Ev tb σ G (vn x) → x < W.size → Ev (tOp (rIxL K) te tb) σ G (vo (ms.getD x none)) := fun g h1 h2 hx => ev_op h1 h2 (rv_ixL (K := K) (sq_of (g _ _ hm)) (atI_nat (map_get' (getD_get none (by omega)))))
    obtain ⟨x0, hx0⟩ : ∃ x, ns[0]? = some x := ⟨_, List.getElem?_eq_getElem (by omega)⟩
    obtain ⟨xz, hxz⟩ : ∃ x, ns[ns.length - 1]? = some x := ⟨_, List.getElem?_eq_getElem (by omega)⟩
    have l0 := lt x0 (List.mem_of_getElem? hx0)
    have lz := lt xz (List.mem_of_getElem? hxz)
    have g0 : ms[x0]? = some (ms.getD x0 none) := getD_get none (by omega)
    have gz : ms[xz]? = some (ms.getD xz none) := getD_get none (by omega)
    have lastE : ∀ {σ : L2.St} {G : Hp} {te : TE}, Ex H G → Ev te σ G (.ref l) → Ev (tOp (rIxL K) te (tUn (rU fun i => .int (-i)) (tC (.int 1)))) σ G (vn xz) := fun {σ G te} g h => by
      refine ev_op h (ev_un ev_c ru_neg) (rv_ixL (K := K) (sq_of (g _ _ hl)) ?_)
      have ne : ns ≠ [] := fun z => by rw [z] at hx0; cases hx0
      have e1 := List.dropLast_concat_getLast ne
      have e2 : ns.getLast ne = xz := by
        rw [List.getLast_eq_getElem]
        exact (List.getElem?_eq_some_iff.mp hxz).2
      rw [e2] at e1
      rw [← e1, List.map_append]
      exact atI_last
    refine q_when (b := !decide (ms.getD x0 none = none) || !decide (ms.getD xz none = none)) (et_or (et_is (et_test (ev_op (mt e02 (ev_var rfl) (at_ (i := 0) e02 (ev_var rfl) ev_c hx0) l0) ev_c rv_notN)) (by rw [vo_non])) fun _ => et_is (et_test (ev_op (mt e02 (ev_var rfl) (lastE e02 (ev_var rfl)) lz) ev_c rv_notN)) (by rw [vo_non])) (fun c H3 e3 => s_ret ev_c fun H4 e4 => no H4 (fun h => ?_) q ((e02.trans e3).trans e4)) (fun c H3 e3 => ?_)
    · have h1 := h.first x0 hx0
      have h2 := h.last xz hxz
      rw [g0] at h1
      rw [gz] at h2
      rw [decide_eq_true (Option.some.inj h1), decide_eq_true (Option.some.inj h2)] at c
      cases c
    have ends : ms.getD x0 none = none ∧ ms.getD xz none = none := by
      rw [Bool.or_eq_false_iff, Bool.not_eq_false', Bool.not_eq_false'] at c
      exact ⟨of_decide_eq_true c.1, of_decide_eq_true c.2⟩
    have e03 := e02.trans e3
    refine q_forR1 (n := ((ns.length - 1 : Nat) : Int)) (ea_cons (ev_is (ev_op (lenE e03 (ev_var rfl)) ev_c rv_I0) (by show V.int _ = V.int _; congr 1; omega)) ea_nil) (by omega)
      (fun i σ' G => ∃ x3, σ' = [some (.ref a), some (.ref m), some (.ref l), x3, none] ∧ Ex H G ∧ ∀ j x y, j < i → ns[j]? = some x → ns[j + 1]? = some y → y ∈ nbOf W x ∧ (ms[x]? = some (some y) ↔ j % 2 = 1)) (fun G g => ⟨none, rfl, e03.trans g, fun j x y hj => by omega⟩) ?_ ?_
    · rintro i σ' G hi ⟨x3, rfl, eG, steps⟩
      have hi : i + 1 < ns.length := by omega
      obtain ⟨x, hx⟩ : ∃ x, ns[i]? = some x := ⟨_, List.getElem?_eq_getElem (by omega)⟩
      obtain ⟨y, hy⟩ : ∃ y, ns[i + 1]? = some y := ⟨_, List.getElem?_eq_getElem hi⟩
      have lx := lt x (List.mem_of_getElem? hx)
      obtain ⟨r, hr, er, rl, rlt⟩ := ok.nb lx
      have gx : ms[x]? = some (ms.getD x none) := getD_get none (by omega)
      have ixn : ∀ {σ : L2.St} {G1 : Hp} {te : TE}, Ev te σ G1 (vn i) → Ev (tOp (rI0 fun i j => .int (i + j)) te (tC (.int 1))) σ G1 (vn (i + 1)) := fun h => ev_is (ev_op h ev_c rv_I0) rfl
      obtain ⟨rb, hrb, eb⟩ := ev_near (ta := tVar 0) (tb := tOp (rIxL K) (tVar 2) (tVar 3)) (σ := [some (.ref a), some (.ref m), some (.ref l), some (vn i), none]) (hn.go eG) T.cl_Net T.na_Net_near (ev_var rfl) (at_ eG (ev_var rfl) (ev_var rfl) hx) hr
      refine s_when (b := !decide (y ∈ r) || !decide (decide (ms.getD x none = some y) = decide (i % 2 = 1))) (et_or (et_is (b := !decide (y ∈ r)) (et_test (ev_op (at_ eG (ev_var rfl) (ixn (ev_var rfl)) hy) eb (rv_niL (sq_of hrb) rfl (flat_nats r)))) (by rw [inV_nat])) fun _ => et_is (et_test (ev_op (ev_is (ev_op (mt eG (ev_var rfl) (at_ eG (ev_var rfl) (ev_var rfl) hx) lx) (at_ eG (ev_var rfl) (ixn (ev_var rfl)) hy) (rv_eq (scal_vo _ _))) (by rw [dec_vo])) (ev_is (ev_op (ev_op (ev_var rfl) ev_c (rv_I (by decide))) ev_c (rv_eq rfl)) (by
        show V.bl _ = V.bl (decide (i % 2 = 1))
        rw [dec_int]
        by_cases c : i % 2 = 1
        · rw [decide_eq_true c, decide_eq_true (by omega)]
        · rw [decide_eq_false c, decide_eq_false (by omega)])) (rv_ne rfl))) (by
        congr 1
        by_cases c : decide (ms.getD x none = some y) = decide (i % 2 = 1)
        · rw [c]; simp
        · simp [c])) (fun c G1 g1 => s_ret ev_c fun G2 g2 => no G2 (fun h => ?_) q ((eG.trans g1).trans g2)) (fun c G1 g1 => ⟨_, rfl, eG.trans g1, fun j x' y' hj hx' hy' => ?_⟩)
      · obtain ⟨s1, s2⟩ := h.step i x y hx hy
        rw [er] at s1
        rw [gx] at s2
        have : decide (ms.getD x none = some y) = decide (i % 2 = 1) := by
          rw [Bool.eq_iff_iff, decide_eq_true_iff, decide_eq_true_iff]
          exact ⟨fun z => s2.mp (by rw [z]), fun z => Option.some.inj (s2.mpr z)⟩
        rw [decide_eq_true s1, decide_eq_true this] at c
        cases c
      · by_cases ji : j = i
        · subst ji
          have : x' = x := Option.some.inj (hx'.symm.trans hx)
          subst this
          have : y' = y := Option.some.inj (hy'.symm.trans hy)
          subst this
          rw [Bool.or_eq_false_iff] at c
          obtain ⟨c1, c2'⟩ := c
          rw [Bool.not_eq_false'] at c1 c2'
          have c1 : y' ∈ r := of_decide_eq_true c1
          have c2' : decide (ms.getD x' none = some y') = decide (j % 2 = 1) := of_decide_eq_true c2'
          rw [Bool.eq_iff_iff, decide_eq_true_iff, decide_eq_true_iff] at c2'
          refine ⟨by rw [er]; exact c1, ?_⟩
          rw [gx]
          exact ⟨fun z => c2'.mp (Option.some.inj z), fun z => by rw [c2'.mpr z]⟩
        · exact steps j x' y' (by omega) hx' hy'
    · rintro σ' G ⟨x3, rfl, eG, steps⟩
      rw [Int.toNat_natCast] at steps
      have way : IsWay W ms ns := by
        refine ⟨c2.1, c2.2, lt, nd, fun x hx => ?_, fun x hx => ?_, fun i x y hx hy => steps i x y (by have := (List.getElem?_eq_some_iff.mp hy).1; omega) hx hy⟩
        · have : x = x0 := Option.some.inj (hx.symm.trans hx0)
          rw [this, g0, ends.1]
        · have : x = xz := Option.some.inj (hx.symm.trans hxz)
          rw [this, gz, ends.2]
      have : b = true := hb.mpr ⟨ns, rfl, way⟩
      rw [this] at q
      exact s_ret ev_c fun G1 g1 => q G1 (eG.trans g1)
/-! turned_mates -/
def sp_turned_mates : Sp := newSp fun H vs S => ∃ m ms l ns, vs = [.ref m, .ref l] ∧ Opts H m ms ∧ ms.length ≤ 1000 ∧ Ints H l ns ∧ ns.length % 2 = 0 ∧ ns.length ≤ 3000 ∧ (∀ x ∈ ns, x < ms.length) ∧ S = fun v fs G => ∃ p, v = .ref p ∧ fs = [p] ∧ Opts G p (turnL ms ns)
theorem ok_turned_mates (T : Txt K mg) : FnOk P w K mg base CX0 1 T.f_turned_mates T.fd_turned_mates ["mates", "way"] sp_turned_mates := by
  refine T.F_turned_mates.ok sc_turned_mates (fun vs H Q E h => ?_) (fun cdv A outer s H vs Q E hr h => ?_)
  · obtain ⟨S, ⟨m, ms, l, ns, rfl, _⟩, _⟩ := h
    rfl
  · obtain ⟨S, ⟨m, ms, l, ns, rfl, hm, ml, hl, ev, few, lt, rfl⟩, q⟩ := h
    refine ⟨_, (pss_cons (ps_set (i := 2) sc_turned_mates.nd rfl (Or.inl rfl) (pe_callTy (r := rListS K) call_list_of (by rfl) T.n_list (by decide +kernel) (pa_cons (pv 0) pa_nil)))
  (pss_cons (ps_for PassesOwn.never rfl (pi_range3 (by rfl) T.n_range (pa_cons pe_int (pa_cons (pe_callB (r := rLenS K) call_len_seq (by rfl) T.n_len (by decide +kernel) (pa_cons (pv 1) pa_nil)) (pa_cons pe_int pa_nil)))) (pg_name (i := 3) sc_turned_mates.nd rfl (Or.inl rfl))
    (pss_cons (ps_asg (pe_ix (r := rIxL K) ix_list (pv 1) (pe_op op_add (pv 3) pe_int) (fun _ _ => rfl)) (pg_sub (pv 2) (pe_ix (r := rIxL K) ix_list (pv 1) (pv 3) (fun _ _ => rfl)) set_list))
  (pss_one (ps_asg (pe_ix (r := rIxL K) ix_list (pv 1) (pv 3) (fun _ _ => rfl)) (pg_sub (pv 2) (pe_ix (r := rIxL K) ix_list (pv 1) (pe_op op_add (pv 3) pe_int) (fun _ _ => rfl)) set_list)))))
  (pss_one (ps_ret (pv 2))))), ?_⟩
    have e0 : start N_turned_mates [.ref m, .ref l] = [some (.ref m), some (.ref l), none, none] := rfl
    rw [e0]
    refine q_asgL (el_list (K := K) (ev_var rfl) (sq_of hm)) fun f H1 hf e1 hf1 => ?_
    obtain ⟨h, hh⟩ : ∃ h, h = ns.length / 2 := ⟨_, rfl⟩
    have n2 : ns.length = 2 * h := by omega
    refine q_forR3 (k := h) (ea_cons ev_c (ea_cons (ev_is (ev_len (K := K) (ev_var rfl) (sq_of (e1 _ _ hl))) (by rw [List.length_map, n2])) (ea_cons ev_c ea_nil))) (by omega)
      (fun k σ' G => ∃ x3, σ' = [some (.ref m), some (.ref l), some (.ref f), x3] ∧ Ex H G ∧ Opts G f (turnK ms ns k)) (fun G g => ⟨none, rfl, e1.trans g, g _ _ hf1⟩) ?_ ?_
    · rintro k σ' G hk ⟨x3, rfl, eG, hf'⟩
      have a0 : ns[2 * k]? = some (ns.getD (2 * k) 0) := getD_get 0 (by omega)
      have a1 : ns[2 * k + 1]? = some (ns.getD (2 * k + 1) 0) := getD_get 0 (by omega)
      have l0 := lt _ (List.mem_of_getElem? a0)
      have l1 := lt _ (List.mem_of_getElem? a1)
      obtain ⟨x, hx⟩ : ∃ x, x = ns.getD (2 * k) 0 := ⟨_, rfl⟩
      obtain ⟨y, hy⟩ : ∃ y, y = ns.getD (2 * k + 1) 0 := ⟨_, rfl⟩
      rw [← hx] at a0 l0
      rw [← hy] at a1 l1
      have E0 : ∀ {σ : L2.St} {G1 : Hp} {te tb : TE}, Ex H G1 → Ev te σ G1 (.ref l) → Ev tb σ G1 (vn (2 * k)) → Ev (tOp (rIxL K) te tb) σ G1 (vn x) := fun g h1 h2 => ev_op h1 h2 (rv_ixL (K := K) (sq_of (g _ _ hl)) (atI_nat (map_get' a0)))
      have E1 : ∀ {σ : L2.St} {G1 : Hp} {te tb : TE}, Ex H G1 → Ev te σ G1 (.ref l) → Ev tb σ G1 (vn (2 * k)) → Ev (tOp (rIxL K) te (tOp (rI0 fun i j => .int (i + j)) tb (tC (.int 1)))) σ G1 (vn y) := fun g h1 h2 => ev_op h1 (ev_is (ev_op h2 ev_c rv_I0) (rfl : _ = vn (2 * k + 1))) (rv_ixL (K := K) (sq_of (g _ _ hl)) (atI_nat (map_get' a1)))
      have tl : ((turnK ms ns k).map vo).length = ms.length := by rw [List.length_map, turnK_len]
      refine q_setL (l := f) hf' (E1 eG (ev_var rfl) (ev_var rfl)) (ev_var rfl) (E0 eG (ev_var rfl) (ev_var rfl)) (by omega) fun G1 g1 => ?_
      obtain ⟨G2, hG2⟩ : ∃ G2, G2 = upd G1 f (.lst (((turnK ms ns k).map vo).set x (vn y))) := ⟨_, rfl⟩
      rw [← hG2]
      have f2 : G2 f = some (.lst (((turnK ms ns k).map vo).set x (vn y))) := by rw [hG2, upd_same]
      have e2 : Ex H G2 := by rw [hG2]; exact (eG.trans g1).mut hf
      refine s_setL (l := f) f2 (E0 e2 (ev_var rfl) (ev_var rfl)) (ev_var rfl) (E1 e2 (ev_var rfl) (ev_var rfl)) (by rw [List.length_set]; omega) fun G3 g3 => ⟨_, rfl, (e2.trans g3).mut hf, ?_⟩
      show upd _ _ _ f = _
      rw [upd_same, turnK, ← hx, ← hy, List.map_set, List.map_set]
      rfl
    · rintro σ' G ⟨x3, rfl, eG, hf'⟩
      exact s_ret (ev_var rfl) fun G1 g1 => q _ [f] G1 (eG.trans g1) (fun r hr => by rw [List.mem_singleton.mp hr]; exact hf) ⟨f, rfl, rfl, by rw [turnL, ← hh]; exact hf'.go g1⟩
/-! turned -/
theorem Valid.mates {W : Web} {cs : List (Option (Nat × Nat))} {ps : List (Nat × Nat)} (h : Valid W cs ps) : PairsOk W ps := h.2
def sp_turned (K : PySem.W.Frag) (C E1 E2 : Addr) : Sp := fun vs H Q E => ∃ a W l ps v b, vs = [.ref a, .ref l, v] ∧ NetAt C H a W ∧ WebOk W ∧ Prs H l ps ∧ PairsOk W ps ∧ WayArg K H W (mateL W.size ps) v b ∧
  (b = false → ∀ H', Ex H H' → E (.ref E2) none H') ∧
  (b = true → ∀ ns l2, v = .ref l2 → Ints H l2 ns → IsWay W (mateL W.size ps) ns → ∀ v fs H', Ex H H' → (∀ p ∈ fs, H p = none) → (∃ p, v = .ref p ∧ fs = [p] ∧ Prs H' p (pairsOf (turnL (mateL W.size ps) ns))) → Q v H')
theorem cp_of {H : Hp} {W : Web} {as : List Addr} {qs : List (Nat × Nat)} (h : Paired (Pr H) as qs) (ok : PairsOk W qs) : Paired (CPair K H W.size) (as.map V.ref) (qs.map some) := by
  have key : ∀ {as : List Addr} {qs : List (Nat × Nat)}, Paired (Pr H) as qs → (∀ q ∈ qs, q.1 < q.2 ∧ q.2 < W.size) → Paired (CPair K H W.size) (as.map V.ref) (qs.map some) := by
    intro as qs h
    induction h with
    | nil => intro _; exact .nil
    | cons r t ih => intro hq; exact .cons ⟨_, rfl, r, hq _ List.mem_cons_self⟩ (ih fun q hq' => hq q (List.mem_cons_of_mem _ hq'))
  exact key h fun q hq => ⟨(ok.tie q hq).1, (ok.tie q hq).2.1⟩
/-- mates_of on a pairing -/
theorem en_mates {σ : L2.St} {H : Hp} {ta tb : TE} {C E1 a l : Addr} {W : Web} {qs : List (Nat × Nat)} {E : XK} (hn : NetAt C H a W) (ok : WebOk W) (hl : Prs H l qs) (pok : PairsOk W qs) (h1 : Ev ta σ H (.ref a)) (h2 : Ev tb σ H (.ref l)) :
    EvN (tCall (sp_mates_of K C E1) [] E (tCons ta (tCons tb tNil))) σ H (fun v fs G => ∃ p, v = .ref p ∧ fs = [p] ∧ Opts G p (mateL W.size qs)) := fun H1 e Q q =>
  (ea_cons h1 (ea_cons h2 ea_nil) : EvA (tCons ta (tCons tb tNil)) σ H [.ref a, .ref l]) H1 e _ fun H2 e2 => by
    have ee := e.trans e2
    obtain ⟨as, hl1, hl2⟩ := hl
    have few := pok.few
    have sm := ok.small
    have al := paired_len hl2
    have v0 : Valid W (qs.map some) qs := ⟨rfl, pok⟩
    refine ⟨a, W, .ref l, rfl, hn.go ee, ok, .inr ⟨l, as.map V.ref, qs.map some, rfl, ee _ _ hl1, by rw [List.length_map]; omega, cp_of (Paired.mapP hl2 fun _ _ z => ee _ _ z) pok, fun no => absurd v0 (no qs), fun ps vd p H3 e3 hp hm => ?_⟩⟩
    have : qs = ps := (List.map_inj_right (fun x y h => Option.some.inj h)).mp vd.1
    rw [← this] at hm
    exact q _ [p] H3 (e2.trans e3) (fun r hr => by rw [List.mem_singleton.mp hr]; exact fresh_back e2 hp) ⟨p, rfl, rfl, hm⟩
theorem ok_turned (T : Txt K mg) : FnOk P w K mg base (L2.CX P w) 5 T.f_turned T.fd_turned ["net", "pairs", "way"] (sp_turned K T.C_Net T.C_BadPairs T.C_BadWay) := by
  refine T.F_turned.okX sc_turned (fun vs H Q E h => ?_) (fun cdv A outer s H vs Q E hr h => ?_)
  · obtain ⟨a, W, l, ps, v, b, rfl, _⟩ := h
    rfl
  · obtain ⟨a, W, l, ps, v, b, rfl, hn, ok, hl, pok, hw, bad, good⟩ := h
    refine ⟨_, (pss_cons (ps_set (i := 3) sc_turned.nd rfl (Or.inl rfl) (pe_call (ok_mates_of T) (hr.mono (by decide)) (by rfl) T.g_mates_of T.F_mates_of.kp T.b_mates_of .nil (passes_call (takes_of rfl rfl rfl rfl) (fun _ _ _ _ h => h)) (pa_cons (pv 0) (pa_cons (pv 1) pa_nil))))
  (pss_cons (ps_if (pt_not (pt_val (pe_call (ok_is_way T) (hr.mono (by decide)) (by rfl) T.g_is_way T.F_is_way.kp T.b_is_way .nil pass0 (pa_cons (pv 0) (pa_cons (pv 3) (pa_cons (pv 2) pa_nil)))))) (pss_one (ps_raise rfl (takes_of rfl rfl rfl rfl) (pmk_own PySem.F.excBase_ValueError T.x_BadWay T.g_BadWay T.kp_BadWay (raises_own T.sb_BadWay T.ty_BadWay) (by rfl)))) pss_nil)
  (pss_one (ps_ret (pe_call (ok_pairs_of T) (hr.mono (by decide)) (by rfl) T.g_pairs_of T.F_pairs_of.kp T.b_pairs_of .nil pass0 (pa_cons (pe_call (ok_turned_mates T) (hr.mono (by decide)) (by rfl) T.g_turned_mates T.F_turned_mates.kp T.b_turned_mates .nil pass0 (pa_cons (pv 3) (pa_cons (pv 2) pa_nil))) pa_nil)))))), ?_⟩
    have e0 : start N_turned [.ref a, .ref l, v] = [some (.ref a), some (.ref l), some v, none] := rfl
    rw [e0]
    refine q_asgN (en_mates hn ok hl pok (ev_var rfl) (ev_var rfl)) fun u fs H1 e1 fr r => ?_
    obtain ⟨m, rfl, rfl, hm⟩ := r
    have ml := mateL_len W.size ps
    refine q_when (b := !b) (et_not (et_B (ev_call (ea_cons (ev_var rfl) (ea_cons (ev_var rfl) (ea_cons (ev_var rfl) ea_nil))) (spv_pure fun G g => ⟨a, W, m, _, v, b, rfl, (hn.go e1).go g, ok, hm.go g, ml, (hw.go e1).go g, rfl⟩)))) (fun c H2 e2 => bad (by simpa using c) H2 (e1.trans e2)) (fun c H2 e2 => ?_)
    have hb : b = true := by simpa using c
    have way : ∃ ns l2, v = .ref l2 ∧ Ints H l2 ns ∧ IsWay W (mateL W.size ps) ns ∧ ns.length ≤ 3000 := by
      rcases hw with ⟨_, z⟩ | ⟨l2, xs, h1, h2, h3, h4, h5⟩
      · rw [hb] at z; cases z
      · obtain ⟨ns, rfl, w⟩ := h5.mp hb
        exact ⟨ns, l2, h1, h2, w, by rw [List.length_map] at h3; exact h3⟩
    obtain ⟨ns, l2, rfl, hns, wy, few⟩ := way
    have e02 := e1.trans e2
    have sm := ok.small
    refine s_ret_x (call1_x (call_x (vs := [.ref m, .ref l2]) (ea_cons (ev_var rfl) (ea_cons (ev_var rfl) ea_nil)) fun H3 e3 => ?_))
    refine ⟨_, ⟨m, mateL W.size ps, l2, ns, rfl, (hm.go e2).go e3, by rw [ml]; omega, (hns.go e02).go e3, wy.even, few, fun x hx => by rw [ml]; exact wy.lt x hx, rfl⟩, fun v fs H4 e4 fr4 r => ?_⟩
    obtain ⟨t, rfl, rfl, ht⟩ := r
    have tl : (turnL (mateL W.size ps) ns).length = W.size := by rw [turnL, turnK_len, ml]
    exact ⟨_, ⟨t, _, rfl, ht, by rw [tl]; omega, rfl⟩, fun v fs H5 e5 fr5 r => good hb ns l2 rfl hns wy v fs H5 (((e02.trans e3).trans e4).trans e5) (fun x hx => fresh_back ((e02.trans e3).trans e4) (fr5 x hx)) r⟩
/-! _law_sole -/
theorem sole_gen (T : Txt K mg) {D : Addr} (ec : ExcC K D) {b1 b2 b3 b4 b5 b6 b7 : Bool} (k1 : PySem.W.kitOne K (.ref D) (.ref T.C_BadNet) = some b1) (k2 : PySem.W.kitOne K (.ref D) (.ref T.C_NoPlace) = some b2) (k3 : PySem.W.kitOne K (.ref D) (.ref T.C_BadPairs) = some b3) (k4 : PySem.W.kitOne K (.ref D) (.ref T.C_BadWay) = some b4) (k5 : PySem.W.kitOne K (.ref D) (.ref T.C_TieThere) = some b5) (k6 : PySem.W.kitOne K (.ref D) (.ref T.C_NoTie) = some b6) (k7 : PySem.W.kitOne K (.ref D) (.ref T.C_OddRing) = some b7)
    (hn : PySem.W.kitOne K (.ref D) (.ref T.C_NetError) = some true) (hv : PySem.W.kitOne K (.ref D) (.type "ValueError") = some true)
    (sum : (0 + (if b1 then 1 else 0) + (if b2 then 1 else 0) + (if b3 then 1 else 0) + (if b4 then 1 else 0) + (if b5 then 1 else 0) + (if b6 then 1 else 0) + (if b7 then 1 else 0) : Int) = 1) : FnE P w K mg base 1 T.f_l_sole T.fd_l_sole "_law_error" D := by
  refine fnE_of T.F_l_sole sc_l_sole (fun cdv A outer s H a oe Q hr hz hf q => ?_)
  refine ⟨_, (pss_cons (ps_set (i := 1) sc_l_sole.nd rfl (Or.inl rfl) pe_int)
  (pss_cons (ps_set (i := 1) sc_l_sole.nd rfl (Or.inl rfl) (pe_op op_add (pv 1) (pe_callTy call_int1 (by rfl) T.n_int (by decide +kernel) (pa_cons (pe_callB (r := rIsE K D a) (call_isP ec List.mem_cons_self hz hf) (by rfl) T.n_isinstance (by decide +kernel) (pa_cons (pv 0) (pa_cons (pe_glob (v := .ref T.C_BadNet) rfl T.g_BadNet rfl) pa_nil))) pa_nil))))
  (pss_cons (ps_set (i := 1) sc_l_sole.nd rfl (Or.inl rfl) (pe_op op_add (pv 1) (pe_callTy call_int1 (by rfl) T.n_int (by decide +kernel) (pa_cons (pe_callB (r := rIsE K D a) (call_isP ec List.mem_cons_self hz hf) (by rfl) T.n_isinstance (by decide +kernel) (pa_cons (pv 0) (pa_cons (pe_glob (v := .ref T.C_NoPlace) rfl T.g_NoPlace rfl) pa_nil))) pa_nil))))
  (pss_cons (ps_set (i := 1) sc_l_sole.nd rfl (Or.inl rfl) (pe_op op_add (pv 1) (pe_callTy call_int1 (by rfl) T.n_int (by decide +kernel) (pa_cons (pe_callB (r := rIsE K D a) (call_isP ec List.mem_cons_self hz hf) (by rfl) T.n_isinstance (by decide +kernel) (pa_cons (pv 0) (pa_cons (pe_glob (v := .ref T.C_BadPairs) rfl T.g_BadPairs rfl) pa_nil))) pa_nil))))
  (pss_cons (ps_set (i := 1) sc_l_sole.nd rfl (Or.inl rfl) (pe_op op_add (pv 1) (pe_callTy call_int1 (by rfl) T.n_int (by decide +kernel) (pa_cons (pe_callB (r := rIsE K D a) (call_isP ec List.mem_cons_self hz hf) (by rfl) T.n_isinstance (by decide +kernel) (pa_cons (pv 0) (pa_cons (pe_glob (v := .ref T.C_BadWay) rfl T.g_BadWay rfl) pa_nil))) pa_nil))))
  (pss_cons (ps_set (i := 1) sc_l_sole.nd rfl (Or.inl rfl) (pe_op op_add (pv 1) (pe_callTy call_int1 (by rfl) T.n_int (by decide +kernel) (pa_cons (pe_callB (r := rIsE K D a) (call_isP ec List.mem_cons_self hz hf) (by rfl) T.n_isinstance (by decide +kernel) (pa_cons (pv 0) (pa_cons (pe_glob (v := .ref T.C_TieThere) rfl T.g_TieThere rfl) pa_nil))) pa_nil))))
  (pss_cons (ps_set (i := 1) sc_l_sole.nd rfl (Or.inl rfl) (pe_op op_add (pv 1) (pe_callTy call_int1 (by rfl) T.n_int (by decide +kernel) (pa_cons (pe_callB (r := rIsE K D a) (call_isP ec List.mem_cons_self hz hf) (by rfl) T.n_isinstance (by decide +kernel) (pa_cons (pv 0) (pa_cons (pe_glob (v := .ref T.C_NoTie) rfl T.g_NoTie rfl) pa_nil))) pa_nil))))
  (pss_cons (ps_set (i := 1) sc_l_sole.nd rfl (Or.inl rfl) (pe_op op_add (pv 1) (pe_callTy call_int1 (by rfl) T.n_int (by decide +kernel) (pa_cons (pe_callB (r := rIsE K D a) (call_isP ec List.mem_cons_self hz hf) (by rfl) T.n_isinstance (by decide +kernel) (pa_cons (pv 0) (pa_cons (pe_glob (v := .ref T.C_OddRing) rfl T.g_OddRing rfl) pa_nil))) pa_nil))))
  (pss_one (ps_ret (pe_and (pe_cmpR op_eq (pv 1) pe_int (nomark _)) (pe_and (pe_callB (r := rIsE K D a) (call_isP ec List.mem_cons_self hz hf) (by rfl) T.n_isinstance (by decide +kernel) (pa_cons (pv 0) (pa_cons (pe_glob (v := .ref T.C_NetError) rfl T.g_NetError rfl) pa_nil))) (pe_one (pe_callB (r := rIsE K D a) (call_isP ec List.mem_cons_self hz hf) (by rfl) T.n_isinstance (by decide +kernel) (pa_cons (pv 0) (pa_cons (pe_bltn (v := .ty "ValueError") (by rfl) T.n_ValueError (by decide +kernel) rfl) pa_nil)))))))))))))))), ?_⟩
  have e0 : start N_l_sole [.ref a] = [some (.ref a), none] := rfl
  rw [e0]
  refine q_asg ev_c fun H0 e0 => ?_
  refine q_asg (ev_op (ev_var rfl) (ev_cb (ea_cons (ev_cb (ea_cons (ev_var rfl) (ea_cons ev_c ea_nil)) (rc_isE (.own _) k1)) ea_nil) rc_int1) rv_I0) fun H1 e1 => ?_
  refine q_asg (ev_op (ev_var rfl) (ev_cb (ea_cons (ev_cb (ea_cons (ev_var rfl) (ea_cons ev_c ea_nil)) (rc_isE (.own _) k2)) ea_nil) rc_int1) rv_I0) fun H2 e2 => ?_
  refine q_asg (ev_op (ev_var rfl) (ev_cb (ea_cons (ev_cb (ea_cons (ev_var rfl) (ea_cons ev_c ea_nil)) (rc_isE (.own _) k3)) ea_nil) rc_int1) rv_I0) fun H3 e3 => ?_
  refine q_asg (ev_op (ev_var rfl) (ev_cb (ea_cons (ev_cb (ea_cons (ev_var rfl) (ea_cons ev_c ea_nil)) (rc_isE (.own _) k4)) ea_nil) rc_int1) rv_I0) fun H4 e4 => ?_
  refine q_asg (ev_op (ev_var rfl) (ev_cb (ea_cons (ev_cb (ea_cons (ev_var rfl) (ea_cons ev_c ea_nil)) (rc_isE (.own _) k5)) ea_nil) rc_int1) rv_I0) fun H5 e5 => ?_
  refine q_asg (ev_op (ev_var rfl) (ev_cb (ea_cons (ev_cb (ea_cons (ev_var rfl) (ea_cons ev_c ea_nil)) (rc_isE (.own _) k6)) ea_nil) rc_int1) rv_I0) fun H6 e6 => ?_
  refine q_asg (ev_op (ev_var rfl) (ev_cb (ea_cons (ev_cb (ea_cons (ev_var rfl) (ea_cons ev_c ea_nil)) (rc_isE (.own _) k7)) ea_nil) rc_int1) rv_I0) fun H7 e7 => ?_
  refine s_ret (ev_is (ev_andV (a := true) (ev_is (ev_op (ev_var rfl) ev_c (rv_eq rfl)) ?_) fun _ => ev_andV (a := true) (b := true) (ev_cb (ea_cons (ev_var rfl) (ea_cons ev_c ea_nil)) (rc_isE (.own _) hn)) fun _ => ev_cb (ea_cons (ev_var rfl) (ea_cons ev_c ea_nil)) (rc_isE (.ty _) hv)) rfl) fun H8 e8 => ?_
  · rw [dec_int]
    exact congrArg V.bl (decide_eq_true sum)
  · exact q _ (((((((e0.trans e1).trans e2).trans e3).trans e4).trans e5).trans e6).trans e7 |>.trans e8)
theorem sole_BadNet (T : Txt K mg) : FnE P w K mg base 1 T.f_l_sole T.fd_l_sole "_law_error" T.C_BadNet := sole_gen T T.ec_BadNet T.ki_BadNet_BadNet T.ki_BadNet_NoPlace T.ki_BadNet_BadPairs T.ki_BadNet_BadWay T.ki_BadNet_TieThere T.ki_BadNet_NoTie T.ki_BadNet_OddRing T.ki_BadNet_NetError T.ve_BadNet (by decide)
theorem sole_NoPlace (T : Txt K mg) : FnE P w K mg base 1 T.f_l_sole T.fd_l_sole "_law_error" T.C_NoPlace := sole_gen T T.ec_NoPlace T.ki_NoPlace_BadNet T.ki_NoPlace_NoPlace T.ki_NoPlace_BadPairs T.ki_NoPlace_BadWay T.ki_NoPlace_TieThere T.ki_NoPlace_NoTie T.ki_NoPlace_OddRing T.ki_NoPlace_NetError T.ve_NoPlace (by decide)
theorem sole_BadPairs (T : Txt K mg) : FnE P w K mg base 1 T.f_l_sole T.fd_l_sole "_law_error" T.C_BadPairs := sole_gen T T.ec_BadPairs T.ki_BadPairs_BadNet T.ki_BadPairs_NoPlace T.ki_BadPairs_BadPairs T.ki_BadPairs_BadWay T.ki_BadPairs_TieThere T.ki_BadPairs_NoTie T.ki_BadPairs_OddRing T.ki_BadPairs_NetError T.ve_BadPairs (by decide)
theorem sole_BadWay (T : Txt K mg) : FnE P w K mg base 1 T.f_l_sole T.fd_l_sole "_law_error" T.C_BadWay := sole_gen T T.ec_BadWay T.ki_BadWay_BadNet T.ki_BadWay_NoPlace T.ki_BadWay_BadPairs T.ki_BadWay_BadWay T.ki_BadWay_TieThere T.ki_BadWay_NoTie T.ki_BadWay_OddRing T.ki_BadWay_NetError T.ve_BadWay (by decide)
theorem sole_OddRing (T : Txt K mg) : FnE P w K mg base 1 T.f_l_sole T.fd_l_sole "_law_error" T.C_OddRing := sole_gen T T.ec_OddRing T.ki_OddRing_BadNet T.ki_OddRing_NoPlace T.ki_OddRing_BadPairs T.ki_OddRing_BadWay T.ki_OddRing_TieThere T.ki_OddRing_NoTie T.ki_OddRing_OddRing T.ki_OddRing_NetError T.ve_OddRing (by decide)
theorem sole_TieThere (T : Txt K mg) : FnE P w K mg base 1 T.f_l_sole T.fd_l_sole "_law_error" T.C_TieThere := sole_gen T T.ec_TieThere T.ki_TieThere_BadNet T.ki_TieThere_NoPlace T.ki_TieThere_BadPairs T.ki_TieThere_BadWay T.ki_TieThere_TieThere T.ki_TieThere_NoTie T.ki_TieThere_OddRing T.ki_TieThere_NetError T.ve_TieThere (by decide)
theorem sole_NoTie (T : Txt K mg) : FnE P w K mg base 1 T.f_l_sole T.fd_l_sole "_law_error" T.C_NoTie := sole_gen T T.ec_NoTie T.ki_NoTie_BadNet T.ki_NoTie_NoPlace T.ki_NoTie_BadPairs T.ki_NoTie_BadWay T.ki_NoTie_TieThere T.ki_NoTie_NoTie T.ki_NoTie_OddRing T.ki_NoTie_NetError T.ve_NoTie (by decide)
theorem set_get {σ : L2.St} {n i : Nat} {v : V} (h : σ.length = n) (hi : i < n := by decide) : (σ.set i (some v))[i]? = some (some v) := by
  simp [h, hi]
/-! _law_cell_at -/
def cellAt (ns : List Int) (k : Nat) : Int := ns.getD k 0
def Script (K : PySem.W.Frag) (H : Hp) (a : Addr) (ns : List Int) : Prop := SqL K H a (ns.map V.int) ∧ ns.length ≤ 63
theorem Script.go {H H' : Hp} {a : Addr} {ns : List Int} (h : Script K H a ns) (e : Ex H H') : Script K H' a ns := ⟨ex_l e h.1, h.2⟩
def sp_l_cell_at (K : PySem.W.Frag) : Sp := pureSp fun H vs z => ∃ a ns k, vs = [.ref a, vn k] ∧ Script K H a ns ∧ z = .int (cellAt ns k)
theorem ok_l_cell_at (T : Txt K mg) : FnOk P w K mg base CX0 1 T.f_l_cell_at T.fd_l_cell_at ["_law_script", "_law_k"] (sp_l_cell_at K) := by
  refine T.F_l_cell_at.ok sc_l_cell_at (fun vs H Q E h => ?_) (fun cdv A outer s H vs Q E hr h => ?_)
  · obtain ⟨z, ⟨a, ns, k, rfl, _⟩, _⟩ := h
    rfl
  · obtain ⟨z, ⟨a, ns, k, rfl, ⟨hs, hl⟩, rfl⟩, q⟩ := h
    refine ⟨_, (pss_cons (ps_if (pt_cmpR op_lt (pv 1) (pe_callB (r := rLenS K) call_len_seq (by rfl) T.n_len (by decide +kernel) (pa_cons (pv 0) pa_nil)) (nomark _)) (pss_one (ps_ret (pe_ix (r := rIxL K) ix_list (pv 0) (pv 1) (fun _ _ => rfl)))) pss_nil)
  (pss_one (ps_ret pe_int))), ?_⟩
    refine q_when (b := decide (k < ns.length)) (et_is (et_test (ev_op (ev_var rfl) (ev_len (K := K) (ev_var rfl) hs) rv_I0)) (by simp)) (fun c H1 e1 => ?_) (fun c H1 e1 => ?_)
    · have c : k < ns.length := by simpa using c
      refine s_ret (ev_op (ev_var rfl) (ev_var rfl) (rv_ixL (K := K) (ex_l e1 hs) (atI_nat (v := .int (cellAt ns k)) ?_))) fun H2 e2 => q H2 (e1.trans e2)
      rw [List.getElem?_map, List.getElem?_eq_getElem c]
      simp [cellAt, List.getD_eq_getElem?_getD, c]
    · have c : ¬ k < ns.length := by simpa using c
      have : cellAt ns k = 0 := by
        unfold cellAt
        rw [List.getD_eq_getElem?_getD, List.getElem?_eq_none (by omega)]
        rfl
      rw [this] at q
      exact s_ret ev_c fun H2 e2 => q H2 (e1.trans e2)
theorem spv_l_cell {H : Hp} {a : Addr} {ns : List Int} {k : Nat} (h : Script K H a ns) : SpV (sp_l_cell_at K) [.ref a, vn k] H (.int (cellAt ns k)) := spv_pure fun H1 e => ⟨a, ns, k, rfl, h.go e, rfl⟩
theorem ev_cell {σ : L2.St} {H : Hp} {ta tb : TE} {E : XK} {a : Addr} {ns : List Int} {k : Nat} (h : Script K H a ns) (h1 : Ev ta σ H (.ref a)) (h2 : Ev tb σ H (vn k)) : Ev (tCall (sp_l_cell_at K) [] E (tCons ta (tCons tb tNil))) σ H (.int (cellAt ns k)) := ev_call (ea_cons h1 (ea_cons h2 ea_nil)) (spv_l_cell h)
/-! _law_mixed -/
theorem perm_insN {xs : List Nat} (i : Nat) (v : Nat) : (xs.take i ++ [v] ++ xs.drop i).Perm (xs ++ [v]) := by
  have h : (xs.take i ++ [v] ++ xs.drop i).Perm ([v] ++ (xs.take i ++ xs.drop i)) := by
    rw [← List.append_assoc]
    exact List.Perm.append_right _ List.perm_append_comm
  rw [List.take_append_drop] at h
  exact h.trans List.perm_append_comm
def sp_l_mixed : Sp := newSp fun _ vs S => ∃ (n : Nat) (c : Int), vs = [vn n, .int c] ∧ n ≤ 10000 ∧ S = fun v fs G => ∃ p ys, v = .ref p ∧ fs = [p] ∧ Ints G p ys ∧ ys.Perm (List.range n)
theorem ok_l_mixed (T : Txt K mg) : FnOk P w K mg base CX0 1 T.f_l_mixed T.fd_l_mixed ["_law_size", "_law_cell"] sp_l_mixed := by
  refine T.F_l_mixed.ok sc_l_mixed (fun vs H Q E h => ?_) (fun cdv A outer s H vs Q E hr h => ?_)
  · obtain ⟨S, ⟨n, c, rfl, _⟩, _⟩ := h
    rfl
  · obtain ⟨S, ⟨n, c, rfl, hn, rfl⟩, q⟩ := h
    refine ⟨_, (pss_cons (ps_set (i := 2) sc_l_mixed.nd rfl (Or.inl rfl) (pe_lst pa_nil))
  (pss_cons (ps_for PassesOwn.never rfl (pi_range1 (by rfl) T.n_range (pa_cons (pv 0) pa_nil)) (pg_name (i := 3) sc_l_mixed.nd rfl (Or.inl rfl))
    (pss_one (ps_expr (pe_bm PySem.F.plainAttrs_list PySem.F.slot_list_insert PySem.F.type_list_insert mt_insert (pv 2) (pa_cons (pe_op op_mod (pe_op op_add (pe_op op_fdiv (pv 1) (pe_op op_add (pv 3) pe_int)) (pe_op op_mul pe_int (pv 3))) (pe_op op_add (pe_callB (r := rLenS K) call_len_seq (by rfl) T.n_len (by decide +kernel) (pa_cons (pv 2) pa_nil)) pe_int)) (pa_cons (pv 3) pa_nil))))))
  (pss_one (ps_ret (pv 2))))), ?_⟩
    have e0 : start N_l_mixed [vn n, .int c] = [some (vn n), some (.int c), none, none] := rfl
    rw [e0]
    refine q_asgL (el_lst ea_nil (by decide)) fun l H1 hl e1 hl1 => ?_
    refine q_forR1 (n := (n : Nat)) (ea_cons (ev_var rfl) ea_nil) (by omega)
      (fun i σ' G => ∃ x3 ys, σ' = [some (vn n), some (.int c), some (.ref l), x3] ∧ Ex H G ∧ Ints G l ys ∧ ys.Perm (List.range i)) (fun G g => ⟨none, [], rfl, e1.trans g, g _ _ hl1, by simp⟩) ?_ ?_
    · rintro i σ' G hi ⟨x3, ys, rfl, eG, hl', pm⟩
      have hi : i < n := by omega
      have yl : ys.length = i := by rw [pm.length_eq, List.length_range]
      refine s_dropM (vs := [vn ((c / ((i : Int) + 1) + 3 * (i : Int)) % ((i + 1 : Nat) : Int)).toNat, vn i]) (ev_var rfl) hl' (ea_cons (ev_modN (m := i + 1) (by omega) (ev_op (ev_op (ev_var rfl) (ev_op (ev_var rfl) ev_c rv_I0) (rv_I ⟨by show (0 : Int) < (i : Int) + 1; omega, by show (i : Int) + 1 < 1073741824; omega⟩)) (ev_op ev_c (ev_var rfl) (rv_I (.inl ⟨by decide, by decide⟩))) rv_I0) (ev_is (ev_op (ev_len (K := K) (ev_var rfl) (sq_of hl')) ev_c rv_I0) (by show V.int _ = V.int _; congr 1; rw [List.length_map, yl]; rfl))) (ea_cons (ev_var rfl) ea_nil)) fun G1 g1 => ?_
      have lt := modN_lt (c / ((i : Int) + 1) + 3 * (i : Int)) (show 0 < i + 1 by omega)
      refine ⟨l, ys.map vn, _, vn i, rfl, rfl, g1 _ _ hl', sz_lt (by rw [List.length_map]; omega), by omega, ?_, ?_⟩
      · have h2 : (2 : Int) ^ 63 = 9223372036854775808 := by decide
        omega
      · refine ⟨_, ys.take ((((c / ((i : Int) + 1) + 3 * (i : Int)) % ((i + 1 : Nat) : Int)).toNat : Nat) : Int).toNat ++ [i] ++ ys.drop ((((c / ((i : Int) + 1) + 3 * (i : Int)) % ((i + 1 : Nat) : Int)).toNat : Nat) : Int).toNat, rfl, (eG.trans g1).mut hl, ?_, ?_⟩
        · show upd _ _ _ l = _
          rw [upd_same, List.map_append, List.map_append, List.map_take, List.map_drop]
          rfl
        · rw [List.range_succ]
          exact (perm_insN _ _).trans (pm.append_right _)
    · rintro σ' G ⟨x3, ys, rfl, eG, hl', pm⟩
      rw [Int.toNat_natCast] at pm
      exact s_ret (ev_var rfl) fun G1 g1 => q _ [l] G1 (eG.trans g1) (fun r hr => by rw [List.mem_singleton.mp hr]; exact hl) ⟨l, ys, rfl, rfl, hl'.go g1, pm⟩
/-! _law_tie -/
def sp_l_tie : Sp := newSp fun _ vs S => ∃ x y, vs = [vn x, vn y] ∧ S = fun v fs G => ∃ p, v = .ref p ∧ fs = [p] ∧ Pr G p (tieOf x y)
theorem rc_min {H : Hp} {x y : Nat} : RC (fun xs H Q => ∃ i j, xs = [.int i, .int j] ∧ Q (.int (if j < i then j else i)) H) [vn x, vn y] H (vn (tieOf x y).1) := fun H1 _ Q q => ⟨_, _, rfl, by
  have : (if (y : Int) < (x : Int) then (y : Int) else (x : Int)) = (((tieOf x y).1 : Nat) : Int) := by
    rcases tieOf_cases x y with ⟨e, h⟩ | ⟨e, h⟩ <;> rw [e] <;> dsimp only <;> split <;> omega
  rw [this]
  exact q H1 (Ex.refl H1)⟩
theorem rc_max {H : Hp} {x y : Nat} : RC (fun xs H Q => ∃ i j, xs = [.int i, .int j] ∧ Q (.int (if j > i then j else i)) H) [vn x, vn y] H (vn (tieOf x y).2) := fun H1 _ Q q => ⟨_, _, rfl, by
  have : (if (y : Int) > (x : Int) then (y : Int) else (x : Int)) = (((tieOf x y).2 : Nat) : Int) := by
    rcases tieOf_cases x y with ⟨e, h⟩ | ⟨e, h⟩ <;> rw [e] <;> dsimp only <;> split <;> omega
  rw [this]
  exact q H1 (Ex.refl H1)⟩
theorem ok_l_tie (T : Txt K mg) : FnOk P w K mg base CX0 1 T.f_l_tie T.fd_l_tie ["_law_one", "_law_other"] sp_l_tie := by
  refine T.F_l_tie.ok sc_l_tie (fun vs H Q E h => ?_) (fun cdv A outer s H vs Q E hr h => ?_)
  · obtain ⟨S, ⟨x, y, rfl, _⟩, _⟩ := h
    rfl
  · obtain ⟨S, ⟨x, y, rfl, rfl⟩, q⟩ := h
    refine ⟨_, (pss_one (ps_ret (pe_tup (pa_cons (pe_callB (call_min2 rfl) (by rfl) T.n_min (by decide +kernel) (pa_cons (pv 0) (pa_cons (pv 1) pa_nil))) (pa_cons (pe_callB (call_max2 rfl) (by rfl) T.n_max (by decide +kernel) (pa_cons (pv 0) (pa_cons (pv 1) pa_nil))) pa_nil))))), ?_⟩
    have e0 : start N_l_tie [vn x, vn y] = [some (vn x), some (vn y)] := rfl
    rw [e0]
    refine s_retU (eu_tup (ea_cons (ev_cb (ea_cons (ev_var rfl) (ea_cons (ev_var rfl) ea_nil)) rc_min) (ea_cons (ev_cb (ea_cons (ev_var rfl) (ea_cons (ev_var rfl) ea_nil)) rc_max) ea_nil)) (by show 2 ≤ 100000; decide)) fun p H1 hp e1 h1 => q _ [p] H1 e1 (fun r hr => by rw [List.mem_singleton.mp hr]; exact hp) ⟨p, rfl, rfl, h1⟩
theorem eu_tie {σ : L2.St} {H : Hp} {ta tb : TE} {E : XK} {x y : Nat} (h1 : Ev ta σ H (vn x)) (h2 : Ev tb σ H (vn y)) : EvU (tCall sp_l_tie [] E (tCons ta (tCons tb tNil))) σ H [vn (tieOf x y).1, vn (tieOf x y).2] := fun H1 e Q q =>
  (ea_cons h1 (ea_cons h2 ea_nil) : EvA (tCons ta (tCons tb tNil)) σ H [vn x, vn y]) H1 e _ fun H2 e2 => ⟨_, ⟨x, y, rfl, rfl⟩, fun v fs H3 e3 fr r => by
    obtain ⟨p, rfl, rfl, hp⟩ := r
    exact q p H3 (fresh_back e2 (fr p List.mem_cons_self)) (e2.trans e3) hp⟩
/-! _law_refused -/
def sp_l_refused (K : PySem.W.Frag) (C : Addr) : Sp := pureSp fun H vs z => ∃ a W l ps v, vs = [.ref a, .ref l, v] ∧ NetAt C H a W ∧ WebOk W ∧ Prs H l ps ∧ PairsOk W ps ∧ WayArg K H W (mateL W.size ps) v false ∧ z = .bl true
theorem ok_l_refused (T : Txt K mg) : FnOk P w K mg base CX0 6 T.f_l_refused T.fd_l_refused ["_law_net", "_law_pairs", "_law_way"] (sp_l_refused K T.C_Net) := by
  refine T.F_l_refused.ok sc_l_refused (fun vs H Q E h => ?_) (fun cdv A outer s H vs Q E hr h => ?_)
  · obtain ⟨z, ⟨a, W, l, ps, v, rfl, _⟩, _⟩ := h
    rfl
  · obtain ⟨z, ⟨a, W, l, ps, v, rfl, hn, ok, hl, pok, hw, rfl⟩, q⟩ := h
    refine ⟨_, (pss_cons (ps_try_as (i := 3) rfl rfl sc_l_refused.nd rfl rfl ⟨rfl, by decide, .inl T.g_BadWay⟩ takes0 (fun W pn xe tk po => (pss_one (ps_expr (pe_call (ok_turned T) (hr.mono (by decide)) (by rfl) T.g_turned T.F_turned.kp T.b_turned .nil (passes_lenN (N := N_l_refused) rfl tk) (pa_cons (pv 0) (pa_cons (pv 1) (pa_cons (pv 2) pa_nil))))))) (fun a oe cls d pn hz hf => (pss_one (ps_ret (pe_callE2 (sole_BadWay T) (roomH_mark (hr.mono (by decide))) List.mem_cons_self hz hf (by rfl) T.g_l_sole T.F_l_sole.kp T.b_l_sole (pv 3))))))
  (pss_one (ps_ret pe_bl))), ?_⟩
    have e0 : start N_l_refused [.ref a, .ref l, v] = [some (.ref a), some (.ref l), some v, none] := rfl
    rw [e0]
    refine s_drop_x (call_x (vs := [.ref a, .ref l, v]) (ea_cons (ev_var rfl) (ea_cons (ev_var rfl) (ea_cons (ev_var rfl) ea_nil))) fun H1 e1 => ⟨a, W, l, ps, v, false, rfl, hn.go e1, ok, hl.go e1, pok, hw.go e1, fun _ H2 e2 σ hσ => ⟨true, T.em_BadWay, fun _ b hb => ⟨.ref b, set_get hσ, rfl, rfl, rfl, fun H3 e3 => q H3 ((e1.trans e2).trans e3)⟩, fun z => nomatch z⟩, fun z => nomatch z⟩)
/-! _law_wrong_by -/
theorem wayBad {H : Hp} {W : Web} {ms : List (Option Nat)} {p : Addr} {xs : List V} (h : H p = some (.lst xs)) (few : xs.length ≤ 3000) (sc : ∀ x ∈ xs, ∀ G, Sca K G x) (no : ∀ ns : List Nat, xs = ns.map vn → ¬ IsWay W ms ns) : WayArg K H W ms (.ref p) false :=
  .inr ⟨p, xs, rfl, h, few, fun x hx => sc x hx H, by simp; exact fun ns e => no ns e⟩
theorem sca_vn (ns : List Nat) : ∀ x ∈ ns.map vn, ∀ G, Sca K G x := fun x hx G => by
  obtain ⟨t, _, rfl⟩ := List.mem_map.mp hx
  exact sca_int _ _
theorem map_vn_inj {a b : List Nat} (h : a.map vn = b.map vn) : a = b := (List.map_inj_right (fun x y h => by injection h with h; omega)).mp h
theorem wayBadN {H : Hp} {W : Web} {ms : List (Option Nat)} {p : Addr} {ns : List Nat} (h : Ints H p ns) (few : ns.length ≤ 3000) (no : ¬ IsWay W ms ns) : WayArg K H W ms (.ref p) false :=
  wayBad h (by rw [List.length_map]; exact few) (sca_vn ns) fun ns' e => by rw [← map_vn_inj e]; exact no
theorem cut_last {xs : List V} (h : 1 ≤ xs.length) : cutV xs none (some (-1)) = xs.take (xs.length - 1) := by
  unfold cutV
  rw [HT.sIx_none]
  have : HT.sIx xs.length xs.length (some (-1)) = xs.length - 1 := by
    show (if (-1 : Int) < 0 then ((-1 : Int) + (xs.length : Int)).toNat else min (-1 : Int).toNat xs.length) = _
    rw [if_pos (by decide)]
    omega
  rw [this]
  simp
theorem cut_12 {xs : List V} (h : 2 ≤ xs.length) : cutV xs (some ((1 : Nat) : Int)) (some ((2 : Nat) : Int)) = (xs.drop 1).take 1 := by
  unfold cutV
  rw [HT.sIx_nat, HT.sIx_nat, Nat.min_eq_left (show 2 ≤ xs.length from h), Nat.min_eq_left (show 1 ≤ xs.length by omega)]
def WrongWay (K : PySem.W.Frag) (G : Hp) (v : V) : Prop := ∀ (W : Web) (ms : List (Option Nat)), W.size ≤ 40 → WayArg K G W ms v false
theorem WrongWay.go {G G' : Hp} {v : V} (h : WrongWay K G v) (e : Ex G G') : WrongWay K G' v := fun W ms s => (h W ms s).go e
theorem wrongN {H : Hp} {p : Addr} {ns : List Nat} (h : Ints H p ns) (few : ns.length ≤ 3000) (no : ns.length % 2 = 1 ∨ ns.length < 2 ∨ ¬ ns.Nodup) : WrongWay K H (.ref p) := fun W ms _ => wayBadN h few fun w => by
  rcases no with h | h | h
  · have := w.even; omega
  · have := w.two; omega
  · exact h w.nd
/-- xs + [e] + ys, of e P tells -/
theorem ep_mid {σ : L2.St} {H : Hp} {ta tb tc : TE} {P : HV} {xs ys : List V} (stay : Stay P) (h1 : EvL ta σ H xs) (h2 : EvP tb σ H P) (h3 : EvL tc σ H ys) (few : xs.length + ys.length ≤ 90000) :
    EvP (tOp rCat (tOp rCat ta (tLst (tCons tb tNil))) tc) σ H (fun G v => ∃ p u, v = .ref p ∧ P G u ∧ G p = some (.lst (xs ++ [u] ++ ys))) := fun H1 e Q q =>
  h1 H1 e _ fun a H2 ha e2 ha2 => h2 H2 (e.trans e2) _ fun u H3 e3 pu => ⟨by show 1 ≤ sizeLine; decide, fun b hb => by
    have e4 : Ex H3 (upd H3 b (.lst [u])) := Ex.new hb
    refine ⟨a, b, xs, [u], rfl, rfl, e4 _ _ (e3 _ _ ha2), upd_same, sz_of (by show xs.length + 1 ≤ 100000; omega), fun c hc => ?_⟩
    have e5 := e4.trans (Ex.new (o := .lst (xs ++ [u])) hc)
    refine h3 _ (((e.trans e2).trans e3).trans e5) _ fun d H4 hd e6 hd4 => ⟨c, d, xs ++ [u], ys, rfl, rfl, e6 _ _ upd_same, hd4, sz_of (by rw [List.length_append]; show xs.length + 1 + ys.length ≤ 100000; omega), fun r hr => ?_⟩
    have e7 := (e5.trans e6).trans (Ex.new (o := .lst (xs ++ [u] ++ ys)) hr)
    exact q _ _ ((e2.trans e3).trans e7) ⟨r, u, rfl, stay _ _ _ e7 pu, upd_same⟩⟩
theorem ep_tupleN {σ : L2.St} {H : Hp} {te : TE} {P : HV} {l : Addr} {ns : List Nat} (h : Ev te σ H (.ref l)) (hl : Ints H l ns) (p : ∀ a G, Ex H G → ∀ xs, G a = some (.tup xs) → P G (.ref a)) :
    EvP (tCB (fun xs H Q => ∃ p ys, xs = [.ref p] ∧ ((SqL K H p ys ∧ ∀ l, H l = none → Q (.ref l) (upd H l (.tup ys))) ∨ (SqT K H p ys ∧ Q (.ref p) H))) (tCons te tNil)) σ H P := fun H1 e Q q => h H1 e _ fun H2 e2 =>
  ⟨l, ns.map vn, rfl, .inl ⟨sq_of (e2 _ _ (e _ _ hl)), fun r hr => q _ _ (e2.trans (Ex.new hr)) (p r _ ((e.trans e2).trans (Ex.new hr)) _ upd_same)⟩⟩
def sp_l_wrong_by (K : PySem.W.Frag) : Sp := newSp fun H vs S => ∃ l ns c, vs = [.ref l, .int c] ∧ Ints H l ns ∧ 2 ≤ ns.length ∧ ns.length % 2 = 0 ∧ ns.length ≤ 100 ∧ S = fun v fs G => WrongWay K G v
theorem ok_l_wrong_by (T : Txt K mg) : FnOk P w K mg base CX0 1 T.f_l_wrong_by T.fd_l_wrong_by ["_law_way", "_law_cell"] (sp_l_wrong_by K) := by
  refine T.F_l_wrong_by.ok sc_l_wrong_by (fun vs H Q E h => ?_) (fun cdv A outer s H vs Q E hr h => ?_)
  · obtain ⟨S, ⟨l, ns, c, rfl, _⟩, _⟩ := h
    rfl
  · obtain ⟨S, ⟨l, ns, c, rfl, hl, two, ev, few, rfl⟩, q⟩ := h
    refine ⟨_, (pss_cons (ps_set (i := 2) sc_l_wrong_by.nd rfl (Or.inl rfl) (pe_op op_mod (pe_op op_fdiv (pv 1) pe_int) (pe_callB (r := rLenS K) call_len_seq (by rfl) T.n_len (by decide +kernel) (pa_cons (pv 0) pa_nil))))
  (pss_cons (ps_if (pt_cmpR op_eq (pe_op op_mod (pv 1) pe_int) pe_int (nomark _)) (pss_one (ps_ret (pe_ix (r := rIxL K) ix_list (pe_lst (pa_cons (pe_slice (r := rSlL K) sl_list (pv 0) (po_some pe_int) po_none) (pa_cons (pe_slice (r := rSlL K) sl_list (pv 0) po_none (po_some (pe_un un_neg pe_int))) (pa_cons (pe_lst pa_nil) (pa_cons (pe_slice (r := rSlL K) sl_list (pv 0) po_none (po_some pe_int)) pa_nil))))) (pe_op op_mod (pe_op op_fdiv (pv 1) pe_int) pe_int) (fun _ _ => rfl)))) pss_nil)
  (pss_cons (ps_if (pt_cmpR op_eq (pe_op op_mod (pv 1) pe_int) pe_int (nomark _)) (pss_one (ps_ret (pe_op op_cat (pe_op op_cat (pe_slice (r := rSlL K) sl_list (pv 0) po_none (po_some (pv 2))) (pe_lst (pa_cons (pe_ix (r := rIxL K) ix_list (pv 0) pe_int (fun _ _ => rfl)) pa_nil))) (pe_slice (r := rSlL K) sl_list (pv 0) (po_some (pv 2)) po_none)))) pss_nil)
  (pss_cons (ps_if (pt_cmpR op_eq (pe_op op_mod (pv 1) pe_int) pe_int (nomark _)) (pss_one (ps_ret (pe_op op_cat (pe_op op_cat (pe_op op_cat (pe_slice (r := rSlL K) sl_list (pv 0) (po_some pe_int) (po_some pe_int)) (pe_slice (r := rSlL K) sl_list (pv 0) po_none (po_some pe_int))) (pe_slice (r := rSlL K) sl_list (pv 0) (po_some pe_int) po_none)) (pe_slice (r := rSlL K) sl_list (pv 0) po_none (po_some pe_int))))) pss_nil)
  (pss_cons (ps_if (pt_cmpR op_eq (pe_op op_mod (pv 1) pe_int) pe_int (nomark _)) (pss_one (ps_ret (pe_op op_cat (pe_op op_cat (pe_slice (r := rSlL K) sl_list (pv 0) po_none (po_some (pv 2))) (pe_lst (pa_cons (pe_ix (r := rIxL K) ix_list (pe_lst (pa_cons (pe_un un_neg pe_int) (pa_cons pe_int (pa_cons pe_bl (pa_cons pe_str (pa_cons pe_non pa_nil)))))) (pe_op op_mod (pe_op op_fdiv (pv 1) pe_int) pe_int) (fun _ _ => rfl)) pa_nil))) (pe_slice (r := rSlL K) sl_list (pv 0) (po_some (pe_op op_add (pv 2) pe_int)) po_none)))) pss_nil)
  (pss_cons (ps_if (pt_cmpR op_eq (pe_op op_mod (pv 1) pe_int) pe_int (nomark _)) (pss_one (ps_ret (pe_callTy call_tuple_of (by rfl) T.n_tuple (by decide +kernel) (pa_cons (pv 0) pa_nil)))) pss_nil)
  (pss_one (ps_ret (pe_ix (r := rIxL K) ix_list (pe_lst (pa_cons pe_non (pa_cons pe_int (pa_cons pe_str (pa_cons pe_dnewK pa_nil))))) (pe_op op_mod (pe_op op_fdiv (pv 1) pe_int) pe_int) (fun _ _ => rfl)))))))))), ?_⟩
    have e0 : start N_l_wrong_by [.ref l, .int c] = [some (.ref l), some (.int c), none] := rfl
    rw [e0]
    have nl : (ns.map vn).length = ns.length := List.length_map _
    obtain ⟨k, hk⟩ : ∃ k, k = (c / 6 % (ns.length : Int)).toNat := ⟨_, rfl⟩
    have kl : k < ns.length := by rw [hk]; exact modN_lt _ (by omega)
    refine q_asg (v := vn k) (by rw [hk]; exact ev_modN (by omega) (ev_op (ev_var rfl) ev_c (rv_I ⟨by decide, by decide⟩)) (ev_is (ev_len (K := K) (ev_var rfl) (sq_of hl)) (by rw [nl]))) fun H1 e1 => ?_
    have c6 : ∀ (j : Int) G, EvT (tTest (tOp rEq (tOp (rI (fun _ j => 0 < j) fun i j => .int (i % j)) (tVar 1) (tC (.int 6))) (tC (.int j)))) [some (.ref l), some (.int c), some (vn k)] G (decide (c % 6 = j)) := fun j G => et_is (et_test (ev_op (ev_op (ev_var rfl) ev_c (rv_I (by decide))) ev_c (rv_eq rfl))) (dec_int _ _)
    have stay : Stay fun G v => WrongWay K G v := fun _ _ _ e h => h.go e
    have qw : ∀ v G, Ex H G → WrongWay K G v → Q v G := fun v G e h => q v [] G e (fun _ h => nomatch h) h
    have il : ∀ {G : Hp}, Ex H G → Ints G l ns := fun g => hl.go g
    have W4 : ∀ {σ : L2.St} {G : Hp} {te : TE} {xs : List V}, EvL te σ G xs → ∀ ms : List Nat, xs = ms.map vn → (ms.length % 2 = 1 ∨ ms.length < 2 ∨ ¬ ms.Nodup) → ms.length ≤ 3000 → EvP te σ G (fun G v => WrongWay K G v) := fun h ms e no fw => by
      subst e
      exact ep_l h fun a G g hh => wrongN hh fw no
    -- 0
    refine q_when (c6 0 H1) (fun _ H2 e2 => ?_) (fun _ H2 e2 => ?_)
    · have g2 := e1.trans e2
      refine s_retP (ep_pick (n := 4) stay (epl_lst stay (eps_cons stay (W4 (el_is (el_sl (lo := some ((1 : Nat) : Int)) (hi := none) (ev_var rfl) (eo_some ev_c) eo_none (sq_of (il g2))) (cut_drop1 _)) (ns.drop 1) (List.map_drop ..).symm (.inl (by rw [List.length_drop]; omega)) (by rw [List.length_drop]; omega))
        (eps_cons stay (W4 (el_is (el_sl (lo := none) (hi := some (-1)) (ev_var rfl) eo_none (eo_some (ev_un ev_c ru_neg)) (sq_of (il g2))) (cut_last (by rw [nl]; omega))) (ns.take (ns.length - 1)) (by rw [nl, List.map_take]) (.inl (by rw [List.length_take]; omega)) (by rw [List.length_take]; omega))
        (eps_cons stay (W4 (el_lst ea_nil (by decide)) [] rfl (.inr (.inl (by decide))) (by decide))
        (eps_cons stay (W4 (el_is (el_sl (lo := none) (hi := some ((1 : Nat) : Int)) (ev_var rfl) eo_none (eo_some ev_c) (sq_of (il g2))) (cut_take (by rw [nl]; omega))) (ns.take 1) (List.map_take ..).symm (.inr (.inl (by rw [List.length_take]; omega))) (by rw [List.length_take]; omega)) eps_nil)))) (by decide))
        (ev_modN (m := 4) (by decide) (ev_op (ev_var rfl) ev_c (rv_I ⟨by decide, by decide⟩)) ev_c) (modN_lt _ (by decide))) fun v G g h => qw v G (g2.trans g) h
    -- 1
    refine q_when (c6 1 H2) (fun _ H3 e3 => ?_) (fun _ H3 e3 => ?_)
    · have g3 := (e1.trans e2).trans e3
      refine s_retP (W4 (el_cat (el_cat (el_is (el_sl (lo := none) (hi := some (k : Int)) (ev_var rfl) eo_none (eo_some (ev_var rfl)) (sq_of (il g3))) (cut_take (by rw [nl]; omega))) (el_lst (ea_cons (ev_op (ev_var rfl) ev_c (rv_ixL (K := K) (sq_of (il g3)) (atI_nat (j := 0) (map_get' (getD_get 0 (by omega)))))) ea_nil) (by show 1 ≤ 100000; decide)) (by simp; omega)) (el_is (el_sl (lo := some (k : Int)) (hi := none) (ev_var rfl) (eo_some (ev_var rfl)) eo_none (sq_of (il g3))) (cut_drop (by rw [nl]; omega))) (by simp; omega))
        (ns.take k ++ [ns.getD 0 0] ++ ns.drop k) (by simp) (.inl (by simp; omega)) (by simp; omega)) fun v G g h => qw v G (g3.trans g) h
    -- 2
    refine q_when (c6 2 H3) (fun _ H4 e4 => ?_) (fun _ H4 e4 => ?_)
    · have g4 := ((e1.trans e2).trans e3).trans e4
      refine s_retP (W4 (el_cat (el_cat (el_cat (el_is (el_sl (lo := some ((1 : Nat) : Int)) (hi := some ((2 : Nat) : Int)) (ev_var rfl) (eo_some ev_c) (eo_some ev_c) (sq_of (il g4))) (cut_12 (by rw [nl]; omega))) (el_is (el_sl (lo := none) (hi := some ((1 : Nat) : Int)) (ev_var rfl) eo_none (eo_some ev_c) (sq_of (il g4))) (cut_take (by rw [nl]; omega))) (by simp; omega)) (el_is (el_sl (lo := some ((2 : Nat) : Int)) (hi := none) (ev_var rfl) (eo_some ev_c) eo_none (sq_of (il g4))) (cut_drop (by rw [nl]; omega))) (by simp; omega)) (el_is (el_sl (lo := none) (hi := some ((2 : Nat) : Int)) (ev_var rfl) eo_none (eo_some ev_c) (sq_of (il g4))) (cut_take (by rw [nl]; omega))) (by simp; omega))
        ((ns.drop 1).take 1 ++ ns.take 1 ++ ns.drop 2 ++ ns.take 2) (by simp) (.inr (.inr fun nd => ?_)) (by simp; omega)) fun v G g h => qw v G (g4.trans g) h
      have m1 : ns.getD 0 0 ∈ (ns.drop 1).take 1 ++ ns.take 1 ++ ns.drop 2 := by
        refine List.mem_append_left _ (List.mem_append_right _ ?_)
        refine List.mem_of_getElem? (i := 0) ?_
        rw [List.getElem?_take_of_lt (by omega)]
        exact getD_get 0 (by omega)
      have m2 : ns.getD 0 0 ∈ ns.take 2 := by
        refine List.mem_of_getElem? (i := 0) ?_
        rw [List.getElem?_take_of_lt (by omega)]
        exact getD_get 0 (by omega)
      exact (List.nodup_append.mp nd).2.2 _ m1 _ m2 rfl
    -- 3
    have stayB : Stay fun _ v => (∀ G, Sca K G v) ∧ ∀ t : Nat, t < 40 → v ≠ vn t := fun _ _ _ _ h => h
    refine q_when (c6 3 H4) (fun _ H5 e5 => ?_) (fun _ H5 e5 => ?_)
    · have g5 := (((e1.trans e2).trans e3).trans e4).trans e5
      refine s_retP (ep_mid (P := fun _ v => (∀ G, Sca K G v) ∧ ∀ t : Nat, t < 40 → v ≠ vn t) stayB (el_is (el_sl (lo := none) (hi := some (k : Int)) (ev_var rfl) eo_none (eo_some (ev_var rfl)) (sq_of (il g5))) (cut_take (by rw [nl]; omega)))
        (ep_pick (n := 5) stayB (epl_lst stayB (eps_cons stayB (ep_v (ev_un ev_c ru_neg) fun G e => ⟨fun _ => sca_int _ _, fun t ht z => by injection z with z; omega⟩) (eps_cons stayB (ep_v ev_c fun G e => ⟨fun _ => sca_int _ _, fun t ht z => by injection z with z; omega⟩) (eps_cons stayB (ep_v ev_c fun G e => ⟨fun _ => sca_bl _ _, fun t ht z => by cases z⟩) (eps_cons stayB (ep_v ev_c fun G e => ⟨fun _ => sca_str _ _, fun t ht z => by cases z⟩) (eps_cons stayB (ep_v ev_c fun G e => ⟨fun _ => sca_non _, fun t ht z => by cases z⟩) eps_nil))))) (by decide))
          (ev_modN (m := 5) (by decide) (ev_op (ev_var rfl) ev_c (rv_I ⟨by decide, by decide⟩)) ev_c) (modN_lt _ (by decide)))
        (el_is (el_sl (lo := some ((k + 1 : Nat) : Int)) (hi := none) (ev_var rfl) (eo_some (ev_is (ev_op (ev_var rfl) ev_c rv_I0) rfl)) eo_none (sq_of (il g5))) (cut_drop (by rw [nl]; omega))) (by simp; omega)) fun v G g h => qw v G (g5.trans g) ?_
      obtain ⟨p, u, rfl, ⟨us, ut⟩, hp⟩ := h
      intro W ms w40
      refine wayBad hp (by simp; omega) (fun x hx G => ?_) fun ns' e wy => ?_
      · rcases List.mem_append.mp hx with c | c
        · rcases List.mem_append.mp c with c | c
          · exact sca_vn ns x (List.mem_of_mem_take c) G
          · rw [List.mem_singleton.mp c]; exact us G
        · exact sca_vn ns x (List.mem_of_mem_drop c) G
      · have : u ∈ ns'.map vn := by rw [← e]; simp
        obtain ⟨t, ht, rfl⟩ := List.mem_map.mp this
        exact ut t (Nat.lt_of_lt_of_le (wy.lt t ht) w40) rfl
    have stayK : Stay fun G v => Kind K G v "list" false := fun _ _ _ e h => h.go e
    have kw : ∀ {G v}, Kind K G v "list" false → WrongWay K G v := fun h W ms _ => .inl ⟨h, rfl⟩
    have g5 := (((e1.trans e2).trans e3).trans e4).trans e5
    -- 4
    refine q_when (c6 4 H5) (fun _ H6 e6 => ?_) (fun _ H6 e6 => ?_)
    · have g6 := g5.trans e6
      exact s_retP (P := fun G v => Kind K G v "list" false) (ep_tupleN (ev_var rfl) (il g6) fun p G e xs h => kind_of (.base (.tup h)) (by decide +kernel)) fun v G g h => qw v G (g6.trans g) (kw h)
    -- 5
    have g6 := g5.trans e6
    exact s_retP (P := fun G v => Kind K G v "list" false) (ep_pick (n := 4) stayK (epl_lst stayK (eps_cons stayK (ep_v ev_c fun G e => kind_of (.base .non) (by decide +kernel)) (eps_cons stayK (ep_v ev_c fun G e => kind_of (.base (.int _)) (by decide +kernel)) (eps_cons stayK (ep_v ev_c fun G e => kind_of (.base (.str _)) (by decide +kernel))
      (eps_cons stayK (fun H1 _ Q q p hp => q _ _ (Ex.new hp) (kind_of (.base (.dK upd_same)) (by decide +kernel))) eps_nil)))) (by decide)) (ev_modN (m := 4) (by decide) (ev_op (ev_var rfl) ev_c (rv_I ⟨by decide, by decide⟩)) ev_c) (modN_lt _ (by decide))) fun v G g h => qw v G (g6.trans g) (kw h)
/-! _law_wrong -/
theorem cut_lastN {xs : List V} {m : Nat} (hm : 1 ≤ m) (h : m ≤ xs.length) : cutV xs none (some (-(m : Int))) = xs.take (xs.length - m) := by
  unfold cutV
  rw [HT.sIx_none]
  have : HT.sIx xs.length xs.length (some (-(m : Int))) = xs.length - m := by
    show (if (-(m : Int)) < 0 then ((-(m : Int)) + (xs.length : Int)).toNat else min (-(m : Int)).toNat xs.length) = _
    rw [if_pos (by omega)]
    omega
  rw [this]
  simp
theorem cut_fromN {xs : List V} {m : Nat} (hm : 1 ≤ m) (h : m ≤ xs.length) : cutV xs (some (-(m : Int))) none = xs.drop (xs.length - m) := by
  unfold cutV
  rw [HT.sIx_none]
  have : HT.sIx xs.length 0 (some (-(m : Int))) = xs.length - m := by
    show (if (-(m : Int)) < 0 then ((-(m : Int)) + (xs.length : Int)).toNat else min (-(m : Int)).toNat xs.length) = _
    rw [if_pos (by omega)]
    omega
  rw [this]
  rw [← List.length_drop, List.take_length]
def sp_l_wrong (K : PySem.W.Frag) : Sp := newSp fun H vs S => ∃ l ns c n ts X, vs = [.ref l, .int c] ∧ Ints H l ns ∧ Lay n ts ns X ∧ n ≤ 40 ∧ ns.length ≤ 100 ∧ S = fun v fs G => WayArg K G (webOf n ts) (mateL n (midPairs ns ++ X)) v false
theorem ok_l_wrong (T : Txt K mg) : FnOk P w K mg base CX0 2 T.f_l_wrong T.fd_l_wrong ["_law_way", "_law_cell"] (sp_l_wrong K) := by
  refine T.F_l_wrong.ok sc_l_wrong (fun vs H Q E h => ?_) (fun cdv A outer s H vs Q E hr h => ?_)
  · obtain ⟨S, ⟨l, ns, c, n, ts, X, rfl, _⟩, _⟩ := h
    rfl
  · obtain ⟨S, ⟨l, ns, c, n, ts, X, rfl, hl, lay, n40, few, rfl⟩, q⟩ := h
    refine ⟨_, (pss_cons (ps_if (PW.pt (pw_and (pt_cmpR op_gt (pe_callB (r := rLenS K) call_len_seq (by rfl) T.n_len (by decide +kernel) (pa_cons (pv 0) pa_nil)) pe_int (nomark _)) (pw_and1 (pt_cmpR op_eq (pe_op op_mod (pv 1) pe_int) pe_int (nomark _))))) (pss_cons (ps_set (i := 2) sc_l_wrong.nd rfl (Or.inl rfl) (pe_lst (pa_cons (pe_op op_cat (pe_slice (r := rSlL K) sl_list (pv 0) po_none (po_some pe_int)) (pe_slice (r := rSlL K) sl_list (pv 0) po_none (po_some pe_int))) (pa_cons (pe_slice (r := rSlL K) sl_list (pv 0) (po_some pe_int) po_none) (pa_cons (pe_slice (r := rSlL K) sl_list (pv 0) po_none (po_some (pe_un un_neg pe_int))) (pa_cons (pe_op op_cat (pe_slice (r := rSlL K) sl_list (pv 0) po_none (po_some pe_int)) (pe_slice (r := rSlL K) sl_list (pv 0) (po_some (pe_un un_neg pe_int)) po_none)) pa_nil))))))
  (pss_one (ps_ret (pe_ix (r := rIxL K) ix_list (pv 2) (pe_op op_mod (pe_op op_fdiv (pv 1) pe_int) pe_int) (fun _ _ => rfl))))) pss_nil)
  (pss_one (ps_ret (pe_call (ok_l_wrong_by T) (hr.mono (by decide)) (by rfl) T.g_l_wrong_by T.F_l_wrong_by.kp T.b_l_wrong_by .nil pass0 (pa_cons (pv 0) (pa_cons (pe_op op_fdiv (pv 1) pe_int) pa_nil)))))), ?_⟩
    have e0 : start N_l_wrong [.ref l, .int c] = [some (.ref l), some (.int c), none] := rfl
    rw [e0]
    have nl : (ns.map vn).length = ns.length := List.length_map _
    have ev := lay.ev
    have il : ∀ {G : Hp}, Ex H G → Ints G l ns := fun g => hl.go g
    refine q_when (b := decide (ns.length > 4) && decide (c % 2 = 1)) (et_and (et_is (et_test (ev_op (ev_len (K := K) (ev_var rfl) (sq_of hl)) ev_c rv_I0)) (by
      rw [nl]
      by_cases h : ns.length > 4
      · rw [decide_eq_true h, decide_eq_true (by omega)]
      · rw [decide_eq_false h, decide_eq_false (by omega)])) fun _ => et_is (et_test (ev_op (ev_op (ev_var rfl) ev_c (rv_I (by decide))) ev_c (rv_eq rfl))) (dec_int _ _)) (fun cc H1 e1 => ?_) (fun _ H1 e1 => ?_)
    · have long : 4 < ns.length := by
        simp only [Bool.and_eq_true, decide_eq_true_eq] at cc
        exact cc.1
      have stay : Stay fun G v => WayArg K G (webOf n ts) (mateL n (midPairs ns ++ X)) v false := fun _ _ _ e h => h.go e
      have mt : ∀ {i}, i < ns.length → (mateL n (midPairs ns ++ X))[ns.getD i 0]? = some (mateOf (midPairs ns ++ X) (ns.getD i 0)) := fun {i} hi => mateL_get _ (lay.lt _ (mem_getD hi))
      have P4 : ∀ {σ : L2.St} {G : Hp} {te : TE} {xs : List V}, EvL te σ G xs → ∀ ms : List Nat, xs = ms.map vn → ¬ IsWay (webOf n ts) (mateL n (midPairs ns ++ X)) ms → ms.length ≤ 3000 → EvP te σ G (fun G v => WayArg K G (webOf n ts) (mateL n (midPairs ns ++ X)) v false) := fun h ms e no fw => by
        subst e
        exact ep_l h fun a G g hh => wayBadN hh fw no
      have tk : ∀ {σ : L2.St} {G : Hp} {te to : TE} (m : Nat), Ex H G → Ev te σ G (.ref l) → Ev to σ G (.int (m : Nat)) → m ≤ ns.length → EvL (tSl (rSlL K) te tNoPart (tPart to)) σ G ((ns.take m).map vn) := fun m g h h2 hm => el_is (el_sl (lo := none) (hi := some (m : Int)) h eo_none (eo_some h2) (sq_of (il g))) (by rw [cut_take (by rw [nl]; exact hm), List.map_take])
      have dr : ∀ {σ : L2.St} {G : Hp} {te to : TE} (m : Nat), Ex H G → Ev te σ G (.ref l) → Ev to σ G (.int (m : Nat)) → m ≤ ns.length → EvL (tSl (rSlL K) te (tPart to) tNoPart) σ G ((ns.drop m).map vn) := fun m g h h2 hm => el_is (el_sl (lo := some (m : Int)) (hi := none) h (eo_some h2) eo_none (sq_of (il g))) (by rw [cut_drop (by rw [nl]; exact hm), List.map_drop])
      have m2 : ∀ {σ : L2.St} {G : Hp}, Ev (tUn (rU fun i => .int (-i)) (tC (.int 2))) σ G (.int (-((2 : Nat) : Int))) := fun {σ G} => ev_un ev_c ru_neg
      refine q_asgPL (n := 4) (P := fun G v => WayArg K G (webOf n ts) (mateL n (midPairs ns ++ X)) v false) (epl_lst stay (eps_cons stay (P4 (el_cat (tk 3 e1 (ev_var rfl) ev_c (by omega)) (tk 1 e1 (ev_var rfl) ev_c (by omega)) (by simp; omega)) (ns.take 3 ++ ns.take 1) (by rw [List.map_append]) ?_ (by simp; omega))
        (eps_cons stay (P4 (dr 2 e1 (ev_var rfl) ev_c (by omega)) (ns.drop 2) rfl ?_ (by simp; omega))
        (eps_cons stay (P4 (el_is (el_sl (lo := none) (hi := some (-((2 : Nat) : Int))) (ev_var rfl) eo_none (eo_some m2) (sq_of (il e1))) (cut_lastN (by decide) (by rw [nl]; omega))) (ns.take (ns.length - 2)) (by rw [nl, List.map_take]) ?_ (by simp; omega))
        (eps_cons stay (P4 (el_cat (tk 2 e1 (ev_var rfl) ev_c (by omega)) (el_is (el_sl (lo := some (-((2 : Nat) : Int))) (hi := none) (ev_var rfl) (eo_some m2) eo_none (sq_of (il e1))) (cut_fromN (by decide) (by rw [nl]; omega))) (by simp; omega)) (ns.take 2 ++ ns.drop (ns.length - 2)) (by rw [nl, List.map_append, List.map_drop]) ?_ (by simp; omega)) eps_nil)))) (by decide)) fun p vs H2 hp e2 hp2 lv pv => ?_
      · intro wy
        have m1 : ns.getD 0 0 ∈ ns.take 3 := List.mem_of_getElem? (i := 0) (by rw [List.getElem?_take_of_lt (by omega)]; exact getD_get 0 (by omega))
        have m3 : ns.getD 0 0 ∈ ns.take 1 := List.mem_of_getElem? (i := 0) (by rw [List.getElem?_take_of_lt (by omega)]; exact getD_get 0 (by omega))
        exact (List.nodup_append.mp wy.nd).2.2 _ m1 _ m3 rfl
      · intro wy
        have := wy.first (ns.getD 2 0) (by rw [List.getElem?_drop]; exact getD_get 0 (by omega))
        rw [mt (by omega), (lay.mate_mid (j := 0) (by omega)).2] at this
        cases this
      · intro wy
        obtain ⟨j, hj⟩ : ∃ j, ns.length = 2 * j + 4 := ⟨(ns.length - 4) / 2, by omega⟩
        have := wy.last (ns.getD (2 * j + 1) 0) (by rw [List.length_take, List.getElem?_take_of_lt (by omega), show min (ns.length - 2) ns.length - 1 = 2 * j + 1 by omega]; exact getD_get 0 (by omega))
        rw [mt (by omega), (lay.mate_mid (j := j) (by omega)).1] at this
        cases this
      · intro wy
        have hx : (ns.take 2 ++ ns.drop (ns.length - 2))[1]? = some (ns.getD 1 0) := by
          rw [List.getElem?_append_left (by rw [List.length_take]; omega), List.getElem?_take_of_lt (by omega)]
          exact getD_get 0 (by omega)
        have hy : (ns.take 2 ++ ns.drop (ns.length - 2))[1 + 1]? = some (ns.getD (ns.length - 2) 0) := by
          rw [List.getElem?_append_right (by rw [List.length_take]; omega), List.length_take, List.getElem?_drop, show ns.length - 2 + (1 + 1 - min 2 ns.length) = ns.length - 2 by omega]
          exact getD_get 0 (by omega)
        have := (wy.step 1 _ _ hx hy).2.mpr (by decide)
        rw [mt (by omega), (lay.mate_mid (j := 0) (by omega)).1] at this
        have := Option.some.inj (Option.some.inj this)
        exact nd_getD lay.nd (by omega) (by omega) (by omega) this
      obtain ⟨u, hu⟩ : ∃ u, vs[(c / 2 % ((4 : Nat) : Int)).toNat]? = some u := ⟨_, List.getElem?_eq_getElem (by rw [lv]; exact modN_lt _ (by decide))⟩
      have pu := pv u (List.mem_of_getElem? hu)
      exact s_ret (ev_op (ev_var rfl) (ev_modN (m := 4) (by decide) (ev_op (ev_var rfl) ev_c (rv_I ⟨by decide, by decide⟩)) ev_c) (rv_ixL (K := K) (sq_of hp2) (atI_nat hu))) fun H3 e3 => q u [] H3 ((e1.trans e2).trans e3) (fun _ h => nomatch h) (pu.go e3)
    · exact s_retN (en_call (ea_cons (ev_var rfl) (ea_cons (ev_op (ev_var rfl) ev_c (rv_I ⟨by decide, by decide⟩)) ea_nil)) (spn_new (R := fun v fs G => WrongWay K G v) fun G g => ⟨l, ns, c / 2, rfl, (il e1).go g, lay.two, lay.ev, few, rfl⟩)) fun v fs G g fr h => q v [] G (e1.trans g) (fun _ h => nomatch h) (h _ _ n40)
/-! _law_untied -/
/-- whether two places that follow one another are not tied -/
def Untied (ts : List (Nat × Nat)) (ns : List Nat) : Prop := ∃ i x y, ns[i]? = some x ∧ ns[i + 1]? = some y ∧ (x = y ∨ tieOf x y ∉ ts)
theorem untied_no {n : Nat} {ts : List (Nat × Nat)} {ms : List (Option Nat)} {ns : List Nat} (tok : TiesOk n ts) (h : Untied ts ns) : ¬ IsWay (webOf n ts) ms ns := fun w => by
  obtain ⟨i, x, y, hx, hy, h⟩ := h
  have lx : x < n := w.lt x (List.mem_of_getElem? hx)
  have := (near_tie tok lx).mp (w.step i x y hx hy).1
  rcases h with h | h
  · exact this.1 h
  · exact h this.2
def unB (ts : List (Nat × Nat)) (ns : List Nat) (i : Nat) : Bool := decide (ns.getD i 0 = ns.getD (i + 1) 0) || !decide (tieOf (ns.getD i 0) (ns.getD (i + 1) 0) ∈ ts)
def untiedB (ts : List (Nat × Nat)) (ns : List Nat) : Bool := (List.range (ns.length - 1)).any (unB ts ns)
theorem untiedB_yes {ts : List (Nat × Nat)} {ns : List Nat} (h : untiedB ts ns = true) : Untied ts ns := by
  obtain ⟨i, hi, h⟩ := List.any_eq_true.mp h
  have hi := List.mem_range.mp hi
  refine ⟨i, _, _, getD_get 0 (by omega), getD_get 0 (by omega), ?_⟩
  unfold unB at h
  rcases (Bool.or_eq_true _ _).mp h with h | h
  · exact .inl (of_decide_eq_true h)
  · exact .inr (by simpa using h)
def sp_l_untied (K : PySem.W.Frag) : Sp := pureSp fun H vs z => ∃ l ns t ts, vs = [.ref l, .ref t] ∧ Ints H l ns ∧ 1 ≤ ns.length ∧ ns.length ≤ 1000 ∧ Prs H t ts ∧ z = .bl (untiedB ts ns)
theorem ok_l_untied (T : Txt K mg) : FnOk P w K mg base CX0 2 T.f_l_untied T.fd_l_untied ["_law_way", "_law_ties"] (sp_l_untied K) := by
  refine T.F_l_untied.ok sc_l_untied (fun vs H Q E h => ?_) (fun cdv A outer s H vs Q E hr h => ?_)
  · obtain ⟨z, ⟨l, ns, t, ts, rfl, _⟩, _⟩ := h
    rfl
  · obtain ⟨z, ⟨l, ns, t, ts, rfl, hl, n0, few, ht, rfl⟩, q⟩ := h
    refine ⟨_, (pss_cons (ps_for PassesOwn.never rfl (pi_range1 (by rfl) T.n_range (pa_cons (pe_op op_sub (pe_callB (r := rLenS K) call_len_seq (by rfl) T.n_len (by decide +kernel) (pa_cons (pv 0) pa_nil)) pe_int) pa_nil)) (pg_name (i := 2) sc_l_untied.nd rfl (Or.inl rfl))
    (pss_one (ps_if (PW.pt (pw_or (pt_cmpR op_eq (pe_ix (r := rIxL K) ix_list (pv 0) (pv 2) (fun _ _ => rfl)) (pe_ix (r := rIxL K) ix_list (pv 0) (pe_op op_add (pv 2) pe_int) (fun _ _ => rfl)) (nomark _)) (pw_or1 (pt_cmpR (r := rNotInD K) (op_notInD (units65 hr)) (pe_call (ok_l_tie T) (hr.mono (by decide)) (by rfl) T.g_l_tie T.F_l_tie.kp T.b_l_tie .nil pass0 (pa_cons (pe_ix (r := rIxL K) ix_list (pv 0) (pv 2) (fun _ _ => rfl)) (pa_cons (pe_ix (r := rIxL K) ix_list (pv 0) (pe_op op_add (pv 2) pe_int) (fun _ _ => rfl)) pa_nil))) (pv 1) (by with_unfolding_all rfl))))) (pss_one (ps_ret pe_bl)) pss_nil)))
  (pss_one (ps_ret pe_bl))), ?_⟩
    have e0 : start N_l_untied [.ref l, .ref t] = [some (.ref l), some (.ref t), none] := rfl
    rw [e0]
    refine q_forR1 (n := ((ns.length - 1 : Nat) : Int)) (ea_cons (ev_is (ev_op (ev_len (K := K) (ev_var rfl) (sq_of hl)) ev_c rv_I0) (by show V.int _ = V.int _; congr 1; rw [List.length_map]; omega)) ea_nil) (by omega)
      (fun i σ' G => ∃ x2, σ' = [some (.ref l), some (.ref t), x2] ∧ Ex H G ∧ ∀ j, j < i → unB ts ns j = false) (fun G g => ⟨none, rfl, g, fun j hj => absurd hj (Nat.not_lt_zero _)⟩) ?_ ?_
    · rintro i σ' G hi ⟨x2, rfl, eG, no⟩
      have hi : i + 1 < ns.length := by omega
      have at0 : ∀ {σ : L2.St} {G1 : Hp} {te tb : TE}, Ex H G1 → Ev te σ G1 (.ref l) → Ev tb σ G1 (vn i) → Ev (tOp (rIxL K) te tb) σ G1 (vn (ns.getD i 0)) := fun g h1 h2 => ev_op h1 h2 (rv_ixL (K := K) (sq_of (g _ _ hl)) (atI_nat (map_get' (getD_get 0 (by omega)))))
      have at1 : ∀ {σ : L2.St} {G1 : Hp} {te tb : TE}, Ex H G1 → Ev te σ G1 (.ref l) → Ev tb σ G1 (vn i) → Ev (tOp (rIxL K) te (tOp (rI0 fun i j => .int (i + j)) tb (tC (.int 1)))) σ G1 (vn (ns.getD (i + 1) 0)) := fun g h1 h2 => ev_op h1 (ev_is (ev_op h2 ev_c rv_I0) (rfl : _ = vn (i + 1))) (rv_ixL (K := K) (sq_of (g _ _ hl)) (atI_nat (map_get' (getD_get 0 (by omega)))))
      refine s_when (b := unB ts ns i) (et_or (et_is (et_test (ev_op (at0 eG (ev_var rfl) (ev_var rfl)) (at1 eG (ev_var rfl) (ev_var rfl)) (rv_eq rfl))) (dec_nat _ _)) fun _ => et_test (ev_opU1 (eu_tie (at0 eG (ev_var rfl) (ev_var rfl)) (at1 eG (ev_var rfl) (ev_var rfl))) (fun G1 g1 => ev_var rfl) fun p G1 hp g1 => rv_notInP (q := tieOf (ns.getD i 0) (ns.getD (i + 1) 0)) hp ((ht.go eG).go g1))) (fun c G1 g1 => ?_) (fun c G1 g1 => ⟨_, rfl, eG.trans g1, fun j hj => ?_⟩)
      · have : untiedB ts ns = true := List.any_eq_true.mpr ⟨i, List.mem_range.mpr (by omega), c⟩
        rw [this] at q
        exact s_ret ev_c fun G2 g2 => q G2 ((eG.trans g1).trans g2)
      · by_cases ji : j = i
        · rw [ji]; exact c
        · exact no j (by omega)
    · rintro σ' G ⟨x2, rfl, eG, no⟩
      rw [Int.toNat_natCast] at no
      have : untiedB ts ns = false := by
        unfold untiedB
        rw [List.any_eq_false]
        intro j hj
        rw [no j (List.mem_range.mp hj)]
        decide
      rw [this] at q
      exact s_ret ev_c fun G1 g1 => q G1 (eG.trans g1)
/-! _law_other_way -/
def sp_l_other_way (K : PySem.W.Frag) (C : Addr) : Sp := fun vs H Q _ => ∃ a n ts X ns hs hd gv pl wl dl H0 us ws, vs = [.ref a, .ref hs, .ref pl, .ref wl, .ref dl] ∧ H hs = some (.lst [.ref hd, .ref gv]) ∧ H hd = some (.lst us) ∧ H gv = some (.lst ws) ∧ hd ≠ gv ∧ hs ≠ hd ∧ hs ≠ gv ∧
  Ex H0 H ∧ H0 hd = none ∧ H0 gv = none ∧ NetAt C H0 a (webOf n ts) ∧ n ≤ 40 ∧ Lay n ts ns X ∧ 4 ≤ ns.length ∧ ns.length ≤ 100 ∧ Prs H0 pl (midPairs ns ++ X) ∧ Ints H0 wl ns ∧ Prs H0 dl (outPairs ns ++ X) ∧ ∀ H', Q (.bl true) H'
/-- turned(net, pairs, way) of a way -/
theorem en_turned {σ : L2.St} {H : Hp} {ta tb tc : TE} {C E1 E2 a l l2 : Addr} {W : Web} {ps : List (Nat × Nat)} {ns : List Nat} {E : XK} (hn : NetAt C H a W) (ok : WebOk W) (hl : Prs H l ps) (pok : PairsOk W ps) (hns : Ints H l2 ns) (few : ns.length ≤ 3000) (wy : IsWay W (mateL W.size ps) ns) (h1 : Ev ta σ H (.ref a)) (h2 : Ev tb σ H (.ref l)) (h3 : Ev tc σ H (.ref l2)) :
    EvN (tCall (sp_turned K C E1 E2) [] E (tCons ta (tCons tb (tCons tc tNil)))) σ H (fun v fs G => ∃ p, v = .ref p ∧ fs = [p] ∧ Prs G p (pairsOf (turnL (mateL W.size ps) ns))) := fun H1 e Q q =>
  (ea_cons h1 (ea_cons h2 (ea_cons h3 ea_nil)) : EvA (tCons ta (tCons tb (tCons tc tNil))) σ H [.ref a, .ref l, .ref l2]) H1 e _ fun H2 e2 => by
    have ee := e.trans e2
    refine ⟨a, W, l, ps, .ref l2, true, rfl, hn.go ee, ok, hl.go ee, pok, .inr ⟨l2, ns.map vn, rfl, hns.go ee, by rw [List.length_map]; exact few, fun x hx => sca_vn ns x hx _, ⟨fun _ => ⟨ns, rfl, wy⟩, fun _ => rfl⟩⟩, (fun z => nomatch z), fun _ ns' l' e1 hi w v fs H3 e3 fr r => ?_⟩
    cases e1
    have : ns' = ns := by
      have h1 : H2 l2 = _ := hi
      have h2 : H2 l2 = _ := hns.go ee
      rw [h1] at h2
      injection h2 with h2
      injection h2 with h2
      exact map_vn_inj h2
    subst this
    exact q v fs H3 (e2.trans e3) (fun p hp => fresh_back e2 (fr p hp)) r
theorem ok_l_other_way (T : Txt K mg) : FnOk P w K mg base CX0 6 T.f_l_other_way T.fd_l_other_way ["_law_net", "_law_handed", "_law_pairs", "_law_way", "_law_due"] (sp_l_other_way K T.C_Net) := by
  refine T.F_l_other_way.ok sc_l_other_way (fun vs H Q E h => ?_) (fun cdv A outer s H vs Q E hr h => ?_)
  · obtain ⟨a, n, ts, X, ns, hs, hd, gv, pl, wl, dl, H0, us, ws, rfl, _⟩ := h
    rfl
  · obtain ⟨a, n, ts, X, ns, hs, hd, gv, pl, wl, dl, H0, us, ws, rfl, hhs, hhd, hgv, ne1, ne2, ne3, e0, hd0, gv0, net, n40, lay, l4, few, hpl, hwl, hdl, q⟩ := h
    refine ⟨_, (pss_cons (ps_for PassesOwn.never rfl (pi_list (pe_lst (pa_cons (pe_tup (pa_cons (pe_slice (r := rSlL K) sl_list (pv 2) (po_some pe_int) po_none) (pa_cons (pe_slice (r := rSlL K) sl_list (pv 3) po_none (po_some pe_int)) (pa_cons (pe_callB (r := rSortedPO K) cr_sortedPO (by rfl) T.n_sorted (by decide +kernel) (pa_cons (pe_op op_cat (pe_slice (r := rSlL K) sl_list (pv 2) (po_some pe_int) po_none) (pe_lst (pa_cons (pe_call (ok_l_tie T) (hr.mono (by decide)) (by rfl) T.g_l_tie T.F_l_tie.kp T.b_l_tie .nil pass0 (pa_cons (pe_ix (r := rIxL K) ix_list (pv 3) pe_int (fun _ _ => rfl)) (pa_cons (pe_ix (r := rIxL K) ix_list (pv 3) pe_int (fun _ _ => rfl)) pa_nil))) pa_nil))) pa_nil)) pa_nil)))) (pa_cons (pe_tup (pa_cons (pv 2) (pa_cons (pv 3) (pa_cons (pe_callB (r := rSortedPO K) cr_sortedPO (by rfl) T.n_sorted (by decide +kernel) (pa_cons (pv 4) pa_nil)) pa_nil)))) pa_nil)))) (pg_tup rfl (pgs_cons (pg_name (i := 5) sc_l_other_way.nd rfl (Or.inl rfl)) (pgs_cons (pg_name (i := 6) sc_l_other_way.nd rfl (Or.inl rfl)) (pgs_cons (pg_name (i := 7) sc_l_other_way.nd rfl (Or.inl rfl)) pgs_nil))))
    (pss_cons (ps_expr (pe_bm0 PySem.F.plainAttrs_list PySem.F.slot_list_clear PySem.F.type_list_clear mt_clear (pe_ix (r := rIxL K) ix_list (pv 1) pe_int (fun _ _ => rfl))))
  (pss_cons (ps_expr (pe_bm PySem.F.plainAttrs_list PySem.F.slot_list_extend PySem.F.type_list_extend mt_extend (pe_ix (r := rIxL K) ix_list (pv 1) pe_int (fun _ _ => rfl)) (pa_cons (pv 5) pa_nil)))
  (pss_cons (ps_expr (pe_bm0 PySem.F.plainAttrs_list PySem.F.slot_list_clear PySem.F.type_list_clear mt_clear (pe_ix (r := rIxL K) ix_list (pv 1) pe_int (fun _ _ => rfl))))
  (pss_cons (ps_expr (pe_bm PySem.F.plainAttrs_list PySem.F.slot_list_extend PySem.F.type_list_extend mt_extend (pe_ix (r := rIxL K) ix_list (pv 1) pe_int (fun _ _ => rfl)) (pa_cons (pv 6) pa_nil)))
  (pss_one (ps_if (PW.pt (pw_or (pt_cmpR (r := rNeD K) (op_neD hr.units) (pe_call (ok_turned T) (hr.mono (by decide)) (by rfl) T.g_turned T.F_turned.kp T.b_turned .nil passL (pa_cons (pv 0) (pa_cons (pe_ix (r := rIxL K) ix_list (pv 1) pe_int (fun _ _ => rfl)) (pa_cons (pe_ix (r := rIxL K) ix_list (pv 1) pe_int (fun _ _ => rfl)) pa_nil)))) (pv 7) (nomark _)) (pw_or1 (pt_cmpR (r := rNeD K) (op_neD hr.units) (pv 1) (pe_lst (pa_cons (pv 5) (pa_cons (pv 6) pa_nil))) (nomark _))))) (pss_one (ps_ret pe_bl)) pss_nil)))))))
  (pss_one (ps_ret pe_bl))), ?_⟩
    have es : start N_l_other_way [.ref a, .ref hs, .ref pl, .ref wl, .ref dl] = [some (.ref a), some (.ref hs), some (.ref pl), some (.ref wl), some (.ref dl), none, none, none] := rfl
    rw [es]
    obtain ⟨W, hW⟩ : ∃ W, W = webOf n ts := ⟨_, rfl⟩
    have wok := webOk_of ts n40
    obtain ⟨ps2, hps2⟩ : ∃ ps2, ps2 = midPairs ns ++ X := ⟨_, rfl⟩
    obtain ⟨es2, hes2⟩ : ∃ es2, es2 = srtP (outPairs ns ++ X) := ⟨_, rfl⟩
    obtain ⟨es1, hes1⟩ : ∃ es1, es1 = srtP (ps2.drop 1 ++ [tieOf (ns.getD 0 0) (ns.getD 1 0)]) := ⟨_, rfl⟩
    have f1 := lay.first l4
    have p1 := f1.pOk
    have w1 := f1.way
    rw [mid_take2 (by omega), List.nil_append, ← hps2] at p1 w1
    have t1 := lay.toldFirst l4
    rw [← hps2, ← hes1] at t1
    have p2 := lay.pOk
    have w2 := lay.way
    have t2 := lay.told
    rw [← hps2] at p2 w2 t2
    rw [← hes2] at t2
    rw [← hps2] at hpl
    rw [← hW] at wok p1 p2 w1 w2
    have ws_ : W.size = n := by rw [hW]; rfl
    rw [← ws_] at w1 w2 t1 t2
    have psl : ps2.length ≤ 40 := by have := p2.few; omega
    have dsl : (outPairs ns ++ X).length ≤ 40 := by
      have := lay.dOk.few
      rw [← hW] at this
      omega
    obtain ⟨ds, hds⟩ : ∃ ds, ds = [hd, gv] := ⟨_, rfl⟩
    have isl : ∀ d ∈ ds, ∃ xs, H d = some (.lst xs) := fun d h => by
      rw [hds] at h
      rcases List.mem_cons.mp h with rfl | h
      · exact ⟨_, hhd⟩
      · rw [List.mem_singleton.mp h]; exact ⟨_, hgv⟩
    have nods : ∀ d ∈ ds, H0 d = none := fun d h => by
      rw [hds] at h
      rcases List.mem_cons.mp h with rfl | h
      · exact hd0
      · rw [List.mem_singleton.mp h]; exact gv0
    have nd : ∀ {b}, H b = none → b ∉ ds := fun {b} hb h => by
      obtain ⟨xs, hx⟩ := isl b h
      rw [hb] at hx
      cases hx
    have nd0 : ∀ {b o}, H0 b = some o → b ∉ ds := fun {b o} hb h => by
      rw [nods b h] at hb
      cases hb
    obtain ⟨pas, hp1, hp2⟩ := id hpl
    obtain ⟨das, hd1, hd2⟩ := id hdl
    have hw1 : H0 wl = _ := hwl
    have nl : (ns.map vn).length = ns.length := List.length_map _
    have pal := paired_len hp2
    -- parts of the rows
    have SP : ∀ ps, Stay fun G v => ∃ b, v = .ref b ∧ b ∉ ds ∧ Prs G b ps := fun ps _ _ _ e ⟨b, h1, h2, h3⟩ => ⟨b, h1, h2, h3.go e⟩
    have SI : ∀ ms, Stay fun G v => ∃ b, v = .ref b ∧ b ∉ ds ∧ Ints G b ms := fun ms _ _ _ e ⟨b, h1, h2, h3⟩ => ⟨b, h1, h2, h3.go e⟩
    have stay : Stay fun G v => ∃ t b c d ps ms es, v = .ref t ∧ t ∉ ds ∧ b ∉ ds ∧ c ∉ ds ∧ d ∉ ds ∧ G t = some (.tup [.ref b, .ref c, .ref d]) ∧ Prs G b ps ∧ Ints G c ms ∧ Prs G d es ∧ PairsOk W ps ∧ IsWay W (mateL W.size ps) ms ∧ pairsOf (turnL (mateL W.size ps) ms) = es ∧ ms.length ≤ 100 :=
      fun G G' v e ⟨t, b, c, d, ps, ms, es, h1, h2, h3, h4, h5, h6, h7, h8, h9, h10⟩ => ⟨t, b, c, d, ps, ms, es, h1, h2, h3, h4, h5, e _ _ h6, h7.go e, h8.go e, h9.go e, h10⟩
    have mk : ∀ {σ : L2.St} {ta tb tc : TE} ps ms es, PairsOk W ps → IsWay W (mateL W.size ps) ms → pairsOf (turnL (mateL W.size ps) ms) = es → ms.length ≤ 100 → EvP ta σ H (fun G v => ∃ b, v = .ref b ∧ b ∉ ds ∧ Prs G b ps) → EvP tb σ H (fun G v => ∃ b, v = .ref b ∧ b ∉ ds ∧ Ints G b ms) → EvP tc σ H (fun G v => ∃ b, v = .ref b ∧ b ∉ ds ∧ Prs G b es) →
        EvP (tTup (tCons ta (tCons tb (tCons tc tNil)))) σ H (fun G v => ∃ t b c d ps ms es, v = .ref t ∧ t ∉ ds ∧ b ∉ ds ∧ c ∉ ds ∧ d ∉ ds ∧ G t = some (.tup [.ref b, .ref c, .ref d]) ∧ Prs G b ps ∧ Ints G c ms ∧ Prs G d es ∧ PairsOk W ps ∧ IsWay W (mateL W.size ps) ms ∧ pairsOf (turnL (mateL W.size ps) ms) = es ∧ ms.length ≤ 100) := fun ps ms es a1 a2 a3 a4 h1 h2 h3 =>
      (ep_tup3 (SP ps) (SI ms) (SP es) h1 h2 h3).imp fun G v e ⟨t, x, y, z, hv, ht, hG, ⟨b, h1, h2, h3⟩, ⟨c, h4, h5, h6⟩, ⟨d, h7, h8, h9⟩⟩ => ⟨t, b, c, d, ps, ms, es, hv, nd ht, h2, h5, h8, by rw [hG, h1, h4, h7], h3, h6, h9, a1, a2, a3, a4⟩
    have hplH := hpl.go e0
    have hdlH := hdl.go e0
    have hwlH := hwl.go e0
    have SPp : ∀ {σ : L2.St} {te : TE} {ps}, EvPrF te σ H ps → EvP te σ H (fun G v => ∃ b, v = .ref b ∧ b ∉ ds ∧ Prs G b ps) := fun h => h.ep fun p G hp e hG => ⟨p, rfl, nd hp, hG⟩
    have ixW : ∀ {σ : L2.St} {te : TE} (j : Nat), Ev te σ H (.ref wl) → j < ns.length → Ev (tOp (rIxL K) te (tC (.int j))) σ H (vn (ns.getD j 0)) := fun j h lt => ev_op h ev_c (rv_ixL (K := K) (sq_of hwlH) (atI_nat (map_get' (getD_get 0 lt))))
    refine q_forNg (en_of_epl (n := 2) (epl_lst stay (eps_cons stay (mk (ps2.drop 1) (ns.take 2) es1 p1 w1 t1 (by rw [List.length_take]; omega)
        (SPp (evpr_drop (m := 1) (ev_var rfl) hplH (eo_some ev_c)))
        (ep_lF (el_is (el_sl (lo := none) (hi := some ((2 : Nat) : Int)) (ev_var rfl) eo_none (eo_some ev_c) (sq_of hwlH)) (by rw [cut_take (by rw [nl]; omega), ← List.map_take])) fun b G e hb h => ⟨b, rfl, nd hb, h⟩)
        (SPp (by rw [hes1]; exact evpr_sorted (evpr_cat (evpr_drop (m := 1) (ev_var rfl) hplH (eo_some ev_c)).old (evpr_one (eu_tie (ixW 0 (ev_var rfl) (by omega)) (ixW 1 (ev_var rfl) (by omega)))).old (by rw [List.length_drop]; simp; omega)).old)))
      (eps_cons stay (mk ps2 ns es2 p2 w2 t2 few
        (ep_v (ev_var rfl) fun G e => ⟨pl, rfl, nd0 hp1, hplH.go e⟩)
        (ep_v (ev_var rfl) fun G e => ⟨wl, rfl, nd0 hw1, hwlH.go e⟩)
        (SPp (by rw [hes2]; exact evpr_sorted (evpr_var (ev_var rfl) hdlH)))) eps_nil)) (by decide))) fun u fs H1 e1 fr r => ?_
    obtain ⟨c, rows, rfl, rfl, hc, rl, pr⟩ := r
    obtain ⟨B, hB⟩ : ∃ B, B = cutH ds H1 := ⟨_, rfl⟩
    have eB : Ex H0 B := by rw [hB]; exact ex_cut (e0.trans e1) nods
    have hdD : hd ∈ ds := by rw [hds]; exact List.mem_cons_self
    have gvD : gv ∈ ds := by rw [hds]; exact List.mem_cons_of_mem _ List.mem_cons_self
    have hdN : B hd = none := by rw [hB]; exact cutH_none hdD
    have gvN : B gv = none := by rw [hB]; exact cutH_none gvD
    have hcB : B c = some (.lst rows) := by rw [hB]; exact cutH_at (nd (fr c List.mem_cons_self)) hc
    have hsB : B hs = some (.lst [.ref hd, .ref gv]) := by
      rw [hB]
      refine cutH_at (fun h => ?_) (e1 _ _ hhs)
      rw [hds] at h
      rcases List.mem_cons.mp h with h | h
      · exact ne2 h
      · exact ne3 (List.mem_singleton.mp h)
    have isl1 : ∀ d ∈ ds, ∃ xs, H1 d = some (.lst xs) := fun d h => by
      obtain ⟨xs, hx⟩ := isl d h
      exact ⟨xs, e1 _ _ hx⟩
    have rowsB : ∀ y ∈ rows, ∃ t b c d ps ms es, y = .ref t ∧ B t = some (.tup [.ref b, .ref c, .ref d]) ∧ Prs B b ps ∧ Ints B c ms ∧ Prs B d es ∧ PairsOk W ps ∧ IsWay W (mateL W.size ps) ms ∧ pairsOf (turnL (mateL W.size ps) ms) = es ∧ ms.length ≤ 100 := fun y hy => by
      obtain ⟨t, b, c, d, ps, ms, es, h1, h2, h3, h4, h5, h6, h7, h8, h9, h10⟩ := pr y hy
      rw [hB]
      exact ⟨t, b, c, d, ps, ms, es, h1, cutH_at h2 h6, h7.cut h3 isl1, h8.cut h4, h9.cut h5 isl1, h10⟩
    refine ⟨c, rows, rfl, sq_of hc, fun i σ' G => ∃ x5 x6 x7 us ws, σ' = [some (.ref a), some (.ref hs), some (.ref pl), some (.ref wl), some (.ref dl), x5, x6, x7] ∧ Ex B G ∧ G hd = some (.lst us) ∧ G gv = some (.lst ws),
      ⟨none, none, none, us, ws, rfl, by rw [hB]; exact cutH_ex _ _, e1 _ _ hhd, e1 _ _ hgv⟩, fun i σ' G _ ⟨_, _, _, _, _, _, g, _⟩ => sq_of (g _ _ hcB), ?_, ?_⟩
    · rintro i y σ' G hy ⟨x5, x6, x7, us', ws', rfl, eG, hdG, hgG⟩
      obtain ⟨t, b, cc, d, ps, ms, es, rfl, ht, hb, hcc, hd_, pok, wy, told, mfew⟩ := rowsB y (List.mem_of_getElem? hy)
      refine ⟨t, _, rfl, st_of (eG _ _ ht), rfl, _, _, rfl, _, _, rfl, _, _, rfl, rfl, ?_⟩
      have h0 : ∀ {G : Hp}, Ex B G → Ev (tOp (rIxL K) (tVar 1) (tC (.int 0))) [some (.ref a), some (.ref hs), some (.ref pl), some (.ref wl), some (.ref dl), some (.ref b), some (.ref cc), some (.ref d)] G (.ref hd) := fun e => ev_op (ev_var rfl) ev_c (rv_ixL (K := K) (sq_of (e _ _ hsB)) (atI_nat (j := 0) rfl))
      have h1 : ∀ {G : Hp}, Ex B G → Ev (tOp (rIxL K) (tVar 1) (tC (.int 1))) [some (.ref a), some (.ref hs), some (.ref pl), some (.ref wl), some (.ref dl), some (.ref b), some (.ref cc), some (.ref d)] G (.ref gv) := fun e => ev_op (ev_var rfl) ev_c (rv_ixL (K := K) (sq_of (e _ _ hsB)) (atI_nat (j := 1) rfl))
      obtain ⟨bs, hb1, hb2⟩ := id hb
      have bl := paired_len hb2
      have pfew := pok.few
      have hcc' : B cc = some (.lst (ms.map vn)) := hcc
      refine q_dropM0 (σ := [some (.ref a), some (.ref hs), some (.ref pl), some (.ref wl), some (.ref dl), some (.ref b), some (.ref cc), some (.ref d)]) (h0 eG) hdG fun G1 g1 => ⟨hd, us', rfl, rfl, g1 _ _ hdG, ?_⟩
      obtain ⟨G2, hG2⟩ : ∃ G2, G2 = upd G1 hd (.lst []) := ⟨_, rfl⟩
      rw [← hG2]
      have eG2 : Ex B G2 := by rw [hG2]; exact (eG.trans g1).mut hdN
      have hd2 : G2 hd = some (.lst []) := by rw [hG2, upd_same]
      have hg2 : G2 gv = some (.lst ws') := by rw [hG2, upd_ne (Ne.symm ne1)]; exact g1 _ _ hgG
      refine q_dropM (vs := [.ref b]) (h0 eG2) hd2 (ea_cons (ev_var rfl) ea_nil) fun G3 g3 => ⟨hd, b, [], bs.map V.ref, rfl, rfl, g3 _ _ hd2, g3 _ _ (eG2 _ _ hb1), sz_of (by rw [List.length_map]; show 0 + bs.length ≤ 100000; omega), ?_⟩
      obtain ⟨G4, hG4⟩ : ∃ G4, G4 = upd G3 hd (.lst ([] ++ bs.map V.ref)) := ⟨_, rfl⟩
      rw [← hG4]
      have eG4 : Ex B G4 := by rw [hG4]; exact (eG2.trans g3).mut hdN
      have hd4 : G4 hd = some (.lst (bs.map V.ref)) := by rw [hG4, upd_same]; rfl
      have hg4 : G4 gv = some (.lst ws') := by rw [hG4, upd_ne (Ne.symm ne1)]; exact g3 _ _ hg2
      refine q_dropM0 (h1 eG4) hg4 fun G5 g5 => ⟨gv, ws', rfl, rfl, g5 _ _ hg4, ?_⟩
      obtain ⟨G6, hG6⟩ : ∃ G6, G6 = upd G5 gv (.lst []) := ⟨_, rfl⟩
      rw [← hG6]
      have eG6 : Ex B G6 := by rw [hG6]; exact (eG4.trans g5).mut gvN
      have hg6 : G6 gv = some (.lst []) := by rw [hG6, upd_same]
      have hd6 : G6 hd = some (.lst (bs.map V.ref)) := by rw [hG6, upd_ne ne1]; exact g5 _ _ hd4
      refine q_dropM (vs := [.ref cc]) (h1 eG6) hg6 (ea_cons (ev_var rfl) ea_nil) fun G7 g7 => ⟨gv, cc, [], ms.map vn, rfl, rfl, g7 _ _ hg6, g7 _ _ (eG6 _ _ hcc'), sz_of (by rw [List.length_map]; show 0 + ms.length ≤ 100000; omega), ?_⟩
      obtain ⟨G8, hG8⟩ : ∃ G8, G8 = upd G7 gv (.lst ([] ++ ms.map vn)) := ⟨_, rfl⟩
      rw [← hG8]
      have eG8 : Ex B G8 := by rw [hG8]; exact (eG6.trans g7).mut gvN
      have hg8 : Ints G8 gv ms := by show G8 gv = _; rw [hG8, upd_same]; rfl
      have hd8 : G8 hd = some (.lst (bs.map V.ref)) := by rw [hG8, upd_ne ne1]; exact g7 _ _ hd6
      have hp8 : Prs G8 hd ps := ⟨bs, hd8, Paired.mapP hb2 fun _ _ z => eG8 _ _ z⟩
      have net8 : NetAt T.C_Net G8 a W := by rw [hW]; exact (net.go eB).go eG8
      refine s_when (b := false) (et_is (et_or (a := false) (b := false) (et_is (et_test (evpr_ne (K := K) (b := true) (EvN.imp (en_turned net8 wok hp8 pok hg8 (by omega) wy (ev_var rfl) (h0 eG8) (h1 eG8)) fun v fs G e ⟨p, z1, _, z2⟩ => ⟨p, z1, z2⟩) (evpr_var (ev_var rfl) (hd_.go eG8)) (decide_eq_true told))) rfl) fun _ => et_test (ev_opL (ev_var rfl) (el_lst (ea_cons (ev_var rfl) (ea_cons (ev_var rfl) ea_nil)) (by show 2 ≤ 100000; decide)) fun p G9 hp9 e9 => rv_neMix (K := K) (e9 _ _ (eG8 _ _ hsB)) hp9 (hp8.go e9) (hg8.go e9) ((hb.go eG8).go e9) ((hcc.go eG8).go e9))) rfl) (fun z => nomatch z) (fun _ G9 g9 => ?_)
      exact ⟨_, _, _, _, _, rfl, eG8.trans g9, g9 _ _ hd8, g9 _ _ hg8⟩
    · rintro σ' G ⟨x5, x6, x7, us', ws', rfl, eG, hdG, hgG⟩
      exact s_ret ev_c fun G1 g1 => q G1
/-! _law_all_refused -/
theorem cut_dropN (xs : List V) (m : Nat) : cutV xs (some (m : Int)) none = xs.drop m := by
  by_cases h : m ≤ xs.length
  · exact cut_drop h
  · unfold cutV
    rw [HT.sIx_none, HT.sIx_nat, Nat.min_eq_right (by omega), List.drop_eq_nil_of_le (Nat.le_refl _), List.drop_eq_nil_of_le (by omega), List.take_nil]
theorem cut_lastA (xs : List V) {m : Nat} (hm : 1 ≤ m) : cutV xs none (some (-(m : Int))) = xs.take (xs.length - m) := by
  unfold cutV
  rw [HT.sIx_none]
  have : HT.sIx xs.length xs.length (some (-(m : Int))) = xs.length - m := by
    show (if (-(m : Int)) < 0 then ((-(m : Int)) + (xs.length : Int)).toNat else min (-(m : Int)).toNat xs.length) = _
    rw [if_pos (by omega)]
    omega
  rw [this]
  simp
def sp_l_all_refused (K : PySem.W.Frag) (C : Addr) : Sp := pureSp fun H vs z => ∃ a n ts X hd ps l ns t v, vs = [.ref a, .ref hd, .ref l, .ref t, v] ∧ NetAt C H a (webOf n ts) ∧ n ≤ 40 ∧ Lay n ts ns X ∧ Prs H hd ps ∧ PairsOk (webOf n ts) ps ∧ mateL n ps = mateL n (midPairs ns ++ X) ∧
  Ints H l ns ∧ ns.length ≤ 100 ∧ Prs H t ts ∧ WayArg K H (webOf n ts) (mateL n (midPairs ns ++ X)) v false ∧ z = .bl true
theorem ok_l_all_refused (T : Txt K mg) : FnOk P w K mg base CX0 7 T.f_l_all_refused T.fd_l_all_refused ["_law_net", "_law_handed", "_law_way", "_law_ties", "_law_wrong_here"] (sp_l_all_refused K T.C_Net) := by
  refine T.F_l_all_refused.ok sc_l_all_refused (fun vs H Q E h => ?_) (fun cdv A outer s H vs Q E hr h => ?_)
  · obtain ⟨z, ⟨a, n, ts, X, hd, ps, l, ns, t, v, rfl, _⟩, _⟩ := h
    rfl
  · obtain ⟨z, ⟨a, n, ts, X, hd, ps, l, ns, t, v, rfl, hn, n40, lay, hp, pok, hme, hl, few, ht, hw, rfl⟩, q⟩ := h
    refine ⟨_, (pss_cons (ps_for PassesOwn.never rfl (pi_list (pe_lst (pa_cons (pe_lst (pa_cons (pe_ix (r := rIxL K) ix_list (pv 2) pe_int (fun _ _ => rfl)) (pa_cons (pe_ix (r := rIxL K) ix_list (pv 2) (pe_un un_neg pe_int) (fun _ _ => rfl)) pa_nil))) (pa_cons (pe_op op_cat (pe_slice (r := rSlL K) sl_list (pv 2) po_none (po_some pe_int)) (pe_slice (r := rSlL K) sl_list (pv 2) (po_some pe_int) po_none)) (pa_cons (pe_op op_cat (pe_slice (r := rSlL K) sl_list (pv 2) po_none (po_some (pe_un un_neg pe_int))) (pe_slice (r := rSlL K) sl_list (pv 2) (po_some (pe_un un_neg pe_int)) po_none)) pa_nil))))) (pg_name (i := 5) sc_l_all_refused.nd rfl (Or.inl rfl))
    (pss_one (ps_if (PW.pt (pw_and (pt_val (pe_call (ok_l_untied T) (hr.mono (by decide)) (by rfl) T.g_l_untied T.F_l_untied.kp T.b_l_untied .nil pass0 (pa_cons (pv 5) (pa_cons (pv 3) pa_nil)))) (pw_and1 (pt_not (pt_val (pe_call (ok_l_refused T) (hr.mono (by decide)) (by rfl) T.g_l_refused T.F_l_refused.kp T.b_l_refused .nil pass0 (pa_cons (pv 0) (pa_cons (pv 1) (pa_cons (pv 5) pa_nil))))))))) (pss_one (ps_ret pe_bl)) pss_nil)))
  (pss_one (ps_ret (pe_call (ok_l_refused T) (hr.mono (by decide)) (by rfl) T.g_l_refused T.F_l_refused.kp T.b_l_refused .nil pass0 (pa_cons (pv 0) (pa_cons (pv 1) (pa_cons (pv 4) pa_nil))))))), ?_⟩
    have e0 : start N_l_all_refused [.ref a, .ref hd, .ref l, .ref t, v] = [some (.ref a), some (.ref hd), some (.ref l), some (.ref t), some v, none] := rfl
    rw [e0]
    have wok := webOk_of ts n40
    have nl : (ns.map vn).length = ns.length := List.length_map _
    have two := lay.two
    have stay : Stay fun G v => ∃ b os, v = .ref b ∧ Ints G b os ∧ 1 ≤ os.length ∧ os.length ≤ 1000 := fun _ _ _ e ⟨b, os, h1, h2, h3⟩ => ⟨b, os, h1, h2.go e, h3⟩
    have P4 : ∀ {σ : L2.St} {G : Hp} {te : TE} {xs : List V}, EvL te σ G xs → ∀ os : List Nat, xs = os.map vn → 1 ≤ os.length → os.length ≤ 1000 → EvP te σ G (fun G v => ∃ b os, v = .ref b ∧ Ints G b os ∧ 1 ≤ os.length ∧ os.length ≤ 1000) := fun h os e h1 h2 => by
      subst e
      exact ep_l h fun a G g hh => ⟨a, os, rfl, hh, h1, h2⟩
    have mi : ∀ {σ : L2.St} {G : Hp} (m : Int), Ev (tUn (rU fun i => .int (-i)) (tC (.int m))) σ G (.int (-m)) := fun {σ G} m => ev_un ev_c ru_neg
    have lastE : Ev (tOp (rIxL K) (tVar 2) (tUn (rU fun i => .int (-i)) (tC (.int 1)))) [some (.ref a), some (.ref hd), some (.ref l), some (.ref t), some v, none] H (vn (ns.getD (ns.length - 1) 0)) := by
      refine ev_op (ev_var rfl) (ev_un ev_c ru_neg) (rv_ixL (K := K) (sq_of hl) ?_)
      have ne : ns ≠ [] := fun z => by rw [z] at two; simp at two
      have e1 := List.dropLast_concat_getLast ne
      have e2 : ns.getLast ne = ns.getD (ns.length - 1) 0 := by
        rw [List.getLast_eq_getElem]
        exact Option.some.inj ((List.getElem?_eq_getElem _).symm.trans (getD_get 0 (by omega)))
      rw [e2] at e1
      have : ns.map vn = ns.dropLast.map vn ++ [vn (ns.getD (ns.length - 1) 0)] := by
        conv => lhs; rw [← e1]
        rw [List.map_append]
        rfl
      rw [this]
      exact atI_last
    refine q_forN (en_of_epl (P := fun G v => ∃ b os, v = .ref b ∧ Ints G b os ∧ 1 ≤ os.length ∧ os.length ≤ 1000) (n := 3) (epl_lst stay (eps_cons stay (P4 (el_lst (ea_cons (ev_op (ev_var rfl) ev_c (rv_ixL (K := K) (sq_of hl) (atI_nat (j := 0) (map_get' (getD_get 0 (by omega)))))) (ea_cons lastE ea_nil)) (by show 2 ≤ 100000; decide)) [ns.getD 0 0, ns.getD (ns.length - 1) 0] rfl (by show 1 ≤ 2; decide) (by show 2 ≤ 1000; decide))
      (eps_cons stay (P4 (el_cat (el_is (el_sl (lo := none) (hi := some ((1 : Nat) : Int)) (ev_var rfl) eo_none (eo_some ev_c) (sq_of hl)) (cut_take (by rw [nl]; omega))) (el_is (el_sl (lo := some ((3 : Nat) : Int)) (hi := none) (ev_var rfl) (eo_some ev_c) eo_none (sq_of hl)) (cut_dropN _ 3)) (by simp; omega)) (ns.take 1 ++ ns.drop 3) (by rw [List.map_append, List.map_take, List.map_drop]) (by simp; omega) (by simp; omega))
      (eps_cons stay (P4 (el_cat (el_is (el_sl (lo := none) (hi := some (-((3 : Nat) : Int))) (ev_var rfl) eo_none (eo_some (mi 3)) (sq_of hl)) (cut_lastA _ (by decide))) (el_is (el_sl (lo := some (-((1 : Nat) : Int))) (hi := none) (ev_var rfl) (eo_some (mi 1)) eo_none (sq_of hl)) (cut_fromN (by decide) (by rw [nl]; omega))) (by simp; omega)) (ns.take (ns.length - 3) ++ ns.drop (ns.length - 1)) (by rw [nl, List.map_append, List.map_take, List.map_drop]) (by simp; omega) (by simp; omega)) eps_nil))) (by decide))) fun u fs H1 e1 fr r => ?_
    obtain ⟨c, rows, rfl, rfl, hc, rl, pr⟩ := r
    refine ⟨c, rows, rfl, sq_of hc, fun i σ' G => ∃ x5, σ' = [some (.ref a), some (.ref hd), some (.ref l), some (.ref t), some v, x5] ∧ Ex H1 G, ⟨none, rfl, Ex.refl H1⟩, fun i σ' G _ ⟨_, _, g⟩ => sq_of (g _ _ hc), ?_, ?_⟩
    · rintro i y σ' G hy ⟨x5, rfl, eG⟩
      obtain ⟨b, os, rfl, hb, b1, b2⟩ := pr y (List.mem_of_getElem? hy)
      have hG := e1.trans eG
      show tIfS _ _ _ _ [some (.ref a), some (.ref hd), some (.ref l), some (.ref t), some v, some (.ref b)] G
      refine s_when (b := false) (et_is (et_and (a := untiedB ts os) (b := false) (et_B (ev_call (ea_cons (ev_var rfl) (ea_cons (ev_var rfl) ea_nil)) (spv_pure fun G1 g1 => ⟨b, os, t, ts, rfl, (hb.go eG).go g1, b1, b2, (ht.go hG).go g1, rfl⟩))) fun un => et_is (et_not (et_B (ev_call (z := .bl true) (ea_cons (ev_var rfl) (ea_cons (ev_var rfl) (ea_cons (ev_var rfl) ea_nil))) (spv_pure fun G1 g1 => ⟨a, webOf n ts, hd, ps, .ref b, rfl, (hn.go hG).go g1, wok, (hp.go hG).go g1, pok, wayBadN ((hb.go eG).go g1) (by omega) (untied_no lay.tok (untiedB_yes un)), rfl⟩)))) rfl) (by simp)) (fun z => nomatch z) (fun _ G1 g1 => ⟨_, rfl, eG.trans g1⟩)
    · rintro σ' G ⟨x5, rfl, eG⟩
      have hG := e1.trans eG
      exact s_ret (ev_call (ea_cons (ev_var rfl) (ea_cons (ev_var rfl) (ea_cons (ev_var rfl) ea_nil))) (spv_pure fun G1 g1 => ⟨a, webOf n ts, hd, ps, v, rfl, (hn.go hG).go g1, wok, (hp.go hG).go g1, pok, by rw [show (webOf n ts).size = n from rfl, hme]; exact (hw.go hG).go g1, rfl⟩)) fun G1 g1 => q G1 (hG.trans g1)
/-! law -/
def sp_law (K : PySem.W.Frag) : Sp := fun vs H Q _ => ∃ (a : Addr) (ns : List Int), vs = [.ref a] ∧ SqL K H a (ns.map V.int) ∧ ns.length ≤ 63 ∧ ∀ H', Q (.bl true) H'
/-- Net(n, ties), ties an own list -/
theorem en_netV {σ : L2.St} {H : Hp} {ta tb : TE} {C E1 l : Addr} {n : Nat} {ps : List (Nat × Nat)} (n1 : 1 ≤ n) (n40 : n ≤ 40) (tok : TiesOk n ps) (nd : ps.Nodup) (few : ps.length < 1000) (hl : Prs H l ps) (h1 : Ev ta σ H (vn n)) (h2 : Ev tb σ H (.ref l)) :
    EvN (tMake C (sp_Net_init K C E1) [] E0 (tCons ta (tCons tb tNil))) σ H (fun v fs G => ∃ x, v = .ref x ∧ NetNew C H G x (webOf n ps)) := fun H1 e Q q =>
  h1 H1 e _ fun H2 e2 => h2 H2 (e.trans e2) _ fun H3 e3 x dx hx hdx hne => by
    have e4 := own_ins (C := C) hx hdx hne
    have e04 := ((e.trans e2).trans e3).trans e4
    refine ⟨x, dx, vn n, .ref l, rfl, upd_same, .inr (.inr (.inr ⟨n, l, ps, rfl, n1, n40, rfl, hl.go e04, tok, few, fun z => absurd nd z, fun _ H5 b5 net => ⟨rfl, q (.ref x) [] H5 (fun b o hb => ?_) (fun r hr => nomatch hr) ⟨x, rfl, net.back e04⟩⟩⟩))⟩
    have hb3 := e3 _ _ (e2 _ _ hb)
    exact b5 b o (fun z => by
      have := List.mem_singleton.mp z
      rw [this, hx] at hb3
      cases hb3) (e4 _ _ hb3)
def stepsOf (ns : List Int) : Nat := (if cellAt ns 0 / 5 % 7 = 3 then 1 + cellAt ns 0 / 35 % 18 else 1 + cellAt ns 0 % 5).toNat
theorem stepsOf_ok (ns : List Int) : 1 ≤ stepsOf ns ∧ stepsOf ns ≤ 18 := by
  unfold stepsOf
  have h1 := Int.emod_nonneg (cellAt ns 0 / 35) (show (18 : Int) ≠ 0 by decide)
  have h2 := Int.emod_lt_of_pos (cellAt ns 0 / 35) (show (0 : Int) < 18 by decide)
  have h3 := Int.emod_nonneg (cellAt ns 0) (show (5 : Int) ≠ 0 by decide)
  have h4 := Int.emod_lt_of_pos (cellAt ns 0) (show (0 : Int) < 5 by decide)
  split <;> omega
theorem ok_law (T : Txt K mg) : FnOk P w K mg base CX0 8 T.f_law T.fd_law ["_law_script"] (sp_law K) := by
  refine T.F_law.ok sc_law (fun vs H Q E h => ?_) (fun cdv A outer s H vs Q E hr h => ?_)
  · obtain ⟨a, ns, rfl, _⟩ := h
    rfl
  · obtain ⟨a, ns, rfl, hS, hlen, q⟩ := h
    refine ⟨_, (pss_cons (ps_set (i := 1) sc_law.nd rfl (Or.inl rfl) (pe_op op_add pe_int (pe_op op_mod (pe_call (ok_l_cell_at T) (hr.mono (by decide)) (by rfl) T.g_l_cell_at T.F_l_cell_at.kp T.b_l_cell_at .nil pass0 (pa_cons (pv 0) (pa_cons pe_int pa_nil))) pe_int)))
  (pss_cons (ps_if (pt_cmpR op_eq (pe_op op_mod (pe_op op_fdiv (pe_call (ok_l_cell_at T) (hr.mono (by decide)) (by rfl) T.g_l_cell_at T.F_l_cell_at.kp T.b_l_cell_at .nil pass0 (pa_cons (pv 0) (pa_cons pe_int pa_nil))) pe_int) pe_int) pe_int (nomark _)) (pss_one (ps_set (i := 1) sc_law.nd rfl (Or.inl rfl) (pe_op op_add pe_int (pe_op op_mod (pe_op op_fdiv (pe_call (ok_l_cell_at T) (hr.mono (by decide)) (by rfl) T.g_l_cell_at T.F_l_cell_at.kp T.b_l_cell_at .nil pass0 (pa_cons (pv 0) (pa_cons pe_int pa_nil))) pe_int) pe_int)))) pss_nil)
  (pss_cons (ps_set (i := 2) sc_law.nd rfl (Or.inl rfl) (pe_op op_mod (pe_call (ok_l_cell_at T) (hr.mono (by decide)) (by rfl) T.g_l_cell_at T.F_l_cell_at.kp T.b_l_cell_at .nil pass0 (pa_cons (pv 0) (pa_cons pe_int pa_nil))) pe_int))
  (pss_cons (ps_set (i := 3) sc_law.nd rfl (Or.inl rfl) (pe_call (ok_l_mixed T) (hr.mono (by decide)) (by rfl) T.g_l_mixed T.F_l_mixed.kp T.b_l_mixed .nil pass0 (pa_cons (pe_op op_add (pe_op op_mul pe_int (pv 1)) (pv 2)) (pa_cons (pe_call (ok_l_cell_at T) (hr.mono (by decide)) (by rfl) T.g_l_cell_at T.F_l_cell_at.kp T.b_l_cell_at .nil pass0 (pa_cons (pv 0) (pa_cons pe_int pa_nil))) pa_nil))))
  (pss_cons (ps_set (i := 4) sc_law.nd rfl (Or.inr rfl) (pe_slice (r := rSlL K) sl_list (pv 3) po_none (po_some (pe_op op_mul pe_int (pv 1)))))
  (pss_cons (ps_set (i := 5) sc_law.nd rfl (Or.inl rfl) (pe_slice (r := rSlL K) sl_list (pv 3) (po_some (pe_op op_mul pe_int (pv 1))) po_none))
  (pss_cons (ps_setLc (i := 6) (own := [("_law_at", 17)]) (g := gName 17) (tt := tYes) rfl sc_law.nd rfl rfl (sw_true rfl rfl rfl (by decide +kernel)) (pi_range3 (by rfl) T.n_range (pa_cons pe_int (pa_cons (pe_op op_sub (pe_op op_mul pe_int (pv 1)) pe_int) (pa_cons pe_int pa_nil)))) (blkOk_by (own := [("_law_at", 17)]) (N := N_law) (sc := defScope s_law) (by decide +kernel)) (fun _ _ _ _ _ => (pg_name (i := 17) sc_law.nd rfl (Or.inl rfl))) (fun _ _ _ _ _ => pts_nil) (fun _ _ _ _ _ => (pe_call (ok_l_tie T) (hr.mono (by decide)) (by rfl) T.g_l_tie T.F_l_tie.kp T.b_l_tie .nil pass0 (pa_cons (pe_ix (r := rIxL K) ix_list (pv 4) (pv 17) (fun _ _ => rfl)) (pa_cons (pe_ix (r := rIxL K) ix_list (pv 4) (pe_op op_add (pv 17) pe_int) (fun _ _ => rfl)) pa_nil)))))
  (pss_cons (ps_setLc (i := 7) (own := [("_law_at", 17)]) (g := gName 17) (tt := tYes) rfl sc_law.nd rfl rfl (sw_true rfl rfl rfl (by decide +kernel)) (pi_range3 (by rfl) T.n_range (pa_cons pe_int (pa_cons (pe_op op_mul pe_int (pv 1)) (pa_cons pe_int pa_nil)))) (blkOk_by (own := [("_law_at", 17)]) (N := N_law) (sc := defScope s_law) (by decide +kernel)) (fun _ _ _ _ _ => (pg_name (i := 17) sc_law.nd rfl (Or.inl rfl))) (fun _ _ _ _ _ => pts_nil) (fun _ _ _ _ _ => (pe_call (ok_l_tie T) (hr.mono (by decide)) (by rfl) T.g_l_tie T.F_l_tie.kp T.b_l_tie .nil pass0 (pa_cons (pe_ix (r := rIxL K) ix_list (pv 4) (pv 17) (fun _ _ => rfl)) (pa_cons (pe_ix (r := rIxL K) ix_list (pv 4) (pe_op op_add (pv 17) pe_int) (fun _ _ => rfl)) pa_nil)))))
  (pss_cons (ps_set (i := 8) sc_law.nd rfl (Or.inl rfl) (pe_callB (r := rSortedPO K) cr_sortedPO (by rfl) T.n_sorted (by decide +kernel) (pa_cons (pe_op op_cat (pv 6) (pv 7)) pa_nil)))
  (pss_cons (ps_if (pt_cmpR op_gt (pv 2) pe_int (nomark _)) (pss_cons (ps_expr (pe_bm PySem.F.plainAttrs_list PySem.F.slot_list_append PySem.F.type_list_append mt_append (pv 8) (pa_cons (pe_call (ok_l_tie T) (hr.mono (by decide)) (by rfl) T.g_l_tie T.F_l_tie.kp T.b_l_tie .nil pass0 (pa_cons (pe_ix (r := rIxL K) ix_list (pv 5) pe_int (fun _ _ => rfl)) (pa_cons (pe_ix (r := rIxL K) ix_list (pv 5) pe_int (fun _ _ => rfl)) pa_nil))) pa_nil)))
  (pss_cons (ps_expr (pe_bm PySem.F.plainAttrs_list PySem.F.slot_list_append PySem.F.type_list_append mt_append (pv 6) (pa_cons (pe_ix (r := rIxL K) ix_list (pv 8) (pe_un un_neg pe_int) (fun _ _ => rfl)) pa_nil)))
  (pss_one (ps_expr (pe_bm PySem.F.plainAttrs_list PySem.F.slot_list_append PySem.F.type_list_append mt_append (pv 7) (pa_cons (pe_ix (r := rIxL K) ix_list (pv 8) (pe_un un_neg pe_int) (fun _ _ => rfl)) pa_nil)))))) pss_nil)
  (pss_cons (ps_if (pt_cmpR op_gt (pv 1) pe_int (nomark _)) (pss_one (ps_set (i := 8) sc_law.nd rfl (Or.inl rfl) (pe_op op_cat (pv 8) (pe_lst (pa_cons (pe_call (ok_l_tie T) (hr.mono (by decide)) (by rfl) T.g_l_tie T.F_l_tie.kp T.b_l_tie .nil pass0 (pa_cons (pe_ix (r := rIxL K) ix_list (pv 4) pe_int (fun _ _ => rfl)) (pa_cons (pe_ix (r := rIxL K) ix_list (pv 4) pe_int (fun _ _ => rfl)) pa_nil))) (pa_cons (pe_call (ok_l_tie T) (hr.mono (by decide)) (by rfl) T.g_l_tie T.F_l_tie.kp T.b_l_tie .nil pass0 (pa_cons (pe_ix (r := rIxL K) ix_list (pv 4) pe_int (fun _ _ => rfl)) (pa_cons (pe_ix (r := rIxL K) ix_list (pv 4) (pe_un un_neg pe_int) (fun _ _ => rfl)) pa_nil))) pa_nil)))))) pss_nil)
  (pss_cons (ps_for PassesOwn.never rfl (pi_range1 (by rfl) T.n_range (pa_cons (pe_callB (r := rLenS K) call_len_seq (by rfl) T.n_len (by decide +kernel) (pa_cons (pv 3) pa_nil)) pa_nil)) (pg_name (i := 9) sc_law.nd rfl (Or.inl rfl))
    (pss_cons (ps_set (i := 10) sc_law.nd rfl (Or.inl rfl) (pe_op op_add (pe_call (ok_l_cell_at T) (hr.mono (by decide)) (by rfl) T.g_l_cell_at T.F_l_cell_at.kp T.b_l_cell_at .nil pass0 (pa_cons (pv 0) (pa_cons (pe_op op_add pe_int (pe_op op_mod (pv 9) pe_int)) pa_nil))) (pv 9)))
  (pss_cons (ps_set (i := 11) sc_law.nd rfl (Or.inl rfl) (pe_ix (r := rIxL K) ix_list (pv 3) (pe_op op_mod (pe_op op_add (pe_op op_add (pv 9) pe_int) (pe_op op_mod (pe_op op_fdiv (pv 10) pe_int) (pe_callB (r := rLenS K) call_len_seq (by rfl) T.n_len (by decide +kernel) (pa_cons (pv 3) pa_nil)))) (pe_callB (r := rLenS K) call_len_seq (by rfl) T.n_len (by decide +kernel) (pa_cons (pv 3) pa_nil))) (fun _ _ => rfl)))
  (pss_one (ps_if (PW.pt (pw_and (pt_cmpR op_eq (pe_op op_mod (pv 10) pe_int) pe_int (nomark _)) (pw_and (pt_cmpR op_ne (pv 11) (pe_ix (r := rIxL K) ix_list (pv 3) (pv 9) (fun _ _ => rfl)) (nomark _)) (pw_and1 (pt_cmpR (r := rNotInD K) (op_notInD (units65 hr)) (pe_call (ok_l_tie T) (hr.mono (by decide)) (by rfl) T.g_l_tie T.F_l_tie.kp T.b_l_tie .nil pass0 (pa_cons (pe_ix (r := rIxL K) ix_list (pv 3) (pv 9) (fun _ _ => rfl)) (pa_cons (pv 11) pa_nil))) (pv 8) (by with_unfolding_all rfl)))))) (pss_one (ps_expr (pe_bm PySem.F.plainAttrs_list PySem.F.slot_list_append PySem.F.type_list_append mt_append (pv 8) (pa_cons (pe_call (ok_l_tie T) (hr.mono (by decide)) (by rfl) T.g_l_tie T.F_l_tie.kp T.b_l_tie .nil pass0 (pa_cons (pe_ix (r := rIxL K) ix_list (pv 3) (pv 9) (fun _ _ => rfl)) (pa_cons (pv 11) pa_nil))) pa_nil)))) pss_nil)))))
  (pss_cons (ps_set (i := 12) sc_law.nd rfl (Or.inl rfl) (pe_make T.mk_Net (ok_Net_init T) (hr.mono (by decide)) (by rfl) T.g_Net T.b_Net_init .nil passL (pa_cons (pe_callB (r := rLenS K) call_len_seq (by rfl) T.n_len (by decide +kernel) (pa_cons (pv 3) pa_nil)) (pa_cons (pv 8) pa_nil))))
  (pss_cons (ps_set (i := 13) sc_law.nd rfl (Or.inl rfl) (pe_revL (pv 6)))
  (pss_cons (ps_set (i := 14) sc_law.nd rfl (Or.inl rfl) (pe_callTy (r := rListS K) call_list_of (by rfl) T.n_list (by decide +kernel) (pa_cons (pv 4) pa_nil)))
  (pss_cons (ps_set (i := 15) sc_law.nd rfl (Or.inl rfl) (pe_call (ok_turned T) (hr.mono (by decide)) (by rfl) T.g_turned T.F_turned.kp T.b_turned .nil passL (pa_cons (pv 12) (pa_cons (pv 13) (pa_cons (pv 14) pa_nil)))))
  (pss_cons (ps_if (PW.pt (pw_or (pt_not (pt_val (pe_callB (r := rIsi K) call_isi (by rfl) T.n_isinstance (by decide +kernel) (pa_cons (pv 15) (pa_cons (pe_bltn (v := .ty "list") (by rfl) T.n_list (by decide +kernel) rfl) pa_nil))))) (pw_or1 (pt_not (pt_val (pe_callB (r := rAll K) (cr_all rfl) (by rfl) T.n_all (by decide +kernel) (pa_cons (pe_lc (own := [("_law_pair", 18)]) (g := gName 18) (tt := tYes) rfl sc_law.nd (pi_list (pv 15)) (blkOk_by (own := [("_law_pair", 18)]) (N := N_law) (sc := defScope s_law) (by decide +kernel)) (fun _ _ _ _ _ => (pg_name (i := 18) sc_law.nd rfl (Or.inl rfl))) (fun _ _ _ _ _ => pts_nil) (fun _ _ _ _ _ => (pe_callB (r := rIsi K) call_isi (by rfl) T.n_isinstance (by decide +kernel) (pa_cons (pv 18) (pa_cons (pe_bltn (v := .ty "tuple") (by rfl) T.n_tuple (by decide +kernel) rfl) pa_nil))))) pa_nil))))))) (pss_one (ps_ret pe_bl)) pss_nil)
  (pss_cons (ps_if (PW.pt (pw_or (pt_cmpR (r := rNeD K) (op_neD hr.units) (pv 15) (pe_callB (r := rSortedPO K) cr_sortedPO (by rfl) T.n_sorted (by decide +kernel) (pa_cons (pv 7) pa_nil)) (nomark _)) (pw_or (pt_cmpR (r := rNeD K) (op_neD hr.units) (pv 13) (pe_revL (pv 6)) (nomark _)) (pw_or1 (pt_cmpR (r := rNeD K) (op_neD hr.units) (pv 14) (pv 4) (nomark _)))))) (pss_one (ps_ret pe_bl)) pss_nil)
  (pss_cons (ps_expr (pe_bm PySem.F.plainAttrs_list PySem.F.slot_list_append PySem.F.type_list_append mt_append (pv 15) (pa_cons (pe_tup (pa_cons pe_int (pa_cons pe_int pa_nil))) pa_nil)))
  (pss_cons (ps_if (PW.pt (pw_or (pt_cmpR (r := rNeD K) (op_neD hr.units) (pe_call (ok_turned T) (hr.mono (by decide)) (by rfl) T.g_turned T.F_turned.kp T.b_turned .nil passL (pa_cons (pv 12) (pa_cons (pv 13) (pa_cons (pv 14) pa_nil)))) (pe_callB (r := rSortedPO K) cr_sortedPO (by rfl) T.n_sorted (by decide +kernel) (pa_cons (pv 7) pa_nil)) (nomark _)) (pw_or1 (pt_cmpR (r := rNeD K) (op_neD hr.units) (pv 15) (pe_op op_cat (pe_callB (r := rSortedPO K) cr_sortedPO (by rfl) T.n_sorted (by decide +kernel) (pa_cons (pv 7) pa_nil)) (pe_lst (pa_cons (pe_tup (pa_cons pe_int (pa_cons pe_int pa_nil))) pa_nil))) (nomark _))))) (pss_one (ps_ret pe_bl)) pss_nil)
  (pss_cons (ps_set (i := 16) sc_law.nd rfl (Or.inl rfl) (pe_call (ok_l_wrong T) (hr.mono (by decide)) (by rfl) T.g_l_wrong T.F_l_wrong.kp T.b_l_wrong .nil pass0 (pa_cons (pv 4) (pa_cons (pe_call (ok_l_cell_at T) (hr.mono (by decide)) (by rfl) T.g_l_cell_at T.F_l_cell_at.kp T.b_l_cell_at .nil pass0 (pa_cons (pv 0) (pa_cons pe_int pa_nil))) pa_nil))))
  (pss_cons (ps_if (PW.pt (pw_or (pt_not (pt_val (pe_call (ok_l_all_refused T) (hr.mono (by decide)) (by rfl) T.g_l_all_refused T.F_l_all_refused.kp T.b_l_all_refused .nil pass0 (pa_cons (pv 12) (pa_cons (pv 13) (pa_cons (pv 4) (pa_cons (pv 8) (pa_cons (pv 16) pa_nil)))))))) (pw_or1 (pt_cmpR (r := rNeD K) (op_neD hr.units) (pv 13) (pe_revL (pv 6)) (nomark _))))) (pss_one (ps_ret pe_bl)) pss_nil)
  (pss_one (ps_ret (pe_or (pe_cmpR op_eq (pv 1) pe_int (nomark _)) (pe_one (pe_call (ok_l_other_way T) (hr.mono (by decide)) (by rfl) T.g_l_other_way T.F_l_other_way.kp T.b_l_other_way .nil pass0 (pa_cons (pv 12) (pa_cons (pe_lst (pa_cons (pv 13) (pa_cons (pv 14) pa_nil))) (pa_cons (pv 6) (pa_cons (pv 4) (pa_cons (pv 7) pa_nil)))))))))))))))))))))))))))))))), ?_⟩
    have e0 : start N_law [.ref a] = some (.ref a) :: List.replicate 18 none := rfl
    rw [e0]
    have S : Script K H a ns := ⟨hS, hlen⟩
    obtain ⟨s, hs⟩ : ∃ s, s = stepsOf ns := ⟨_, rfl⟩
    obtain ⟨s1, s18⟩ := stepsOf_ok ns
    rw [← hs] at s1 s18
    obtain ⟨m, hm⟩ : ∃ m, m = (cellAt ns 1 % ((5 : Nat) : Int)).toNat := ⟨_, rfl⟩
    have m5 : m < 5 := by rw [hm]; exact modN_lt _ (by decide)
    have div : ∀ (k : Nat) {σ : L2.St} {G : Hp} {t1 t2 : TE} {E : XK}, Script K G a ns → Ev t1 σ G (.ref a) → Ev t2 σ G (vn k) → Ev (tCall (sp_l_cell_at K) [] E (tCons t1 (tCons t2 tNil))) σ G (.int (cellAt ns k)) := fun k _ _ _ _ _ h h1 h2 => ev_cell h h1 h2
    refine q_asg (v := .int (1 + cellAt ns 0 % 5)) (ev_op ev_c (ev_op (div 0 S (ev_var rfl) ev_c) ev_c (rv_I (by decide))) rv_I0) fun H1 e1 => ?_
    refine q_whenM (b := decide (cellAt ns 0 / 5 % 7 = 3)) (et_is (et_test (ev_op (ev_op (ev_op (div 0 (S.go e1) (ev_var rfl) ev_c) ev_c (rv_I ⟨by decide, by decide⟩)) ev_c (rv_I (by decide))) ev_c (rv_eq rfl))) (dec_int _ _))
      (fun σ' G => σ' = some (.ref a) :: some (vn s) :: List.replicate 17 none ∧ Ex H G) ?_ (fun c G g k => ?_) (fun c G g => ⟨?_, e1.trans g⟩)
    · rintro σ' H2 ⟨rfl, e2⟩
      have S2 := S.go e2
      refine q_asg (v := vn m) (by rw [hm]; exact ev_modN (m := 5) (by decide) (div 1 S2 (ev_var rfl) ev_c) ev_c) fun H3 e3 => ?_
      have S3 := S2.go e3
      -- order
      have twoS : ∀ {σ : L2.St} {G : Hp} {te : TE}, Ev te σ G (vn s) → Ev (tOp (rI (fun i j => (-(2 ^ 64) < i ∧ i < 2 ^ 64) ∨ (-(2 ^ 64) < j ∧ j < 2 ^ 64)) fun i j => .int (i * j)) (tC (.int 2)) te) σ G (vn (2 * s)) := fun h => ev_is (ev_op ev_c h (rv_I (.inl ⟨by decide, by decide⟩))) (by show V.int _ = V.int _; congr 1)
      obtain ⟨n, hn⟩ : ∃ n, n = 2 * s + m := ⟨_, rfl⟩
      have n1 : 2 ≤ n := by omega
      have n40 : n ≤ 40 := by omega
      refine q_asgN (en_call (ea_cons (ev_is (ev_op (twoS (ev_var rfl)) (ev_var rfl) rv_I0) (rfl : _ = vn (2 * s + m))) (ea_cons (div 2 S3 (ev_var rfl) ev_c) ea_nil)) (spn_new (R := fun v fs G => ∃ p ys, v = .ref p ∧ fs = [p] ∧ Ints G p ys ∧ ys.Perm (List.range n)) fun G g => ⟨n, cellAt ns 2, by rw [hn]; rfl, by omega, rfl⟩)) fun v fs H4 e4 fr r => ?_
      obtain ⟨ol, os, rfl, rfl, hos, perm⟩ := r
      have ond : os.Nodup := perm.nodup_iff.mpr List.nodup_range
      have oln : os.length = 2 * s + m := by rw [perm.length_eq, List.length_range, hn]
      have olt : ∀ x ∈ os, x < n := fun x hx => List.mem_range.mp (perm.mem_iff.mp hx)
      have nlo : (os.map vn).length = 2 * s + m := by rw [List.length_map, oln]
      obtain ⟨way, hway⟩ : ∃ way, way = os.take (2 * s) := ⟨_, rfl⟩
      obtain ⟨rest, hrest⟩ : ∃ rest, rest = os.drop (2 * s) := ⟨_, rfl⟩
      have wlen : way.length = 2 * s := by rw [hway, List.length_take]; omega
      have rlen : rest.length = m := by rw [hrest, List.length_drop]; omega
      refine q_asgL (xs := way.map vn) (el_is (el_sl (lo := none) (hi := some ((2 * s : Nat) : Int)) (ev_var rfl) eo_none (eo_some (twoS (ev_var rfl))) (sq_of hos)) (by rw [cut_take (by omega), ← List.map_take, hway])) fun wl H5 hwF e5 hwl => ?_
      refine q_asgL (xs := rest.map vn) (el_is (el_sl (lo := some ((2 * s : Nat) : Int)) (hi := none) (ev_var rfl) (eo_some (twoS (ev_var rfl))) eo_none (sq_of (e5 _ _ hos))) (by rw [cut_drop (by omega), ← List.map_drop, hrest])) fun rl H6 hrF e6 hrl => ?_
      have S6 := ((S3.go e4).go e5).go e6
      have hos6 : Ints H6 ol os := (hos.go e5).go e6
      have hwl6 : Ints H6 wl way := e6 _ _ hwl
      have hrl6 : Ints H6 rl rest := hrl
      have wix : ∀ {σ : L2.St} {G : Hp} {te tb : TE} {j : Nat}, Ex H6 G → Ev te σ G (.ref wl) → Ev tb σ G (vn j) → j < 2 * s → Ev (tOp (rIxL K) te tb) σ G (vn (way.getD j 0)) := fun e h h2 lt => ev_op h h2 (rv_ixL (K := K) (sq_of (hwl6.go e)) (atI_nat (map_get' (getD_get 0 (by omega)))))
      have rix : ∀ {σ : L2.St} {G : Hp} {te tb : TE} {j : Nat}, Ex H6 G → Ev te σ G (.ref rl) → Ev tb σ G (vn j) → j < m → Ev (tOp (rIxL K) te tb) σ G (vn (rest.getD j 0)) := fun e h h2 lt => ev_op h h2 (rv_ixL (K := K) (sq_of (hrl6.go e)) (atI_nat (map_get' (getD_get 0 (by omega)))))
      -- pairs, due
      refine q_asgN (en_pairs3 (lo := 1) (k := s - 1) (fun i => tieOf (way.getD (2 * i + 1) 0) (way.getD (2 * i + 2) 0)) (ea_cons ev_c (ea_cons (ev_is (ev_op (twoS (ev_var rfl)) ev_c rv_I0) (by show V.int _ = V.int _; congr 1; omega)) (ea_cons ev_c ea_nil))) (by omega) (by omega) (fun x => rfl) (fun i G g hi => eu_tie
        (ev_is (wix (j := 1 + 2 * i) g (ev_var rfl) (ev_var rfl) (by omega)) (by rw [show 1 + 2 * i = 2 * i + 1 by omega])) (ev_is (wix (j := 1 + 2 * i + 1) g (ev_var rfl) (ev_is (ev_op (ev_var rfl) ev_c rv_I0) rfl) (by omega)) (by rw [show 1 + 2 * i + 1 = 2 * i + 2 by omega])))) fun v fs H7 e7 fr7 r => ?_
      obtain ⟨pl, pas, rfl, rfl, hpl, hpp⟩ := r
      have hplF : H6 pl = none := fr7 pl List.mem_cons_self
      refine q_asgN (en_pairs3 (lo := 0) (k := s) (fun i => tieOf (way.getD (2 * i) 0) (way.getD (2 * i + 1) 0)) (ea_cons ev_c (ea_cons (ev_is (twoS (ev_var rfl)) (by show V.int _ = V.int _; congr 1; omega)) (ea_cons ev_c ea_nil))) (by omega) (by omega) (fun x => rfl) (fun i G g hi => eu_tie
        (ev_is (wix (j := 0 + 2 * i) (e7.trans g) (ev_var rfl) (ev_var rfl) (by omega)) (by rw [Nat.zero_add])) (ev_is (wix (j := 0 + 2 * i + 1) (e7.trans g) (ev_var rfl) (ev_is (ev_op (ev_var rfl) ev_c rv_I0) rfl) (by omega)) (by rw [Nat.zero_add])))) fun v fs H8 e8 fr8 r => ?_
      obtain ⟨dl, das, rfl, rfl, hdl, hdp⟩ := r
      have hdlF : H7 dl = none := fr8 dl List.mem_cons_self
      obtain ⟨mid, hmid⟩ : ∃ mid, mid = midPairs way := ⟨_, rfl⟩
      obtain ⟨out, hout⟩ : ∃ out, out = outPairs way := ⟨_, rfl⟩
      have midE : (List.range (s - 1)).map (fun i => tieOf (way.getD (2 * i + 1) 0) (way.getD (2 * i + 2) 0)) = mid := by
        rw [hmid]
        unfold midPairs
        rw [wlen, show 2 * s / 2 - 1 = s - 1 by omega]
      have outE : (List.range s).map (fun i => tieOf (way.getD (2 * i) 0) (way.getD (2 * i + 1) 0)) = out := by
        rw [hout]
        unfold outPairs
        rw [wlen, show 2 * s / 2 = s by omega]
      rw [midE] at hpp
      rw [outE] at hdp
      have mlen : mid.length = s - 1 := by rw [← midE, List.length_map, List.length_range]
      have olen : out.length = s := by rw [← outE, List.length_map, List.length_range]
      have hpl8 : Prs H8 pl mid := Prs.go ⟨pas, hpl, hpp⟩ e8
      have hdl8 : Prs H8 dl out := ⟨das, hdl, hdp⟩
      have plx : ∃ xs, H8 pl = some (.lst xs) := ⟨_, e8 _ _ hpl⟩
      have dlx : ∃ xs, H8 dl = some (.lst xs) := ⟨_, hdl⟩
      have pdne : pl ≠ dl := fun z => by rw [z, hdlF] at hpl; cases hpl
      have e68 := e7.trans e8
      -- ties
      refine q_asgPr (evpr_sorted (evpr_cat (evpr_var (ev_var rfl) hpl8) (evpr_var (ev_var rfl) hdl8) (by omega)).old) fun tl H9 htF e9 htl => ?_
      obtain ⟨ts0, hts0⟩ : ∃ ts0, ts0 = srtP (mid ++ out) := ⟨_, rfl⟩
      rw [← hts0] at htl
      have t0len : ts0.length ≤ 40 := by rw [hts0, (srtP_perm _).length_eq, List.length_append]; omega
      have hdlF6 : H6 dl = none := fresh_back e7 hdlF
      have htF6 : H6 tl = none := fresh_back e68 htF
      have e69 := e68.trans e9
      have tpne : tl ≠ pl := fun z => by
        obtain ⟨xs, hx⟩ := plx
        rw [z, hx] at htF
        cases htF
      have tdne : tl ≠ dl := fun z => by
        obtain ⟨xs, hx⟩ := dlx
        rw [z, hx] at htF
        cases htF
      obtain ⟨X, hX⟩ : ∃ X, X = besideX rest := ⟨_, rfl⟩
      refine q_whenM (b := decide ((m : Int) > 1)) (et_test (ev_op (ev_var rfl) ev_c rv_I0))
        (fun σ' G => σ' = some (.ref a) :: some (vn s) :: some (vn m) :: some (.ref ol) :: some (.ref wl) :: some (.ref rl) :: some (.ref pl) :: some (.ref dl) :: some (.ref tl) :: List.replicate 10 none ∧ Ex H6 G ∧ Prs G pl (mid ++ X) ∧ Prs G dl (out ++ X) ∧ Prs G tl (ts0 ++ X)) ?_ (fun c G g k => ?_) (fun c G g => ⟨rfl, e69.trans g, ?_⟩)
      · rintro σ' Ha ⟨rfl, ea, hpa, hda, hta⟩
        obtain ⟨two, htwo⟩ : ∃ two, two = tiesI os (twoI s) := ⟨_, rfl⟩
        obtain ⟨ts2, hts2⟩ : ∃ ts2, ts2 = ts0 ++ X ++ two := ⟨_, rfl⟩
        have Xlen : X.length ≤ 1 := by rw [hX]; unfold besideX; split <;> simp
        have Xidx : X = tiesI os (xI s m) := by rw [hX, hrest]; exact beside_tiesI oln
        have wget : ∀ i, i < 2 * s → way.getD i 0 = os.getD i 0 := fun i h => by rw [hway]; exact getD_take h
        refine q_whenM (b := decide ((s : Int) > 2)) (et_test (ev_op (ev_var rfl) ev_c rv_I0))
          (fun σ' G => ∃ tk, σ' = some (.ref a) :: some (vn s) :: some (vn m) :: some (.ref ol) :: some (.ref wl) :: some (.ref rl) :: some (.ref pl) :: some (.ref dl) :: some (.ref tk) :: List.replicate 10 none ∧ Ex H6 G ∧ Prs G pl (mid ++ X) ∧ Prs G dl (out ++ X) ∧ Prs G tk ts2 ∧ tk ≠ pl ∧ tk ≠ dl ∧ H6 tk = none) ?_ (fun c G g k => ?_) (fun c G g => ⟨tl, rfl, ea.trans g, hpa.go g, hda.go g, ?_, tpne, tdne, htF6⟩)
        · rintro σ' Hb ⟨tk, rfl, eb, hpb, hdb, htb, kpne, kdne, tkF⟩
          have permT : ts2.Perm (tiesI os (allI s m)) := by
            rw [hts2, htwo, Xidx, hts0]
            unfold allI tiesI
            rw [List.map_append, List.map_append, List.map_append]
            have e1 : (midI s).map (fun p => tieOf (os.getD p.1 0) (os.getD p.2 0)) = mid := by rw [hmid, hway]; exact (mid_tiesI oln).symm
            have e2 : (outI s).map (fun p => tieOf (os.getD p.1 0) (os.getD p.2 0)) = out := by rw [hout, hway]; exact (out_tiesI oln).symm
            rw [e1, e2]
            exact ((srtP_perm _).append_right _).append_right _
          have nd2 : ts2.Nodup := permT.nodup_iff.mpr (idx_nodup ond (allI_nodup s1) (fun p hp => by have := allI_lt s1 p hp; omega))
          have tok2 : TiesOk n ts2 := fun p hp => idx_ok ond olt (I := allI s m) (fun p hp => by have := allI_lt s1 p hp; omega) p (permT.mem_iff.mp hp)
          have t2len : ts2.length ≤ 50 := by
            rw [hts2, List.length_append, List.length_append, htwo]
            have : (tiesI os (twoI s)).length ≤ 2 := by
              unfold tiesI twoI
              rw [List.length_map]
              split <;> simp
            omega
          obtain ⟨pbs, hpbs, _⟩ := id hpb
          obtain ⟨dbs, hdbs, _⟩ := id hdb
          have lenE : ∀ {σ : L2.St} {G : Hp} {te : TE}, Ex H6 G → Ev te σ G (.ref ol) → Ev (tCB (rLenS K) (tCons te tNil)) σ G (vn n) := fun e h => ev_is (ev_len (K := K) h (sq_of (hos6.go e))) (by rw [nlo, hn])
          refine q_forR1 (n := (n : Nat)) (ea_cons (lenE eb (ev_var rfl)) ea_nil) (by omega)
            (fun i σ' G => ∃ x9 x10 x11 ts, σ' = some (.ref a) :: some (vn s) :: some (vn m) :: some (.ref ol) :: some (.ref wl) :: some (.ref rl) :: some (.ref pl) :: some (.ref dl) :: some (.ref tk) :: x9 :: x10 :: x11 :: List.replicate 7 none ∧ Ex H6 G ∧ Prs G pl (mid ++ X) ∧ Prs G dl (out ++ X) ∧ Prs G tk ts ∧ ts.Nodup ∧ TiesOk n ts ∧ (∀ p ∈ ts2, p ∈ ts) ∧ ts.length ≤ 50 + i)
            (fun G g => ⟨none, none, none, ts2, rfl, eb.trans g, hpb.go g, hdb.go g, htb.go g, nd2, tok2, fun p hp => hp, t2len⟩) ?_ ?_
          · rintro i σ' G hi ⟨x9, x10, x11, ts, rfl, eG, hpG, hdG, htG, ndG, tokG, subG, tlG⟩
            have hi : i < n := by omega
            have SG := S6.go eG
            refine q_asg (v := .int (cellAt ns (4 + i % 20) + (i : Int))) (ev_op (ev_cell (k := 4 + i % 20) SG (ev_var rfl) (ev_is (ev_op ev_c (ev_op (ev_var rfl) ev_c (rv_I (by decide))) rv_I0) (by show V.int _ = V.int _; congr 1))) (ev_var rfl) rv_I0) fun G1 g1 => ?_
            obtain ⟨cell, hcell⟩ : ∃ cell, cell = cellAt ns (4 + i % 20) + (i : Int) := ⟨_, rfl⟩
            rw [← hcell]
            obtain ⟨j, hj⟩ : ∃ j, j = (((i : Int) + 1 + cell / 3 % (n : Int)) % (n : Int)).toNat := ⟨_, rfl⟩
            have jl : j < n := by rw [hj]; exact modN_lt _ (by omega)
            have oix : ∀ {σ : L2.St} {G : Hp} {te tb : TE} {j : Nat}, Ex H6 G → Ev te σ G (.ref ol) → Ev tb σ G (vn j) → j < n → Ev (tOp (rIxL K) te tb) σ G (vn (os.getD j 0)) := fun e h h2 lt => ev_op h h2 (rv_ixL (K := K) (sq_of (hos6.go e)) (atI_nat (map_get' (getD_get 0 (by omega)))))
            have e1 := eG.trans g1
            refine q_asg (oix (j := j) e1 (ev_var rfl) (by rw [hj]; exact ev_modN (m := n) (by omega) (ev_op (ev_op (ev_var rfl) ev_c rv_I0) (ev_op (ev_op (ev_var rfl) ev_c (rv_I ⟨by decide, by decide⟩)) (lenE e1 (ev_var rfl)) (rv_I (by show (0 : Int) < (n : Nat); omega))) rv_I0) (lenE e1 (ev_var rfl))) jl) fun G2 g2 => ?_
            have e2 := e1.trans g2
            obtain ⟨x, hx⟩ : ∃ x, x = os.getD i 0 := ⟨_, rfl⟩
            obtain ⟨o, ho⟩ : ∃ o, o = os.getD j 0 := ⟨_, rfl⟩
            have xE : ∀ {σ : L2.St} {G : Hp} {te tb : TE}, Ex H6 G → Ev te σ G (.ref ol) → Ev tb σ G (vn i) → Ev (tOp (rIxL K) te tb) σ G (vn x) := fun e h h2 => by rw [hx]; exact oix e h h2 hi
            rw [← ho]
            have ht2 : Prs G2 tk ts := (htG.go g1).go g2
            have hp2 := (hpG.go g1).go g2
            have hd2 := (hdG.go g1).go g2
            refine s_when (b := decide (cell % 3 = 0) && (!decide (o = x) && !decide (tieOf x o ∈ ts))) (et_and (et_is (et_test (ev_op (ev_op (ev_var rfl) ev_c (rv_I (by decide))) ev_c (rv_eq rfl))) (dec_int _ _)) fun _ => et_and (et_is (et_test (ev_op (ev_var rfl) (xE e2 (ev_var rfl) (ev_var rfl)) (rv_ne rfl))) (by rw [dec_nat])) fun _ => et_test (ev_opU1 (eu_tie (xE e2 (ev_var rfl) (ev_var rfl)) (ev_var rfl)) (fun G1 g1 => ev_var rfl) fun p G3 hp g3 => rv_notInP (q := tieOf x o) hp (ht2.go g3))) (fun c G3 g3 => ?_) (fun c G3 g3 => ⟨_, _, _, ts, rfl, e2.trans g3, hp2.go g3, hd2.go g3, ht2.go g3, ndG, tokG, subG, by omega⟩)
            rw [Bool.and_eq_true, Bool.and_eq_true] at c
            have nxo : o ≠ x := by simpa using c.2.1
            have nin : tieOf x o ∉ ts := by simpa using c.2.2
            have e3 := e2.trans g3
            refine s_appP (ht2.go g3) (by omega) (ev_var rfl) (eu_tie (xE e3 (ev_var rfl) (ev_var rfl)) (ev_var rfl)) fun G4 o4 g4 hT => ?_
            obtain ⟨tas, htas, _⟩ := id ((ht2.go g3).go g4)
            refine ⟨_, _, _, ts ++ [tieOf x o], rfl, (e3.trans g4).mut tkF, ((hp2.go g3).go g4).set (Ne.symm kpne) htas, ((hd2.go g3).go g4).set (Ne.symm kdne) htas, hT, ?_, ?_, fun p hp => List.mem_append_left _ (subG p hp), by rw [List.length_append, List.length_singleton]; omega⟩
            · exact List.nodup_append.mpr ⟨ndG, by simp, fun p hp q hq e => nin (by rw [← List.mem_singleton.mp hq, ← e]; exact hp)⟩
            · intro p hp
              rcases List.mem_append.mp hp with h | h
              · exact tokG p h
              · rw [List.mem_singleton.mp h]
                refine tieOf_ok (olt _ ?_) (olt _ ?_) (Ne.symm nxo)
                · rw [hx]; exact mem_getD (by omega)
                · rw [ho]; exact mem_getD (by omega)
          · rintro σ' Hc ⟨x9, x10, x11, ts, rfl, ec, hpc, hdc, htc, ndT, tokT, subT, tlT⟩
            rw [Int.toNat_natCast] at tlT
            refine q_asgN (en_netV (by omega) n40 tokT ndT (by omega) htc (lenE ec (ev_var rfl)) (ev_var rfl)) fun v fs Hn en fr r => ?_
            obtain ⟨x, rfl, netN⟩ := r
            have net := netN.at
            have sub2 : ∀ p, p ∈ mid ∨ p ∈ out ∨ p ∈ X → p ∈ ts := fun p hp => subT p (by
              rw [hts2, hts0]
              refine List.mem_append_left _ ?_
              rw [List.mem_append, (srtP_perm _).mem_iff, List.mem_append, or_assoc]
              exact hp)
            have lay : Lay n ts way X := by
              rw [hX]
              refine lay_of tokT ?_ ?_ (by omega) (by omega) (fun p hp => sub2 p (.inl (by rw [hmid]; exact hp))) (fun p hp => sub2 p (.inr (.inl (by rw [hout]; exact hp)))) (fun p hp => sub2 p (.inr (.inr (by rw [hX]; exact hp))))
              · rw [hway, hrest, List.take_append_drop]; exact ond
              · rw [hway, hrest, List.take_append_drop]; exact olt
            have wok := webOk_of ts n40
            have ecn := ec.trans en
            have hpN := hpc.go en
            have hdN := hdc.go en
            have htN := htc.go en
            have hwN := hwl6.go ecn
            have pok := lay.pOk
            rw [← hmid] at pok
            obtain ⟨ps, hps⟩ : ∃ ps, ps = mid ++ X := ⟨_, rfl⟩
            rw [← hps] at pok hpN
            have pfew : ps.length ≤ 40 := by have := pok.few; exact Nat.le_trans this n40
            have rpok := pok.perm (List.reverse_perm ps).symm
            have rm : mateL n ps.reverse = mateL n (midPairs way ++ X) := by rw [mateL_perm pok (List.reverse_perm ps) n, hps, hmid]
            have wy : IsWay (webOf n ts) (mateL (webOf n ts).size ps.reverse) way := by
              show IsWay _ (mateL n ps.reverse) way
              rw [rm]
              exact lay.way
            obtain ⟨dd, hdd⟩ : ∃ dd, dd = srtP (out ++ X) := ⟨_, rfl⟩
            have told : pairsOf (turnL (mateL (webOf n ts).size ps.reverse) way) = dd := by
              show pairsOf (turnL (mateL n ps.reverse) way) = dd
              rw [rm, lay.told, hdd, hout]
            have ddl : dd.length ≤ 40 := by rw [hdd, (srtP_perm _).length_eq, List.length_append]; omega
            -- handed, given
            refine q_asgPr (evpr_rev (K := K) (ev_var rfl) hpN) fun hd Hh hhF eh hhd => ?_
            refine q_asgL (el_list (K := K) (ev_var rfl) (sq_of ((hwN.go eh)))) fun gv Hg hgF eg hgv => ?_
            have eng := eh.trans eg
            have hgv : Ints Hg gv way := hgv
            have hhg := hhd.go eg
            have netG := net.go eng
            have hpG := hpN.go eng
            have hdG := hdN.go eng
            have htG := htN.go eng
            have hwG := hwN.go eng
            have turnE : ∀ {σ : L2.St} {G : Hp} {ta tb tc : TE} {E : XK}, Ex Hg G → Ev ta σ G (.ref x) → Ev tb σ G (.ref hd) → Ev tc σ G (.ref gv) → EvN (tCall (sp_turned K T.C_Net T.C_BadPairs T.C_BadWay) [] E (tCons ta (tCons tb (tCons tc tNil)))) σ G (fun v fs G => ∃ p, v = .ref p ∧ fs = [p] ∧ Prs G p dd) := fun e h1 h2 h3 => by
              rw [← told]
              exact en_turned (netG.go e) wok (hhg.go e) rpok (hgv.go e) (by omega) wy h1 h2 h3
            refine q_asgN (turnE (Ex.refl _) (ev_var rfl) (ev_var rfl) (ev_var rfl)) fun v fs Hf ef fr r => ?_
            obtain ⟨F, rfl, rfl, hF⟩ := r
            have FN : Hg F = none := fr F List.mem_cons_self
            refine q_when (b := false) (et_is (et_or (a := false) (b := false) (et_is (et_not (et_B (ev_cb (ea_cons (ev_var rfl) (ea_cons ev_c ea_nil)) (rc_kind (kind_prs hF))))) rfl) fun _ => et_is (et_not (et_B (ev_allTup (K := K) (ev_var rfl) hF (by omega) (fun _ => rfl) (fun _ => rfl)))) rfl) rfl) (fun z => nomatch z) (fun _ Hi ei => ?_)
            have efi := ef.trans ei
            refine q_when (b := false) (et_is (et_or (a := false) (b := false) (et_is (et_test (evpr_ne (K := K) (b := true) (evpr_var (ev_var rfl) (hF.go ei)) (evpr_sorted (evpr_var (ev_var rfl) (hdG.go efi))).old (decide_eq_true hdd))) rfl) fun _ => et_is (et_or (a := false) (b := false) (et_is (et_test (evpr_ne (K := K) (b := true) (evpr_var (ev_var rfl) (hhg.go efi)) (evpr_rev (K := K) (ev_var rfl) (hpG.go efi)).old (decide_eq_true rfl))) rfl) fun _ => et_is (et_test (ev_op (ev_var rfl) (ev_var rfl) (rv_neI (K := K) (hgv.go efi) (hwG.go efi)))) (by simp)) rfl) rfl) (fun z => nomatch z) (fun _ Hj ej => ?_)
            have efj := efi.trans ej
            -- found.append((0, 0))
            refine q_appP (i := 0) (j := 0) ((hF.go ei).go ej) (by omega) (ev_var rfl) (eu_tup (ea_cons ev_c (ea_cons ev_c ea_nil)) (by show 2 ≤ 100000; decide)) fun Hk o ek hF2 => ?_
            obtain ⟨Hl, hHl⟩ : ∃ Hl, Hl = upd Hk F o := ⟨_, rfl⟩
            rw [← hHl] at hF2 ⊢
            have el : Ex Hg Hl := by rw [hHl]; exact (efj.trans ek).mut FN
            refine q_when (b := false) (et_is (et_or (a := false) (b := false) (et_is (et_test (evpr_ne (K := K) (b := true) (EvN.imp (turnE el (ev_var rfl) (ev_var rfl) (ev_var rfl)) fun v fs G e ⟨p, z1, _, z2⟩ => ⟨p, z1, z2⟩) (evpr_sorted (evpr_var (ev_var rfl) (hdG.go el))).old (decide_eq_true hdd))) rfl) fun _ => et_is (et_test (evpr_ne (K := K) (b := true) (evpr_var (ev_var rfl) hF2) (evpr_cat (evpr_sorted (evpr_var (ev_var rfl) (hdG.go el))).old (evpr_one (i := 0) (j := 0) (eu_tup (ea_cons ev_c (ea_cons ev_c ea_nil)) (by show 2 ≤ 100000; decide))).old (by rw [← hdd]; simp; omega)).old (by rw [hdd]; exact decide_eq_true rfl))) rfl) rfl) (fun z => nomatch z) (fun _ Hm em => ?_)
            have elm := el.trans em
            have S12 := S6.go ((ecn.trans eng).trans elm)
            -- wrong
            refine q_asgN (en_call (ea_cons (ev_var rfl) (ea_cons (div 3 S12 (ev_var rfl) ev_c) ea_nil)) (spn_new (R := fun v fs G => WayArg K G (webOf n ts) (mateL n (midPairs way ++ X)) v false) fun G g => ⟨wl, way, cellAt ns 3, n, ts, X, rfl, (hwG.go elm).go g, lay, n40, by omega, rfl⟩)) fun wv fs Ho eo fr wr => ?_
            have elo := elm.trans eo
            refine q_when (b := false) (et_is (et_or (a := false) (b := false) (et_is (et_not (et_B (ev_call (z := .bl true) (ea_cons (ev_var rfl) (ea_cons (ev_var rfl) (ea_cons (ev_var rfl) (ea_cons (ev_var rfl) (ea_cons (ev_var rfl) ea_nil))))) (spv_pure fun G g => ⟨x, n, ts, X, hd, ps.reverse, wl, way, tk, wv, rfl, (netG.go elo).go g, n40, lay, (hhg.go elo).go g, rpok, rm, (hwG.go elo).go g, by omega, (htG.go elo).go g, wr.go g, rfl⟩)))) rfl) fun _ => et_is (et_test (evpr_ne (K := K) (b := true) (evpr_var (ev_var rfl) (hhg.go elo)) (evpr_rev (K := K) (ev_var rfl) (hpG.go elo)).old (decide_eq_true rfl))) rfl) rfl) (fun z => nomatch z) (fun _ Hp ep => ?_)
            have elp := elo.trans ep
            -- the last
            show tOrV _ _ _ Hp _
            refine (ev_op (ev_var rfl) ev_c (rv_eq rfl) : Ev _ _ Hp (.bl (decide (vn s = .int 1)))) Hp (Ex.refl Hp) _ fun Hq eq => ⟨_, rfl, ?_⟩
            split
            · exact q Hq
            · rename_i c
              have c : ¬ s = 1 := fun z => c (by rw [z]; rfl)
              have elq := elp.trans eq
              refine call_ag (ag_ev (ev_var rfl) fun H1 e1 => ag_el (el_lst (ea_cons (ev_var rfl) (ea_cons (ev_var rfl) ea_nil)) (by show 2 ≤ 100000; decide)) fun hs H2 hsF e2 hhs => ag_ev (ev_var rfl) fun H3 e3 => ag_ev (ev_var rfl) fun H4 e4 => ag_ev (ev_var rfl) fun H5 e5 => ag_nil ?_)
              have e24 := (e3.trans e4).trans e5
              have e1q := (elq.trans e1)
              have eall := (e1q.trans e2).trans e24
              obtain ⟨hxs, hhx, _⟩ := hhg
              have gx : Hg gv = _ := hgv
              refine ⟨x, n, ts, X, way, hs, hd, gv, pl, wl, dl, Hn, _, _, rfl, e24 _ _ hhs, eall _ _ hhx, eall _ _ gx, fun z => ?_, fun z => ?_, fun z => ?_, eng.trans eall, hhF, fresh_back eh hgF, net, n40, lay, by omega, by omega, by rw [hps, hmid] at hpN; exact hpN, hwN, by rw [hout] at hdN; exact hdN, q⟩
              · rw [← z] at hgF
                obtain ⟨ys, hy, _⟩ := hhd
                rw [hy] at hgF
                cases hgF
              · rw [z, e1q _ _ hhx] at hsF
                cases hsF
              · rw [z, e1q _ _ gx] at hsF
                cases hsF
        · have c : 2 < s := by have := of_decide_eq_true c; omega
          have twoE : two = [tieOf (way.getD 0 0) (way.getD 2 0), tieOf (way.getD 1 0) (way.getD (2 * s - 2) 0)] := by
            rw [htwo]
            unfold tiesI twoI
            rw [if_pos c, wget 0 (by omega), wget 1 (by omega), wget 2 (by omega), wget (2 * s - 2) (by omega)]
            rfl
          have e2 := ea.trans g
          have neg2 : ∀ {σ : L2.St} {te : TE}, Ev te σ G (.ref wl) → Ev (tOp (rIxL K) te (tUn (rU fun i => .int (-i)) (tC (.int 2)))) σ G (vn (way.getD (2 * s - 2) 0)) := fun h => ev_op h (ev_un ev_c ru_neg) (rv_ixL (K := K) (sq_of (hwl6.go e2)) (atI_neg (m := 2) (by decide) (by rw [List.length_map]; omega) (by rw [List.length_map, wlen]; exact map_get' (getD_get 0 (by omega)))))
          refine (evpr_cat (evpr_var (ev_var rfl) (hta.go g)) (evpr_two (eu_tie (wix (j := 0) e2 (ev_var rfl) ev_c (by omega)) (wix (j := 2) e2 (ev_var rfl) ev_c (by omega))) (eu_tie (wix (j := 1) e2 (ev_var rfl) ev_c (by omega)) (neg2 (ev_var rfl)))).old (by rw [List.length_append]; simp; omega)).el (Ex.refl _) fun tk G1 htk g1 hT => k _ _ ⟨tk, rfl, e2.trans g1, (hpa.go g).go g1, (hda.go g).go g1, ?_, ?_, ?_, fresh_back e2 htk⟩
          · rw [hts2, twoE]
            exact hT
          · obtain ⟨xs, hx, _⟩ := hpa.go g
            exact fun z => by rw [z, hx] at htk; cases htk
          · obtain ⟨xs, hx, _⟩ := hda.go g
            exact fun z => by rw [z, hx] at htk; cases htk
        · have c : ¬ 2 < s := by have := of_decide_eq_false c; omega
          have twoE : two = [] := by
            rw [htwo]
            unfold tiesI twoI
            rw [if_neg c]
            rfl
          rw [hts2, twoE, List.append_nil]
          exact hta.go g
      · have c : 1 < m := by have := of_decide_eq_true c; omega
        have Xe : X = [tieOf (rest.getD 0 0) (rest.getD 1 0)] := by
          rw [hX]
          unfold besideX
          rw [if_pos (by omega)]
        refine q_appP (htl.go g) (by omega) (ev_var rfl) (eu_tie (rix (j := 0) (e69.trans g) (ev_var rfl) ev_c (by omega)) (rix (j := 1) (e69.trans g) (ev_var rfl) ev_c (by omega))) fun G1 o g1 hT => ?_
        obtain ⟨G2, hG2⟩ : ∃ G2, G2 = upd G1 tl o := ⟨_, rfl⟩
        rw [← hG2] at hT ⊢
        obtain ⟨tas, htas, _⟩ := id ((htl.go g).go g1)
        have eG2 : Ex H6 G2 := by rw [hG2]; exact ((e69.trans g).trans g1).mut htF6
        have hp2 : Prs G2 pl mid := by rw [hG2]; exact (((hpl8.go e9).go g).go g1).set (Ne.symm tpne) htas
        have hd2 : Prs G2 dl out := by rw [hG2]; exact (((hdl8.go e9).go g).go g1).set (Ne.symm tdne) htas
        rw [← Xe] at hT
        obtain ⟨xs, t, htx, htp⟩ := prs_last (ps := ts0) (by rw [Xe] at hT; exact hT)
        have lastE : ∀ {σ : L2.St} {G3 : Hp} {te : TE}, Ex G2 G3 → Ev te σ G3 (.ref tl) → Ev (tOp (rIxL K) te (tUn (rU fun i => .int (-i)) (tC (.int 1)))) σ G3 (.ref t) := fun e h => ev_op h (ev_un ev_c ru_neg) (rv_ixL (K := K) (sq_of (e _ _ htx)) atI_last)
        refine q_appR hp2 (by omega) (ev_var rfl) (lastE (Ex.refl _) (ev_var rfl)) htp fun G3 o3 g3 hP => ?_
        obtain ⟨pas2, hpas2, _⟩ := id (hp2.go g3)
        rw [← Xe] at hP
        obtain ⟨G4, hG4⟩ : ∃ G4, G4 = upd G3 pl o3 := ⟨_, rfl⟩
        rw [← hG4] at hP ⊢
        have eG4 : Ex H6 G4 := by rw [hG4]; exact (eG2.trans g3).mut hplF
        have hd4 : Prs G4 dl out := by rw [hG4]; exact (hd2.go g3).set (Ne.symm pdne) hpas2
        have ht4 : Prs G4 tl (ts0 ++ X) := by rw [hG4]; exact (hT.go g3).set tpne hpas2
        obtain ⟨xs4, t4, htx4, htp4⟩ := prs_last (ps := ts0) (by rw [Xe] at ht4; exact ht4)
        refine s_appR hd4 (by omega) (ev_var rfl) (ev_op (ev_var rfl) (ev_un ev_c ru_neg) (rv_ixL (K := K) (sq_of htx4) atI_last)) htp4 fun G5 o5 g5 hD => k _ _ ?_
        obtain ⟨das2, hdas2, _⟩ := id (hd4.go g5)
        rw [← Xe] at hD
        exact ⟨rfl, (eG4.trans g5).mut hdlF6, (hP.go g5).set pdne hdas2, hD, (ht4.go g5).set tdne hdas2⟩
      · have c : ¬ 1 < m := by have := of_decide_eq_false c; omega
        have Xe : X = [] := by
          rw [hX]
          unfold besideX
          rw [if_neg (by omega)]
        rw [Xe, List.append_nil, List.append_nil, List.append_nil]
        exact ⟨(hpl8.go e9).go g, (hdl8.go e9).go g, htl.go g⟩
    · refine s_asg (ev_op ev_c (ev_op (ev_op (div 0 ((S.go e1).go g) (ev_var rfl) ev_c) ev_c (rv_I ⟨by decide, by decide⟩)) ev_c (rv_I (by decide))) rv_I0) fun G1 g1 => k _ _ ⟨?_, (e1.trans g).trans g1⟩
      have c := of_decide_eq_true c
      have h1 := Int.emod_nonneg (cellAt ns 0 / 35) (show (18 : Int) ≠ 0 by decide)
      have : V.int (1 + cellAt ns 0 / 35 % 18) = vn s := by
        show V.int _ = V.int _
        rw [hs, stepsOf, if_pos c]
        congr 1
        omega
      rw [← this]
      rfl
    · have c := of_decide_eq_false c
      have h1 := Int.emod_nonneg (cellAt ns 0) (show (5 : Int) ≠ 0 by decide)
      have : V.int (1 + cellAt ns 0 % 5) = vn s := by
        show V.int _ = V.int _
        rw [hs, stepsOf, if_neg c]
        congr 1
        omega
      rw [← this]
      rfl
end
theorem all_mk {P : Program} {w : World} {K : PySem.W.Frag} {h : Heap} {mg : Str → Option Value} {fa C_NetError C_BadNet C_NoPlace C_BadPairs C_BadWay C_TieThere C_NoTie C_OddRing C_Net f_is_whole f_is_place f_is_tie f_Net_init f_Net_ties f_mates_of f_pairs_of f_is_way f_turned_mates f_turned f_l_sole f_l_cell_at f_l_mixed f_l_tie f_l_refused f_l_wrong_by f_l_wrong f_l_untied f_l_other_way f_l_all_refused f_law : Addr} (X : K.In h) (G : h.Ns mainGlobals mg) (hfa : mg "law" = some (.ref fa))
    {od_is_whole an_is_whole : Option Addr} {sl_is_whole : Array (Option Value)} {oc_is_whole kV_is_whole dc_is_whole pm_is_whole cd_is_whole ct_is_whole : Value}
    {od_is_place an_is_place : Option Addr} {sl_is_place : Array (Option Value)} {oc_is_place kV_is_place dc_is_place pm_is_place cd_is_place ct_is_place : Value}
    {od_is_tie an_is_tie : Option Addr} {sl_is_tie : Array (Option Value)} {oc_is_tie kV_is_tie dc_is_tie pm_is_tie cd_is_tie ct_is_tie : Value}
    {od_Net_init an_Net_init : Option Addr} {sl_Net_init : Array (Option Value)} {oc_Net_init kV_Net_init dc_Net_init pm_Net_init cd_Net_init ct_Net_init : Value}
    {od_Net_ties an_Net_ties : Option Addr} {sl_Net_ties : Array (Option Value)} {oc_Net_ties kV_Net_ties dc_Net_ties pm_Net_ties cd_Net_ties ct_Net_ties : Value}
    {od_mates_of an_mates_of : Option Addr} {sl_mates_of : Array (Option Value)} {oc_mates_of kV_mates_of dc_mates_of pm_mates_of cd_mates_of ct_mates_of : Value}
    {od_pairs_of an_pairs_of : Option Addr} {sl_pairs_of : Array (Option Value)} {oc_pairs_of kV_pairs_of dc_pairs_of pm_pairs_of cd_pairs_of ct_pairs_of : Value}
    {od_is_way an_is_way : Option Addr} {sl_is_way : Array (Option Value)} {oc_is_way kV_is_way dc_is_way pm_is_way cd_is_way ct_is_way : Value}
    {od_turned_mates an_turned_mates : Option Addr} {sl_turned_mates : Array (Option Value)} {oc_turned_mates kV_turned_mates dc_turned_mates pm_turned_mates cd_turned_mates ct_turned_mates : Value}
    {od_turned an_turned : Option Addr} {sl_turned : Array (Option Value)} {oc_turned kV_turned dc_turned pm_turned cd_turned ct_turned : Value}
    {od_l_sole an_l_sole : Option Addr} {sl_l_sole : Array (Option Value)} {oc_l_sole kV_l_sole dc_l_sole pm_l_sole cd_l_sole ct_l_sole : Value}
    {od_l_cell_at an_l_cell_at : Option Addr} {sl_l_cell_at : Array (Option Value)} {oc_l_cell_at kV_l_cell_at dc_l_cell_at pm_l_cell_at cd_l_cell_at ct_l_cell_at : Value}
    {od_l_mixed an_l_mixed : Option Addr} {sl_l_mixed : Array (Option Value)} {oc_l_mixed kV_l_mixed dc_l_mixed pm_l_mixed cd_l_mixed ct_l_mixed : Value}
    {od_l_tie an_l_tie : Option Addr} {sl_l_tie : Array (Option Value)} {oc_l_tie kV_l_tie dc_l_tie pm_l_tie cd_l_tie ct_l_tie : Value}
    {od_l_refused an_l_refused : Option Addr} {sl_l_refused : Array (Option Value)} {oc_l_refused kV_l_refused dc_l_refused pm_l_refused cd_l_refused ct_l_refused : Value}
    {od_l_wrong_by an_l_wrong_by : Option Addr} {sl_l_wrong_by : Array (Option Value)} {oc_l_wrong_by kV_l_wrong_by dc_l_wrong_by pm_l_wrong_by cd_l_wrong_by ct_l_wrong_by : Value}
    {od_l_wrong an_l_wrong : Option Addr} {sl_l_wrong : Array (Option Value)} {oc_l_wrong kV_l_wrong dc_l_wrong pm_l_wrong cd_l_wrong ct_l_wrong : Value}
    {od_l_untied an_l_untied : Option Addr} {sl_l_untied : Array (Option Value)} {oc_l_untied kV_l_untied dc_l_untied pm_l_untied cd_l_untied ct_l_untied : Value}
    {od_l_other_way an_l_other_way : Option Addr} {sl_l_other_way : Array (Option Value)} {oc_l_other_way kV_l_other_way dc_l_other_way pm_l_other_way cd_l_other_way ct_l_other_way : Value}
    {od_l_all_refused an_l_all_refused : Option Addr} {sl_l_all_refused : Array (Option Value)} {oc_l_all_refused kV_l_all_refused dc_l_all_refused pm_l_all_refused cd_l_all_refused ct_l_all_refused : Value}
    {od_law an_law : Option Addr} {sl_law : Array (Option Value)} {oc_law kV_law dc_law pm_law cd_law ct_law : Value}
    {u_MOST_PLACES : Tok}
    (aC_NetError : PySem.W.nsIn K mainGlobals "NetError" = some (some (.ref C_NetError)))
    (aC_BadNet : PySem.W.nsIn K mainGlobals "BadNet" = some (some (.ref C_BadNet)))
    (aC_NoPlace : PySem.W.nsIn K mainGlobals "NoPlace" = some (some (.ref C_NoPlace)))
    (aC_BadPairs : PySem.W.nsIn K mainGlobals "BadPairs" = some (some (.ref C_BadPairs)))
    (aC_BadWay : PySem.W.nsIn K mainGlobals "BadWay" = some (some (.ref C_BadWay)))
    (aC_TieThere : PySem.W.nsIn K mainGlobals "TieThere" = some (some (.ref C_TieThere)))
    (aC_NoTie : PySem.W.nsIn K mainGlobals "NoTie" = some (some (.ref C_NoTie)))
    (aC_OddRing : PySem.W.nsIn K mainGlobals "OddRing" = some (some (.ref C_OddRing)))
    (aC_Net : PySem.W.nsIn K mainGlobals "Net" = some (some (.ref C_Net)))
    (x_NetError : PySem.W.excIn K C_NetError [.type "ValueError", .type "Exception", .type "BaseException", .type "object"] "ValueError.__new__" = true)
    (kp_NetError : PySem.W.keepIn K (.ref C_NetError) = true)
    (sb_NetError : PySem.W.subIn K (.ref C_NetError) (.type "BaseException") = some true)
    (ty_NetError : PySem.W.typeIn K (.ref C_NetError) = some (.type "type"))
    (ic_NetError : PySem.W.isClsIn K C_NetError = true)
    (e1_NetError : PySem.W.findIn K (.ref C_NetError) "__getattribute__" = some (some (.builtin "BaseException.__getattribute__")))
    (e2_NetError : PySem.W.findIn K (.ref C_NetError) "__getattr__" = some none)
    (e4_NetError : PySem.W.hasDictIn K C_NetError = true)
    (e5_NetError : PySem.W.findIn K (.ref C_NetError) "__class__" = some (some (.builtin "object.__class__")))
    (e8_NetError : PySem.W.mroIn K C_NetError (.type "object") = some true)
    (ve_NetError : PySem.W.kitOne K (.ref C_NetError) (.type "ValueError") = some true)
    (ki_NetError_NetError : PySem.W.kitOne K (.ref C_NetError) (.ref C_NetError) = some true)
    (ss_NetError : PySem.W.subIn K (.ref C_NetError) (.ref C_NetError) = some true)
    (x_BadNet : PySem.W.excIn K C_BadNet [.type "ValueError", .type "Exception", .type "BaseException", .type "object"] "ValueError.__new__" = true)
    (kp_BadNet : PySem.W.keepIn K (.ref C_BadNet) = true)
    (sb_BadNet : PySem.W.subIn K (.ref C_BadNet) (.type "BaseException") = some true)
    (ty_BadNet : PySem.W.typeIn K (.ref C_BadNet) = some (.type "type"))
    (ic_BadNet : PySem.W.isClsIn K C_BadNet = true)
    (e1_BadNet : PySem.W.findIn K (.ref C_BadNet) "__getattribute__" = some (some (.builtin "BaseException.__getattribute__")))
    (e2_BadNet : PySem.W.findIn K (.ref C_BadNet) "__getattr__" = some none)
    (e4_BadNet : PySem.W.hasDictIn K C_BadNet = true)
    (e5_BadNet : PySem.W.findIn K (.ref C_BadNet) "__class__" = some (some (.builtin "object.__class__")))
    (e8_BadNet : PySem.W.mroIn K C_BadNet (.type "object") = some true)
    (ve_BadNet : PySem.W.kitOne K (.ref C_BadNet) (.type "ValueError") = some true)
    (ki_BadNet_NetError : PySem.W.kitOne K (.ref C_BadNet) (.ref C_NetError) = some true)
    (ki_BadNet_BadNet : PySem.W.kitOne K (.ref C_BadNet) (.ref C_BadNet) = some true)
    (ki_BadNet_NoPlace : PySem.W.kitOne K (.ref C_BadNet) (.ref C_NoPlace) = some false)
    (ki_BadNet_BadPairs : PySem.W.kitOne K (.ref C_BadNet) (.ref C_BadPairs) = some false)
    (ki_BadNet_BadWay : PySem.W.kitOne K (.ref C_BadNet) (.ref C_BadWay) = some false)
    (ki_BadNet_TieThere : PySem.W.kitOne K (.ref C_BadNet) (.ref C_TieThere) = some false)
    (ki_BadNet_NoTie : PySem.W.kitOne K (.ref C_BadNet) (.ref C_NoTie) = some false)
    (ki_BadNet_OddRing : PySem.W.kitOne K (.ref C_BadNet) (.ref C_OddRing) = some false)
    (ss_BadNet : PySem.W.subIn K (.ref C_BadNet) (.ref C_BadNet) = some true)
    (x_NoPlace : PySem.W.excIn K C_NoPlace [.type "ValueError", .type "Exception", .type "BaseException", .type "object"] "ValueError.__new__" = true)
    (kp_NoPlace : PySem.W.keepIn K (.ref C_NoPlace) = true)
    (sb_NoPlace : PySem.W.subIn K (.ref C_NoPlace) (.type "BaseException") = some true)
    (ty_NoPlace : PySem.W.typeIn K (.ref C_NoPlace) = some (.type "type"))
    (ic_NoPlace : PySem.W.isClsIn K C_NoPlace = true)
    (e1_NoPlace : PySem.W.findIn K (.ref C_NoPlace) "__getattribute__" = some (some (.builtin "BaseException.__getattribute__")))
    (e2_NoPlace : PySem.W.findIn K (.ref C_NoPlace) "__getattr__" = some none)
    (e4_NoPlace : PySem.W.hasDictIn K C_NoPlace = true)
    (e5_NoPlace : PySem.W.findIn K (.ref C_NoPlace) "__class__" = some (some (.builtin "object.__class__")))
    (e8_NoPlace : PySem.W.mroIn K C_NoPlace (.type "object") = some true)
    (ve_NoPlace : PySem.W.kitOne K (.ref C_NoPlace) (.type "ValueError") = some true)
    (ki_NoPlace_NetError : PySem.W.kitOne K (.ref C_NoPlace) (.ref C_NetError) = some true)
    (ki_NoPlace_BadNet : PySem.W.kitOne K (.ref C_NoPlace) (.ref C_BadNet) = some false)
    (ki_NoPlace_NoPlace : PySem.W.kitOne K (.ref C_NoPlace) (.ref C_NoPlace) = some true)
    (ki_NoPlace_BadPairs : PySem.W.kitOne K (.ref C_NoPlace) (.ref C_BadPairs) = some false)
    (ki_NoPlace_BadWay : PySem.W.kitOne K (.ref C_NoPlace) (.ref C_BadWay) = some false)
    (ki_NoPlace_TieThere : PySem.W.kitOne K (.ref C_NoPlace) (.ref C_TieThere) = some false)
    (ki_NoPlace_NoTie : PySem.W.kitOne K (.ref C_NoPlace) (.ref C_NoTie) = some false)
    (ki_NoPlace_OddRing : PySem.W.kitOne K (.ref C_NoPlace) (.ref C_OddRing) = some false)
    (ss_NoPlace : PySem.W.subIn K (.ref C_NoPlace) (.ref C_NoPlace) = some true)
    (x_BadPairs : PySem.W.excIn K C_BadPairs [.type "ValueError", .type "Exception", .type "BaseException", .type "object"] "ValueError.__new__" = true)
    (kp_BadPairs : PySem.W.keepIn K (.ref C_BadPairs) = true)
    (sb_BadPairs : PySem.W.subIn K (.ref C_BadPairs) (.type "BaseException") = some true)
    (ty_BadPairs : PySem.W.typeIn K (.ref C_BadPairs) = some (.type "type"))
    (ic_BadPairs : PySem.W.isClsIn K C_BadPairs = true)
    (e1_BadPairs : PySem.W.findIn K (.ref C_BadPairs) "__getattribute__" = some (some (.builtin "BaseException.__getattribute__")))
    (e2_BadPairs : PySem.W.findIn K (.ref C_BadPairs) "__getattr__" = some none)
    (e4_BadPairs : PySem.W.hasDictIn K C_BadPairs = true)
    (e5_BadPairs : PySem.W.findIn K (.ref C_BadPairs) "__class__" = some (some (.builtin "object.__class__")))
    (e8_BadPairs : PySem.W.mroIn K C_BadPairs (.type "object") = some true)
    (ve_BadPairs : PySem.W.kitOne K (.ref C_BadPairs) (.type "ValueError") = some true)
    (ki_BadPairs_NetError : PySem.W.kitOne K (.ref C_BadPairs) (.ref C_NetError) = some true)
    (ki_BadPairs_BadNet : PySem.W.kitOne K (.ref C_BadPairs) (.ref C_BadNet) = some false)
    (ki_BadPairs_NoPlace : PySem.W.kitOne K (.ref C_BadPairs) (.ref C_NoPlace) = some false)
    (ki_BadPairs_BadPairs : PySem.W.kitOne K (.ref C_BadPairs) (.ref C_BadPairs) = some true)
    (ki_BadPairs_BadWay : PySem.W.kitOne K (.ref C_BadPairs) (.ref C_BadWay) = some false)
    (ki_BadPairs_TieThere : PySem.W.kitOne K (.ref C_BadPairs) (.ref C_TieThere) = some false)
    (ki_BadPairs_NoTie : PySem.W.kitOne K (.ref C_BadPairs) (.ref C_NoTie) = some false)
    (ki_BadPairs_OddRing : PySem.W.kitOne K (.ref C_BadPairs) (.ref C_OddRing) = some false)
    (ss_BadPairs : PySem.W.subIn K (.ref C_BadPairs) (.ref C_BadPairs) = some true)
    (x_BadWay : PySem.W.excIn K C_BadWay [.type "ValueError", .type "Exception", .type "BaseException", .type "object"] "ValueError.__new__" = true)
    (kp_BadWay : PySem.W.keepIn K (.ref C_BadWay) = true)
    (sb_BadWay : PySem.W.subIn K (.ref C_BadWay) (.type "BaseException") = some true)
    (ty_BadWay : PySem.W.typeIn K (.ref C_BadWay) = some (.type "type"))
    (ic_BadWay : PySem.W.isClsIn K C_BadWay = true)
    (e1_BadWay : PySem.W.findIn K (.ref C_BadWay) "__getattribute__" = some (some (.builtin "BaseException.__getattribute__")))
    (e2_BadWay : PySem.W.findIn K (.ref C_BadWay) "__getattr__" = some none)
    (e4_BadWay : PySem.W.hasDictIn K C_BadWay = true)
    (e5_BadWay : PySem.W.findIn K (.ref C_BadWay) "__class__" = some (some (.builtin "object.__class__")))
    (e8_BadWay : PySem.W.mroIn K C_BadWay (.type "object") = some true)
    (ve_BadWay : PySem.W.kitOne K (.ref C_BadWay) (.type "ValueError") = some true)
    (ki_BadWay_NetError : PySem.W.kitOne K (.ref C_BadWay) (.ref C_NetError) = some true)
    (ki_BadWay_BadNet : PySem.W.kitOne K (.ref C_BadWay) (.ref C_BadNet) = some false)
    (ki_BadWay_NoPlace : PySem.W.kitOne K (.ref C_BadWay) (.ref C_NoPlace) = some false)
    (ki_BadWay_BadPairs : PySem.W.kitOne K (.ref C_BadWay) (.ref C_BadPairs) = some false)
    (ki_BadWay_BadWay : PySem.W.kitOne K (.ref C_BadWay) (.ref C_BadWay) = some true)
    (ki_BadWay_TieThere : PySem.W.kitOne K (.ref C_BadWay) (.ref C_TieThere) = some false)
    (ki_BadWay_NoTie : PySem.W.kitOne K (.ref C_BadWay) (.ref C_NoTie) = some false)
    (ki_BadWay_OddRing : PySem.W.kitOne K (.ref C_BadWay) (.ref C_OddRing) = some false)
    (ss_BadWay : PySem.W.subIn K (.ref C_BadWay) (.ref C_BadWay) = some true)
    (x_TieThere : PySem.W.excIn K C_TieThere [.type "ValueError", .type "Exception", .type "BaseException", .type "object"] "ValueError.__new__" = true)
    (kp_TieThere : PySem.W.keepIn K (.ref C_TieThere) = true)
    (sb_TieThere : PySem.W.subIn K (.ref C_TieThere) (.type "BaseException") = some true)
    (ty_TieThere : PySem.W.typeIn K (.ref C_TieThere) = some (.type "type"))
    (ic_TieThere : PySem.W.isClsIn K C_TieThere = true)
    (e1_TieThere : PySem.W.findIn K (.ref C_TieThere) "__getattribute__" = some (some (.builtin "BaseException.__getattribute__")))
    (e2_TieThere : PySem.W.findIn K (.ref C_TieThere) "__getattr__" = some none)
    (e4_TieThere : PySem.W.hasDictIn K C_TieThere = true)
    (e5_TieThere : PySem.W.findIn K (.ref C_TieThere) "__class__" = some (some (.builtin "object.__class__")))
    (e8_TieThere : PySem.W.mroIn K C_TieThere (.type "object") = some true)
    (ve_TieThere : PySem.W.kitOne K (.ref C_TieThere) (.type "ValueError") = some true)
    (ki_TieThere_NetError : PySem.W.kitOne K (.ref C_TieThere) (.ref C_NetError) = some true)
    (ki_TieThere_BadNet : PySem.W.kitOne K (.ref C_TieThere) (.ref C_BadNet) = some false)
    (ki_TieThere_NoPlace : PySem.W.kitOne K (.ref C_TieThere) (.ref C_NoPlace) = some false)
    (ki_TieThere_BadPairs : PySem.W.kitOne K (.ref C_TieThere) (.ref C_BadPairs) = some false)
    (ki_TieThere_BadWay : PySem.W.kitOne K (.ref C_TieThere) (.ref C_BadWay) = some false)
    (ki_TieThere_TieThere : PySem.W.kitOne K (.ref C_TieThere) (.ref C_TieThere) = some true)
    (ki_TieThere_NoTie : PySem.W.kitOne K (.ref C_TieThere) (.ref C_NoTie) = some false)
    (ki_TieThere_OddRing : PySem.W.kitOne K (.ref C_TieThere) (.ref C_OddRing) = some false)
    (ss_TieThere : PySem.W.subIn K (.ref C_TieThere) (.ref C_TieThere) = some true)
    (x_NoTie : PySem.W.excIn K C_NoTie [.type "ValueError", .type "Exception", .type "BaseException", .type "object"] "ValueError.__new__" = true)
    (kp_NoTie : PySem.W.keepIn K (.ref C_NoTie) = true)
    (sb_NoTie : PySem.W.subIn K (.ref C_NoTie) (.type "BaseException") = some true)
    (ty_NoTie : PySem.W.typeIn K (.ref C_NoTie) = some (.type "type"))
    (ic_NoTie : PySem.W.isClsIn K C_NoTie = true)
    (e1_NoTie : PySem.W.findIn K (.ref C_NoTie) "__getattribute__" = some (some (.builtin "BaseException.__getattribute__")))
    (e2_NoTie : PySem.W.findIn K (.ref C_NoTie) "__getattr__" = some none)
    (e4_NoTie : PySem.W.hasDictIn K C_NoTie = true)
    (e5_NoTie : PySem.W.findIn K (.ref C_NoTie) "__class__" = some (some (.builtin "object.__class__")))
    (e8_NoTie : PySem.W.mroIn K C_NoTie (.type "object") = some true)
    (ve_NoTie : PySem.W.kitOne K (.ref C_NoTie) (.type "ValueError") = some true)
    (ki_NoTie_NetError : PySem.W.kitOne K (.ref C_NoTie) (.ref C_NetError) = some true)
    (ki_NoTie_BadNet : PySem.W.kitOne K (.ref C_NoTie) (.ref C_BadNet) = some false)
    (ki_NoTie_NoPlace : PySem.W.kitOne K (.ref C_NoTie) (.ref C_NoPlace) = some false)
    (ki_NoTie_BadPairs : PySem.W.kitOne K (.ref C_NoTie) (.ref C_BadPairs) = some false)
    (ki_NoTie_BadWay : PySem.W.kitOne K (.ref C_NoTie) (.ref C_BadWay) = some false)
    (ki_NoTie_TieThere : PySem.W.kitOne K (.ref C_NoTie) (.ref C_TieThere) = some false)
    (ki_NoTie_NoTie : PySem.W.kitOne K (.ref C_NoTie) (.ref C_NoTie) = some true)
    (ki_NoTie_OddRing : PySem.W.kitOne K (.ref C_NoTie) (.ref C_OddRing) = some false)
    (ss_NoTie : PySem.W.subIn K (.ref C_NoTie) (.ref C_NoTie) = some true)
    (x_OddRing : PySem.W.excIn K C_OddRing [.type "ValueError", .type "Exception", .type "BaseException", .type "object"] "ValueError.__new__" = true)
    (kp_OddRing : PySem.W.keepIn K (.ref C_OddRing) = true)
    (sb_OddRing : PySem.W.subIn K (.ref C_OddRing) (.type "BaseException") = some true)
    (ty_OddRing : PySem.W.typeIn K (.ref C_OddRing) = some (.type "type"))
    (ic_OddRing : PySem.W.isClsIn K C_OddRing = true)
    (e1_OddRing : PySem.W.findIn K (.ref C_OddRing) "__getattribute__" = some (some (.builtin "BaseException.__getattribute__")))
    (e2_OddRing : PySem.W.findIn K (.ref C_OddRing) "__getattr__" = some none)
    (e4_OddRing : PySem.W.hasDictIn K C_OddRing = true)
    (e5_OddRing : PySem.W.findIn K (.ref C_OddRing) "__class__" = some (some (.builtin "object.__class__")))
    (e8_OddRing : PySem.W.mroIn K C_OddRing (.type "object") = some true)
    (ve_OddRing : PySem.W.kitOne K (.ref C_OddRing) (.type "ValueError") = some true)
    (ki_OddRing_NetError : PySem.W.kitOne K (.ref C_OddRing) (.ref C_NetError) = some true)
    (ki_OddRing_BadNet : PySem.W.kitOne K (.ref C_OddRing) (.ref C_BadNet) = some false)
    (ki_OddRing_NoPlace : PySem.W.kitOne K (.ref C_OddRing) (.ref C_NoPlace) = some false)
    (ki_OddRing_BadPairs : PySem.W.kitOne K (.ref C_OddRing) (.ref C_BadPairs) = some false)
    (ki_OddRing_BadWay : PySem.W.kitOne K (.ref C_OddRing) (.ref C_BadWay) = some false)
    (ki_OddRing_TieThere : PySem.W.kitOne K (.ref C_OddRing) (.ref C_TieThere) = some false)
    (ki_OddRing_NoTie : PySem.W.kitOne K (.ref C_OddRing) (.ref C_NoTie) = some false)
    (ki_OddRing_OddRing : PySem.W.kitOne K (.ref C_OddRing) (.ref C_OddRing) = some true)
    (ss_OddRing : PySem.W.subIn K (.ref C_OddRing) (.ref C_OddRing) = some true)
    (e6 : PySem.W.specialIn K (.builtin "object.__class__") "__get__" = some (some (.builtin "getset_descriptor.__get__")))
    (e7 : PySem.W.takesIn K (.builtin "object.__class__") = some true)
    (pg_Net : PySem.W.plainGet K C_Net Str.empty = true)
    (hd_Net : PySem.W.hasDictIn K C_Net = true)
    (po_Net : PySem.W.plainOver K C_Net = true)
    (sa_Net : PySem.W.findIn K (.ref C_Net) "__setattr__" = some (some (.builtin "object.__setattr__")))
    (mk_Net : PySem.W.makesIn K C_Net = true)
    (kc_Net : PySem.W.keepIn K (.ref C_Net) = true)
    (na_Net_size : PySem.W.findIn K (.ref C_Net) "size" = some none)
    (na_Net_near : PySem.W.findIn K (.ref C_Net) "near" = some none)
    (a_is_whole : PySem.W.nsIn K mainGlobals "is_whole" = some (some (.ref f_is_whole)))
    (l_is_whole : K.lookup f_is_whole = some ⟨oc_is_whole, od_is_whole, .func (PySem.W.fnOf "is_whole" "is_whole" (defArgs s_is_whole) (defBody s_is_whole) (defScope s_is_whole) .none kV_is_whole dc_is_whole pm_is_whole an_is_whole cd_is_whole ct_is_whole), sl_is_whole⟩)
    (c_is_whole : PySem.W.codeIn K cd_is_whole "is_whole" = true)
    (k_is_whole : PySem.W.keepIn K (.ref f_is_whole) = true)
    (a_is_place : PySem.W.nsIn K mainGlobals "is_place" = some (some (.ref f_is_place)))
    (l_is_place : K.lookup f_is_place = some ⟨oc_is_place, od_is_place, .func (PySem.W.fnOf "is_place" "is_place" (defArgs s_is_place) (defBody s_is_place) (defScope s_is_place) .none kV_is_place dc_is_place pm_is_place an_is_place cd_is_place ct_is_place), sl_is_place⟩)
    (c_is_place : PySem.W.codeIn K cd_is_place "is_place" = true)
    (k_is_place : PySem.W.keepIn K (.ref f_is_place) = true)
    (a_is_tie : PySem.W.nsIn K mainGlobals "is_tie" = some (some (.ref f_is_tie)))
    (l_is_tie : K.lookup f_is_tie = some ⟨oc_is_tie, od_is_tie, .func (PySem.W.fnOf "is_tie" "is_tie" (defArgs s_is_tie) (defBody s_is_tie) (defScope s_is_tie) .none kV_is_tie dc_is_tie pm_is_tie an_is_tie cd_is_tie ct_is_tie), sl_is_tie⟩)
    (c_is_tie : PySem.W.codeIn K cd_is_tie "is_tie" = true)
    (k_is_tie : PySem.W.keepIn K (.ref f_is_tie) = true)
    (a_Net_init : PySem.W.findIn K (.ref C_Net) "__init__" = some (some (.ref f_Net_init)))
    (i_Net_init : PySem.W.isFn K (.ref f_Net_init) = true)
    (l_Net_init : K.lookup f_Net_init = some ⟨oc_Net_init, od_Net_init, .func (PySem.W.fnOf "__init__" "Net.__init__" (defArgs s_Net_init) (defBody s_Net_init) (defScope s_Net_init) .none kV_Net_init dc_Net_init pm_Net_init an_Net_init cd_Net_init ct_Net_init), sl_Net_init⟩)
    (c_Net_init : PySem.W.codeIn K cd_Net_init "Net.__init__" = true)
    (k_Net_init : PySem.W.keepIn K (.ref f_Net_init) = true)
    (a_Net_ties : PySem.W.findIn K (.ref C_Net) "ties" = some (some (.ref f_Net_ties)))
    (i_Net_ties : PySem.W.isFn K (.ref f_Net_ties) = true)
    (l_Net_ties : K.lookup f_Net_ties = some ⟨oc_Net_ties, od_Net_ties, .func (PySem.W.fnOf "ties" "Net.ties" (defArgs s_Net_ties) (defBody s_Net_ties) (defScope s_Net_ties) .none kV_Net_ties dc_Net_ties pm_Net_ties an_Net_ties cd_Net_ties ct_Net_ties), sl_Net_ties⟩)
    (c_Net_ties : PySem.W.codeIn K cd_Net_ties "Net.ties" = true)
    (k_Net_ties : PySem.W.keepIn K (.ref f_Net_ties) = true)
    (a_mates_of : PySem.W.nsIn K mainGlobals "mates_of" = some (some (.ref f_mates_of)))
    (l_mates_of : K.lookup f_mates_of = some ⟨oc_mates_of, od_mates_of, .func (PySem.W.fnOf "mates_of" "mates_of" (defArgs s_mates_of) (defBody s_mates_of) (defScope s_mates_of) .none kV_mates_of dc_mates_of pm_mates_of an_mates_of cd_mates_of ct_mates_of), sl_mates_of⟩)
    (c_mates_of : PySem.W.codeIn K cd_mates_of "mates_of" = true)
    (k_mates_of : PySem.W.keepIn K (.ref f_mates_of) = true)
    (a_pairs_of : PySem.W.nsIn K mainGlobals "pairs_of" = some (some (.ref f_pairs_of)))
    (l_pairs_of : K.lookup f_pairs_of = some ⟨oc_pairs_of, od_pairs_of, .func (PySem.W.fnOf "pairs_of" "pairs_of" (defArgs s_pairs_of) (defBody s_pairs_of) (defScope s_pairs_of) .none kV_pairs_of dc_pairs_of pm_pairs_of an_pairs_of cd_pairs_of ct_pairs_of), sl_pairs_of⟩)
    (c_pairs_of : PySem.W.codeIn K cd_pairs_of "pairs_of" = true)
    (k_pairs_of : PySem.W.keepIn K (.ref f_pairs_of) = true)
    (a_is_way : PySem.W.nsIn K mainGlobals "is_way" = some (some (.ref f_is_way)))
    (l_is_way : K.lookup f_is_way = some ⟨oc_is_way, od_is_way, .func (PySem.W.fnOf "is_way" "is_way" (defArgs s_is_way) (defBody s_is_way) (defScope s_is_way) .none kV_is_way dc_is_way pm_is_way an_is_way cd_is_way ct_is_way), sl_is_way⟩)
    (c_is_way : PySem.W.codeIn K cd_is_way "is_way" = true)
    (k_is_way : PySem.W.keepIn K (.ref f_is_way) = true)
    (a_turned_mates : PySem.W.nsIn K mainGlobals "turned_mates" = some (some (.ref f_turned_mates)))
    (l_turned_mates : K.lookup f_turned_mates = some ⟨oc_turned_mates, od_turned_mates, .func (PySem.W.fnOf "turned_mates" "turned_mates" (defArgs s_turned_mates) (defBody s_turned_mates) (defScope s_turned_mates) .none kV_turned_mates dc_turned_mates pm_turned_mates an_turned_mates cd_turned_mates ct_turned_mates), sl_turned_mates⟩)
    (c_turned_mates : PySem.W.codeIn K cd_turned_mates "turned_mates" = true)
    (k_turned_mates : PySem.W.keepIn K (.ref f_turned_mates) = true)
    (a_turned : PySem.W.nsIn K mainGlobals "turned" = some (some (.ref f_turned)))
    (l_turned : K.lookup f_turned = some ⟨oc_turned, od_turned, .func (PySem.W.fnOf "turned" "turned" (defArgs s_turned) (defBody s_turned) (defScope s_turned) .none kV_turned dc_turned pm_turned an_turned cd_turned ct_turned), sl_turned⟩)
    (c_turned : PySem.W.codeIn K cd_turned "turned" = true)
    (k_turned : PySem.W.keepIn K (.ref f_turned) = true)
    (a_l_sole : PySem.W.nsIn K mainGlobals "_law_sole" = some (some (.ref f_l_sole)))
    (l_l_sole : K.lookup f_l_sole = some ⟨oc_l_sole, od_l_sole, .func (PySem.W.fnOf "_law_sole" "_law_sole" (defArgs s_l_sole) (defBody s_l_sole) (defScope s_l_sole) .none kV_l_sole dc_l_sole pm_l_sole an_l_sole cd_l_sole ct_l_sole), sl_l_sole⟩)
    (c_l_sole : PySem.W.codeIn K cd_l_sole "_law_sole" = true)
    (k_l_sole : PySem.W.keepIn K (.ref f_l_sole) = true)
    (a_l_cell_at : PySem.W.nsIn K mainGlobals "_law_cell_at" = some (some (.ref f_l_cell_at)))
    (l_l_cell_at : K.lookup f_l_cell_at = some ⟨oc_l_cell_at, od_l_cell_at, .func (PySem.W.fnOf "_law_cell_at" "_law_cell_at" (defArgs s_l_cell_at) (defBody s_l_cell_at) (defScope s_l_cell_at) .none kV_l_cell_at dc_l_cell_at pm_l_cell_at an_l_cell_at cd_l_cell_at ct_l_cell_at), sl_l_cell_at⟩)
    (c_l_cell_at : PySem.W.codeIn K cd_l_cell_at "_law_cell_at" = true)
    (k_l_cell_at : PySem.W.keepIn K (.ref f_l_cell_at) = true)
    (a_l_mixed : PySem.W.nsIn K mainGlobals "_law_mixed" = some (some (.ref f_l_mixed)))
    (l_l_mixed : K.lookup f_l_mixed = some ⟨oc_l_mixed, od_l_mixed, .func (PySem.W.fnOf "_law_mixed" "_law_mixed" (defArgs s_l_mixed) (defBody s_l_mixed) (defScope s_l_mixed) .none kV_l_mixed dc_l_mixed pm_l_mixed an_l_mixed cd_l_mixed ct_l_mixed), sl_l_mixed⟩)
    (c_l_mixed : PySem.W.codeIn K cd_l_mixed "_law_mixed" = true)
    (k_l_mixed : PySem.W.keepIn K (.ref f_l_mixed) = true)
    (a_l_tie : PySem.W.nsIn K mainGlobals "_law_tie" = some (some (.ref f_l_tie)))
    (l_l_tie : K.lookup f_l_tie = some ⟨oc_l_tie, od_l_tie, .func (PySem.W.fnOf "_law_tie" "_law_tie" (defArgs s_l_tie) (defBody s_l_tie) (defScope s_l_tie) .none kV_l_tie dc_l_tie pm_l_tie an_l_tie cd_l_tie ct_l_tie), sl_l_tie⟩)
    (c_l_tie : PySem.W.codeIn K cd_l_tie "_law_tie" = true)
    (k_l_tie : PySem.W.keepIn K (.ref f_l_tie) = true)
    (a_l_refused : PySem.W.nsIn K mainGlobals "_law_refused" = some (some (.ref f_l_refused)))
    (l_l_refused : K.lookup f_l_refused = some ⟨oc_l_refused, od_l_refused, .func (PySem.W.fnOf "_law_refused" "_law_refused" (defArgs s_l_refused) (defBody s_l_refused) (defScope s_l_refused) .none kV_l_refused dc_l_refused pm_l_refused an_l_refused cd_l_refused ct_l_refused), sl_l_refused⟩)
    (c_l_refused : PySem.W.codeIn K cd_l_refused "_law_refused" = true)
    (k_l_refused : PySem.W.keepIn K (.ref f_l_refused) = true)
    (a_l_wrong_by : PySem.W.nsIn K mainGlobals "_law_wrong_by" = some (some (.ref f_l_wrong_by)))
    (l_l_wrong_by : K.lookup f_l_wrong_by = some ⟨oc_l_wrong_by, od_l_wrong_by, .func (PySem.W.fnOf "_law_wrong_by" "_law_wrong_by" (defArgs s_l_wrong_by) (defBody s_l_wrong_by) (defScope s_l_wrong_by) .none kV_l_wrong_by dc_l_wrong_by pm_l_wrong_by an_l_wrong_by cd_l_wrong_by ct_l_wrong_by), sl_l_wrong_by⟩)
    (c_l_wrong_by : PySem.W.codeIn K cd_l_wrong_by "_law_wrong_by" = true)
    (k_l_wrong_by : PySem.W.keepIn K (.ref f_l_wrong_by) = true)
    (a_l_wrong : PySem.W.nsIn K mainGlobals "_law_wrong" = some (some (.ref f_l_wrong)))
    (l_l_wrong : K.lookup f_l_wrong = some ⟨oc_l_wrong, od_l_wrong, .func (PySem.W.fnOf "_law_wrong" "_law_wrong" (defArgs s_l_wrong) (defBody s_l_wrong) (defScope s_l_wrong) .none kV_l_wrong dc_l_wrong pm_l_wrong an_l_wrong cd_l_wrong ct_l_wrong), sl_l_wrong⟩)
    (c_l_wrong : PySem.W.codeIn K cd_l_wrong "_law_wrong" = true)
    (k_l_wrong : PySem.W.keepIn K (.ref f_l_wrong) = true)
    (a_l_untied : PySem.W.nsIn K mainGlobals "_law_untied" = some (some (.ref f_l_untied)))
    (l_l_untied : K.lookup f_l_untied = some ⟨oc_l_untied, od_l_untied, .func (PySem.W.fnOf "_law_untied" "_law_untied" (defArgs s_l_untied) (defBody s_l_untied) (defScope s_l_untied) .none kV_l_untied dc_l_untied pm_l_untied an_l_untied cd_l_untied ct_l_untied), sl_l_untied⟩)
    (c_l_untied : PySem.W.codeIn K cd_l_untied "_law_untied" = true)
    (k_l_untied : PySem.W.keepIn K (.ref f_l_untied) = true)
    (a_l_other_way : PySem.W.nsIn K mainGlobals "_law_other_way" = some (some (.ref f_l_other_way)))
    (l_l_other_way : K.lookup f_l_other_way = some ⟨oc_l_other_way, od_l_other_way, .func (PySem.W.fnOf "_law_other_way" "_law_other_way" (defArgs s_l_other_way) (defBody s_l_other_way) (defScope s_l_other_way) .none kV_l_other_way dc_l_other_way pm_l_other_way an_l_other_way cd_l_other_way ct_l_other_way), sl_l_other_way⟩)
    (c_l_other_way : PySem.W.codeIn K cd_l_other_way "_law_other_way" = true)
    (k_l_other_way : PySem.W.keepIn K (.ref f_l_other_way) = true)
    (a_l_all_refused : PySem.W.nsIn K mainGlobals "_law_all_refused" = some (some (.ref f_l_all_refused)))
    (l_l_all_refused : K.lookup f_l_all_refused = some ⟨oc_l_all_refused, od_l_all_refused, .func (PySem.W.fnOf "_law_all_refused" "_law_all_refused" (defArgs s_l_all_refused) (defBody s_l_all_refused) (defScope s_l_all_refused) .none kV_l_all_refused dc_l_all_refused pm_l_all_refused an_l_all_refused cd_l_all_refused ct_l_all_refused), sl_l_all_refused⟩)
    (c_l_all_refused : PySem.W.codeIn K cd_l_all_refused "_law_all_refused" = true)
    (k_l_all_refused : PySem.W.keepIn K (.ref f_l_all_refused) = true)
    (a_law : PySem.W.nsIn K mainGlobals "law" = some (some (.ref f_law)))
    (l_law : K.lookup f_law = some ⟨oc_law, od_law, .func (PySem.W.fnOf "law" "law" (defArgs s_law) (defBody s_law) (defScope s_law) .none kV_law dc_law pm_law an_law cd_law ct_law), sl_law⟩)
    (c_law : PySem.W.codeIn K cd_law "law" = true)
    (k_law : PySem.W.keepIn K (.ref f_law) = true)
    (a_MOST_PLACES : PySem.W.nsIn K mainGlobals "MOST_PLACES" = some (some (.int 40 u_MOST_PLACES)))
    (z_ValueError : PySem.W.nsIn K mainGlobals "ValueError" = some none)
    (z_all : PySem.W.nsIn K mainGlobals "all" = some none)
    (z_bool : PySem.W.nsIn K mainGlobals "bool" = some none)
    (z_int : PySem.W.nsIn K mainGlobals "int" = some none)
    (z_isinstance : PySem.W.nsIn K mainGlobals "isinstance" = some none)
    (z_len : PySem.W.nsIn K mainGlobals "len" = some none)
    (z_list : PySem.W.nsIn K mainGlobals "list" = some none)
    (z_max : PySem.W.nsIn K mainGlobals "max" = some none)
    (z_min : PySem.W.nsIn K mainGlobals "min" = some none)
    (z_range : PySem.W.nsIn K mainGlobals "range" = some none)
    (z_set : PySem.W.nsIn K mainGlobals "set" = some none)
    (z_sorted : PySem.W.nsIn K mainGlobals "sorted" = some none)
    (z_tuple : PySem.W.nsIn K mainGlobals "tuple" = some none)
    : ∃ fd : FuncData, (∀ (s : Shared) (v : Value), BindsTo s fd ⟨[v], []⟩ [("_law_script", v)]) ∧ ∀ base : Heap, K.In base → base.Ns mainGlobals mg → FnOk P w K mg base CX0 8 fa fd ["_law_script"] (sp_law K) := by
  have e := hfa.symm.trans (PySem.W.mg_of X G a_law)
  have e2 : fa = f_law := by cases e; rfl
  rw [e2]
  have F_is_whole := fun_mk (st := s_is_whole) l_is_whole c_is_whole k_is_whole
  have b_is_whole := F_is_whole.binds (ps := ["thing"]) fun _ _ _ _ _ _ us hl => match us, hl with | [_], _ => rfl
  have F_is_place := fun_mk (st := s_is_place) l_is_place c_is_place k_is_place
  have b_is_place := F_is_place.binds (ps := ["size", "thing"]) fun _ _ _ _ _ _ us hl => match us, hl with | [_, _], _ => rfl
  have F_is_tie := fun_mk (st := s_is_tie) l_is_tie c_is_tie k_is_tie
  have b_is_tie := F_is_tie.binds (ps := ["size", "thing"]) fun _ _ _ _ _ _ us hl => match us, hl with | [_, _], _ => rfl
  have F_Net_init := fun_mk (st := s_Net_init) l_Net_init c_Net_init k_Net_init
  have b_Net_init := F_Net_init.binds (ps := ["self", "size", "ties"]) fun _ _ _ _ _ _ us hl => match us, hl with | [_, _, _], _ => rfl
  have F_Net_ties := fun_mk (st := s_Net_ties) l_Net_ties c_Net_ties k_Net_ties
  have b_Net_ties := F_Net_ties.binds (ps := ["self"]) fun _ _ _ _ _ _ us hl => match us, hl with | [_], _ => rfl
  have F_mates_of := fun_mk (st := s_mates_of) l_mates_of c_mates_of k_mates_of
  have b_mates_of := F_mates_of.binds (ps := ["net", "pairs"]) fun _ _ _ _ _ _ us hl => match us, hl with | [_, _], _ => rfl
  have F_pairs_of := fun_mk (st := s_pairs_of) l_pairs_of c_pairs_of k_pairs_of
  have b_pairs_of := F_pairs_of.binds (ps := ["mates"]) fun _ _ _ _ _ _ us hl => match us, hl with | [_], _ => rfl
  have F_is_way := fun_mk (st := s_is_way) l_is_way c_is_way k_is_way
  have b_is_way := F_is_way.binds (ps := ["net", "mates", "way"]) fun _ _ _ _ _ _ us hl => match us, hl with | [_, _, _], _ => rfl
  have F_turned_mates := fun_mk (st := s_turned_mates) l_turned_mates c_turned_mates k_turned_mates
  have b_turned_mates := F_turned_mates.binds (ps := ["mates", "way"]) fun _ _ _ _ _ _ us hl => match us, hl with | [_, _], _ => rfl
  have F_turned := fun_mk (st := s_turned) l_turned c_turned k_turned
  have b_turned := F_turned.binds (ps := ["net", "pairs", "way"]) fun _ _ _ _ _ _ us hl => match us, hl with | [_, _, _], _ => rfl
  have F_l_sole := fun_mk (st := s_l_sole) l_l_sole c_l_sole k_l_sole
  have b_l_sole := F_l_sole.binds (ps := ["_law_error"]) fun _ _ _ _ _ _ us hl => match us, hl with | [_], _ => rfl
  have F_l_cell_at := fun_mk (st := s_l_cell_at) l_l_cell_at c_l_cell_at k_l_cell_at
  have b_l_cell_at := F_l_cell_at.binds (ps := ["_law_script", "_law_k"]) fun _ _ _ _ _ _ us hl => match us, hl with | [_, _], _ => rfl
  have F_l_mixed := fun_mk (st := s_l_mixed) l_l_mixed c_l_mixed k_l_mixed
  have b_l_mixed := F_l_mixed.binds (ps := ["_law_size", "_law_cell"]) fun _ _ _ _ _ _ us hl => match us, hl with | [_, _], _ => rfl
  have F_l_tie := fun_mk (st := s_l_tie) l_l_tie c_l_tie k_l_tie
  have b_l_tie := F_l_tie.binds (ps := ["_law_one", "_law_other"]) fun _ _ _ _ _ _ us hl => match us, hl with | [_, _], _ => rfl
  have F_l_refused := fun_mk (st := s_l_refused) l_l_refused c_l_refused k_l_refused
  have b_l_refused := F_l_refused.binds (ps := ["_law_net", "_law_pairs", "_law_way"]) fun _ _ _ _ _ _ us hl => match us, hl with | [_, _, _], _ => rfl
  have F_l_wrong_by := fun_mk (st := s_l_wrong_by) l_l_wrong_by c_l_wrong_by k_l_wrong_by
  have b_l_wrong_by := F_l_wrong_by.binds (ps := ["_law_way", "_law_cell"]) fun _ _ _ _ _ _ us hl => match us, hl with | [_, _], _ => rfl
  have F_l_wrong := fun_mk (st := s_l_wrong) l_l_wrong c_l_wrong k_l_wrong
  have b_l_wrong := F_l_wrong.binds (ps := ["_law_way", "_law_cell"]) fun _ _ _ _ _ _ us hl => match us, hl with | [_, _], _ => rfl
  have F_l_untied := fun_mk (st := s_l_untied) l_l_untied c_l_untied k_l_untied
  have b_l_untied := F_l_untied.binds (ps := ["_law_way", "_law_ties"]) fun _ _ _ _ _ _ us hl => match us, hl with | [_, _], _ => rfl
  have F_l_other_way := fun_mk (st := s_l_other_way) l_l_other_way c_l_other_way k_l_other_way
  have b_l_other_way := F_l_other_way.binds (ps := ["_law_net", "_law_handed", "_law_pairs", "_law_way", "_law_due"]) fun _ _ _ _ _ _ us hl => match us, hl with | [_, _, _, _, _], _ => rfl
  have F_l_all_refused := fun_mk (st := s_l_all_refused) l_l_all_refused c_l_all_refused k_l_all_refused
  have b_l_all_refused := F_l_all_refused.binds (ps := ["_law_net", "_law_handed", "_law_way", "_law_ties", "_law_wrong_here"]) fun _ _ _ _ _ _ us hl => match us, hl with | [_, _, _, _, _], _ => rfl
  have F_law := fun_mk (st := s_law) l_law c_law k_law
  have b_law := F_law.binds (ps := ["_law_script"]) fun _ _ _ _ _ _ us hl => match us, hl with | [_], _ => rfl
  let T : Txt K mg := { C_NetError := C_NetError, g_NetError := PySem.W.mg_of X G aC_NetError, C_BadNet := C_BadNet, g_BadNet := PySem.W.mg_of X G aC_BadNet, C_NoPlace := C_NoPlace, g_NoPlace := PySem.W.mg_of X G aC_NoPlace, C_BadPairs := C_BadPairs, g_BadPairs := PySem.W.mg_of X G aC_BadPairs, C_BadWay := C_BadWay, g_BadWay := PySem.W.mg_of X G aC_BadWay, C_TieThere := C_TieThere, g_TieThere := PySem.W.mg_of X G aC_TieThere, C_NoTie := C_NoTie, g_NoTie := PySem.W.mg_of X G aC_NoTie, C_OddRing := C_OddRing, g_OddRing := PySem.W.mg_of X G aC_OddRing, C_Net := C_Net, g_Net := PySem.W.mg_of X G aC_Net, x_NetError := x_NetError, kp_NetError := kp_NetError, sb_NetError := sb_NetError, ty_NetError := ty_NetError, ic_NetError := ic_NetError, ve_NetError := ve_NetError, ec_NetError := ⟨e1_NetError, e2_NetError, sb_NetError, e4_NetError, e5_NetError, e6, e7, e8_NetError⟩, ki_NetError_NetError := ki_NetError_NetError, em_NetError := exm_same sb_NetError ic_NetError ty_NetError ss_NetError, x_BadNet := x_BadNet, kp_BadNet := kp_BadNet, sb_BadNet := sb_BadNet, ty_BadNet := ty_BadNet, ic_BadNet := ic_BadNet, ve_BadNet := ve_BadNet, ec_BadNet := ⟨e1_BadNet, e2_BadNet, sb_BadNet, e4_BadNet, e5_BadNet, e6, e7, e8_BadNet⟩, ki_BadNet_NetError := ki_BadNet_NetError, ki_BadNet_BadNet := ki_BadNet_BadNet, ki_BadNet_NoPlace := ki_BadNet_NoPlace, ki_BadNet_BadPairs := ki_BadNet_BadPairs, ki_BadNet_BadWay := ki_BadNet_BadWay, ki_BadNet_TieThere := ki_BadNet_TieThere, ki_BadNet_NoTie := ki_BadNet_NoTie, ki_BadNet_OddRing := ki_BadNet_OddRing, em_BadNet := exm_same sb_BadNet ic_BadNet ty_BadNet ss_BadNet, x_NoPlace := x_NoPlace, kp_NoPlace := kp_NoPlace, sb_NoPlace := sb_NoPlace, ty_NoPlace := ty_NoPlace, ic_NoPlace := ic_NoPlace, ve_NoPlace := ve_NoPlace, ec_NoPlace := ⟨e1_NoPlace, e2_NoPlace, sb_NoPlace, e4_NoPlace, e5_NoPlace, e6, e7, e8_NoPlace⟩, ki_NoPlace_NetError := ki_NoPlace_NetError, ki_NoPlace_BadNet := ki_NoPlace_BadNet, ki_NoPlace_NoPlace := ki_NoPlace_NoPlace, ki_NoPlace_BadPairs := ki_NoPlace_BadPairs, ki_NoPlace_BadWay := ki_NoPlace_BadWay, ki_NoPlace_TieThere := ki_NoPlace_TieThere, ki_NoPlace_NoTie := ki_NoPlace_NoTie, ki_NoPlace_OddRing := ki_NoPlace_OddRing, em_NoPlace := exm_same sb_NoPlace ic_NoPlace ty_NoPlace ss_NoPlace, x_BadPairs := x_BadPairs, kp_BadPairs := kp_BadPairs, sb_BadPairs := sb_BadPairs, ty_BadPairs := ty_BadPairs, ic_BadPairs := ic_BadPairs, ve_BadPairs := ve_BadPairs, ec_BadPairs := ⟨e1_BadPairs, e2_BadPairs, sb_BadPairs, e4_BadPairs, e5_BadPairs, e6, e7, e8_BadPairs⟩, ki_BadPairs_NetError := ki_BadPairs_NetError, ki_BadPairs_BadNet := ki_BadPairs_BadNet, ki_BadPairs_NoPlace := ki_BadPairs_NoPlace, ki_BadPairs_BadPairs := ki_BadPairs_BadPairs, ki_BadPairs_BadWay := ki_BadPairs_BadWay, ki_BadPairs_TieThere := ki_BadPairs_TieThere, ki_BadPairs_NoTie := ki_BadPairs_NoTie, ki_BadPairs_OddRing := ki_BadPairs_OddRing, em_BadPairs := exm_same sb_BadPairs ic_BadPairs ty_BadPairs ss_BadPairs, x_BadWay := x_BadWay, kp_BadWay := kp_BadWay, sb_BadWay := sb_BadWay, ty_BadWay := ty_BadWay, ic_BadWay := ic_BadWay, ve_BadWay := ve_BadWay, ec_BadWay := ⟨e1_BadWay, e2_BadWay, sb_BadWay, e4_BadWay, e5_BadWay, e6, e7, e8_BadWay⟩, ki_BadWay_NetError := ki_BadWay_NetError, ki_BadWay_BadNet := ki_BadWay_BadNet, ki_BadWay_NoPlace := ki_BadWay_NoPlace, ki_BadWay_BadPairs := ki_BadWay_BadPairs, ki_BadWay_BadWay := ki_BadWay_BadWay, ki_BadWay_TieThere := ki_BadWay_TieThere, ki_BadWay_NoTie := ki_BadWay_NoTie, ki_BadWay_OddRing := ki_BadWay_OddRing, em_BadWay := exm_same sb_BadWay ic_BadWay ty_BadWay ss_BadWay, x_TieThere := x_TieThere, kp_TieThere := kp_TieThere, sb_TieThere := sb_TieThere, ty_TieThere := ty_TieThere, ic_TieThere := ic_TieThere, ve_TieThere := ve_TieThere, ec_TieThere := ⟨e1_TieThere, e2_TieThere, sb_TieThere, e4_TieThere, e5_TieThere, e6, e7, e8_TieThere⟩, ki_TieThere_NetError := ki_TieThere_NetError, ki_TieThere_BadNet := ki_TieThere_BadNet, ki_TieThere_NoPlace := ki_TieThere_NoPlace, ki_TieThere_BadPairs := ki_TieThere_BadPairs, ki_TieThere_BadWay := ki_TieThere_BadWay, ki_TieThere_TieThere := ki_TieThere_TieThere, ki_TieThere_NoTie := ki_TieThere_NoTie, ki_TieThere_OddRing := ki_TieThere_OddRing, em_TieThere := exm_same sb_TieThere ic_TieThere ty_TieThere ss_TieThere, x_NoTie := x_NoTie, kp_NoTie := kp_NoTie, sb_NoTie := sb_NoTie, ty_NoTie := ty_NoTie, ic_NoTie := ic_NoTie, ve_NoTie := ve_NoTie, ec_NoTie := ⟨e1_NoTie, e2_NoTie, sb_NoTie, e4_NoTie, e5_NoTie, e6, e7, e8_NoTie⟩, ki_NoTie_NetError := ki_NoTie_NetError, ki_NoTie_BadNet := ki_NoTie_BadNet, ki_NoTie_NoPlace := ki_NoTie_NoPlace, ki_NoTie_BadPairs := ki_NoTie_BadPairs, ki_NoTie_BadWay := ki_NoTie_BadWay, ki_NoTie_TieThere := ki_NoTie_TieThere, ki_NoTie_NoTie := ki_NoTie_NoTie, ki_NoTie_OddRing := ki_NoTie_OddRing, em_NoTie := exm_same sb_NoTie ic_NoTie ty_NoTie ss_NoTie, x_OddRing := x_OddRing, kp_OddRing := kp_OddRing, sb_OddRing := sb_OddRing, ty_OddRing := ty_OddRing, ic_OddRing := ic_OddRing, ve_OddRing := ve_OddRing, ec_OddRing := ⟨e1_OddRing, e2_OddRing, sb_OddRing, e4_OddRing, e5_OddRing, e6, e7, e8_OddRing⟩, ki_OddRing_NetError := ki_OddRing_NetError, ki_OddRing_BadNet := ki_OddRing_BadNet, ki_OddRing_NoPlace := ki_OddRing_NoPlace, ki_OddRing_BadPairs := ki_OddRing_BadPairs, ki_OddRing_BadWay := ki_OddRing_BadWay, ki_OddRing_TieThere := ki_OddRing_TieThere, ki_OddRing_NoTie := ki_OddRing_NoTie, ki_OddRing_OddRing := ki_OddRing_OddRing, em_OddRing := exm_same sb_OddRing ic_OddRing ty_OddRing ss_OddRing, cl_Net := ⟨pg_Net, hd_Net, po_Net, sa_Net⟩, na_Net_size := na_Net_size, na_Net_near := na_Net_near, f_is_whole := f_is_whole, fd_is_whole := _, F_is_whole := F_is_whole, b_is_whole := b_is_whole, g_is_whole := PySem.W.mg_of X G a_is_whole, f_is_place := f_is_place, fd_is_place := _, F_is_place := F_is_place, b_is_place := b_is_place, g_is_place := PySem.W.mg_of X G a_is_place, f_is_tie := f_is_tie, fd_is_tie := _, F_is_tie := F_is_tie, b_is_tie := b_is_tie, g_is_tie := PySem.W.mg_of X G a_is_tie, f_Net_init := f_Net_init, fd_Net_init := _, F_Net_init := F_Net_init, b_Net_init := b_Net_init, mk_Net := ⟨mk_Net, a_Net_init, i_Net_init, kc_Net⟩, f_Net_ties := f_Net_ties, fd_Net_ties := _, F_Net_ties := F_Net_ties, b_Net_ties := b_Net_ties, m_Net_ties := ⟨a_Net_ties, i_Net_ties, k_Net_ties⟩, f_mates_of := f_mates_of, fd_mates_of := _, F_mates_of := F_mates_of, b_mates_of := b_mates_of, g_mates_of := PySem.W.mg_of X G a_mates_of, f_pairs_of := f_pairs_of, fd_pairs_of := _, F_pairs_of := F_pairs_of, b_pairs_of := b_pairs_of, g_pairs_of := PySem.W.mg_of X G a_pairs_of, f_is_way := f_is_way, fd_is_way := _, F_is_way := F_is_way, b_is_way := b_is_way, g_is_way := PySem.W.mg_of X G a_is_way, f_turned_mates := f_turned_mates, fd_turned_mates := _, F_turned_mates := F_turned_mates, b_turned_mates := b_turned_mates, g_turned_mates := PySem.W.mg_of X G a_turned_mates, f_turned := f_turned, fd_turned := _, F_turned := F_turned, b_turned := b_turned, g_turned := PySem.W.mg_of X G a_turned, f_l_sole := f_l_sole, fd_l_sole := _, F_l_sole := F_l_sole, b_l_sole := b_l_sole, g_l_sole := PySem.W.mg_of X G a_l_sole, f_l_cell_at := f_l_cell_at, fd_l_cell_at := _, F_l_cell_at := F_l_cell_at, b_l_cell_at := b_l_cell_at, g_l_cell_at := PySem.W.mg_of X G a_l_cell_at, f_l_mixed := f_l_mixed, fd_l_mixed := _, F_l_mixed := F_l_mixed, b_l_mixed := b_l_mixed, g_l_mixed := PySem.W.mg_of X G a_l_mixed, f_l_tie := f_l_tie, fd_l_tie := _, F_l_tie := F_l_tie, b_l_tie := b_l_tie, g_l_tie := PySem.W.mg_of X G a_l_tie, f_l_refused := f_l_refused, fd_l_refused := _, F_l_refused := F_l_refused, b_l_refused := b_l_refused, g_l_refused := PySem.W.mg_of X G a_l_refused, f_l_wrong_by := f_l_wrong_by, fd_l_wrong_by := _, F_l_wrong_by := F_l_wrong_by, b_l_wrong_by := b_l_wrong_by, g_l_wrong_by := PySem.W.mg_of X G a_l_wrong_by, f_l_wrong := f_l_wrong, fd_l_wrong := _, F_l_wrong := F_l_wrong, b_l_wrong := b_l_wrong, g_l_wrong := PySem.W.mg_of X G a_l_wrong, f_l_untied := f_l_untied, fd_l_untied := _, F_l_untied := F_l_untied, b_l_untied := b_l_untied, g_l_untied := PySem.W.mg_of X G a_l_untied, f_l_other_way := f_l_other_way, fd_l_other_way := _, F_l_other_way := F_l_other_way, b_l_other_way := b_l_other_way, g_l_other_way := PySem.W.mg_of X G a_l_other_way, f_l_all_refused := f_l_all_refused, fd_l_all_refused := _, F_l_all_refused := F_l_all_refused, b_l_all_refused := b_l_all_refused, g_l_all_refused := PySem.W.mg_of X G a_l_all_refused, f_law := f_law, fd_law := _, F_law := F_law, b_law := b_law, g_law := PySem.W.mg_of X G a_law, g_MOST_PLACES := ⟨_, PySem.W.mg_of X G a_MOST_PLACES⟩, n_ValueError := PySem.W.mg_none_of X G z_ValueError, n_all := PySem.W.mg_none_of X G z_all, n_bool := PySem.W.mg_none_of X G z_bool, n_int := PySem.W.mg_none_of X G z_int, n_isinstance := PySem.W.mg_none_of X G z_isinstance, n_len := PySem.W.mg_none_of X G z_len, n_list := PySem.W.mg_none_of X G z_list, n_max := PySem.W.mg_none_of X G z_max, n_min := PySem.W.mg_none_of X G z_min, n_range := PySem.W.mg_none_of X G z_range, n_set := PySem.W.mg_none_of X G z_set, n_sorted := PySem.W.mg_none_of X G z_sorted, n_tuple := PySem.W.mg_none_of X G z_tuple }
  exact ⟨PySem.W.fnOf "law" "law" (defArgs s_law) (defBody s_law) (defScope s_law) .none kV_law dc_law pm_law an_law cd_law ct_law, fun s v => .of_eq rfl, fun base _ _ => ok_law T⟩
end OP
open PySem PySem.W PyProof.Rows in
set_option maxRecDepth 100000 in
set_option maxHeartbeats 0 in
theorem PySem.Challenge.cw_oddpairs_k04_ways_turned_holds : PySem.Challenge.rw_oddpairs_k04_ways_turned.Holds := by
  w_on; o_law; k_head; (case hw => w_witness2)
  k_fill
  refine L2.walk_of (l := PySem.Challenge.rw_oddpairs_k04_ways_turned) (n := 63) (k := 8) (x := "_law_script") (CX := fun _ => L2.CX0) (sp := fun w => OP.sp_law _) rfl (by decide) rfl ⟨rfl, by decide, by decide⟩ (fun w h Y => PySem.W.kIn_of Y) ?F (fun _ _ a ns hl _ hS => ⟨a, ns, rfl, hS, hl, fun _ => rfl⟩) (fun _ _ _ _ _ z => z)
  case F =>
    intro w mg fa h KX G hmg
    refine' OP.all_mk KX G hmg ?h_aC_NetError ?h_aC_BadNet ?h_aC_NoPlace ?h_aC_BadPairs ?h_aC_BadWay ?h_aC_TieThere ?h_aC_NoTie ?h_aC_OddRing ?h_aC_Net ?h_x_NetError ?h_kp_NetError ?h_sb_NetError ?h_ty_NetError ?h_ic_NetError ?h_e1_NetError ?h_e2_NetError ?h_e4_NetError ?h_e5_NetError ?h_e8_NetError ?h_ve_NetError ?h_ki_NetError_NetError ?h_ss_NetError ?h_x_BadNet ?h_kp_BadNet ?h_sb_BadNet ?h_ty_BadNet ?h_ic_BadNet ?h_e1_BadNet ?h_e2_BadNet ?h_e4_BadNet ?h_e5_BadNet ?h_e8_BadNet ?h_ve_BadNet ?h_ki_BadNet_NetError ?h_ki_BadNet_BadNet ?h_ki_BadNet_NoPlace ?h_ki_BadNet_BadPairs ?h_ki_BadNet_BadWay ?h_ki_BadNet_TieThere ?h_ki_BadNet_NoTie ?h_ki_BadNet_OddRing ?h_ss_BadNet ?h_x_NoPlace ?h_kp_NoPlace ?h_sb_NoPlace ?h_ty_NoPlace ?h_ic_NoPlace ?h_e1_NoPlace ?h_e2_NoPlace ?h_e4_NoPlace ?h_e5_NoPlace ?h_e8_NoPlace ?h_ve_NoPlace ?h_ki_NoPlace_NetError ?h_ki_NoPlace_BadNet ?h_ki_NoPlace_NoPlace ?h_ki_NoPlace_BadPairs ?h_ki_NoPlace_BadWay ?h_ki_NoPlace_TieThere ?h_ki_NoPlace_NoTie ?h_ki_NoPlace_OddRing ?h_ss_NoPlace ?h_x_BadPairs ?h_kp_BadPairs ?h_sb_BadPairs ?h_ty_BadPairs ?h_ic_BadPairs ?h_e1_BadPairs ?h_e2_BadPairs ?h_e4_BadPairs ?h_e5_BadPairs ?h_e8_BadPairs ?h_ve_BadPairs ?h_ki_BadPairs_NetError ?h_ki_BadPairs_BadNet ?h_ki_BadPairs_NoPlace ?h_ki_BadPairs_BadPairs ?h_ki_BadPairs_BadWay ?h_ki_BadPairs_TieThere ?h_ki_BadPairs_NoTie ?h_ki_BadPairs_OddRing ?h_ss_BadPairs ?h_x_BadWay ?h_kp_BadWay ?h_sb_BadWay ?h_ty_BadWay ?h_ic_BadWay ?h_e1_BadWay ?h_e2_BadWay ?h_e4_BadWay ?h_e5_BadWay ?h_e8_BadWay ?h_ve_BadWay ?h_ki_BadWay_NetError ?h_ki_BadWay_BadNet ?h_ki_BadWay_NoPlace ?h_ki_BadWay_BadPairs ?h_ki_BadWay_BadWay ?h_ki_BadWay_TieThere ?h_ki_BadWay_NoTie ?h_ki_BadWay_OddRing ?h_ss_BadWay ?h_x_TieThere ?h_kp_TieThere ?h_sb_TieThere ?h_ty_TieThere ?h_ic_TieThere ?h_e1_TieThere ?h_e2_TieThere ?h_e4_TieThere ?h_e5_TieThere ?h_e8_TieThere ?h_ve_TieThere ?h_ki_TieThere_NetError ?h_ki_TieThere_BadNet ?h_ki_TieThere_NoPlace ?h_ki_TieThere_BadPairs ?h_ki_TieThere_BadWay ?h_ki_TieThere_TieThere ?h_ki_TieThere_NoTie ?h_ki_TieThere_OddRing ?h_ss_TieThere ?h_x_NoTie ?h_kp_NoTie ?h_sb_NoTie ?h_ty_NoTie ?h_ic_NoTie ?h_e1_NoTie ?h_e2_NoTie ?h_e4_NoTie ?h_e5_NoTie ?h_e8_NoTie ?h_ve_NoTie ?h_ki_NoTie_NetError ?h_ki_NoTie_BadNet ?h_ki_NoTie_NoPlace ?h_ki_NoTie_BadPairs ?h_ki_NoTie_BadWay ?h_ki_NoTie_TieThere ?h_ki_NoTie_NoTie ?h_ki_NoTie_OddRing ?h_ss_NoTie ?h_x_OddRing ?h_kp_OddRing ?h_sb_OddRing ?h_ty_OddRing ?h_ic_OddRing ?h_e1_OddRing ?h_e2_OddRing ?h_e4_OddRing ?h_e5_OddRing ?h_e8_OddRing ?h_ve_OddRing ?h_ki_OddRing_NetError ?h_ki_OddRing_BadNet ?h_ki_OddRing_NoPlace ?h_ki_OddRing_BadPairs ?h_ki_OddRing_BadWay ?h_ki_OddRing_TieThere ?h_ki_OddRing_NoTie ?h_ki_OddRing_OddRing ?h_ss_OddRing ?h_e6 ?h_e7 ?h_pg_Net ?h_hd_Net ?h_po_Net ?h_sa_Net ?h_mk_Net ?h_kc_Net ?h_na_Net_size ?h_na_Net_near ?h_a_is_whole ?h_l_is_whole ?h_c_is_whole ?h_k_is_whole ?h_a_is_place ?h_l_is_place ?h_c_is_place ?h_k_is_place ?h_a_is_tie ?h_l_is_tie ?h_c_is_tie ?h_k_is_tie ?h_a_Net_init ?h_i_Net_init ?h_l_Net_init ?h_c_Net_init ?h_k_Net_init ?h_a_Net_ties ?h_i_Net_ties ?h_l_Net_ties ?h_c_Net_ties ?h_k_Net_ties ?h_a_mates_of ?h_l_mates_of ?h_c_mates_of ?h_k_mates_of ?h_a_pairs_of ?h_l_pairs_of ?h_c_pairs_of ?h_k_pairs_of ?h_a_is_way ?h_l_is_way ?h_c_is_way ?h_k_is_way ?h_a_turned_mates ?h_l_turned_mates ?h_c_turned_mates ?h_k_turned_mates ?h_a_turned ?h_l_turned ?h_c_turned ?h_k_turned ?h_a_l_sole ?h_l_l_sole ?h_c_l_sole ?h_k_l_sole ?h_a_l_cell_at ?h_l_l_cell_at ?h_c_l_cell_at ?h_k_l_cell_at ?h_a_l_mixed ?h_l_l_mixed ?h_c_l_mixed ?h_k_l_mixed ?h_a_l_tie ?h_l_l_tie ?h_c_l_tie ?h_k_l_tie ?h_a_l_refused ?h_l_l_refused ?h_c_l_refused ?h_k_l_refused ?h_a_l_wrong_by ?h_l_l_wrong_by ?h_c_l_wrong_by ?h_k_l_wrong_by ?h_a_l_wrong ?h_l_l_wrong ?h_c_l_wrong ?h_k_l_wrong ?h_a_l_untied ?h_l_l_untied ?h_c_l_untied ?h_k_l_untied ?h_a_l_other_way ?h_l_l_other_way ?h_c_l_other_way ?h_k_l_other_way ?h_a_l_all_refused ?h_l_l_all_refused ?h_c_l_all_refused ?h_k_l_all_refused ?h_a_law ?h_l_law ?h_c_law ?h_k_law ?h_a_MOST_PLACES ?h_z_ValueError ?h_z_all ?h_z_bool ?h_z_int ?h_z_isinstance ?h_z_len ?h_z_list ?h_z_max ?h_z_min ?h_z_range ?h_z_set ?h_z_sorted ?h_z_tuple
    (case h_aC_NetError => k_is)
    (case h_aC_BadNet => k_is)
    (case h_aC_NoPlace => k_is)
    (case h_aC_BadPairs => k_is)
    (case h_aC_BadWay => k_is)
    (case h_aC_TieThere => k_is)
    (case h_aC_NoTie => k_is)
    (case h_aC_OddRing => k_is)
    (case h_aC_Net => k_is)
    (case h_x_NetError => k_exc)
    (case h_kp_NetError => k_is)
    (case h_sb_NetError => k_is)
    (case h_ty_NetError => k_is)
    (case h_ic_NetError => k_is)
    (case h_e1_NetError => k_is)
    (case h_e2_NetError => k_is)
    (case h_e4_NetError => k_is)
    (case h_e5_NetError => k_is)
    (case h_e8_NetError => k_is)
    (case h_ve_NetError => kit_is)
    (case h_ki_NetError_NetError => kit_is)
    (case h_ss_NetError => k_is)
    (case h_x_BadNet => k_exc)
    (case h_kp_BadNet => k_is)
    (case h_sb_BadNet => k_is)
    (case h_ty_BadNet => k_is)
    (case h_ic_BadNet => k_is)
    (case h_e1_BadNet => k_is)
    (case h_e2_BadNet => k_is)
    (case h_e4_BadNet => k_is)
    (case h_e5_BadNet => k_is)
    (case h_e8_BadNet => k_is)
    (case h_ve_BadNet => kit_is)
    (case h_ki_BadNet_NetError => kit_is)
    (case h_ki_BadNet_BadNet => kit_is)
    (case h_ki_BadNet_NoPlace => kit_is)
    (case h_ki_BadNet_BadPairs => kit_is)
    (case h_ki_BadNet_BadWay => kit_is)
    (case h_ki_BadNet_TieThere => kit_is)
    (case h_ki_BadNet_NoTie => kit_is)
    (case h_ki_BadNet_OddRing => kit_is)
    (case h_ss_BadNet => k_is)
    (case h_x_NoPlace => k_exc)
    (case h_kp_NoPlace => k_is)
    (case h_sb_NoPlace => k_is)
    (case h_ty_NoPlace => k_is)
    (case h_ic_NoPlace => k_is)
    (case h_e1_NoPlace => k_is)
    (case h_e2_NoPlace => k_is)
    (case h_e4_NoPlace => k_is)
    (case h_e5_NoPlace => k_is)
    (case h_e8_NoPlace => k_is)
    (case h_ve_NoPlace => kit_is)
    (case h_ki_NoPlace_NetError => kit_is)
    (case h_ki_NoPlace_BadNet => kit_is)
    (case h_ki_NoPlace_NoPlace => kit_is)
    (case h_ki_NoPlace_BadPairs => kit_is)
    (case h_ki_NoPlace_BadWay => kit_is)
    (case h_ki_NoPlace_TieThere => kit_is)
    (case h_ki_NoPlace_NoTie => kit_is)
    (case h_ki_NoPlace_OddRing => kit_is)
    (case h_ss_NoPlace => k_is)
    (case h_x_BadPairs => k_exc)
    (case h_kp_BadPairs => k_is)
    (case h_sb_BadPairs => k_is)
    (case h_ty_BadPairs => k_is)
    (case h_ic_BadPairs => k_is)
    (case h_e1_BadPairs => k_is)
    (case h_e2_BadPairs => k_is)
    (case h_e4_BadPairs => k_is)
    (case h_e5_BadPairs => k_is)
    (case h_e8_BadPairs => k_is)
    (case h_ve_BadPairs => kit_is)
    (case h_ki_BadPairs_NetError => kit_is)
    (case h_ki_BadPairs_BadNet => kit_is)
    (case h_ki_BadPairs_NoPlace => kit_is)
    (case h_ki_BadPairs_BadPairs => kit_is)
    (case h_ki_BadPairs_BadWay => kit_is)
    (case h_ki_BadPairs_TieThere => kit_is)
    (case h_ki_BadPairs_NoTie => kit_is)
    (case h_ki_BadPairs_OddRing => kit_is)
    (case h_ss_BadPairs => k_is)
    (case h_x_BadWay => k_exc)
    (case h_kp_BadWay => k_is)
    (case h_sb_BadWay => k_is)
    (case h_ty_BadWay => k_is)
    (case h_ic_BadWay => k_is)
    (case h_e1_BadWay => k_is)
    (case h_e2_BadWay => k_is)
    (case h_e4_BadWay => k_is)
    (case h_e5_BadWay => k_is)
    (case h_e8_BadWay => k_is)
    (case h_ve_BadWay => kit_is)
    (case h_ki_BadWay_NetError => kit_is)
    (case h_ki_BadWay_BadNet => kit_is)
    (case h_ki_BadWay_NoPlace => kit_is)
    (case h_ki_BadWay_BadPairs => kit_is)
    (case h_ki_BadWay_BadWay => kit_is)
    (case h_ki_BadWay_TieThere => kit_is)
    (case h_ki_BadWay_NoTie => kit_is)
    (case h_ki_BadWay_OddRing => kit_is)
    (case h_ss_BadWay => k_is)
    (case h_x_TieThere => k_exc)
    (case h_kp_TieThere => k_is)
    (case h_sb_TieThere => k_is)
    (case h_ty_TieThere => k_is)
    (case h_ic_TieThere => k_is)
    (case h_e1_TieThere => k_is)
    (case h_e2_TieThere => k_is)
    (case h_e4_TieThere => k_is)
    (case h_e5_TieThere => k_is)
    (case h_e8_TieThere => k_is)
    (case h_ve_TieThere => kit_is)
    (case h_ki_TieThere_NetError => kit_is)
    (case h_ki_TieThere_BadNet => kit_is)
    (case h_ki_TieThere_NoPlace => kit_is)
    (case h_ki_TieThere_BadPairs => kit_is)
    (case h_ki_TieThere_BadWay => kit_is)
    (case h_ki_TieThere_TieThere => kit_is)
    (case h_ki_TieThere_NoTie => kit_is)
    (case h_ki_TieThere_OddRing => kit_is)
    (case h_ss_TieThere => k_is)
    (case h_x_NoTie => k_exc)
    (case h_kp_NoTie => k_is)
    (case h_sb_NoTie => k_is)
    (case h_ty_NoTie => k_is)
    (case h_ic_NoTie => k_is)
    (case h_e1_NoTie => k_is)
    (case h_e2_NoTie => k_is)
    (case h_e4_NoTie => k_is)
    (case h_e5_NoTie => k_is)
    (case h_e8_NoTie => k_is)
    (case h_ve_NoTie => kit_is)
    (case h_ki_NoTie_NetError => kit_is)
    (case h_ki_NoTie_BadNet => kit_is)
    (case h_ki_NoTie_NoPlace => kit_is)
    (case h_ki_NoTie_BadPairs => kit_is)
    (case h_ki_NoTie_BadWay => kit_is)
    (case h_ki_NoTie_TieThere => kit_is)
    (case h_ki_NoTie_NoTie => kit_is)
    (case h_ki_NoTie_OddRing => kit_is)
    (case h_ss_NoTie => k_is)
    (case h_x_OddRing => k_exc)
    (case h_kp_OddRing => k_is)
    (case h_sb_OddRing => k_is)
    (case h_ty_OddRing => k_is)
    (case h_ic_OddRing => k_is)
    (case h_e1_OddRing => k_is)
    (case h_e2_OddRing => k_is)
    (case h_e4_OddRing => k_is)
    (case h_e5_OddRing => k_is)
    (case h_e8_OddRing => k_is)
    (case h_ve_OddRing => kit_is)
    (case h_ki_OddRing_NetError => kit_is)
    (case h_ki_OddRing_BadNet => kit_is)
    (case h_ki_OddRing_NoPlace => kit_is)
    (case h_ki_OddRing_BadPairs => kit_is)
    (case h_ki_OddRing_BadWay => kit_is)
    (case h_ki_OddRing_TieThere => kit_is)
    (case h_ki_OddRing_NoTie => kit_is)
    (case h_ki_OddRing_OddRing => kit_is)
    (case h_ss_OddRing => k_is)
    (case h_e6 => k_is)
    (case h_e7 => k_is)
    (case h_pg_Net => k_is)
    (case h_hd_Net => k_is)
    (case h_po_Net => k_is)
    (case h_sa_Net => k_is)
    (case h_mk_Net => k_is)
    (case h_kc_Net => k_is)
    (case h_na_Net_size => k_is)
    (case h_na_Net_near => k_is)
    (case h_a_is_whole => k_is)
    (case h_l_is_whole => k_is)
    (case h_c_is_whole => k_is)
    (case h_k_is_whole => k_is)
    (case h_a_is_place => k_is)
    (case h_l_is_place => k_is)
    (case h_c_is_place => k_is)
    (case h_k_is_place => k_is)
    (case h_a_is_tie => k_is)
    (case h_l_is_tie => k_is)
    (case h_c_is_tie => k_is)
    (case h_k_is_tie => k_is)
    (case h_a_Net_init => k_is)
    (case h_i_Net_init => k_is)
    (case h_l_Net_init => k_is)
    (case h_c_Net_init => k_is)
    (case h_k_Net_init => k_is)
    (case h_a_Net_ties => k_is)
    (case h_i_Net_ties => k_is)
    (case h_l_Net_ties => k_is)
    (case h_c_Net_ties => k_is)
    (case h_k_Net_ties => k_is)
    (case h_a_mates_of => k_is)
    (case h_l_mates_of => k_is)
    (case h_c_mates_of => k_is)
    (case h_k_mates_of => k_is)
    (case h_a_pairs_of => k_is)
    (case h_l_pairs_of => k_is)
    (case h_c_pairs_of => k_is)
    (case h_k_pairs_of => k_is)
    (case h_a_is_way => k_is)
    (case h_l_is_way => k_is)
    (case h_c_is_way => k_is)
    (case h_k_is_way => k_is)
    (case h_a_turned_mates => k_is)
    (case h_l_turned_mates => k_is)
    (case h_c_turned_mates => k_is)
    (case h_k_turned_mates => k_is)
    (case h_a_turned => k_is)
    (case h_l_turned => k_is)
    (case h_c_turned => k_is)
    (case h_k_turned => k_is)
    (case h_a_l_sole => k_is)
    (case h_l_l_sole => k_is)
    (case h_c_l_sole => k_is)
    (case h_k_l_sole => k_is)
    (case h_a_l_cell_at => k_is)
    (case h_l_l_cell_at => k_is)
    (case h_c_l_cell_at => k_is)
    (case h_k_l_cell_at => k_is)
    (case h_a_l_mixed => k_is)
    (case h_l_l_mixed => k_is)
    (case h_c_l_mixed => k_is)
    (case h_k_l_mixed => k_is)
    (case h_a_l_tie => k_is)
    (case h_l_l_tie => k_is)
    (case h_c_l_tie => k_is)
    (case h_k_l_tie => k_is)
    (case h_a_l_refused => k_is)
    (case h_l_l_refused => k_is)
    (case h_c_l_refused => k_is)
    (case h_k_l_refused => k_is)
    (case h_a_l_wrong_by => k_is)
    (case h_l_l_wrong_by => k_is)
    (case h_c_l_wrong_by => k_is)
    (case h_k_l_wrong_by => k_is)
    (case h_a_l_wrong => k_is)
    (case h_l_l_wrong => k_is)
    (case h_c_l_wrong => k_is)
    (case h_k_l_wrong => k_is)
    (case h_a_l_untied => k_is)
    (case h_l_l_untied => k_is)
    (case h_c_l_untied => k_is)
    (case h_k_l_untied => k_is)
    (case h_a_l_other_way => k_is)
    (case h_l_l_other_way => k_is)
    (case h_c_l_other_way => k_is)
    (case h_k_l_other_way => k_is)
    (case h_a_l_all_refused => k_is)
    (case h_l_l_all_refused => k_is)
    (case h_c_l_all_refused => k_is)
    (case h_k_l_all_refused => k_is)
    (case h_a_law => k_is)
    (case h_l_law => k_is)
    (case h_c_law => k_is)
    (case h_k_law => k_is)
    (case h_a_MOST_PLACES => k_is)
    (case h_z_ValueError => k_is)
    (case h_z_all => k_is)
    (case h_z_bool => k_is)
    (case h_z_int => k_is)
    (case h_z_isinstance => k_is)
    (case h_z_len => k_is)
    (case h_z_list => k_is)
    (case h_z_max => k_is)
    (case h_z_min => k_is)
    (case h_z_range => k_is)
    (case h_z_set => k_is)
    (case h_z_sorted => k_is)
    (case h_z_tuple => k_is)
