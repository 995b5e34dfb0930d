import PyProof.Rows.All
import Wide.All
import OpenK.AllK
import Wide.FinOn
import KE.RegKIsAll
import HandS.ForMost
import HandS.TupSets
import HandS.ForExc
import HandS.IsInst
import HandS.ExcIs
import HandS.HotCalls
import HandS.SortRule
import HandS.SortInts
import HandS.Flow
import HandS.More
import HandS.Evl
import HandS.Walk
import HandS.Deep
import PyProof.P3Eq
import HandS.Style
import HandS.SetFor
import HandS.Strs
import HandS.Exc
import HandS.TryMany
import KE.DataFind
import PyProof.StrOps2
import PyProof.StrBlock2
import HandS.Codes
import HandS.Text
import HandS.FStr
import PyProof.StrLawsChain
import PyProof.StrLawsTight
import PyProof.Rows.StrSplitCount
import PySem.Challenge.RW_oddpairs_k12_texts
set_option Elab.async false
set_option linter.all false
set_option maxRecDepth 100000
set_option maxHeartbeats 4000000
/-! len(set(pairs)) for up to a thousand tuples: the tables of 8, 32, 128, 512, 2048 slots. -/
namespace OP
open PySem PySem.Spec PyProof.Rows L2

/-! ### the orbit of i -> 5 i + 1 modulo a power of two, as a set of bits -/
def Mk (m : Nat) : Prop := m = 7 ∨ m = 31 ∨ m = 127 ∨ m = 511 ∨ m = 2047
def orb (m : Nat) : Nat → Nat → Nat → Nat × Nat
  | 0, x, acc => (x, acc)
  | n + 1, x, acc => bif Nat.beq x 5000 then (0, 0) else bif Nat.beq acc (2 ^ 5000) then (0, 0) else orb m n ((x * 5 + 1) % (m + 1)) (Nat.lor acc (Nat.shiftLeft 1 x))
theorem orb_spec (m : Nat) : ∀ (n b acc : Nat), (orb m n (lcgN m b) acc).2 ≠ 0 →
    (orb m n (lcgN m b) acc).1 = lcgN m (b + n) ∧ ∀ j, (orb m n (lcgN m b) acc).2.testBit j = true → acc.testBit j = true ∨ ∃ b', b ≤ b' ∧ b' < b + n ∧ lcgN m b' = j
  | 0, b, acc, _ => ⟨rfl, fun j h => .inl h⟩
  | n + 1, b, acc, hne => by
    unfold orb at hne ⊢
    cases c1 : Nat.beq (lcgN m b) 5000 with
    | true => rw [c1] at hne; exact absurd rfl hne
    | false =>
      cases c2 : Nat.beq acc (2 ^ 5000) with
      | true => rw [c1, c2] at hne; exact absurd rfl hne
      | false =>
        rw [c1, c2] at hne
        simp only [cond_false] at hne ⊢
        have ih := orb_spec m n (b + 1) (Nat.lor acc (Nat.shiftLeft 1 (lcgN m b))) hne
        refine ⟨ih.1.trans (by rw [show b + 1 + n = b + (n + 1) by omega]), fun j hj => ?_⟩
        rcases ih.2 j hj with h | ⟨b', h1, h2, h3⟩
        · have h' : (acc ||| (1 <<< lcgN m b)).testBit j = true := h
          rw [Nat.testBit_or, Bool.or_eq_true] at h'
          rcases h' with h' | h'
          · exact .inl h'
          · rw [Nat.one_shiftLeft, Nat.testBit_two_pow] at h'
            exact .inr ⟨b, Nat.le_refl _, by omega, of_decide_eq_true h'⟩
        · exact .inr ⟨b', by omega, by omega, h3⟩
theorem orb7 : orb 7 8 0 0 = (0, 2 ^ 8 - 1) := by decide +kernel
theorem orb31 : orb 31 32 0 0 = (0, 2 ^ 32 - 1) := by decide +kernel
theorem orb127 : orb 127 128 0 0 = (0, 2 ^ 128 - 1) := by decide +kernel
theorem orb511 : orb 511 512 0 0 = (0, 2 ^ 512 - 1) := by decide +kernel
theorem orb2047 : orb 2047 2048 0 0 = (0, 2 ^ 2048 - 1) := by decide +kernel
theorem orb_all {m : Nat} (hm : Mk m) : orb m (m + 1) 0 0 = (0, 2 ^ (m + 1) - 1) := by
  rcases hm with e | e | e | e | e <;> subst e
  · exact orb7
  · exact orb31
  · exact orb127
  · exact orb511
  · exact orb2047
theorem round_back {m : Nat} (hm : Mk m) : lcgN m (m + 1) = 0 := by
  have e := orb_all hm
  have pos : 0 < 2 ^ (m + 1) - 1 := by
    have := Nat.one_lt_two_pow (n := m + 1) (by omega)
    omega
  have s := orb_spec m (m + 1) 0 0 (by show (orb m (m + 1) 0 0).2 ≠ 0; rw [e]; exact Nat.ne_of_gt pos)
  have s1 : (orb m (m + 1) 0 0).1 = lcgN m (0 + (m + 1)) := s.1
  rw [e, Nat.zero_add] at s1
  exact s1.symm
theorem round_hits {m : Nat} (hm : Mk m) {j : Nat} (hj : j ≤ m) : ∃ b, b ≤ m ∧ lcgN m b = j := by
  have e := orb_all hm
  have pos : 0 < 2 ^ (m + 1) - 1 := by
    have := Nat.one_lt_two_pow (n := m + 1) (by omega)
    omega
  have s := orb_spec m (m + 1) 0 0 (by show (orb m (m + 1) 0 0).2 ≠ 0; rw [e]; exact Nat.ne_of_gt pos)
  have s2 : ∀ j, (orb m (m + 1) 0 0).2.testBit j = true → (0 : Nat).testBit j = true ∨ ∃ b', 0 ≤ b' ∧ b' < 0 + (m + 1) ∧ lcgN m b' = j := s.2
  rw [e] at s2
  rcases s2 j (by rw [Nat.testBit_two_pow_sub_one]; exact decide_eq_true (Nat.lt_succ_of_le hj)) with h | ⟨b, _, h2, h3⟩
  · rw [Nat.zero_testBit] at h
    cases h
  · exact ⟨b, by omega, h3⟩
theorem round_again {m : Nat} (hm : Mk m) (k : Nat) : lcgN m (m + 1 + k) = lcgN m k := by
  induction k with
  | zero => exact round_back hm
  | succ k ih =>
    have e : lcgN m (m + 1 + (k + 1)) = (lcgN m (m + 1 + k) * 5 + 1) % (m + 1) := rfl
    rw [e, ih] <;> rfl
theorem from_any {m : Nat} (hm : Mk m) {i j : Nat} (hi : i ≤ m) (hj : j ≤ m) : ∃ k, k ≤ m ∧ lcgI m i k = j := by
  obtain ⟨p, hp, ep⟩ := round_hits hm hi
  obtain ⟨q, hq, eq⟩ := round_hits hm hj
  subst ep
  by_cases c : p ≤ q
  · exact ⟨q - p, by omega, by rw [lcgN_add, show p + (q - p) = q by omega, eq]⟩
  · exact ⟨m + 1 + q - p, by omega, by rw [lcgN_add, show p + (m + 1 + q - p) = m + 1 + q by omega, round_again hm, eq]⟩
theorem starts {m : Nat} (hm : Mk m) (h : Int) {j : Nat} (hj : j ≤ m) : ∃ n, n ≤ m + 12 ∧ runI m (SetTable.bits h) n = j :=
  let ⟨k, hk, e⟩ := from_any hm (runI_le m (SetTable.bits h) 12) hj
  ⟨12 + k, by omega, (runI_tail (bits_lt h) k).trans e⟩
theorem meets_slot {m : Nat} (hm : Mk m) (h : Int) {j : Nat} (hj : j ≤ m) : ∃ k, k < 10 * SetTable.turns m ∧ way m h k = j := by
  obtain ⟨n, hn, e⟩ := starts hm h hj
  obtain ⟨k, hk, e2⟩ := run_nth m (SetTable.bits h) n
  exact ⟨k, by unfold SetTable.turns; omega, by show (nth m _ k).j = j; rw [e2]; exact e⟩
theorem way_in (m : Nat) (h : Int) (k : Nat) : way m h k ≤ m := by
  have h1 : SetTable.bits h % (m + 1) ≤ m := Nat.le_of_lt_succ (Nat.mod_lt _ (Nat.succ_pos m))
  have h2 := runEnd_bd h1
  have h3 : (nth m (runAt m (SetTable.bits h % (m + 1)) (SetTable.bits h)) k).j + (nth m (runAt m (SetTable.bits h % (m + 1)) (SetTable.bits h)) k).more ≤ m :=
    nth_in k _ (by unfold runAt; dsimp only; omega)
  exact Nat.le_trans (Nat.le_add_right _ _) h3

/-! ### tables whose entries are found again -/
structure Tb (t : SetTable) (hs : List Int) : Prop where
  ris : Ris t.place.toList
  dm : t.dummies = #[]
  len : t.place.toList.length = hs.length
  okm : Mk t.mask
  found : ∀ (i : Nat) (h : Int) (j : Nat), hs[i]? = some h → t.place.toList[i]? = some j → ∃ k, way t.mask h k = j ∧ ∀ k', k' < k → way t.mask h k' ∈ t.place.toList
theorem Tb.gap {t : SetTable} {hs : List Int} (T : Tb t hs) (hl : hs.length ≤ t.mask) (h : Int) :
    ∃ N, N < 10 * SetTable.turns t.mask ∧ way t.mask h N ∉ t.place.toList ∧ ∀ k, k < N → way t.mask h k ∈ t.place.toList := by
  obtain ⟨j, hj, hn⟩ := st_missing t.place.toList (t.mask + 1) (by have := T.len; omega)
  obtain ⟨k, hk, e⟩ := meets_slot T.okm h (Nat.le_of_lt_succ hj)
  obtain ⟨N, h1, h2, h3⟩ := st_least (p := fun q => way t.mask h q ∉ t.place.toList) k (fun hm => hn (by rw [← e]; exact hm))
  exact ⟨N, Nat.lt_of_le_of_lt h1 hk, h2, fun q hq => Classical.byContradiction fun z => h3 q hq z⟩
theorem Tb.ahead {t : SetTable} {hs : List Int} (T : Tb t hs) {h : Int} {N i j : Nat} (hN : way t.mask h N ∉ t.place.toList) (hi : hs[i]? = some h) (hj : t.place.toList[i]? = some j) : ∃ k, k < N ∧ way t.mask h k = j := by
  obtain ⟨k, e, hb⟩ := T.found i h j hi hj
  refine ⟨k, Nat.lt_of_not_le fun c => ?_, e⟩
  rcases Nat.eq_or_lt_of_le c with z | z
  · exact hN (by rw [z, e]; exact List.mem_of_getElem? hj)
  · exact hN (hb N z)
theorem Tb.grow {t : SetTable} {hs : List Int} (T : Tb t hs) {h : Int} {N j : Nat} (ej : way t.mask h N = j) (hN : j ∉ t.place.toList) (hb : ∀ k, k < N → way t.mask h k ∈ t.place.toList) :
    SetTable.below t.place j ≤ hs.length ∧ Tb (t.put j).1 (hs.take (SetTable.below t.place j) ++ h :: hs.drop (SetTable.below t.place j)) ∧ (t.put j).1.fill = hs.length + 1 := by
  have cut := (below_cut T.ris j).1
  have hlen := T.len
  have hb1 : SetTable.below t.place j ≤ t.place.toList.length := by rw [Array.length_toList]; exact cut
  have hb2 : SetTable.below t.place j ≤ hs.length := by omega
  have new : t.place[SetTable.below t.place j]? ≠ some j := fun e => hN (List.mem_of_getElem? (i := SetTable.below t.place j) (by rw [Array.getElem?_toList, e]))
  have pl := put_place t j
  have more : ∀ x, x ∈ t.place.toList → x ∈ (t.put j).1.place.toList := fun x hx => by rw [pl]; exact mem_ins.mpr (.inr hx)
  have ln : (t.put j).1.place.toList.length = hs.length + 1 := by rw [pl, len_ins _ hb1, hlen]
  refine ⟨hb2, ⟨ris_insert T.ris new, put_dm T.dm j, by rw [ln, len_ins _ hb2], T.okm, ?_⟩, ?_⟩
  · intro i h' j' e1 e2
    rw [tins_get hs hb2] at e1
    rw [pl, tins_get _ hb1] at e2
    have old : ∀ q, hs[q]? = some h' → t.place.toList[q]? = some j' → ∃ k, way (t.put j).1.mask h' k = j' ∧ ∀ k', k' < k → way (t.put j).1.mask h' k' ∈ (t.put j).1.place.toList := fun q a b =>
      let ⟨k, z1, z2⟩ := T.found q h' j' a b
      ⟨k, z1, fun k' hk' => more _ (z2 k' hk')⟩
    split at e1
    · rename_i c
      rw [if_pos c] at e2
      exact old i e1 e2
    · rename_i c
      rw [if_neg c] at e2
      split at e1
      · rename_i d
        rw [if_pos d] at e2
        cases e1
        cases e2
        exact ⟨N, ej, fun k' hk' => more _ (hb k' hk')⟩
      · rename_i d
        rw [if_neg d] at e2
        exact old (i - 1) e1 e2
  · unfold SetTable.fill
    rw [put_dm T.dm j, ← Array.length_toList, ln] <;> rfl

/-! ### a table laid anew -/
theorem open_slot {m : Nat} (hm : Mk m) (owner : Array (Option Nat)) (h : Int) {j : Nat} (hj : j ≤ m) (hf : oAt owner j = none) :
    ∃ N, SetTable.layClean.free m owner (SetTable.turns m) (SetTable.bits h % (m + 1)) (SetTable.bits h) = some (way m h N) ∧ oAt owner (way m h N) = none ∧ ∀ k, k < N → oAt owner (way m h k) ≠ none := by
  obtain ⟨n, hn, e⟩ := starts hm h hj
  have at_n : way m h (off m (SetTable.bits h % (m + 1)) (SetTable.bits h) n) = j := by
    unfold way
    rw [nth_off, itL_run]
    exact e
  obtain ⟨N, b1, b2, b3⟩ := st_least (p := fun k => oAt owner (way m h k) = none) _ (show oAt owner (way m h (off m (SetTable.bits h % (m + 1)) (SetTable.bits h) n)) = none by rw [at_n]; exact hf)
  refine ⟨N, free_spec m owner _ n _ _ N (by unfold SetTable.turns; omega) b1 (fun k hk => ?_) ?_, b2, b3⟩
  · have z := b3 k hk
    rw [← Option.isNone_iff_eq_none, Bool.not_eq_true] at z
    exact z
  · rw [Option.isNone_iff_eq_none]
    exact b2
theorem seat {m : Nat} (hm : Mk m) {done : List Int} {owner : Array (Option Nat)} (W : Own m done owner) (hl : done.length ≤ m) (h : Int) :
    ∃ j, SetTable.layClean.free m owner (SetTable.turns m) (SetTable.bits h % (m + 1)) (SetTable.bits h) = some j ∧ Own m (done ++ [h]) (owner.setIfInBounds j (some done.length)) := by
  obtain ⟨ps, lps, ips⟩ := W.ps
  obtain ⟨j0, hj0, nj0⟩ := st_missing ps (m + 1) (by omega)
  have f0 : oAt owner j0 = none := Classical.byContradiction fun z => nj0 (ips j0 (Nat.le_of_lt_succ hj0) z)
  obtain ⟨N, e1, e2, e3⟩ := open_slot hm owner h (Nat.le_of_lt_succ hj0) f0
  have inb := way_in m h N
  refine ⟨_, e1, ?_⟩
  generalize ej : way m h N = j at e1 e2 inb ⊢
  have here : oAt (owner.setIfInBounds j (some done.length)) j = some done.length := oAt_set_self _ (by rw [W.sz]; omega)
  have there : ∀ i, i ≠ j → oAt (owner.setIfInBounds j (some done.length)) i = oAt owner i := fun i hi => oAt_set_ne _ hi
  have stay : ∀ i, oAt owner i ≠ none → oAt (owner.setIfInBounds j (some done.length)) i ≠ none := fun i hi => by
    by_cases c : i = j
    · rw [c, here]; intro z; cases z
    · rw [there i c]; exact hi
  constructor
  · rw [Array.size_setIfInBounds]; exact W.sz
  · intro i k hi e
    by_cases c : i = j
    · subst c
      rw [here] at e
      cases e
      refine ⟨h, N, ?_, ej, fun k' hk' => stay _ (e3 k' hk')⟩
      simp
    · rw [there i c] at e
      obtain ⟨h', N', z1, z2, z3⟩ := W.at_ i k hi e
      exact ⟨h', N', by rw [List.getElem?_append_left (List.getElem?_eq_some_iff.mp z1).1]; exact z1, z2, fun k' hk' => stay _ (z3 k' hk')⟩
  · intro k hk
    rw [List.length_append, List.length_singleton] at hk
    rcases Nat.lt_or_eq_of_le (Nat.le_of_lt_succ hk) with c | c
    · obtain ⟨i, hi, e⟩ := W.all k c
      exact ⟨i, hi, by rw [there i (fun z => by rw [z, e2] at e; cases e)]; exact e⟩
    · exact ⟨j, inb, by rw [c]; exact here⟩
  · refine ⟨j :: ps, by simp [lps], fun i hi e => ?_⟩
    by_cases c : i = j
    · rw [c]; exact List.mem_cons_self
    · rw [there i c] at e
      exact List.mem_cons_of_mem _ (ips i hi e)
theorem seats {m : Nat} (hm : Mk m) : ∀ (rest done : List Int) (owner : Array (Option Nat)), Own m done owner → done.length + rest.length ≤ m →
    ∃ o', rest.foldl (stepF m) (some (owner, done.length)) = some (o', (done ++ rest).length) ∧ Own m (done ++ rest) o' := by
  intro rest
  induction rest with
  | nil =>
    intro done owner W _
    exact ⟨owner, by simp, by simpa using W⟩
  | cons h rest ih =>
    intro done owner W hl
    simp only [List.length_cons] at hl
    obtain ⟨j, e, W1⟩ := seat hm W (by omega) h
    obtain ⟨o', f, W2⟩ := ih (done ++ [h]) _ W1 (by simp only [List.length_append, List.length_singleton]; omega)
    refine ⟨o', ?_, by simpa using W2⟩
    rw [List.foldl_cons, stepF_some e]
    simpa using f
theorem laid_anew (t : SetTable) {hs : Array Int} {wanted M : Nat} (hw : SetTable.sizeAbove wanted - 1 = M) (hM : Mk M) (hn : hs.size ≤ M) :
    ∃ t' order, t.relaid hs wanted = some (t', order) ∧ order.toList.Perm (List.range hs.size) ∧ Tb t' (order.toList.map fun i => hs.getD i 0) ∧ t'.mask = M ∧ t'.led = t.led ∧ t'.plain = t.plain := by
  obtain ⟨ow, f, W⟩ := seats hM hs.toList [] _ (Own.init M) (by simpa using hn)
  have lc : SetTable.layClean M hs = some ow := by
    rw [layClean_eq]
    have f' : hs.toList.foldl (stepF M) (some (Array.replicate (M + 1) none, 0)) = _ := f
    rw [f'] <;> rfl
  rw [List.nil_append] at W
  have inl := @mem_live M ow W.sz
  have rr := ris_live (fun j => ow.getD j none) (List.range (M + 1)) (by unfold Ris; exact List.pairwise_lt_range)
  have r1 : Ris ((liveOf M ow).map (·.1)) := rr.1
  have d1 : ((liveOf M ow).map (·.1)).Nodup := List.Pairwise.imp (fun z => Nat.ne_of_lt z) r1
  have n1 : (liveOf M ow).length = hs.size := by
    obtain ⟨ps, p1, p2⟩ := W.ps
    have up := nat_nodup_len ((liveOf M ow).map (·.1)) ps d1 (by
      intro x hx
      obtain ⟨⟨y, k⟩, hq, rfl⟩ := List.mem_map.mp hx
      have z := inl.mp hq
      exact p2 _ z.1 (by rw [z.2]; intro c; cases c))
    have lo := nat_nodup_len (List.range hs.size) ((liveOf M ow).map (·.2)) List.nodup_range (by
      intro k hk
      obtain ⟨j, z1, z2⟩ := W.all k (by simpa using hk)
      exact List.mem_map.mpr ⟨(j, k), inl.mpr ⟨z1, z2⟩, rfl⟩)
    simp only [List.length_map, List.length_range, Array.length_toList] at up lo p1
    omega
  refine ⟨tabOf t M ow, ((liveOf M ow).map (·.2)).toArray, by rw [relaid_eq, hw, lc] <;> rfl, ?_, ⟨r1, rfl, ?_, hM, ?_⟩, rfl, rfl, rfl⟩
  · refine perm_range hs.size _ (by simpa using n1) fun k hk => ?_
    obtain ⟨j, z1, z2⟩ := W.all k (by simpa using hk)
    exact List.mem_map.mpr ⟨(j, k), inl.mpr ⟨z1, z2⟩, rfl⟩
  · show ((liveOf M ow).map (·.1)).length = _
    simp
  · intro i h j e1 e2
    have e1' : (((liveOf M ow).map (·.2)).map fun i => hs.getD i 0)[i]? = some h := e1
    have e2' : ((liveOf M ow).map (·.1))[i]? = some j := e2
    cases hq : (liveOf M ow)[i]? with
    | none => simp [hq] at e2'
    | some q =>
      obtain ⟨y, k⟩ := q
      simp only [List.getElem?_map, hq, Option.map_some, Option.some.injEq] at e1' e2'
      subst e2'
      have z := inl.mp (List.mem_of_getElem? hq)
      obtain ⟨h0, N, a1, a2, a3⟩ := W.at_ y k z.1 z.2
      have eh : hs.getD k 0 = h0 := by
        rw [Array.getElem?_toList] at a1
        simp [Array.getD_eq_getD_getElem?, a1]
      have eh' : h0 = h := eh.symm.trans e1'
      subst eh'
      refine ⟨N, a2, fun k' hk' => ?_⟩
      show way M h0 k' ∈ (liveOf M ow).map (·.1)
      obtain ⟨c, hc⟩ := Option.ne_none_iff_exists'.mp (a3 k' hk')
      exact List.mem_map.mpr ⟨(way M h0 k', c), inl.mpr ⟨way_in M h0 k', hc⟩, rfl⟩
end OP

namespace OP
open PySem PySem.Spec PyProof.Rows L2
section
variable {P : Program} {w : World} {A : Around} {E : Value → Shared → Prop} {s : Shared} {a : Addr} {L : List (Addr × List Int)} {es : Array (Int × Value)} {ep : Nat} {t : SetTable}
/-- a set of tuples of ints at a -/
structure Tp (P : Program) (w : World) (h : Heap) (a : Addr) (L : List (Addr × List Int)) (es : Array (Int × Value)) (ep : Nat) (t : SetTable) : Prop where
  tab : Tb t (L.map fun p => thash P w p.2)
  room : L.length * 5 < t.mask * 3
  few : L.length < 1000
  rows : es.toList = rowsOf P w L
  keys : (L.map (·.2)).Nodup
  tups : ∀ p ∈ L, IsT P w h p.2 p.1
  plain : t.plain = true
  led : w.params.followText "set-order" = true ∨ t.led = true
  obj : ∃ o, h.get? a = some o ∧ o.ExactSet ∧ o.data = .set es ep t
theorem rows_size (h : es.toList = rowsOf P w L) : es.size = L.length := by
  rw [← Array.length_toList, h]
  simp [rowsOf]
theorem rows_at (h : es.toList = rowsOf P w L) {i : Nat} {p : Addr × List Int} (hp : L[i]? = some p) : es[i]? = some (thash P w p.2, Value.ref p.1) := by
  rw [← Array.getElem?_toList, h]
  simp [rowsOf, hp]
theorem Tb.fits {hs : List Int} (T : Tb t hs) {n : Nat} (hn : n = hs.length) (hm : n ≤ t.mask) : t.fits n = true := by
  have q := T.len
  rw [Array.length_toList] at q
  unfold SetTable.fits SetTable.fill
  rw [T.dm]
  simp
  omega
theorem Mk.odd {m : Nat} (h : Mk m) : m % 2 = 1 := by
  unfold Mk at h
  omega
theorem Mk.small {m : Nat} (h : Mk m) : m ≤ 2047 := by
  unfold Mk at h
  omega
theorem Tp.fits (R : Tp P w s.heap a L es ep t) : t.fits es.size = true := by
  have := R.room
  exact R.tab.fits (by rw [rows_size R.rows, List.length_map]) (by rw [rows_size R.rows]; omega)
theorem nth_dummy (m : Nat) : ∀ (n : Nat) (p : SetTable.Probe), (nth m p n).dummy = p.dummy
  | 0, _ => rfl
  | n + 1, p => (nth_dummy m n (adv m p)).trans (by unfold adv; split <;> rfl)
/-- the search among tuples, from the c-th slot of its way on -/
theorem seek (R : Tp P w s.heap a L es ep t) {x : Addr} {k : List Int} (hx : IsT P w s.heap k x) (hu : A.units < cLine) {N : Nat} (hNf : N < 10 * SetTable.turns t.mask)
    (hN : way t.mask (thash P w k) N ∉ t.place.toList) (hNb : ∀ c, c < N → way t.mask (thash P w k) c ∈ t.place.toList) {Q : SetFound → Shared → Prop}
    (yes : k ∈ L.map (·.2) → Q (.there none) s) (no : k ∉ L.map (·.2) → Q (.free (way t.mask (thash P w k) N) false) s) :
    ∀ (d c f : Nat) (stand : Option SetTable.Probe), d = N - c → c ≤ N → d < f →
      stand.getD (t.probeStart (thash P w k)) = nth t.mask (runAt t.mask (SetTable.bits (thash P w k) % (t.mask + 1)) (SetTable.bits (thash P w k))) c →
      (∀ (i : Nat) p, L[i]? = some p → p.2 = k → ∃ c', c ≤ c' ∧ c' < N ∧ t.place.toList[i]? = some (way t.mask (thash P w k) c')) →
      wpAny (model P w) A (setSearchFrom a (.ref x) (thash P w k) true f stand) Q E s := by
  have start0 : ∀ c q, nth t.mask (nth t.mask (runAt t.mask (SetTable.bits (thash P w k) % (t.mask + 1)) (SetTable.bits (thash P w k))) c) q
      = nth t.mask (runAt t.mask (SetTable.bits (thash P w k) % (t.mask + 1)) (SetTable.bits (thash P w k))) (c + q) := fun c q => (nth_add t.mask c _ q).symm
  obtain ⟨o, ho, hex, hd⟩ := R.obj
  have gw : ¬ t.gaveWay = true := by
    unfold SetTable.gaveWay
    rw [R.tab.okm.odd]
    decide
  intro d
  induction d using Nat.strongRecOn with
  | ind d ih =>
    intro c f stand hdc hcN hdf hst hre
    match f, hdf with
    | f + 1, hdf =>
      rw [setSearchFrom_succ]
      refine wpAny_bind (wpAny_setState_of ho hd R.fits ?_)
      dsimp only
      refine wp_if_neg gw ?_
      try refine wpAny_bind (wpAny_pure ?_)
      have hashes : ∀ (i : Nat) p, L[i]? = some p → (fun i => (es[i]?.map (·.1)).getD 0) i = thash P w p.2 := fun i p hp => by
        dsimp only
        rw [rows_at R.rows hp] <;> rfl
      have G := go_spec t R.tab.ris R.tab.dm (fun i => (es[i]?.map (·.1)).getD 0) (thash P w k) (10 * SetTable.turns t.mask) (N - c)
        (nth t.mask (runAt t.mask (SetTable.bits (thash P w k) % (t.mask + 1)) (SetTable.bits (thash P w k))) c) (nth_dummy _ c _) (by omega)
        (fun q hq => by rw [start0]; exact hNb (c + q) (by omega)) (by rw [start0, show c + (N - c) = N by omega]; exact hN)
      rw [← hst] at G
      rcases G with ⟨q, i, hq, hi, hh, none_before, eq⟩ | ⟨none_at_all, eq⟩
      · -- a slot with the same hash
        rw [hst, start0, start0] at eq
        rw [hst, start0] at hi
        have eq' : t.probe (fun i => (es[i]?.map (·.1)).getD 0) (thash P w k) (stand.getD (t.probeStart (thash P w k))) = some (.candidate (way t.mask (thash P w k) (c + q)) i (nth t.mask (runAt t.mask (SetTable.bits (thash P w k) % (t.mask + 1)) (SetTable.bits (thash P w k))) (c + (q + 1)))) := by
          rw [hst]
          exact eq
        rw [eq']
        dsimp only
        have il : i < L.length := by
          have z1 := (List.getElem?_eq_some_iff.mp hi).1
          have z2 := R.tab.len
          rw [List.length_map] at z2
          omega
        obtain ⟨p, hp⟩ : ∃ p, L[i]? = some p := ⟨L[i], List.getElem?_eq_getElem il⟩
        have pin := List.mem_of_getElem? hp
        have sl : t.slot (way t.mask (thash P w k) (c + q)) = .live i := slot_live R.tab.ris hi
        have body : wpAny (model P w) A (searchRest a (.ref x) (thash P w k) true f es t (way t.mask (thash P w k) (c + q)) i (nth t.mask (runAt t.mask (SetTable.bits (thash P w k) % (t.mask + 1)) (SetTable.bits (thash P w k))) (c + (q + 1)))) Q E s := by
          unfold searchRest
          rw [rows_at R.rows hp]
          dsimp only
          refine wpAny_bind (wpAny_holding (wpAny_eqBool_tuple hu (R.tups p pin) hx ?_))
          refine wpAny_bind (wpAny_setState_of ho hd R.fits ?_)
          dsimp only
          by_cases same : p.2 = k
          · refine wp_if_pos (by simp [same]) (wpAny_pure (yes ?_))
            exact List.mem_map.mpr ⟨p, pin, same⟩
          · refine wp_if_neg (by simp [same]) ?_
            try refine wpAny_bind (wpAny_pure ?_)
            rw [sameMem]
            dsimp only
            simp only [if_true, sl, rows_at R.rows hp]
            refine wpAny_bind (wpAny_isSame_ref_self (wpAny_bind (wpAny_pure ?_)))
            simp only [if_true]
            refine wp_if_neg (by simp [same]) ?_
            refine ih (N - (c + (q + 1))) (by omega) (c + (q + 1)) f _ rfl (by omega) (by omega) rfl ?_
            intro i0 p0 h0 k0
            obtain ⟨c', a1, a2, a3⟩ := hre i0 p0 h0 k0
            refine ⟨c', Nat.lt_of_not_le fun z => ?_, a2, a3⟩
            rcases Nat.eq_or_lt_of_le z with z | z
            · have z : c' = c + q := z
              rw [z] at a3
              have two := slot_live R.tab.ris a3
              rw [sl] at two
              injection two with two
              rw [← two, hp] at h0
              cases h0
              exact same k0
            · have z : c' < c + q := z
              refine none_before (c' - c) i0 (by omega) ?_ ((hashes i0 p0 h0).trans (by rw [k0]))
              rw [hst, start0, show c + (c' - c) = c' by omega]
              exact a3
        by_cases hl : t.led = true
        · refine wp_if_neg (by simp [hl]) ?_
          try refine wpAny_bind (wpAny_pure ?_)
          exact body
        · refine wp_if_pos (by simp [hl]) (wpAny_bind (seen_tup hx (fun y hy => ?_) ?_))
          · obtain ⟨e, he, rfl⟩ := List.mem_map.mp hy
            have he' : e ∈ es.toList := by
              have : e ∈ es ∧ e.1 = thash P w k := by simpa using he
              simpa using this.1
            rw [R.rows] at he'
            obtain ⟨p2, hp2, rfl⟩ := List.mem_map.mp he'
            exact ⟨p2.2, p2.1, rfl, R.tups p2 hp2⟩
          · refine wp_if_neg (by decide) ?_
            try refine wpAny_bind (wpAny_pure ?_)
            exact body
      · rw [hst, start0, show c + (N - c) = N by omega] at eq
        have eq' : t.probe (fun i => (es[i]?.map (·.1)).getD 0) (thash P w k) (stand.getD (t.probeStart (thash P w k))) = some (.empty (way t.mask (thash P w k) N) none) := by
          rw [hst]
          exact eq
        rw [eq']
        dsimp only
        refine wpAny_pure (no fun z => ?_)
        obtain ⟨p0, h0, k0⟩ := List.mem_map.mp z
        obtain ⟨i0, h0'⟩ := List.getElem?_of_mem h0
        obtain ⟨c', a1, a2, a3⟩ := hre i0 p0 h0' k0
        refine none_at_all (c' - c) i0 (by omega) ?_ ((hashes i0 p0 h0').trans (by rw [k0]))
        rw [hst, start0, show c + (c' - c) = c' by omega]
        exact a3
theorem seek_all (R : Tp P w s.heap a L es ep t) {x : Addr} {k : List Int} (hx : IsT P w s.heap k x) (hu : A.units < cLine) {Q : SetFound → Shared → Prop}
    (yes : k ∈ L.map (·.2) → Q (.there none) s)
    (no : ∀ N, k ∉ L.map (·.2) → way t.mask (thash P w k) N ∉ t.place.toList → (∀ c, c < N → way t.mask (thash P w k) c ∈ t.place.toList) → Q (.free (way t.mask (thash P w k) N) false) s) :
    wpAny (model P w) A (setSearch a (.ref x) (thash P w k) true) Q E s := by
  have rm := R.room
  have sm := R.tab.okm.small
  obtain ⟨N, n1, n2, n3⟩ := R.tab.gap (by rw [List.length_map]; omega) (thash P w k)
  have n4 : N < 100000 := by
    unfold SetTable.turns at n1
    omega
  unfold setSearch
  refine seek R hx hu n1 n2 n3 yes (fun z => no N z n2 n3) N 0 100000 none (by omega) (Nat.zero_le _) n4 rfl fun i p hp hk => ?_
  have len := R.tab.len
  rw [List.length_map] at len
  have il : i < t.place.toList.length := by
    have := (List.getElem?_eq_some_iff.mp hp).1
    omega
  obtain ⟨c, c1, c2⟩ := R.tab.ahead (i := i) (j := t.place.toList[i]) n2 (by rw [List.getElem?_map, hp, ← hk] <;> rfl) (List.getElem?_eq_getElem il)
  exact ⟨c, Nat.zero_le _, c1, by rw [c2]; exact List.getElem?_eq_getElem il⟩
/-- the table is laid anew -/
theorem wider {o : Obj} (ho : s.heap.get? a = some o) (hex : o.ExactSet) (hd : o.data = .set es ep t) (rows : es.toList = rowsOf P w L) (T : Tb t (L.map fun p => thash P w p.2)) (hfl : es.size ≤ t.mask)
    (keys : (L.map (·.2)).Nodup) (tups : ∀ p ∈ L, IsT P w s.heap p.2 p.1) (pl : t.plain = true) (ld : w.params.followText "set-order" = true ∨ t.led = true) (few : L.length < 1000) {wanted M : Nat}
    (hw : SetTable.sizeAbove wanted - 1 = M) (hM : Mk M) (hn : L.length * 5 < M * 3) {Q : Unit → Shared → Prop}
    (hQ : ∀ h' L' es' ep' t', Heap.SameBut a s.heap h' → Tp P w h' a L' es' ep' t' → L'.Perm L → Q () { s with heap := h' }) : wpAny (model P w) A (setRelay a wanted) Q E s := by
  have sz := rows_size rows
  have sm := hM.small
  obtain ⟨t', order, e, pm, T', em, el, epl⟩ := laid_anew t (hs := es.map (·.1)) (wanted := wanted) hw hM (by rw [Array.size_map]; omega)
  rw [Array.size_map, sz] at pm
  obtain ⟨L2, r1, r2, r3⟩ := order_rows L es order rows pm
  rw [← r3] at T'
  have sz2 : (order.filterMap (es[·]?)).size = es.size := by rw [rows_size r1, r2.length_eq, sz]
  rw [setRelay_eq]
  refine wpAny_bind (wpAny_setState_of ho hd (T.fits (by rw [sz, List.length_map]) hfl) ?_)
  dsimp only
  refine wp_if_neg (by rw [sizeLine_eq]; omega) ?_
  try refine wpAny_bind (wpAny_pure ?_)
  rw [e]
  dsimp only
  refine wpAny_bind (wp_if_neg (by simp [sz2]) ?_)
  try refine wpAny_bind (wpAny_pure ?_)
  refine wpAny_pure ?_
  dsimp only
  refine wpAny_storeSet_of ho hd ?_ (by rw [sz2, sz, sizeLine_eq]; omega)
  have sb : Heap.SameBut a s.heap (s.heap.update a (Obj.putSet (order.filterMap (es[·]?)) t')) := Heap.SameBut.update ..
  refine hQ _ L2 _ (ep + 1) t' sb ⟨T', by rw [r2.length_eq, em]; exact hn, by rw [r2.length_eq]; exact few, r1, (r2.map (·.2)).nodup_iff.mpr keys, fun p hp => isT_same (tups p (r2.mem_iff.mp hp)) ho hd sb, by rw [epl]; exact pl, by rw [el]; exact ld,
    ⟨_, store_at ho hd, ⟨hex.1, hex.2.1, hex.2.2⟩, rfl⟩⟩ r2
theorem sizes_up (n m : Nat) (hM : Mk m) (h1 : n * 5 < m * 3) (h2 : ¬ (n + 1) * 5 < m * 3) (h3 : n < 1000) : ∃ M, SetTable.sizeAbove (SetTable.grown (n + 1)) - 1 = M ∧ Mk M ∧ (n + 1) * 5 < M * 3 ∧ n + 1 ≤ m := by
  rcases hM with e | e | e | e | e <;> subst e
  · have : n = 4 := by omega
    subst this
    exact ⟨31, by decide +kernel, .inr (.inl rfl), by omega, by omega⟩
  · have : n = 18 := by omega
    subst this
    exact ⟨127, by decide +kernel, .inr (.inr (.inl rfl)), by omega, by omega⟩
  · have : n = 76 := by omega
    subst this
    exact ⟨511, by decide +kernel, .inr (.inr (.inr (.inl rfl))), by omega, by omega⟩
  · have : n = 306 := by omega
    subst this
    exact ⟨2047, by decide +kernel, .inr (.inr (.inr (.inr rfl))), by omega, by omega⟩
  · omega
/-- one is added -/
theorem put_in (R : Tp P w s.heap a L es ep t) {x : Addr} {k : List Int} (hx : IsT P w s.heap k x) (hu : A.units < cLine) (few : L.length + 1 < 1000) {Q : Bool → Shared → Prop}
    (hQ : ∀ b h' L' es' ep' t', Heap.SameBut a s.heap h' → Tp P w h' a L' es' ep' t' → (k ∈ L.map (·.2) → L' = L) → (k ∉ L.map (·.2) → L'.Perm ((x, k) :: L)) → Q b { s with heap := h' }) :
    wpAny (model P w) A (setAddHashed a (.ref x) (thash P w k)) Q E s := by
  obtain ⟨o, ho, hex, hd⟩ := R.obj
  have sz := rows_size R.rows
  have rm := R.room
  unfold setAddHashed
  refine wpAny_holding ?_
  rw [show (100000 : Nat) = 99999 + 1 from rfl, setAddHashedIn_succ]
  refine wpAny_bind (wpAny_setState_of ho hd R.fits ?_)
  dsimp only
  refine wp_if_neg (by simp [byScan, Value.scannable]) ?_
  try refine wpAny_bind (wpAny_pure ?_)
  refine wpAny_bind (seek_all R hx hu (fun z => ?_) fun N hnew hN hNb => ?_)
  · dsimp only
    exact wpAny_pure (hQ false s.heap L es ep t (Heap.SameBut.refl a s.heap) R (fun _ => rfl) fun y => absurd z y)
  · dsimp only
    refine wpAny_bind (wpAny_setState_of ho hd R.fits ?_)
    dsimp only
    obtain ⟨j, ej⟩ : ∃ j, way t.mask (thash P w k) N = j := ⟨_, rfl⟩
    rw [ej] at hN ⊢
    obtain ⟨g1, g2, g3⟩ := R.tab.grow ej hN hNb
    have m1 : (t.put j).1.mask = t.mask := rfl
    have m2 : (t.put j).1.plain = true := R.plain
    have m3 : w.params.followText "set-order" = true ∨ (t.put j).1.led = true := R.led
    have m4 : (t.put j).2 = SetTable.below t.place j := rfl
    rw [← m4] at g1 g2
    generalize t.put j = tp at g1 g2 g3 m1 m2 m3 ⊢
    obtain ⟨t1, p⟩ := tp
    dsimp only at g1 g2 g3 m1 m2 m3 ⊢
    first
      | (refine wpAny_bind ?_; refine wp_if_pos m2 ?_; refine hashBy_tup hx ?_)
      | refine wp_if_pos m2 (wpAny_bind (hashBy_tup hx ?_))
    simp only [if_true]
    have rows1 : (SetTable.insertAt es p (thash P w k, Value.ref x)).toList = rowsOf P w (L.take p ++ (x, k) :: L.drop p) := by rw [SetTable.toList_insertAt, rows_put, R.rows]
    have pm := put_perm L p (x, k)
    have len1 : (L.take p ++ (x, k) :: L.drop p).length = L.length + 1 := pm.length_eq
    have hm : (L.map fun p => thash P w p.2).take p ++ thash P w k :: (L.map fun p => thash P w p.2).drop p = (L.take p ++ (x, k) :: L.drop p).map fun p => thash P w p.2 := by
      rw [List.map_append, List.map_cons, List.map_take, List.map_drop]
    rw [hm] at g2
    have keys1 : ((L.take p ++ (x, k) :: L.drop p).map (·.2)).Nodup := by
      refine (pm.map (·.2)).nodup_iff.mpr ?_
      rw [List.map_cons, List.nodup_cons]
      exact ⟨hnew, R.keys⟩
    generalize SetTable.insertAt es p (thash P w k, Value.ref x) = es1 at rows1 ⊢
    generalize L.take p ++ (x, k) :: L.drop p = L1 at pm len1 g2 keys1 rows1
    have sz1 := rows_size rows1
    refine wpAny_bind (wpAny_storeSet_of ho hd ?_ (by rw [sz1, sizeLine_eq]; omega))
    have sb : Heap.SameBut a s.heap (s.heap.update a (Obj.putSet es1 t1)) := Heap.SameBut.update ..
    have ho1 := store_at (es' := es1) (t' := t1) ho hd
    generalize s.heap.update a (Obj.putSet es1 t1) = h1 at sb ho1 ⊢
    have tups1 : ∀ p ∈ L1, IsT P w h1 p.2 p.1 := fun q hq => by
      rcases List.mem_cons.mp (pm.mem_iff.mp hq) with z | z
      · subst z; exact isT_same hx ho hd sb
      · exact isT_same (R.tups q z) ho hd sb
    rw [List.length_map] at g3
    have full : t1.tooFull = decide (¬ (L.length + 1) * 5 < t.mask * 3) := by
      unfold SetTable.tooFull
      rw [g3, m1]
      congr 1
      exact propext Nat.not_lt.symm
    rw [full]
    by_cases hf : (L.length + 1) * 5 < t.mask * 3
    · first
        | refine wp_if_neg (by simp [hf]) ?_
        | (refine wpAny_bind ?_; refine wp_if_neg (by simp [hf]) ?_; refine wpAny_pure ?_)
      exact wpAny_pure (hQ true h1 L1 es1 (ep + 1) t1 sb ⟨g2, by rw [len1, m1]; exact hf, by rw [len1]; exact few, rows1, keys1, tups1, m2, m3, ⟨_, ho1, ⟨hex.1, hex.2.1, hex.2.2⟩, rfl⟩⟩ (fun z => absurd z hnew) fun _ => pm)
    · obtain ⟨M, w1, w2, w3, w4⟩ := sizes_up L.length t.mask R.tab.okm rm hf R.few
      first
        | (refine wpAny_bind ?_; refine wp_if_pos (by simp [hf]) ?_)
        | (refine wp_if_pos (by simp [hf]) ?_; refine wpAny_bind ?_)
      rw [sz]
      refine wider (s := { s with heap := h1 }) ho1 ⟨hex.1, hex.2.1, hex.2.2⟩ rfl rows1 g2 (by rw [sz1, len1, m1]; exact w4) keys1 tups1 m2 m3 (by rw [len1]; exact few) w1 w2 (by rw [len1]; exact w3) ?_
      intro h2 L2 es2 ep2 t2 sb2 R2 pm2
      exact wpAny_pure (hQ true h2 L2 es2 ep2 t2 (sb.trans sb2) R2 (fun z => absurd z hnew) fun _ => pm2.trans pm)
theorem Tp.moved {h h' : Heap} (R : Tp P w h a L es ep t) (ha : ∀ o, h.get? a = some o → h'.get? a = some o) (ht : ∀ p ∈ L, IsT P w h' p.2 p.1) : Tp P w h' a L es ep t := by
  obtain ⟨o, ho, r⟩ := R.obj
  exact ⟨R.tab, R.room, R.few, R.rows, R.keys, ht, R.plain, R.led, ⟨o, ha o ho, r⟩⟩
theorem Tp.empty {h : Heap} (ho : h.get? a = some { cls := .type "set", dict := none, data := .set #[] 0 (.fresh 0 0 (!w.params.followText "set-order")) }) : Tp P w h a [] #[] 0 (.fresh 0 0 (!w.params.followText "set-order")) := by
  refine ⟨⟨List.Pairwise.nil, rfl, rfl, .inl rfl, fun i h j z => by simp at z⟩, by show 0 * 5 < 7 * 3; decide, by show 0 < 1000; decide, rfl, List.nodup_nil, (fun p z => nomatch z), rfl, ?_, ⟨_, ho, ⟨rfl, rfl, rfl⟩, rfl⟩⟩
  show _ ∨ (!w.params.followText "set-order") = true
  cases w.params.followText "set-order"
  · exact .inr rfl
  · exact .inl rfl
end
end OP

namespace OP
open PySem PySem.Spec PyProof.Rows L2
section
variable {P : Program} {w : World} {A : Around} {E : Value → Shared → Prop} {s : Shared}
/-- the loop behind set(xs): from the i-th item on -/
theorem fill_set {I : Addr} {fp wr : List Addr} {G : Array GenState → Array GenState → Prop} {n : Nat} {Pv : Nat → Value → Prop} {St : Nat → Shared → Prop} {R : Result → Shared → Prop}
    (W : WalksS P w A.in1 I fp wr G n Pv St) (S : Addr) (Sfp : S ∉ fp) (ks : List (Addr × List Int)) (en : n = ks.length) (few : ks.length < 1000) (items : ∀ i v, Pv i v → ∃ p, ks[i]? = some p ∧ v = .ref p.1)
    (g : Heap) (gk : ∀ p ∈ ks, IsT P w g p.2 p.1) (gS : g.get? S = none) (gw : ∀ b ∈ wr, g.get? b = none) (hu : A.in1.units < cLine)
    (hR : ∀ s0 s' L es ep t, Moved (S :: wr) G s0 s' → Tp P w s'.heap S L es ep t → Got ks n L → (∀ b o, g.get? b = some o → s'.heap.get? b = some o) → s0 = s → R (.ok (.ret .none)) s')
    : ∀ (d i : Nat) (s1 : Shared), d = n - i → i ≤ n → St i s1 → (∀ b o, g.get? b = some o → s1.heap.get? b = some o) → (∀ s2, Moved (S :: wr) G s1 s2 → Moved (S :: wr) G s s2) → (∃ L es ep t, Tp P w s1.heap S L es ep t ∧ Got ks i L) →
      codeAny (model P w) A (.builtin "set.update.loop" ⟨[.ref S, .ref I], []⟩) R s1 := by
  have Swr : S ∉ wr := fun z => Sfp (W.sub _ z)
  have old : ∀ {s1 s2 : Shared}, Moved wr G s1 s2 → (∀ b o, g.get? b = some o → s1.heap.get? b = some o) → ∀ b o, g.get? b = some o → s2.heap.get? b = some o := fun m k b o e =>
    m.heap b o (fun z => by rw [gw b z] at e; cases e) (k b o e)
  intro d
  induction d with
  | zero =>
    intro i s1 hd hi st kp back ⟨L, es, ep, t, T, q⟩
    obtain rfl : i = n := by omega
    refine codeAny_builtin F.entry_set_update_loop ?_
    rw [Around.under_plainId F.plain_set_update_loop _]
    show wpAny _ A.in1 (pyNext (.ref I) >>= _) _ _ s1
    refine wpAny_bind (W.done s1 _ _ st fun s2 m => ?_)
    show wpAny _ A.in1 (ret Value.none) _ _ s2
    have kp2 := old m kp
    have T2 : Tp P w s2.heap S L es ep t := T.moved (fun o e => m.heap S o Swr e) fun p hp => isT_keep (gk p (List.mem_of_mem_take (q.sub p hp))) kp2
    exact wpAny_pure (hR s s2 L es ep t (back s2 (m.mono fun b hb => List.mem_cons_of_mem _ hb)) T2 q kp2 rfl)
  | succ d ih =>
    intro i s1 hd hi st kp back ⟨L, es, ep, t, T, q⟩
    refine codeAny_builtin F.entry_set_update_loop ?_
    rw [Around.under_plainId F.plain_set_update_loop _]
    show wpAny _ A.in1 (pyNext (.ref I) >>= _) _ _ s1
    refine wpAny_bind (W.item i s1 _ _ (by omega) st fun v s2 pv st2 m => ?_)
    obtain ⟨p, hp, rfl⟩ := items i v pv
    have kp2 := old m kp
    have T2 : Tp P w s2.heap S L es ep t := T.moved (fun o e => m.heap S o Swr e) fun x hx => isT_keep (gk x (List.mem_of_mem_take (q.sub x hx))) kp2
    have hx : IsT P w s2.heap p.2 p.1 := isT_keep (gk p (List.mem_of_getElem? hp)) kp2
    show wpAny _ A.in1 (holding [Value.ref p.1] (setAdd S (.ref p.1)) >>= _) _ _ s2
    refine wpAny_bind (wpAny_holding ?_)
    unfold setAdd
    refine wpAny_holding (wpAny_bind (wpAny_pyHash_tuple hu hx ?_))
    refine put_in (s := { s2 with toks := s2.toks + (p.2.length + 1) }) T2 hx hu (by have := q.len; omega) fun b h3 L3 es3 ep3 t3 sb T3 c1 c2 => ?_
    have q3 : Got ks (i + 1) L3 := by
      by_cases c : p.2 ∈ L.map (·.2)
      · rw [c1 c]; exact q.same hp c
      · exact q.more hp (c2 c)
    have kp3 : ∀ b o, g.get? b = some o → h3.get? b = some o := fun b o e => (sb.2 b (fun z => by rw [z, gS] at e; cases e)).trans (kp2 b o e)
    have mv : Moved (S :: wr) G s1 { s2 with heap := h3, toks := s2.toks + (p.2.length + 1) } := (m.mono fun b hb => List.mem_cons_of_mem _ hb).then_heap (Nat.le_add_right _ _) fun b o nb e => by
      rw [sb.2 b (fun z => nb (by rw [z]; exact List.mem_cons_self))]
      exact e
    refine wpAny_pure ⟨plainId_quiet F.plain_set_update_loop _, ih (i + 1) _ (by omega) (by omega) (W.frame _ s2 _ _ st2 (Nat.le_add_right _ _) fun b hb o e => ?_) kp3 (fun s4 m4 => back s4 (Moved.trans W.gtrans mv m4)) ⟨L3, es3, ep3, t3, T3, q3⟩⟩
    rw [sb.2 b (fun z => Sfp (by rw [← z]; exact hb))]
    exact e
end
end OP

namespace OP
open PySem PySem.Spec PyProof.Rows L2
section
variable {P : Program} {w : World} {A : Around} {E : Value → Shared → Prop} {s : Shared}
abbrev bareSet (w : World) : Obj := { cls := .type "set", dict := none, data := .set #[] 0 (.fresh 0 0 (!w.params.followText "set-order")) }
/-- set(xs), xs a list of tuples of ints -/
theorem make_set {l : Addr} {items : Array Value} (ks : List (Addr × List Int)) {Q : Value → Shared → Prop} (hh : A.handled = none) (hl : s.heap.IsList l items) (hit : items.toList = ks.map fun p => Value.ref p.1)
    (hk : ∀ p ∈ ks, IsT P w s.heap p.2 p.1) (few : ks.length < 1000) (hu : A.units + 3 < cLine)
    (h : ∀ (h' : Heap) (tk : Nat) L es ep t, Tp P w h' s.heap.objs.size L es ep t → Got ks ks.length L → (∀ b o, s.heap.get? b = some o → h'.get? b = some o) → Q (.ref s.heap.objs.size) { s with heap := h', toks := tk }) :
    wpAny (model P w) A (call (.type "set") [.ref l]) Q E s := by
  have isz : items.size = ks.length := by rw [← Array.length_toList, hit, List.length_map]
  have S0 := F.called_set
  obtain ⟨c, tl, hmro⟩ := S0.mro
  have hmade := S0.made
  have hsub := S0.sub
  refine wpAny_call (codeAny_of_tree ?_)
  show wpAny _ _ (callAny (.type "set") _) _ _ _
  refine wpAny_pure ⟨Code.quiet_builtin _ (by decide +kernel), codeAny_builtin F.entry_type_call ?_⟩
  rw [Around.under_plain (weight_type_call_type "set" [.ref l] []) rfl]
  have h1 := S0.notType
  have h2 := S0.canCreate
  have h3 := F.typeCall_set_1 (.ref l)
  repeat (any_goals (first | assumption | wp_step))
  refine codeAny_mono (code_set_led1 (.ref l) (E := E) (Q₁ := fun v s1 => v = .ref s.heap.objs.size ∧ s1 = { s with heap := s.heap.push (bareSet w) }) ⟨rfl, rfl⟩) fun r s1 hr => ?_
  match r, hr with
  | .error e, hr => exact hr
  | .ok (.ret v), hr =>
    obtain ⟨rfl, rfl⟩ := hr
    have at_ : (s.heap.push (bareSet w)).get? s.heap.objs.size = some (bareSet w) := Heap.get?_push_size _ rfl
    have ty : Shared.TypeIs { s with heap := s.heap.push (bareSet w) } (.ref s.heap.objs.size) "set" := ⟨_, at_, rfl⟩
    have i1 := S0.init.lookup
    have i2 := S0.init.bind (.ref s.heap.objs.size)
    repeat (any_goals (first | assumption | wp_step))
    refine codeAny_mono (codeAny_call_builtin (R := wants (fun v s2 => v = .none ∧ ∃ h' tk L es ep t, s2 = { s with heap := h', toks := tk } ∧ Tp P w h' s.heap.objs.size L es ep t ∧ Got ks ks.length L ∧
        (∀ b o, s.heap.get? b = some o → h'.get? b = some o)) E) S0.init.plain F.entry_set_init (check_set_init_1 ty ?_)) fun r2 s2 hr2 => ?_
    · obtain ⟨⟨oc, od, odt, osl⟩, hol, hcl, nl, hdl⟩ := hl
      dsimp only at hcl hdl
      subst hcl hdl
      have ll : (s.heap.push (bareSet w)).IsList l items := ⟨_, Heap.get?_push_of_some _ hol, rfl, nl, rfl⟩
      have s1 := F.sub_list_set
      have s2 := F.sub_list_frozenset
      have hol' := Heap.get?_push_of_some (bareSet w) hol
      have nd : (Value.type "list" == Value.type "dict") = false := by decide
      unfold Builtin.«set.__init__» noKeywords Builtin.Frozenset.updateFrom
      generalize hPI : pyIter = PI
      wp_walk
      subst hPI
      refine wpAny_pyIter_list ll (wpAny_bind (wpAny_runValue ?_))
      have lS : l < s.heap.objs.size := Heap.lt_size hol
      have sz : (s.heap.push (bareSet w)).objs.size = s.heap.objs.size + 1 := Heap.size_push ..
      have lI : l ≠ (s.heap.push (bareSet w)).objs.size := by rw [sz]; exact Nat.ne_of_lt (Nat.lt_succ_of_lt lS)
      have out : ∀ b, s.heap.objs.size ≤ b → s.heap.get? b = none := fun b hb => by
        cases q : s.heap.get? b with
        | none => rfl
        | some o => exact absurd (Heap.lt_size q) (Nat.not_lt.mpr hb)
      refine fill_set ((Walks.list (by simp [hh]) _ l lI items).toS) s.heap.objs.size (by
          rw [sz]
          simp only [List.mem_cons, List.mem_singleton, List.not_mem_nil, or_false, not_or]
          exact ⟨Nat.ne_of_lt (Nat.lt_succ_self _), Nat.ne_of_gt lS⟩) ks isz few (fun i v hv => ?items) s.heap hk (out _ (Nat.le_refl _)) (fun b hb => out b (by rw [List.mem_singleton.mp hb, sz]; exact Nat.le_succ _)) hu ?hR _ 0 _ rfl (Nat.zero_le _)
        ⟨⟨_, Heap.get?_push_size _ rfl, rfl, rfl⟩, ll.push _⟩ (fun b o e => Heap.get?_push_of_some _ (Heap.get?_push_of_some _ e)) (fun _ m => m) ⟨[], #[], 0, _, Tp.empty (Heap.get?_push_of_some _ at_), Got.zero ks⟩
      case items =>
        have hv' : items[i]? = some v := hv
        rw [← Array.getElem?_toList, hit, List.getElem?_map] at hv'
        cases q : ks[i]? with
        | none => rw [q] at hv'; cases hv'
        | some p => rw [q] at hv'; exact ⟨p, rfl, (Option.some.inj hv').symm⟩
      case hR =>
        intro s0 s' L es ep t m T q kp e0
        subst e0
        obtain ⟨h', g', d', tk', os'⟩ := s'
        obtain rfl : g' = s.gens := m.gens
        obtain rfl : d' = s.drawn := m.drawn
        obtain rfl : os' = s.os := m.os
        show wpAny _ _ _ _ _ _
        refine wpAny_pure ?_
        show wpAny _ _ (ret Value.none) _ _ _
        rw [isz] at q
        exact wpAny_pure ⟨rfl, h', tk', L, es, ep, t, rfl, T, q, kp⟩
    · match r2, hr2 with
      | .error e, hr2 => exact hr2
      | .ok (.ret v), hr2 =>
        obtain ⟨rfl, h', tk, L, es, ep, t, rfl, T, q, kp⟩ := hr2
        repeat (any_goals (first | assumption | wp_step))
        exact h _ _ _ _ _ _ T q kp
      | .ok .next, hr2 => exact hr2.elim
      | .ok .brk, hr2 => exact hr2.elim
      | .ok .cont, hr2 => exact hr2.elim
  | .ok .next, hr => exact hr.elim
  | .ok .brk, hr => exact hr.elim
  | .ok .cont, hr => exact hr.elim
end
theorem sub_len : ∀ (c d : List (List Int)), c.Nodup → (∀ y ∈ c, y ∈ d) → c.length ≤ d.length := fun c => by
  induction c with
  | nil => intro d _ _; exact Nat.zero_le _
  | cons y c ihc =>
    intro d hc hs'
    obtain ⟨u1, u2⟩ := List.nodup_cons.mp hc
    have yd := hs' y List.mem_cons_self
    have := ihc (d.erase y) u2 fun q hq => (List.mem_erase_of_ne (fun z => u1 (by rw [← z]; exact hq))).mpr (hs' q (List.mem_cons_of_mem _ hq))
    rw [List.length_erase_of_mem yd] at this
    have pos : 0 < d.length := List.length_pos_of_mem yd
    simp only [List.length_cons]
    omega
/-- what two readings of one list of keys have in common -/
theorem Got.count {ks L : List (Addr × List Int)} (g : Got ks ks.length L) (nd : (L.map (·.2)).Nodup) : (L.length = ks.length ↔ (ks.map (·.2)).Nodup) ∧ L.length ≤ ks.length := by
  have sub : ∀ x ∈ ks.map (·.2), x ∈ L.map (·.2) := fun x hx => by
    obtain ⟨p, hp, rfl⟩ := List.mem_map.mp hx
    exact g.all p (by rw [List.take_length]; exact hp)
  have sup : ∀ x ∈ L.map (·.2), x ∈ ks.map (·.2) := fun x hx => by
    obtain ⟨p, hp, rfl⟩ := List.mem_map.mp hx
    exact List.mem_map.mpr ⟨p, by have := g.sub p hp; rwa [List.take_length] at this, rfl⟩
  refine ⟨⟨fun e => ?_, fun d => ?_⟩, g.len⟩
  · have le : ∀ (a b : List (List Int)), a.Nodup → (∀ x ∈ a, x ∈ b) → b.length ≤ a.length → b.Nodup := by
      intro a
      induction a with
      | nil =>
        intro b _ _ h
        rw [List.eq_nil_of_length_eq_zero (Nat.le_zero.mp h)]
        exact List.nodup_nil
      | cons x a ih =>
        intro b hd hs hl
        obtain ⟨h1, h2⟩ := List.nodup_cons.mp hd
        have xb := hs x List.mem_cons_self
        have pm := List.perm_cons_erase xb
        have lb := List.length_erase_of_mem xb
        have : (b.erase x).Nodup := ih (b.erase x) h2 (fun y hy => (List.mem_erase_of_ne (fun z => h1 (by rw [← z]; exact hy))).mpr (hs y (List.mem_cons_of_mem _ hy))) (by rw [lb]; simp only [List.length_cons] at hl; omega)
        refine pm.nodup_iff.mpr (List.nodup_cons.mpr ⟨fun z => ?_, this⟩)
        -- x twice in b: then b without x still has all of a and one more
        have more : (x :: a).length ≤ (b.erase x).length := by
          refine sub_len _ _ hd fun y hy => ?_
          rcases List.mem_cons.mp hy with rfl | hy'
          · exact z
          · exact (List.mem_erase_of_ne (fun q => h1 (by rw [← q]; exact hy'))).mpr (hs y hy)
        have pos : 0 < b.length := List.length_pos_of_mem xb
        rw [lb] at more
        simp only [List.length_cons] at more hl
        omega
    exact le _ _ nd sup (by rw [List.length_map, List.length_map, e]; exact Nat.le_refl _)
  · have := sub_len _ _ d sub
    rw [List.length_map, List.length_map] at this
    have := g.len
    omega
section
variable {X : Cx}
/-- len(set(xs)), xs a list of tuples of ints: n, as many as xs just where none is twice -/
def tLenSetT (K : PySem.W.Frag) (ta : TE) : TE := fun σ H Q => ta σ H fun x H1 => ∃ (l : Addr) (ks : List (Addr × List Int)), x = V.ref l ∧ SqL K H1 l (ks.map fun p => V.ref p.1) ∧ (∀ p ∈ ks, SqT K H1 p.1 (p.2.map V.int)) ∧ ks.length < 1000 ∧
  ∀ n : Nat, n ≤ ks.length → (n = ks.length ↔ (ks.map (·.2)).Nodup) → Q (.int n) H1
theorem pe_lenSetT {a : Expr} {ta : TE} {p p2 q pos : Pos} {k : Nat} (hr : Room k X.A) (hc : X.calm = true) (hg : Gl X "len") (hm : X.mg "len" = none) (hg2 : Gl X "set") (hm2 : X.mg "set" = none) (ha : PE X a ta)
    (na : starEach [a] X.env = (false, eval a X.env) :: starEach [] X.env := by rfl) : PE X (.Call (.Name "len" p) [.Call (.Name "set" p2) [a] [] q] [] pos) (tLenSetT X.K ta) := by
  refine ⟨fun pins s σ H Q I h => ?_⟩
  refine Call_ (ld_blt I hg hm PySem.boot_len ?_)
  refine PyProof.Rows.callWith_builtin1 (PyProof.Rows.args_cons ?_ rfl) rfl rfl
  refine Call_ (ld_blt I hg2 hm2 PyProof.Rows.boot_set ?_)
  refine PyProof.Rows.callWith_type1 (PyProof.Rows.args_cons (thn (ha.run pins s σ H _ I h) fun v s1 ⟨x, H1, I1, r1, q1⟩ => PyProof.Rows.args_nil ?_) na) na rfl
  obtain ⟨l, ks, rfl, hq, hk, few, q1⟩ := q1
  cases r1
  obtain ⟨its, r, pl, hz⟩ := I1.list hq
  have hu := hr.units
  refine make_set (P := X.prog) (w := X.w) ks (I1.ok.hd hc) pl.isList (by simpa using refs_of_vals r) (fun p hp => I1.isT (hk p hp)) few (by omega) fun h' tk L es ep t T g kp => ?_
  refine PyProof.Rows.args_nil ?_
  obtain ⟨o, ho, hex, hd⟩ := T.obj
  have c := Got.count g T.keys
  have sz := rows_size T.rows
  have I2 : Inv X pins σ H1 { s1 with heap := h', toks := tk } := I1.kept fun b o e => kp b o e
  refine call_len_set ho hex hd (T.tab.fits (by rw [sz, List.length_map]) (by have := T.room; omega)) (by rw [sz]; have := T.few; omega) ⟨.int L.length, H1, I2.tok _, ⟨_, by rw [sz]⟩, q1 _ c.2 c.1⟩
end
end OP

/-! What stands in the heap, in short; small rules of one's own. -/
namespace OP
open PySem PySem.Spec PyProof.Rows L2
open L2H (RoomH PinOk cxH inv_startH roomH_of)

/-! ### heaps -/
theorem same_upd {H : Hp} {p : Addr} {o : HO} (h : H p = none) : Same H (upd H p o) := fun b x e => by
  rw [upd_ne (ne_of_none e h)]
  exact e
/-- a new object, the heap behind it by a name -/
theorem laid {H : Hp} {p : Addr} {o : HO} (h : H p = none) : ∃ H', H' = upd H p o ∧ Same H H' ∧ H' p = some o := ⟨_, rfl, same_upd h, upd_same⟩
/-- all but the addresses in fs is as it was -/
def But (fs : List Addr) (H H' : Hp) : Prop := ∀ b o, b ∉ fs → H b = some o → H' b = some o
theorem But.refl {fs : List Addr} {H : Hp} : But fs H H := fun _ _ _ e => e
theorem But.of {fs : List Addr} {H H' : Hp} (s : Same H H') : But fs H H' := fun b o _ e => s b o e
theorem But.same {H H' : Hp} (s : But [] H H') : Same H H' := fun b o e => s b o (by simp) e
theorem But.trans {fs : List Addr} {H H1 H2 : Hp} (a : But fs H H1) (b : But fs H1 H2) : But fs H H2 := fun c o n e => b c o n (a c o n e)
theorem But.then {fs : List Addr} {H H1 H2 : Hp} (a : But fs H H1) (b : Same H1 H2) : But fs H H2 := fun c o n e => b c o (a c o n e)
theorem But.set {fs : List Addr} {H : Hp} {p : Addr} {o : HO} (h : p ∈ fs) : But fs H (upd H p o) := fun c x n e => by
  rw [upd_ne (fun z => n (by rw [z]; exact h))]
  exact e
theorem But.mono {fs gs : List Addr} {H H1 : Hp} (a : But fs H H1) (s : ∀ x ∈ fs, x ∈ gs) : But gs H H1 := fun c o n e => a c o (fun z => n (s c z)) e
/-- a write at an address that was free at the entry -/
theorem Same.set {H0 H : Hp} {p : Addr} {o : HO} (s : Same H0 H) (h : H0 p = none) : Same H0 (upd H p o) := fun c x e => by
  rw [upd_ne (ne_of_none e h)]
  exact s c x e

/-! ### the data -/
abbrev vn (n : Nat) : V := .int (n : Int)
def vo : Option Nat → V
  | none => .non
  | some n => vn n
def Ints (H : Hp) (a : Addr) (ns : List Nat) : Prop := H a = some (.lst (ns.map vn))
def Opts (H : Hp) (a : Addr) (ns : List (Option Nat)) : Prop := H a = some (.lst (ns.map vo))
def Rows (H : Hp) (l : Addr) (rs : List (List Nat)) : Prop := ∃ as : List Addr, H l = some (.lst (as.map V.ref)) ∧ Paired (fun b r => Ints H b r) as rs
abbrev Pr (H : Hp) (b : Addr) (p : Nat × Nat) : Prop := H b = some (.tup [vn p.1, vn p.2])
def Prs (H : Hp) (l : Addr) (ps : List (Nat × Nat)) : Prop := ∃ as : List Addr, H l = some (.lst (as.map V.ref)) ∧ Paired (Pr H) as ps
theorem Ints.go {H H' : Hp} {a : Addr} {ns : List Nat} (x : Ints H a ns) (s : Same H H') : Ints H' a ns := s _ _ x
theorem Opts.go {H H' : Hp} {a : Addr} {ns : List (Option Nat)} (x : Opts H a ns) (s : Same H H') : Opts H' a ns := s _ _ x
theorem Rows.go {H H' : Hp} {a : Addr} {ns : List (List Nat)} (x : Rows H a ns) (s : Same H H') : Rows H' a ns := by
  obtain ⟨as, h, p⟩ := x
  exact ⟨as, s _ _ h, Paired.mapP p fun _ _ z => s _ _ z⟩
theorem Prs.go {H H' : Hp} {a : Addr} {ns : List (Nat × Nat)} (x : Prs H a ns) (s : Same H H') : Prs H' a ns := by
  obtain ⟨as, h, p⟩ := x
  exact ⟨as, s _ _ h, Paired.mapP p fun _ _ z => s _ _ z⟩
theorem paired_get {α β : Type} {F : α → β → Prop} : ∀ {as : List α} {bs : List β} {i : Nat} {b : β}, Paired F as bs → bs[i]? = some b → ∃ a, as[i]? = some a ∧ F a b
  | _, _, _, _, .nil, e => by simp at e
  | _, _, 0, _, .cons r _, e => by simp at e; subst e; exact ⟨_, rfl, r⟩
  | _, _, i + 1, _, .cons _ t, e => by
    obtain ⟨a, h1, h2⟩ := paired_get t (show _ = _ by simpa using e)
    exact ⟨a, by simpa using h1, h2⟩
theorem paired_get' {α β : Type} {F : α → β → Prop} : ∀ {as : List α} {bs : List β} {i : Nat} {a : α}, Paired F as bs → as[i]? = some a → ∃ b, bs[i]? = some b ∧ F a b
  | _, _, _, _, .nil, e => by simp at e
  | _, _, 0, _, .cons r _, e => by simp at e; subst e; exact ⟨_, rfl, r⟩
  | _, _, i + 1, _, .cons _ t, e => by
    obtain ⟨a, h1, h2⟩ := paired_get' t (show _ = _ by simpa using e)
    exact ⟨a, by simpa using h1, h2⟩
theorem paired_len {α β : Type} {F : α → β → Prop} {as : List α} {bs : List β} (p : Paired F as bs) : as.length = bs.length := Paired.length p
theorem paired_app {α β : Type} {F : α → β → Prop} : ∀ {as : List α} {bs : List β} {cs : List α} {ds : List β}, Paired F as bs → Paired F cs ds → Paired F (as ++ cs) (bs ++ ds)
  | _, _, _, _, .nil, q => q
  | _, _, _, _, .cons r t, q => .cons r (paired_app t q)
theorem paired_take {α β : Type} {F : α → β → Prop} : ∀ {as : List α} {bs : List β} (n : Nat), Paired F as bs → Paired F (as.take n) (bs.take n)
  | _, _, 0, _ => .nil
  | _, _, _ + 1, .nil => .nil
  | _, _, n + 1, .cons r t => .cons r (paired_take n t)
theorem paired_drop {α β : Type} {F : α → β → Prop} : ∀ {as : List α} {bs : List β} (n : Nat), Paired F as bs → Paired F (as.drop n) (bs.drop n)
  | _, _, 0, r => r
  | _, _, _ + 1, .nil => .nil
  | _, _, n + 1, .cons _ t => paired_drop n t
theorem Prs.at {H : Hp} {l : Addr} {ps : List (Nat × Nat)} (x : Prs H l ps) : ∃ as : List Addr, H l = some (.lst (as.map V.ref)) ∧ Paired (Pr H) as ps := x
theorem take_snoc {α : Type} {l : List α} {i : Nat} {x : α} (h : l[i]? = some x) : l.take (i + 1) = l.take i ++ [x] := by
  rw [List.take_succ, h]
  rfl
theorem map_get {α β : Type} {f : α → β} {l : List α} {i : Nat} {y : β} (h : (l.map f)[i]? = some y) : ∃ x, l[i]? = some x ∧ y = f x := by
  rw [List.getElem?_map] at h
  cases e : l[i]? with
  | none => rw [e] at h; cases h
  | some x => rw [e] at h; exact ⟨x, rfl, (Option.some.inj h).symm⟩
theorem map_get' {α β : Type} {f : α → β} {l : List α} {i : Nat} {x : α} (h : l[i]? = some x) : (l.map f)[i]? = some (f x) := by
  rw [List.getElem?_map, h]
  rfl
theorem line_of {n : Nat} (h : n ≤ 100000) : n ≤ sizeLine := Nat.le_trans h (by decide)
theorem line_lt {n : Nat} (h : n ≤ 100000) : n < sizeLine := Nat.lt_of_le_of_lt h (by decide)

/-! ### which thing is a whole number -/
def NonInt (K : PySem.W.Frag) (H : Hp) (v : V) : Prop := ∃ t b1 b2, TyX K H v t ∧ PySem.W.kitOne K t (.type "int") = some b1 ∧ PySem.W.kitOne K t (.type "bool") = some b2 ∧ (b1 && !b2) = false
section
variable {K : PySem.W.Frag} {H : Hp}
theorem nonInt_non : NonInt K H .non := ⟨_, _, _, .base .non, kit_ty (by decide +kernel : _ = some false), kit_ty (by decide +kernel : _ = some false), rfl⟩
theorem nonInt_bl (b : Bool) : NonInt K H (.bl b) := ⟨_, _, _, .base (.bl b), kit_ty (by decide +kernel : _ = some true), kit_ty (by decide +kernel : _ = some true), rfl⟩
theorem nonInt_str (z : Str) : NonInt K H (.str z) := ⟨_, _, _, .base (.str z), kit_ty (by decide +kernel : _ = some false), kit_ty (by decide +kernel : _ = some false), rfl⟩
theorem nonInt_tup {a : Addr} {xs : List V} (e : H a = some (.tup xs)) : NonInt K H (.ref a) := ⟨_, _, _, .base (.tup e), kit_ty (by decide +kernel : _ = some false), kit_ty (by decide +kernel : _ = some false), rfl⟩
theorem nonInt_lst {a : Addr} {xs : List V} (e : H a = some (.lst xs)) : NonInt K H (.ref a) := ⟨_, _, _, .base (.lst e), kit_ty (by decide +kernel : _ = some false), kit_ty (by decide +kernel : _ = some false), rfl⟩
theorem nonInt_dK {a : Addr} {xs : List (Key × V)} (e : H a = some (.dK xs)) : NonInt K H (.ref a) := ⟨_, _, _, .base (.dK e), kit_ty (by decide +kernel : _ = some false), kit_ty (by decide +kernel : _ = some false), rfl⟩
/-- v's type is known, and isinstance(v, list), isinstance(v, tuple) with it -/
def Kind (K : PySem.W.Frag) (H : Hp) (v : V) (T : String) (b : Bool) : Prop := ∃ t, TyX K H v t ∧ PySem.W.kitOne K t (.type T) = some b
theorem kind_of {v : V} {s T : String} {b : Bool} (h : TyX K H v (.type s)) (e : kitB s T = some b) : Kind K H v T b := ⟨_, h, kit_ty e⟩
end
theorem tyX_go {K : PySem.W.Frag} {H H' : Hp} {v : V} {t : Value} (h : TyX K H v t) (s : Same H H') : TyX K H' v t := by
  cases h with
  | base h =>
    refine .base ?_
    cases h with
    | non => exact .non
    | bl x => exact .bl x
    | int i => exact .int i
    | str x => exact .str x
    | flt x => exact .flt x
    | lst e => exact .lst (s _ _ e)
    | frz e => exact .frz (s _ _ e)
    | tup e => exact .tup (s _ _ e)
    | dK e => exact .dK (s _ _ e)
    | dT e => exact .dT (s _ _ e)
    | ins e a b c d f => exact .ins (s _ _ e) a b c d f
  | byt b => exact .byt b
  | set e => exact .set (s _ _ e)
  | kList e c => exact .kList e c
  | kTuple e c => exact .kTuple e c
  | kDict e c => exact .kDict e c
  | fTuple e => exact .fTuple (s _ _ e)
  | fDict e => exact .fDict (s _ _ e)
theorem NonInt.go {K : PySem.W.Frag} {H H' : Hp} {v : V} (h : NonInt K H v) (s : Same H H') : NonInt K H' v := by
  obtain ⟨t, b1, b2, x, y⟩ := h
  exact ⟨t, b1, b2, tyX_go x s, y⟩
theorem Kind.go {K : PySem.W.Frag} {H H' : Hp} {v : V} {T : String} {b : Bool} (h : Kind K H v T b) (s : Same H H') : Kind K H' v T b := by
  obtain ⟨t, x, y⟩ := h
  exact ⟨t, tyX_go x s, y⟩

/-! ### exceptions -/
/-- an error of the class at S is what «except S» names -/
theorem exm_same {K : PySem.W.Frag} {S : Addr} (h1 : PySem.W.subIn K (.ref S) (.type "BaseException") = some true) (h2 : PySem.W.isClsIn K S = true) (h3 : PySem.W.typeIn K (.ref S) = some (.type "type")) (h4 : PySem.W.subIn K (.ref S) (.ref S) = some true) :
    PySem.W.exmOne K (.ref S) (.ref S) = some true := by
  have e1 : (PySem.W.subIn K (.ref S) (.type "BaseException") == some true) = true := by rw [h1] <;> rfl
  have e2 : ((PySem.W.clsIn K S).isSome && PySem.W.typeIn K (.ref S) == some (.type "type")) = true := by
    have h2' : (PySem.W.clsIn K S).isSome = true := h2
    rw [h2', h3] <;> rfl
  show (if (PySem.W.subIn K (.ref S) (.type "BaseException") == some true) = true then (if ((PySem.W.clsIn K S).isSome && PySem.W.typeIn K (.ref S) == some (.type "type")) = true then PySem.W.subIn K (.ref S) (.ref S) else none) else none) = some true
  rw [if_pos e1, if_pos e2]
  exact h4
/-- what a callee may let out is taken, wherever the slots are as many as the names -/
theorem passes_len {X : Cx} {W : WX} (tk : Takes X W) : Passes (L2.CX X.prog X.w) X (fun cls d H => ∀ σ, σ.length = X.N.length → W cls d σ H) :=
  fun _ σ _ _ e s' I c => tk e s' (XE.of_call I (fun _ _ _ h => h σ I.len) c)
theorem passes_lenN {X : Cx} {W : WX} {N : List Str} (hN : X.N = N) (tk : Takes X W) : Passes (L2.CX X.prog X.w) X (fun cls d H => ∀ σ, σ.length = N.length → W cls d σ H) := by
  subst hN
  exact passes_len tk
/-- isinstance of the error that the context's pins hold -/
theorem call_isP {X : Cx} {a D : Addr} {oe : Obj} (C : ExcC X.K D) (hm : (a, oe) ∈ X.pn) (hz : Zc (.ref D) none oe) (hf : ∃ vs, oe.data = .fields vs) : CallR X (.builtin "isinstance") (rIsE X.K D a) := by
  intro pins s σ H xs us Q I r h
  obtain ⟨c, cv, b, rfl, hcv, e, q⟩ := h
  obtain ⟨u1, u2, rfl, r1, r2⟩ := vals2 r
  cases r1
  have ec := hcv _ r2
  subst ec
  obtain ⟨hget, _⟩ := I.pin (a, oe) (List.mem_append.mpr (.inl hm))
  obtain ⟨vs, hv⟩ := hf
  have J : PySem.W.InstAt s.heap a oe D none := by
    obtain ⟨oc, od, oda, osl⟩ := oe
    obtain ⟨h1, h2⟩ := hz
    dsimp only at h1 h2 hv
    subst h1 h2 hv
    exact ⟨hget, rfl, rfl, trivial⟩
  exact PySem.W.kia_one (PySem.W.handS_kitx_exc C.hg C.hk C.hs C.hd C.ha C.hn C.ht C.hm) I.kIn J e (fun z => nomatch z) fun tk => ⟨.bl b, H, I.kept (t' := tk) fun _ _ z => z, rfl, q⟩
/-- the promise of a def of one argument, the error that is handled, of the class at D: it tells True -/
structure FnE (P : Program) (w : World) (K : PySem.W.Frag) (mg : Str → Option Value) (base : Heap) (k : Nat) (f : Addr) (fd : FuncData) (x : Str) (D : Addr) : Prop where
  run : ∀ (A : Around) (outer : List Env) (s : Shared) (H : Hp) (args : Args) (a : Addr) (oe : Obj) (Q : VK), RoomH k A → PinOk outer H s (a, oe) → Zc (.ref D) none oe → (∃ vs, oe.data = .fields vs) → Env0 P w K mg base A outer s H → BindsTo s fd args [(x, .ref a)] → (∀ H', Same H H' → Q (.bl true) H') →
    codeAny (model P w) A (.call (.ref f) args) (CR CX0 outer P w H s Q E0) s
theorem fnE_of {P : Program} {w : World} {K : PySem.W.Frag} {mg : Str → Option Value} {base : Heap} {k : Nat} {f : Addr} {x qual : Str} {st : Stmt} {fd : FuncData} {N : List Str} {p : Str} {D : Addr} (F : Fun K x qual st f fd) (S : FnScope N [p] (defScope st))
    (hbody : ∀ (cdv : Value) (A : Around) (outer : List Env) (s : Shared) (H : Hp) (a : Addr) (oe : Obj) (Q : VK), RoomH k (A.deeper (envOfC qual (defScope st) s.heap.objs.size f cdv)) → Zc (.ref D) none oe → (∃ vs, oe.data = .fields vs) → (∀ H', Same H H' → Q (.bl true) H') →
      ∃ t, PSs (cxH CX0 P w K mg base N qual (defScope st) f cdv A outer s H E0 (a, oe)) (defBody st) t ∧ t { nx := fun _ H' => Q .non H', rt := Q } (L2.start N [.ref a]) H) : FnE P w K mg base (k + 1) f fd p D := by
  obtain ⟨oc, od, kV, doc, pm, an, cdv, ct, osl, rfl, lk, hcd⟩ := F.ex
  refine ⟨fun A outer s H args a oe Q hr hpin hz hf e0 hb hq => ?_⟩
  have KX : K.In s.heap := e0.mod.kin.keeps fun b o e => (e0.bs b o e).1
  have lim : s.heap.NoLimit := e0.mod.nolimit.keeps fun b o e => (e0.bs b o e).1
  have hkind : ∀ y ∈ [(p, Value.ref a)], (defScope st).names.lookup y.1 = some .local ∨ ((defScope st).names.lookup y.1 = some .cell ∧ ((cellsFrom (s.heap.objs.size + 1) (defScope st).names []).lookup y.1).isSome = true) := fun y hy => by
    have e := List.mem_singleton.mp hy
    subst e
    rcases S.par p List.mem_cons_self with q | q
    · exact .inl q
    · exact .inr ⟨q, PySem.W.cellsFrom_some _ _ _ (.inl q)⟩
  refine codeAny_call_function hr.depth (KX _ _ lk) rfl S.co S.gen rfl (PySem.W.codeRec_of KX hcd) (hb _ _ _ _ ?_)
  refine wpAny_newFunctionEnv_cells S.kind hkind fun env he s1 y => ?_
  subst he
  refine ⟨lim.keeps y.toInCall.keep, codeAny_func ?_⟩
  obtain ⟨t, ht, hq'⟩ := hbody cdv A outer s H a oe Q (hr.deeper _) hz hf hq
  have rv : Vals [V.ref a] [Value.ref a] := .cons rfl .nil
  have I : Inv (cxH CX0 P w K mg base N qual (defScope st) f cdv A outer s H E0 (a, oe)) [] (L2.start N [.ref a]) H s1 := inv_startH S hpin e0 rfl rv y
  refine wpAny_mono (ht.run [] s1 (L2.start N [.ref a]) H _ I hq') (fun fl s' hs => ?_) fun e s' hs => hs
  cases fl with
  | ret u =>
    obtain ⟨v, σ', H', J, rv, q⟩ := hs
    exact ⟨v, H', J.os, J.bare, J.base, J.hok, rv, q⟩
  | next =>
    obtain ⟨σ', H', J, q⟩ := hs
    exact ⟨V.non, H', J.os, J.bare, J.base, J.hok, rfl, q⟩
  | brk =>
    obtain ⟨_, _, _, q⟩ := hs
    exact False.elim q
  | cont =>
    obtain ⟨_, _, _, q⟩ := hs
    exact False.elim q
theorem roomH_mark {k : Nat} {A : Around} {h : Option Value} (r : Room k A) : RoomH k (A.mark h) := ⟨r.dp, r.un⟩
/-- such a def, called with the handled error in the suite -/
theorem pe_callE {X : Cx} {k : Nat} {f D : Addr} {fd : FuncData} {y x : Str} {q pos : Pos} {e : Expr} {te : TE} {a : Addr} {oe : Obj} (F : FnE X.prog X.w X.K X.mg X.base k f fd y D) (hr : RoomH k X.A) (hp : (a, oe) ∈ X.pn) (hz : Zc (.ref D) none oe) (hf : ∃ vs, oe.data = .fields vs)
    (hg : Gl X x) (hm : X.mg x = some (.ref f)) (hk : PySem.W.keepIn X.K (.ref f) = true) (hb : Binds X.K fd [y] []) (he : PE X e te) (hdb : (x == ("__debug__" : Str)) = false := by decide)
    (hst : starEach [e] X.env = (false, eval e X.env) :: starEach [] X.env := by rfl) (hpl : (backTo pos (starEach [] X.env)).any (·.1) = false := by rfl) :
    PE X (.Call (.Name x q) [e] [] pos) (fun σ H Q => te σ H fun v H1 => v = .ref a ∧ ∀ H', Same H1 H' → Q (.bl true) H') := by
  refine ⟨fun pins s σ H Q I h => ?_⟩
  refine wpAny_Call_Name_kw (ld_glob I hg hm ?_ hdb)
  refine PySem.W.callWith_K (h₀ := X.base) I.ok.mod.kin hk (thn ((pa_cons he pa_nil hst).run pos pins s σ H (fun vs H1 => vs = [.ref a] ∧ ∀ H', Same H1 H' → Q (.bl true) H') I ?_) fun us s1 ⟨vs, H1, I1, r, ev, q⟩ => ⟨I1.kIn, ?_⟩) hst hpl
  · show te σ H _
    have mono : (fun v H1 => v = V.ref a ∧ ∀ H', Same H1 H' → Q (.bl true) H') = (fun v H1 => (v :: ([] : List V)) = [.ref a] ∧ ∀ H', Same H1 H' → Q (.bl true) H') := by
      funext v H1
      simp
    rw [mono] at h
    exact h
  · subst ev
    cases r with
    | cons r1 rn =>
      cases rn
      cases r1
      have P1 := I1.pin (a, oe) (List.mem_append_left _ hp)
      have hpin : PinOk X.stack H1 s1 (a, oe) := ⟨P1.1, P1.2.1, fun hm => (List.mem_cons.mp (I1.stkSub a hm)).elim P1.2.2.1 P1.2.2.2.1, P1.2.2.2.2⟩
      have b := hb s1 [.ref a] I1.kIn rfl
      refine wpAny_call (codeAny_mono (F.run X.A X.stack s1 H1 ⟨[.ref a], []⟩ a oe Q hr hpin hz hf I1.env0 b q) fun r s' hq => ?_)
      cases r with
      | error e => exact hq.elim
      | ok fl =>
        cases fl with
        | ret u => exact I1.after hq
        | next => exact False.elim hq
        | brk => exact False.elim hq
        | cont => exact False.elim hq
/-- a def that wants a list of data of any depth: x != [] -/
theorem eqv_nil (xs : List PyData) : PyData.eqv (.list xs) (.list []) = xs.isEmpty := by
  cases xs <;> rfl
end OP

namespace OP
open PySem PySem.Spec PyProof.Rows L2 Evl
/-- of a value, of new addresses, of the heap behind -/
abbrev Rn := V → List Addr → Hp → Prop
def EvN (te : TE) (σ : L2.St) (H : Hp) (R : Rn) : Prop := ∀ H1, Ex H H1 → ∀ Q : VK, (∀ v fs H2, Ex H1 H2 → (∀ p ∈ fs, H1 p = none) → R v fs H2 → Q v H2) → te σ H1 Q
def SpN (sp : Sp) (vs : List V) (H : Hp) (R : Rn) : Prop := ∀ H1, Ex H H1 → ∀ Q : VK, (∀ v fs H2, Ex H1 H2 → (∀ p ∈ fs, H1 p = none) → R v fs H2 → Q v H2) → ∀ E : XK, sp vs H1 Q E
/-- the promise of a def that changes nothing: some value, of which R tells -/
def pureSp (R : Hp → List V → V → Prop) : Sp := fun vs H Q _ => ∃ z, R H vs z ∧ ∀ H', Ex H H' → Q z H'
/-- .. of one that makes new things -/
def newSp (R : Hp → List V → Rn → Prop) : Sp := fun vs H Q _ => ∃ S, R H vs S ∧ ∀ v fs H', Ex H H' → (∀ p ∈ fs, H p = none) → S v fs H' → Q v H'
section
variable {K : PySem.W.Frag} {σ : L2.St} {H H' : Hp} {ta tb te tx : TE} {t u : TT} {x y z v : V} {D : Ends} {tu tw tz : TS} {g : TG} {R : Rn}
theorem EvN.mono (e : Ex H H') (h : EvN te σ H R) : EvN te σ H' R := fun H1 a Q q => h H1 (e.trans a) Q q
theorem spv_pure {P : Hp → List V → V → Prop} {vs : List V} (mono : ∀ H1, Ex H H1 → P H1 vs z) : SpV (pureSp P) vs H z := fun H1 e Q q E => ⟨z, mono H1 e, q⟩
theorem spn_new {P : Hp → List V → Rn → Prop} {vs : List V} (mono : ∀ H1, Ex H H1 → P H1 vs R) : SpN (newSp P) vs H R := fun H1 e Q q E => ⟨R, mono H1 e, q⟩
theorem en_call {sp : Sp} {dvs vs : List V} {E : XK} {ta : TA} (h : EvA ta σ H vs) (hs : SpN sp (vs ++ dvs) H R) : EvN (tCall sp dvs E ta) σ H R := fun H1 e Q q =>
  h H1 e _ fun H2 e2 => hs H2 (e.trans e2) Q (fun v fs H3 e3 f r => q v fs H3 (e2.trans e3) (fun p hp => fresh_back e2 (f p hp)) r) E
theorem en_of_ev (h : Ev te σ H v) : EvN te σ H (fun w fs _ => w = v ∧ fs = []) := fun H1 e Q q => h H1 e Q fun H2 e2 => q v [] H2 e2 (fun _ hp => nomatch hp) ⟨rfl, rfl⟩
theorem en_of_el {xs : List V} (h : EvL te σ H xs) : EvN te σ H (fun w fs H2 => ∃ p, w = .ref p ∧ fs = [p] ∧ H2 p = some (.lst xs)) := fun H1 e Q q =>
  h H1 e Q fun p H2 hp e2 h2 => q _ [p] H2 e2 (fun r hr => by rw [List.mem_singleton.mp hr]; exact hp) ⟨p, rfl, rfl, h2⟩
theorem q_asgN {i : Nat} (h : EvN te σ H R) (k : ∀ v fs H1, Ex H H1 → (∀ p ∈ fs, H p = none) → R v fs H1 → tz D (σ.set i (some v)) H1) : tSeq (tAsg te (gName i)) tz D σ H :=
  h H (Ex.refl H) _ fun v fs H1 e f r => k v fs H1 e f r
theorem s_asgN {i : Nat} (h : EvN te σ H R) (k : ∀ v fs H1, Ex H H1 → (∀ p ∈ fs, H p = none) → R v fs H1 → D.nx (σ.set i (some v)) H1) : tAsg te (gName i) D σ H :=
  h H (Ex.refl H) _ fun v fs H1 e f r => k v fs H1 e f r
theorem s_retN (h : EvN te σ H R) (k : ∀ v fs H1, Ex H H1 → (∀ p ∈ fs, H p = none) → R v fs H1 → D.rt v H1) : tRet te D σ H := h H (Ex.refl H) _ k
theorem q_dropN (h : EvN te σ H R) (k : ∀ v fs H1, Ex H H1 → (∀ p ∈ fs, H p = none) → R v fs H1 → tz D σ H1) : tSeq (tDrop te) tz D σ H := h H (Ex.refl H) _ k
theorem s_dropN (h : EvN te σ H R) (k : ∀ v fs H1, Ex H H1 → (∀ p ∈ fs, H p = none) → R v fs H1 → D.nx σ H1) : tDrop te D σ H := h H (Ex.refl H) _ k
/-- arguments, the first of which is new -/
def EvAN (ta : TA) (σ : L2.St) (H : Hp) (R : List V → List Addr → Hp → Prop) : Prop := ∀ H1, Ex H H1 → ∀ Q : List V → Hp → Prop, (∀ vs fs H2, Ex H1 H2 → (∀ p ∈ fs, H1 p = none) → R vs fs H2 → Q vs H2) → ta σ H1 Q
theorem ean_nil : EvAN tNil σ H (fun vs fs _ => vs = [] ∧ fs = []) := fun H1 _ Q q => q [] [] H1 (Ex.refl H1) (fun _ h => nomatch h) ⟨rfl, rfl⟩
theorem ean_of {ta : TA} {vs : List V} (h : EvA ta σ H vs) : EvAN ta σ H (fun ws fs _ => ws = vs ∧ fs = []) := fun H1 e Q q => h H1 e Q fun H2 e2 => q vs [] H2 e2 (fun _ hp => nomatch hp) ⟨rfl, rfl⟩
theorem ean_cons {tr : TA} {R1 : Rn} {R2 : V → List Addr → List V → List Addr → Hp → Prop} (h : EvN te σ H R1) (k : ∀ v fs H1, Ex H H1 → (∀ p ∈ fs, H p = none) → R1 v fs H1 → EvAN tr σ H1 (R2 v fs)) :
    EvAN (tCons te tr) σ H (fun vs gs H2 => ∃ v ws fs fs', vs = v :: ws ∧ gs = fs ++ fs' ∧ R2 v fs ws fs' H2) := fun H1 e Q q => h H1 e _ fun v fs H2 e2 f r =>
  k v fs H2 (e.trans e2) (fun p hp => fresh_back e (f p hp)) r H2 (Ex.refl H2) _ fun ws fs' H3 e3 f' r' => q _ (fs ++ fs') H3 (e2.trans e3) (fun p hp => (List.mem_append.mp hp).elim (f p) (fun z => fresh_back e2 (f' p z))) ⟨v, ws, fs, fs', rfl, rfl, r'⟩
theorem ev_callN {sp : Sp} {dvs : List V} {E : XK} {ta : TA} {R1 : List V → List Addr → Hp → Prop} (h : EvAN ta σ H R1) (hs : ∀ vs fs H1, Ex H H1 → (∀ p ∈ fs, H p = none) → R1 vs fs H1 → SpV sp (vs ++ dvs) H1 z) : Ev (tCall sp dvs E ta) σ H z := fun H1 e Q q =>
  h H1 e _ fun vs fs H2 e2 f r => hs vs fs H2 (e.trans e2) (fun p hp => fresh_back e (f p hp)) r H2 (Ex.refl H2) Q (fun H3 e3 => q H3 (e2.trans e3)) E
theorem en_callN {sp : Sp} {dvs : List V} {E : XK} {ta : TA} {R1 : List V → List Addr → Hp → Prop} (h : EvAN ta σ H R1) (hs : ∀ vs fs H1, Ex H H1 → (∀ p ∈ fs, H p = none) → R1 vs fs H1 → SpN sp (vs ++ dvs) H1 R) : EvN (tCall sp dvs E ta) σ H R := fun H1 e Q q =>
  h H1 e _ fun vs fs H2 e2 f r => hs vs fs H2 (e.trans e2) (fun p hp => fresh_back e (f p hp)) r H2 (Ex.refl H2) Q (fun v gs H3 e3 f3 r3 => q v gs H3 (e2.trans e3) (fun p hp => fresh_back e2 (f3 p hp)) r3) E
/-- an operator on two things, each told by a relation -/
theorem ev_opN {r : R2} {R1 R2' : Rn} (ha : EvN ta σ H R1) (hb : ∀ v fs H1, Ex H H1 → (∀ p ∈ fs, H p = none) → R1 v fs H1 → EvN tb σ H1 R2') (hr : ∀ v fs H1 w gs H2, Ex H H1 → (∀ p ∈ fs, H p = none) → R1 v fs H1 → Ex H1 H2 → (∀ p ∈ gs, H1 p = none) → R2' w gs H2 → RV r v w H2 z) :
    Ev (tOp r ta tb) σ H z := fun H1 e Q q => ha H1 e _ fun v fs H2 e2 f r1 => hb v fs H2 (e.trans e2) (fun p hp => fresh_back e (f p hp)) r1 H2 (Ex.refl H2) _ fun w gs H3 e3 f' r2 =>
  hr v fs H2 w gs H3 (e.trans e2) (fun p hp => fresh_back e (f p hp)) r1 e3 f' r2 H3 (Ex.refl H3) Q fun H4 e4 => q H4 ((e2.trans e3).trans e4)
theorem en_opN {r : R2} {R1 R2' : Rn} (ha : EvN ta σ H R1) (hb : ∀ v fs H1, Ex H H1 → (∀ p ∈ fs, H p = none) → R1 v fs H1 → EvN tb σ H1 R2')
    (hr : ∀ v fs H1 w gs H2, Ex H H1 → (∀ p ∈ fs, H p = none) → R1 v fs H1 → Ex H1 H2 → (∀ p ∈ gs, H1 p = none) → R2' w gs H2 → ∀ Q : VK, (∀ z hs H3, Ex H2 H3 → (∀ p ∈ hs, H2 p = none) → R z hs H3 → Q z H3) → r v w H2 Q) :
    EvN (tOp r ta tb) σ H R := fun H1 e Q q => ha H1 e _ fun v fs H2 e2 f r1 => hb v fs H2 (e.trans e2) (fun p hp => fresh_back e (f p hp)) r1 H2 (Ex.refl H2) _ fun w gs H3 e3 f' r2 =>
  hr v fs H2 w gs H3 (e.trans e2) (fun p hp => fresh_back e (f p hp)) r1 e3 f' r2 Q fun z hs H4 e4 f4 r4 => q z hs H4 ((e2.trans e3).trans e4) (fun p hp => fresh_back (e2.trans e3) (f4 p hp)) r4
theorem ev_cbN {r : List V → Hp → VK → Prop} {ta : TA} {R1 : List V → List Addr → Hp → Prop} (h : EvAN ta σ H R1) (hr : ∀ vs fs H1, Ex H H1 → (∀ p ∈ fs, H p = none) → R1 vs fs H1 → RC r vs H1 z) : Ev (tCB r ta) σ H z := fun H1 e Q q =>
  h H1 e _ fun vs fs H2 e2 f r => hr vs fs H2 (e.trans e2) (fun p hp => fresh_back e (f p hp)) r H2 (Ex.refl H2) Q fun H3 e3 => q H3 (e2.trans e3)
theorem en_cb {r : List V → Hp → VK → Prop} {ta : TA} {vs : List V} (h : EvA ta σ H vs) (hr : ∀ H1, Ex H H1 → ∀ Q : VK, (∀ v fs H2, Ex H1 H2 → (∀ p ∈ fs, H1 p = none) → R v fs H2 → Q v H2) → r vs H1 Q) : EvN (tCB r ta) σ H R := fun H1 e Q q =>
  h H1 e _ fun H2 e2 => hr H2 (e.trans e2) Q fun v fs H3 e3 f r => q v fs H3 (e2.trans e3) (fun p hp => fresh_back e2 (f p hp)) r
theorem en_cbN {r : List V → Hp → VK → Prop} {ta : TA} {R1 : List V → List Addr → Hp → Prop} (h : EvAN ta σ H R1) (hr : ∀ vs fs H1, Ex H H1 → (∀ p ∈ fs, H p = none) → R1 vs fs H1 → ∀ Q : VK, (∀ v fs H2, Ex H1 H2 → (∀ p ∈ fs, H1 p = none) → R v fs H2 → Q v H2) → r vs H1 Q) :
    EvN (tCB r ta) σ H R := fun H1 e Q q =>
  h H1 e _ fun vs fs H2 e2 f r => hr vs fs H2 (e.trans e2) (fun p hp => fresh_back e (f p hp)) r Q fun v gs H3 e3 f3 r3 => q v gs H3 (e2.trans e3) (fun p hp => fresh_back e2 (f3 p hp)) r3
theorem EvN.imp {R' : Rn} (h : EvN te σ H R) (k : ∀ v fs H1, Ex H H1 → R v fs H1 → R' v fs H1) : EvN te σ H R' := fun H1 e Q q => h H1 e Q fun v fs H2 e2 f r => q v fs H2 e2 f (k v fs H2 (e.trans e2) r)
/-- o.f, o an instance -/
theorem ev_fld {a C dx : Addr} {fs : List (Str × V)} {f : Str} (ho : Ev te σ H (.ref a)) (h : H a = some (.ins C dx fs)) (c : Cls K C) (n : NoAttr K C f) (l : fs.lookup f = some v) : Ev (tFld K te f) σ H v := fun H1 e Q q =>
  ho H1 e _ fun H2 e2 => ⟨a, C, dx, fs, v, rfl, e2 _ _ (e _ _ h), c, n, l, q H2 e2⟩
theorem rv_in {neg : Bool} {p : Addr} {xs : List V} (h : SqL K H p xs) (hx : flatV x = true) (ha : xs.all flatV = true) (hz : z = .bl (if neg then !inV x xs else inV x xs)) : RV (rIn K neg) x (.ref p) H z := by
  subst hz
  exact rv_inL h hx ha
theorem rv_isN : RV (fun x y H Q => y = .non ∧ Q (.bl (decide (x = .non))) H) x .non H (.bl (decide (x = .non))) := fun H1 _ _ q => ⟨rfl, q H1 (Ex.refl H1)⟩
theorem rv_notN : RV (fun x y H Q => y = .non ∧ Q (.bl (!decide (x = .non))) H) x .non H (.bl (!decide (x = .non))) := fun H1 _ _ q => ⟨rfl, q H1 (Ex.refl H1)⟩
theorem ev_chain {r r' : R2} {a b : Bool} (ha : Ev ta σ H x) (hb : Ev tb σ H y) (hr : RV r x y H (.bl a)) (hc : a = true → Ev te σ H z) (hr' : a = true → RV r' y z H (.bl b)) : Ev (tChain r r' ta tb te) σ H (.bl (a && b)) := fun H1 e Q q =>
  ha H1 e _ fun H2 e2 => hb H2 (e.trans e2) _ fun H3 e3 => hr H3 ((e.trans e2).trans e3) _ fun H4 e4 => ⟨a, rfl, by
    cases a with
    | false => exact q H4 ((e2.trans e3).trans e4)
    | true =>
      refine hc rfl H4 (((e.trans e2).trans e3).trans e4) _ fun H5 e5 => hr' rfl H5 ((((e.trans e2).trans e3).trans e4).trans e5) Q fun H6 e6 => ?_
      exact q H6 ((((e2.trans e3).trans e4).trans e5).trans e6)⟩
theorem rc_isi {t c : Value} {b : Bool} (ty : TyX K H x t) (k : ClsV y c) (e : PySem.W.kitOne K t c = some b) : RC (rIsi K) [x, y] H (.bl b) := fun H1 e1 _ q => ⟨x, y, t, c, b, rfl, k, tyX_go ty e1, e, q H1 (Ex.refl H1)⟩
theorem rc_kind {T : String} {b : Bool} (h : Kind K H x T b) : RC (rIsi K) [x, .ty T] H (.bl b) := by
  obtain ⟨t, ty, e⟩ := h
  exact rc_isi ty (.ty T) e
/-- xs.pop() of a list -/
theorem at_nat {xs : List V} {j : Nat} {v : V} (h : xs[j]? = some v) : atI xs (j : Int) = some v := atI_nat h
end
end OP

namespace OP
open PySem PySem.Spec PyProof.Rows L2 Evl
/-! ### comprehensions -/
section
variable {K : PySem.W.Frag} {σ : L2.St} {H H' : Hp} {ta tb te tl : TE} {t u : TT} {x y z v : V}
/-- [e for x in xs]: the values ys -/
theorem el_map {a : Addr} {xs ys : List V} {j : Nat} {vs : List Nat} (h : Ev tl σ H (.ref a)) (hx : SqL K H a xs) (hz : xs.length ≤ 40000) (hw : ∀ x, wipe ((wipe σ vs).set j (some x)) vs = wipe σ vs) (len : ys.length = xs.length)
    (he : ∀ (i : Nat) (x y : V) H1, Ex H H1 → xs[i]? = some x → ys[i]? = some y → Ev te ((wipe σ vs).set j (some x)) H1 y) : EvL (tLc (iList K tl) (gName j) tYes te vs) σ H ys := by
  have key : given xs.length (fun _ => true) (fun i => ys.getD i .non) = ys := by
    unfold given
    rw [List.filter_eq_self.mpr (by simp), ← len]
    apply List.ext_getElem
    · simp
    · intro i h1 h2
      simp [List.getD_eq_getElem?_getD, h2]
  rw [← key]
  refine el_lcL _ _ h hx hz hw (fun i x H1 e1 hi => ?_) (fun i x H1 e1 hi _ => ?_)
  · intro H2 _ Q q
    exact q H2 (Ex.refl H2)
  · have hl : i < ys.length := by rw [len]; exact (List.getElem?_eq_some_iff.mp hi).1
    refine he i x _ H1 e1 hi ?_
    simp [List.getD_eq_getElem?_getD, hl]
/-- [e for i in range(n)] -/
theorem el_mapR {ta : TA} {ys : List V} {j : Nat} {vs : List Nat} {n : Nat} (h : EvA ta σ H [.int n]) (hn : n ≤ 40000) (hw : ∀ x, wipe ((wipe σ vs).set j (some x)) vs = wipe σ vs) (len : ys.length = n)
    (he : ∀ (i : Nat) (y : V) H1, Ex H H1 → ys[i]? = some y → Ev te ((wipe σ vs).set j (some (.int (i : Int)))) H1 y) : EvL (tLc (iRng1 ta) (gName j) tYes te vs) σ H ys := by
  have key : given (n : Int).toNat (fun _ => true) (fun i => ys.getD i .non) = ys := by
    unfold given
    rw [List.filter_eq_self.mpr (by simp), Int.toNat_natCast, ← len]
    apply List.ext_getElem
    · simp
    · intro i h1 h2
      simp [List.getD_eq_getElem?_getD, h2]
  rw [← key]
  refine el_lcR1 _ _ h (by omega) hw (fun i H1 e1 hi => ?_) (fun i H1 e1 hi _ => ?_)
  · intro H2 _ Q q
    exact q H2 (Ex.refl H2)
  · have hl : i < ys.length := by omega
    refine he i _ H1 e1 ?_
    simp [List.getD_eq_getElem?_getD, hl]
/-- what comprehensions with new things give: F of each turn's value and its new objects -/
def MadeAt (F : Nat → V → List Addr → Hp → Prop) (n : Nat) (D : Addr) (ys : List V) (fss : List (List Addr)) (G : Hp) : Prop :=
  G D = some (.lst ys) ∧ ys.length = n ∧ fss.length = n ∧ ∀ k y fs, ys[k]? = some y → fss[k]? = some fs → F k y fs G
def Made (F : Nat → V → List Addr → Hp → Prop) (n : Nat) : Rn := fun v gs G => ∃ D ys fss, v = .ref D ∧ gs = D :: fss.flatten ∧ MadeAt F n D ys fss G
def Stab (F : Nat → V → List Addr → Hp → Prop) : Prop := ∀ i v fs (G G' : Hp), (∀ p ∈ fs, ∀ o, G p = some o → G' p = some o) → F i v fs G → F i v fs G'
def MadeW (F : Nat → V → List Addr → Hp → Prop) (H1 : Hp) (D : Addr) (i : Nat) (H' : Hp) : Prop := Ex H1 H' ∧ ∃ ys fss, MadeAt F i D ys fss H' ∧ ∀ fs ∈ fss, ∀ p ∈ fs, H1 p = none ∧ p ≠ D
theorem made_turn {F : Nat → V → List Addr → Hp → Prop} (stab : Stab F) {H1 H' : Hp} {D : Addr} {i : Nat} {σ2 : L2.St} (hD : H1 D = none) (p : MadeW F H1 D i H') (hi : i < 50000)
    (he : EvN te σ2 H1 (fun v fs H2 => F i v fs H2)) :
    tYes σ2 H' fun b H3 => if b = true then te σ2 H3 fun y H4 => ∃ acc, H4 D = some (.lst acc) ∧ acc.length < sizeLine ∧ MadeW F H1 D (i + 1) (upd H4 D (.lst (acc ++ [y]))) else MadeW F H1 D (i + 1) H3 := by
  obtain ⟨e1, ys, fss, ⟨hys, len, lfs, hF⟩, hn⟩ := p
  show te σ2 H' _
  refine he H' e1 _ fun v fs H4 e4 f r => ⟨ys, e4 _ _ hys, sz_lt (by omega), (e1.trans e4).mut hD, ys ++ [v], fss ++ [fs], ⟨upd_same, by simp [len], by simp [lfs], fun k y gs hk hg => ?_⟩, fun gs hg q hq => ?_⟩
  · have fD : D ∉ fs := fun z => by rw [f D z] at hys; cases hys
    rcases Nat.lt_or_ge k i with c | c
    · rw [List.getElem?_append_left (by omega)] at hk hg
      refine stab _ _ _ H' _ (fun q hq o ho => ?_) (hF k y gs hk hg)
      rw [upd_ne (hn gs (List.mem_of_getElem? hg) q hq).2]
      exact e4 _ _ ho
    · rw [List.getElem?_append_right (by omega)] at hk hg
      have ek : k = i := by
        have := (List.getElem?_eq_some_iff.mp hk).1
        simp at this
        omega
      subst ek
      simp [len] at hk
      simp [lfs] at hg
      subst hk hg
      refine stab _ _ _ H4 _ (fun q hq o ho => ?_) r
      rw [upd_ne (fun z => fD (by rw [← z]; exact hq))]
      exact ho
  · rcases List.mem_append.mp hg with z | z
    · exact hn gs z q hq
    · rw [List.mem_singleton.mp z] at hq
      exact ⟨fresh_back e1 (f q hq), fun w => by rw [w] at hq; rw [f D hq] at hys; cases hys⟩
theorem made_end {F : Nat → V → List Addr → Hp → Prop} {H0 H1 H' : Hp} {D : Addr} {n : Nat} {Q : VK} (e : Ex H0 H1) (hD : H1 D = none) (p : MadeW F H1 D n H') (q : ∀ v fs H2, Ex H0 H2 → (∀ p ∈ fs, H0 p = none) → Made F n v fs H2 → Q v H2) : Q (.ref D) H' := by
  obtain ⟨e1, ys, fss, m, hn⟩ := p
  refine q _ (D :: fss.flatten) H' (e.trans e1) (fun r hr => ?_) ⟨D, ys, fss, rfl, rfl, m⟩
  rcases List.mem_cons.mp hr with z | z
  · rw [z]; exact fresh_back e hD
  · obtain ⟨fs, h1, h2⟩ := List.mem_flatten.mp z
    exact fresh_back e (hn fs h1 r h2).1
theorem made_zero {F : Nat → V → List Addr → Hp → Prop} {H1 : Hp} {D : Addr} (hD : H1 D = none) : MadeW F H1 D 0 (upd H1 D (.lst [])) :=
  ⟨Ex.new hD, [], [], ⟨upd_same, rfl, rfl, fun k y fs h => by simp at h⟩, fun fs h => nomatch h⟩
/-- [e for x in xs], e a new thing -/
theorem en_map {F : Nat → V → List Addr → Hp → Prop} (stab : Stab F) {a : Addr} {xs : List V} {j : Nat} {vs : List Nat} (h : Ev tl σ H (.ref a)) (hx : SqL K H a xs) (hz : xs.length ≤ 40000) (hw : ∀ x, wipe ((wipe σ vs).set j (some x)) vs = wipe σ vs)
    (he : ∀ (i : Nat) (x : V) H1, Ex H H1 → xs[i]? = some x → EvN te ((wipe σ vs).set j (some x)) H1 (fun v fs H2 => F i v fs H2)) : EvN (tLc (iList K tl) (gName j) tYes te vs) σ H (Made F xs.length) := fun H0 e Q q =>
  h H0 e _ fun H1 e1 => ⟨a, rfl, ⟨xs, ex_l (e.trans e1) hx⟩, fun D hD =>
  lc_list (xs := xs) (MadeW F H1 D) (made_zero hD) (fun i H' _ p => ex_l ((e.trans e1).trans p.1) hx)
    (fun i x H' hi p => ⟨hw x, made_turn stab hD p (by have := (List.getElem?_eq_some_iff.mp hi).1; omega) (he i x H1 (e.trans e1) hi)⟩) (fun H' p => made_end e1 hD p q)⟩
/-- [e for i in range(n)], e a new thing -/
theorem en_mapR {F : Nat → V → List Addr → Hp → Prop} (stab : Stab F) {ta : TA} {j n : Nat} {vs : List Nat} (h : EvA ta σ H [.int n]) (hn : n ≤ 40000) (hw : ∀ x, wipe ((wipe σ vs).set j (some x)) vs = wipe σ vs)
    (he : ∀ (i : Nat) H1, Ex H H1 → i < n → EvN te ((wipe σ vs).set j (some (.int (i : Int)))) H1 (fun v fs H2 => F i v fs H2)) : EvN (tLc (iRng1 ta) (gName j) tYes te vs) σ H (Made F n) := fun H0 e Q q =>
  h H0 e _ fun H1 e1 => ⟨n, rfl, by omega, by omega, fun D hD =>
  lc_range (lo := 0) (n := (n : Int).toNat) (MadeW F H1 D) (made_zero hD) (fun i H' hi p => by
    have e0 : (0 : Int) + (i : Int) = (i : Int) := Int.zero_add _
    show wipe ((wipe σ vs).set j (some (.int ((0 : Int) + (i : Int))))) vs = wipe σ vs ∧ _
    rw [e0]
    exact ⟨hw _, made_turn stab hD p (by omega) (he i H1 (e.trans e1) (by omega))⟩) (fun H' p => made_end e1 hD (by rw [Int.toNat_natCast] at p; exact p) q)⟩
end

/-! ### sorting -/
def srt (l : List Nat) : List Nat := l.mergeSort (fun a b => decide (a ≤ b))
theorem srt_perm (l : List Nat) : (srt l).Perm l := List.mergeSort_perm l _
theorem srt_le (l : List Nat) : (srt l).Pairwise (· ≤ ·) := by
  have := List.pairwise_mergeSort (le := fun a b : Nat => decide (a ≤ b)) (fun a b c h1 h2 => by simp at *; omega) (fun a b => by simp; omega) l
  exact this.imp fun h => by simpa using h
theorem srt_one {l m : List Nat} (p : m.Perm l) (h : m.Pairwise (· ≤ ·)) : m = srt l := List.Perm.eq_of_pairwise (le := (· ≤ ·)) (fun a b _ _ h1 h2 => Nat.le_antisymm h1 h2) h (srt_le l) (p.trans (srt_perm l).symm)
theorem srt_ints {l : List Nat} {ns : List Int} (p : ns.Perm (l.map (fun n : Nat => (n : Int)))) (h : ns.Pairwise (· ≤ ·)) : ns.map V.int = (srt l).map vn := by
  have q : ns = (srt l).map fun n : Nat => (n : Int) := by
    refine List.Perm.eq_of_pairwise (le := (· ≤ ·)) (fun a b _ _ h1 h2 => Int.le_antisymm h1 h2) h ?_ (p.trans ((srt_perm l).map _).symm)
    exact List.pairwise_map.mpr ((srt_le l).imp fun h => by omega)
  rw [q, List.map_map]
  rfl
def leP (a b : Nat × Nat) : Bool := decide (a.1 < b.1) || (decide (a.1 = b.1) && decide (a.2 ≤ b.2))
theorem leP_iff {a b : Nat × Nat} : leP a b = true ↔ a.1 < b.1 ∨ (a.1 = b.1 ∧ a.2 ≤ b.2) := by
  simp [leP]
def srtP (l : List (Nat × Nat)) : List (Nat × Nat) := l.mergeSort leP
theorem srtP_perm (l : List (Nat × Nat)) : (srtP l).Perm l := List.mergeSort_perm l _
theorem srtP_le (l : List (Nat × Nat)) : (srtP l).Pairwise fun a b => leP a b = true :=
  List.pairwise_mergeSort (fun a b c h1 h2 => by rw [leP_iff] at *; omega) (fun a b => by rw [Bool.or_eq_true, leP_iff, leP_iff]; omega) l
theorem leP_anti {a b : Nat × Nat} (h1 : leP a b = true) (h2 : leP b a = true) : a = b := by
  rw [leP_iff] at h1 h2
  exact Prod.ext (by omega) (by omega)
theorem srtP_one {l m : List (Nat × Nat)} (p : m.Perm l) (h : m.Pairwise fun a b => leP a b = true) : m = srtP l :=
  List.Perm.eq_of_pairwise (le := fun a b => leP a b = true) (fun a b _ _ h1 h2 => leP_anti h1 h2) h (srtP_le l) (p.trans (srtP_perm l).symm)
/-- the pair that stands at an address -/
def prAt (H : Hp) (v : V) : Int × Int := match v with
  | .ref a => match H a with
    | some (.tup [.int i, .int j]) => (i, j)
    | _ => (0, 0)
  | _ => (0, 0)
theorem prAt_of {H : Hp} {a : Addr} {p : Nat × Nat} (h : Pr H a p) : prAt H (.ref a) = ((p.1 : Int), (p.2 : Int)) := by
  unfold prAt
  dsimp only
  rw [show H a = _ from h]
theorem prs_pick {H : Hp} : ∀ {as : List Addr} {ps : List (Nat × Nat)}, Paired (Pr H) as ps → ∀ x ∈ as, ∃ p ∈ ps, Pr H x p
  | _, _, .nil, x, h => nomatch h
  | _, _, .cons r t, x, h => by
    rcases List.mem_cons.mp h with e | h
    · subst e; exact ⟨_, List.mem_cons_self, r⟩
    · obtain ⟨p, h1, h2⟩ := prs_pick t x h
      exact ⟨p, List.mem_cons_of_mem _ h1, h2⟩
theorem paired_of {H : Hp} : ∀ {as : List Addr}, (∀ x ∈ as, ∃ p : Nat × Nat, Pr H x p) → ∃ ps, Paired (Pr H) as ps
  | [], _ => ⟨[], .nil⟩
  | a :: as, h => by
    obtain ⟨p, hp⟩ := h a List.mem_cons_self
    obtain ⟨ps, r⟩ := paired_of (as := as) fun x hx => h x (List.mem_cons_of_mem _ hx)
    exact ⟨p :: ps, .cons hp r⟩
theorem pr_inj {H : Hp} {a : Addr} {p q : Nat × Nat} (h1 : Pr H a p) (h2 : Pr H a q) : p = q := by
  have e : some (HO.tup [vn p.1, vn p.2]) = some (HO.tup [vn q.1, vn q.2]) := h1.symm.trans h2
  injection e with e
  injection e with e
  injection e with e1 e2
  injection e2 with e2 _
  injection e1 with e1
  injection e2 with e2
  exact Prod.ext (by omega) (by omega)
/-- two lists of pairs at addresses that are one another's rearrangement -/
theorem prs_perm {H : Hp} {as bs : List Addr} {ps qs : List (Nat × Nat)} (h : as.Perm bs) (x : Paired (Pr H) as ps) (y : Paired (Pr H) bs qs) : ps.Perm qs := by
  have key : ∀ {as : List Addr} {ps : List (Nat × Nat)}, Paired (Pr H) as ps → as.map (fun a => prAt H (.ref a)) = ps.map fun p => ((p.1 : Int), (p.2 : Int)) := by
    intro as ps h
    induction h with
    | nil => rfl
    | cons r t ih => rw [List.map_cons, List.map_cons, ih, prAt_of r]
  have q := h.map (fun a => prAt H (.ref a))
  rw [key x, key y] at q
  have back := q.map (fun z : Int × Int => (z.1.toNat, z.2.toNat))
  rw [List.map_map, List.map_map] at back
  have idf : ((fun z : Int × Int => (z.1.toNat, z.2.toNat)) ∘ fun p : Nat × Nat => ((p.1 : Int), (p.2 : Int))) = id := by
    funext p
    simp [Function.comp]
  rw [idf, List.map_id, List.map_id] at back
  exact back
theorem refs_perm {as : List Addr} : ∀ {ys : List V}, ys.Perm (as.map V.ref) → ∃ bs : List Addr, ys = bs.map V.ref ∧ bs.Perm as := fun {ys} h => by
  have all : ∀ y ∈ ys, ∃ b, y = V.ref b := fun y hy => by
    obtain ⟨b, _, e⟩ := List.mem_map.mp (h.mem_iff.mp hy)
    exact ⟨b, e.symm⟩
  have ex : ∀ (ys : List V), (∀ y ∈ ys, ∃ b, y = V.ref b) → ∃ bs : List Addr, ys = bs.map V.ref := fun ys => by
    induction ys with
    | nil => intro _; exact ⟨[], rfl⟩
    | cons y ys ih =>
      intro hy
      obtain ⟨b, rfl⟩ := hy y List.mem_cons_self
      obtain ⟨bs, rfl⟩ := ih fun z hz => hy z (List.mem_cons_of_mem _ hz)
      exact ⟨b :: bs, rfl⟩
  obtain ⟨bs, e⟩ := ex ys all
  refine ⟨bs, e, ?_⟩
  rw [e] at h
  let g : V → Addr := fun v => match v with | .ref a => a | _ => 0
  have q := h.map g
  rw [List.map_map, List.map_map] at q
  simpa [g, Function.comp_def] using q
section
variable {K : PySem.W.Frag} {σ : L2.St} {H H' : Hp} {ta tb te tl : TE}
/-- sorted(xs), xs a list of places -/
theorem el_sorted {a : Addr} {l : List Nat} {ta : TA} (h : EvA ta σ H [.ref a]) (hl : SqL K H a (l.map vn)) : EvL (tCB (rSortedI K) ta) σ H ((srt l).map vn) := fun H0 e Q q => h H0 e _ fun H1 e1 => by
  refine ⟨a, l.map (fun n : Nat => (n : Int)), rfl, ?_, fun ns p pm pw hp => ?_⟩
  · have := ex_l (e.trans e1) hl
    rwa [List.map_map]
  · rw [srt_ints pm pw]
    exact q p _ (fresh_back e1 hp) (e1.trans (Ex.new hp)) upd_same
/-- sorted(ps), ps a list of pairs -/
theorem en_sortedP {a : Addr} {ps : List (Nat × Nat)} {ta : TA} (h : EvA ta σ H [.ref a]) (hl : Prs H a ps) : EvN (tCB (rSortedPO K) ta) σ H (fun v fs H2 => ∃ p bs, v = .ref p ∧ fs = [p] ∧ H2 p = some (.lst (bs.map V.ref)) ∧ Paired (Pr H) bs (srtP ps)) := fun H0 e Q q => h H0 e _ fun H1 e1 => by
  obtain ⟨as, h1, h2⟩ := hl
  refine ⟨a, as.map V.ref, prAt H1, rfl, ex_l (e.trans e1) (sq_of h1), fun x hx => ?_, fun ys p hs st hp => ?_⟩
  · obtain ⟨b, hb, rfl⟩ := List.mem_map.mp hx
    obtain ⟨r, _, hr⟩ := prs_pick h2 b hb
    have z : Pr H1 b r := (e.trans e1) _ _ hr
    exact ⟨b, rfl, by rw [prAt_of z]; exact z⟩
  · obtain ⟨bs, rfl, pm⟩ := refs_perm st.perm
    obtain ⟨qs, hq⟩ := paired_of (H := H) (as := bs) fun x hx => by
      obtain ⟨r, _, hr⟩ := prs_pick h2 x (pm.mem_iff.mp hx)
      exact ⟨r, hr⟩
    have sorted : qs.Pairwise fun a b => leP a b = true := by
      have key : ∀ {bs : List Addr} {qs : List (Nat × Nat)}, Paired (Pr H) bs qs → SrtO.Srtd (ltP (prAt H1)) (bs.map V.ref) → qs.Pairwise fun a b => leP a b = true := by
        intro bs qs hq
        induction hq with
        | nil => intro _; exact .nil
        | @cons b q bs qs r t ih =>
          intro hs
          rw [List.map_cons] at hs
          obtain ⟨u1, u2⟩ := List.pairwise_cons.mp hs
          refine List.pairwise_cons.mpr ⟨fun q' hq' => ?_, ih u2⟩
          obtain ⟨i, hi⟩ := List.getElem?_of_mem hq'
          obtain ⟨b', hb', r'⟩ := paired_get t hi
          have := u1 (.ref b') (List.mem_map.mpr ⟨b', List.mem_of_getElem? hb', rfl⟩)
          have z : Pr H1 b q := (e.trans e1) _ _ r
          have z' : Pr H1 b' q' := (e.trans e1) _ _ r'
          have w := SrtO.lexB_no.mp this
          rw [prAt_of z, prAt_of z'] at w
          rw [leP_iff]
          dsimp only at w
          omega
      exact key hq hs
    have e3 : qs = srtP ps := srtP_one (prs_perm pm hq h2) sorted
    rw [e3] at hq
    exact q _ [p] _ (e1.trans (Ex.new hp)) (fun r hr => by rw [List.mem_singleton.mp hr]; exact fresh_back e1 hp) ⟨p, bs, rfl, rfl, upd_same, hq⟩
end
end OP

/-! Nets, plainly. -/
namespace OP
open PySem PySem.Spec PyProof.Rows L2 Evl
structure Web where
  size : Nat
  near : List (List Nat)
def nearOf (n : Nat) (ps : List (Nat × Nat)) (i : Nat) : List Nat := (List.range n).filter fun j => ps.contains (i, j) || ps.contains (j, i)
def webOf (n : Nat) (ps : List (Nat × Nat)) : Web := ⟨n, (List.range n).map (nearOf n ps)⟩
def TiesOk (n : Nat) (ps : List (Nat × Nat)) : Prop := ∀ p ∈ ps, p.1 < p.2 ∧ p.2 < n
/-- what a row has got behind the ties qs -/
def rowBy (j : Nat) (qs : List (Nat × Nat)) : List Nat := qs.filterMap fun p => if p.1 = j then some p.2 else if p.2 = j then some p.1 else none
theorem rowBy_snoc (j : Nat) (qs : List (Nat × Nat)) (p : Nat × Nat) : rowBy j (qs ++ [p]) = rowBy j qs ++ (if p.1 = j then [p.2] else if p.2 = j then [p.1] else []) := by
  unfold rowBy
  rw [List.filterMap_append]
  congr 1
  rw [List.filterMap_cons, List.filterMap_nil]
  split <;> rename_i h <;> split at h <;> simp_all
theorem rowBy_len (j : Nat) (qs : List (Nat × Nat)) : (rowBy j qs).length ≤ qs.length := List.length_filterMap_le _ _
theorem mem_rowBy {j x : Nat} {qs : List (Nat × Nat)} (h : ∀ p ∈ qs, p.1 < p.2) : x ∈ rowBy j qs ↔ (j, x) ∈ qs ∨ (x, j) ∈ qs := by
  unfold rowBy
  rw [List.mem_filterMap]
  constructor
  · rintro ⟨⟨a, b⟩, hp, e⟩
    dsimp only at e
    split at e
    · rename_i c
      cases e
      rw [c] at hp
      exact .inl hp
    · split at e
      · rename_i c
        cases e
        rw [c] at hp
        exact .inr hp
      · cases e
  · rintro (hp | hp)
    · exact ⟨_, hp, by simp⟩
    · refine ⟨_, hp, ?_⟩
      have := h _ hp
      dsimp only at this ⊢
      rw [if_neg (by omega), if_pos rfl]
theorem rowBy_nodup {j : Nat} {qs : List (Nat × Nat)} (h : ∀ p ∈ qs, p.1 < p.2) (nd : qs.Nodup) : (rowBy j qs).Nodup := by
  unfold rowBy List.Nodup
  rw [List.pairwise_filterMap]
  refine List.Pairwise.imp_of_mem (fun {p q} hp hq hne x hx y hy e => ?_) nd
  subst e
  have h1 := h p hp
  have h2 := h q hq
  have key : ∀ r : Nat × Nat, (if r.1 = j then some r.2 else if r.2 = j then some r.1 else none) = some x → (r.1 = j ∧ r.2 = x) ∨ (r.2 = j ∧ r.1 = x) := fun r e => by
    split at e
    · rename_i c
      exact .inl ⟨c, Option.some.inj e⟩
    · split at e
      · rename_i c
        exact .inr ⟨c, Option.some.inj e⟩
      · cases e
  have k1 := key p hx
  have k2 := key q hy
  exact hne (Prod.ext (by omega) (by omega))
theorem mem_nearOf {n : Nat} {ps : List (Nat × Nat)} {i j : Nat} : j ∈ nearOf n ps i ↔ j < n ∧ ((i, j) ∈ ps ∨ (j, i) ∈ ps) := by
  unfold nearOf
  rw [List.mem_filter, List.mem_range, Bool.or_eq_true, List.contains_iff_mem, List.contains_iff_mem]
theorem nearOf_le (n : Nat) (ps : List (Nat × Nat)) (i : Nat) : (nearOf n ps i).Pairwise (· < ·) := List.Pairwise.filter _ List.pairwise_lt_range
theorem nearOf_nodup (n : Nat) (ps : List (Nat × Nat)) (i : Nat) : (nearOf n ps i).Nodup := (nearOf_le n ps i).imp fun h => Nat.ne_of_lt h
theorem row_is {n : Nat} {ps qs : List (Nat × Nat)} (ok : TiesOk n ps) (nd : ps.Nodup) (pm : qs.Perm ps) (j : Nat) : srt (rowBy j qs) = nearOf n ps j := by
  have okq : ∀ p ∈ qs, p.1 < p.2 := fun p hp => (ok p (pm.mem_iff.mp hp)).1
  refine (srt_one ?_ ((nearOf_le n ps j).imp fun h => Nat.le_of_lt h)).symm
  refine (List.perm_ext_iff_of_nodup (nearOf_nodup n ps j) (rowBy_nodup okq (pm.nodup_iff.mpr nd))).mpr fun x => ?_
  rw [mem_nearOf, mem_rowBy okq, pm.mem_iff, pm.mem_iff]
  constructor
  · exact fun h => h.2
  · intro h
    refine ⟨?_, h⟩
    rcases h with h | h
    · exact (ok _ h).2
    · have := ok _ h
      dsimp only at this
      omega
/-! ### a net in the heap -/
def netF (n : Nat) (l : Addr) : List (Str × V) := [("size", vn n), ("near", .ref l)]
theorem netF_size (n : Nat) (l : Addr) : (netF n l).lookup ("size" : Str) = some (vn n) := by
  unfold netF
  rw [List.lookup_cons_self]
theorem netF_near (n : Nat) (l : Addr) : (netF n l).lookup ("near" : Str) = some (.ref l) := by
  unfold netF
  rw [List.lookup_cons, show (("near" : Str) == "size") = false by decide +kernel]
  dsimp only
  rw [List.lookup_cons_self]
theorem netF_no (n : Nat) (l : Addr) {m : Str} (h1 : (m == ("size" : Str)) = false) (h2 : (m == ("near" : Str)) = false) : (netF n l).lookup m = none := by
  unfold netF
  rw [List.lookup_cons, h1]
  dsimp only
  rw [List.lookup_cons, h2]
  rfl
theorem str_sn : ¬ (("size" : Str) = "near") := by decide +kernel
theorem put_size (v : V) : putF "size" v [] = ([("size", v)] : List (Str × V)) := rfl
theorem put_near (n : Nat) (l : Addr) : putF "near" (.ref l) ([("size", vn n)] : List (Str × V)) = netF n l := by
  show (if ("size" : Str) = "near" then _ else (("size" : Str), vn n) :: putF "near" (V.ref l) []) = _
  rw [if_neg str_sn]
  rfl
theorem put_near2 (n : Nat) (l m : Addr) : putF "near" (.ref m) (netF n l) = netF n m := by
  show (if ("size" : Str) = "near" then _ else (("size" : Str), vn n) :: (if ("near" : Str) = "near" then (("near" : Str), V.ref m) :: [] else _)) = _
  rw [if_neg str_sn, if_pos rfl]
  rfl
/-- a Net of the class at C stands at a -/
def NetAt (C : Addr) (H : Hp) (a : Addr) (W : Web) : Prop := ∃ dx l, H a = some (.ins C dx (netF W.size l)) ∧ Rows H l W.near
theorem NetAt.go {C : Addr} {H H' : Hp} {a : Addr} {W : Web} (x : NetAt C H a W) (s : Ex H H') : NetAt C H' a W := by
  obtain ⟨dx, l, h, r⟩ := x
  exact ⟨dx, l, s _ _ h, r.go s⟩
/-- refs of what a comprehension made, each a list of places -/
theorem rows_of {f : Nat → List Nat} : ∀ {ys : List V} {G : Hp}, (∀ i y, ys[i]? = some y → ∃ b, y = .ref b ∧ Ints G b (f i)) → ∃ as : List Addr, ys = as.map V.ref ∧ Paired (fun b r => Ints G b r) as ((List.range ys.length).map f)
  | [], _, _ => ⟨[], rfl, .nil⟩
  | y :: ys, G, h => by
    obtain ⟨b, rfl, hb⟩ := h 0 y rfl
    obtain ⟨as, e, p⟩ := rows_of (f := fun i => f (i + 1)) (ys := ys) (G := G) fun i y hy => h (i + 1) y (by simpa using hy)
    refine ⟨b :: as, by rw [e]; rfl, ?_⟩
    rw [List.length_cons, List.range_succ_eq_map, List.map_cons, List.map_map]
    exact .cons hb p
end OP

namespace OP
open PySem PySem.Spec PyProof.Rows L2 Evl
section
variable {K : PySem.W.Frag} {σ : L2.St} {H H' : Hp} {ta tb te tv tl : TE} {t u : TT} {x y z v : V} {D : Ends} {tu tw tz : TS} {g : TG} {R : Rn}
/-- [[] for x in range(n)]: new empty lists, all apart -/
def Blank (n : Nat) : Rn := fun v gs G => ∃ (D : Addr) (as : List Addr), v = .ref D ∧ gs = D :: as ∧ (D :: as).Nodup ∧ as.length = n ∧ G D = some (.lst (as.map V.ref)) ∧ ∀ b ∈ as, G b = some (.lst [])
theorem en_blank {ta : TA} {j n : Nat} {vs : List Nat} (h : EvA ta σ H [.int n]) (hn : n ≤ 40000) (hw : ∀ x, wipe ((wipe σ vs).set j (some x)) vs = wipe σ vs) : EvN (tLc (iRng1 ta) (gName j) tYes (tLst tNil) vs) σ H (Blank n) := fun H0 e Q q =>
  h H0 e _ fun H1 e1 => ⟨n, rfl, by omega, by omega, fun D hD =>
  lc_range (lo := 0) (n := (n : Int).toNat) (fun i H' => Ex H1 H' ∧ ∃ as : List Addr, as.length = i ∧ (D :: as).Nodup ∧ H' D = some (.lst (as.map V.ref)) ∧ ∀ b ∈ as, H' b = some (.lst []) ∧ H1 b = none)
    ⟨Ex.new hD, [], rfl, by simp, upd_same, fun b hb => nomatch hb⟩
    (fun i H' hi ⟨e2, as, len, nd, hd, hb⟩ => ⟨hw _, by
      show (0 ≤ sizeLine) ∧ ∀ p, H' p = none → ∃ acc, upd H' p (.lst []) D = some (.lst acc) ∧ acc.length < sizeLine ∧ _
      refine ⟨Nat.zero_le _, fun p hp => ?_⟩
      have pD : p ≠ D := fun z => by rw [z, hd] at hp; cases hp
      have pas : p ∉ as := fun z => by rw [(hb p z).1] at hp; cases hp
      have Das : D ∉ as := (List.nodup_cons.mp nd).1
      refine ⟨as.map V.ref, by rw [upd_ne pD.symm]; exact hd, sz_lt (by rw [List.length_map]; omega), (e2.trans (Ex.new hp)).mut hD, as ++ [p], by simp [len], ?_, ?_, fun b hb' => ?_⟩
      · refine List.nodup_cons.mpr ⟨fun z => ?_, ?_⟩
        · rcases List.mem_append.mp z with z | z
          · exact Das z
          · exact pD (List.mem_singleton.mp z).symm
        · exact List.nodup_append.mpr ⟨(List.nodup_cons.mp nd).2, by simp, fun a ha b hb z => pas (by rw [List.mem_singleton.mp hb] at z; rw [← z]; exact ha)⟩
      · rw [upd_same, List.map_append]
        rfl
      · rcases List.mem_append.mp hb' with z | z
        · have bD : b ≠ D := fun w => Das (by rw [← w]; exact z)
          have bp : b ≠ p := fun w => pas (by rw [← w]; exact z)
          exact ⟨by rw [upd_ne bD, upd_ne bp]; exact (hb b z).1, (hb b z).2⟩
        · have z := List.mem_singleton.mp z
          subst z
          exact ⟨by rw [upd_ne pD, upd_same], fresh_back e2 hp⟩⟩)
    (fun H' ⟨e2, as, len, nd, hd, hb⟩ => q _ (D :: as) H' (e1.trans e2) (fun r hr => by
      rcases List.mem_cons.mp hr with z | z
      · rw [z]; exact fresh_back e1 hD
      · exact fresh_back e1 (hb r z).2) ⟨D, as, rfl, rfl, nd, by rw [len, Int.toNat_natCast], hd, fun b hb' => (hb b hb').1⟩)⟩
/-- o.f = e -/
theorem q_fld {a C dx : Addr} {fs : List (Str × V)} {f : Str} (h : Ev tv σ H v) (ho : Ev ta σ H (.ref a)) (ha : H a = some (.ins C dx fs)) (c : Cls K C) (n : NoAttr K C f) (len : fs.length < 1000)
    (k : ∀ H1, Ex H H1 → tz D σ (upd H1 a (.ins C dx (putF f v fs)))) : tSeq (sFld K ta tv f) tz D σ H :=
  h H (Ex.refl H) _ fun H1 e1 => ho H1 e1 _ fun H2 e2 => ⟨a, C, dx, fs, rfl, e2 _ _ (e1 _ _ ha), c, n, len, k H2 (e1.trans e2)⟩
theorem s_fld {a C dx : Addr} {fs : List (Str × V)} {f : Str} (h : Ev tv σ H v) (ho : Ev ta σ H (.ref a)) (ha : H a = some (.ins C dx fs)) (c : Cls K C) (n : NoAttr K C f) (len : fs.length < 1000)
    (k : ∀ H1, Ex H H1 → D.nx σ (upd H1 a (.ins C dx (putF f v fs)))) : sFld K ta tv f D σ H :=
  h H (Ex.refl H) _ fun H1 e1 => ho H1 e1 _ fun H2 e2 => ⟨a, C, dx, fs, rfl, e2 _ _ (e1 _ _ ha), c, n, len, k H2 (e1.trans e2)⟩
theorem q_fldN {a C dx : Addr} {fs : List (Str × V)} {f : Str} (h : EvN tv σ H R) (ho : Ev ta σ H (.ref a)) (ha : H a = some (.ins C dx fs)) (c : Cls K C) (n : NoAttr K C f) (len : fs.length < 1000)
    (k : ∀ v gs H1, Ex H H1 → (∀ p ∈ gs, H p = none) → R v gs H1 → ∀ H2, Ex H1 H2 → tz D σ (upd H2 a (.ins C dx (putF f v fs)))) : tSeq (sFld K ta tv f) tz D σ H :=
  h H (Ex.refl H) _ fun v gs H1 e1 fr r => ho H1 e1 _ fun H2 e2 => ⟨a, C, dx, fs, rfl, e2 _ _ (e1 _ _ ha), c, n, len, k v gs H1 e1 fr r H2 e2⟩
theorem s_fldN {a C dx : Addr} {fs : List (Str × V)} {f : Str} (h : EvN tv σ H R) (ho : Ev ta σ H (.ref a)) (ha : H a = some (.ins C dx fs)) (c : Cls K C) (n : NoAttr K C f) (len : fs.length < 1000)
    (k : ∀ v gs H1, Ex H H1 → (∀ p ∈ gs, H p = none) → R v gs H1 → ∀ H2, Ex H1 H2 → D.nx σ (upd H2 a (.ins C dx (putF f v fs)))) : sFld K ta tv f D σ H :=
  h H (Ex.refl H) _ fun v gs H1 e1 fr r => ho H1 e1 _ fun H2 e2 => ⟨a, C, dx, fs, rfl, e2 _ _ (e1 _ _ ha), c, n, len, k v gs H1 e1 fr r H2 e2⟩
/-- len(set(ps)) < len(ps) -/
theorem zip_keys : ∀ {as : List Addr} {ps : List (Nat × Nat)}, Paired (Pr H) as ps → ∃ ks : List (Addr × List Int), ks.map (·.1) = as ∧ ks.map (·.2) = ps.map (fun p => [(p.1 : Int), (p.2 : Int)]) ∧ ∀ k ∈ ks, H k.1 = some (.tup (k.2.map V.int))
  | _, _, .nil => ⟨[], rfl, rfl, fun _ h => nomatch h⟩
  | _, _, @Paired.cons _ _ _ a p as ps r t => by
    obtain ⟨ks, h1, h2, h3⟩ := zip_keys t
    refine ⟨(a, [(p.1 : Int), (p.2 : Int)]) :: ks, by rw [List.map_cons, h1], by rw [List.map_cons, h2]; rfl, fun k hk => ?_⟩
    rcases List.mem_cons.mp hk with e | hk
    · subst e; exact r
    · exact h3 k hk
theorem nodup_keys {ps : List (Nat × Nat)} : (ps.map (fun p => [(p.1 : Int), (p.2 : Int)])).Nodup ↔ ps.Nodup := by
  unfold List.Nodup
  rw [List.pairwise_map]
  constructor
  · exact fun h => h.imp fun hn e => hn (by rw [e])
  · refine fun h => h.imp fun {a b} hn e => hn ?_
    injection e with e1 e2
    injection e2 with e2 _
    exact Prod.ext (by omega) (by omega)
theorem et_dup {l : Addr} {ps : List (Nat × Nat)} (h : Ev te σ H (.ref l)) (hl : Prs H l ps) (few : ps.length < 1000) (hb : Ev tb σ H (.int ps.length)) :
    EvT (tTest (tOp (rI0 fun i j => .bl (decide (i < j))) (tLenSetT K te) tb)) σ H (!decide ps.Nodup) := fun H1 e1 Q q => h H1 e1 _ fun H2 e2 => by
  obtain ⟨as, h1, h2⟩ := hl
  obtain ⟨ks, k1, k2, k3⟩ := zip_keys h2
  have len : ks.length = ps.length := by rw [← List.length_map (f := (·.1)), k1, paired_len h2]
  refine ⟨l, ks, rfl, ex_l (e1.trans e2) (sq_of (by rw [← k1, List.map_map] at h1; exact h1)), fun k hk => ex_t (e1.trans e2) (st_of (k3 k hk)), by omega, fun n hn hiff => ?_⟩
  refine hb H2 (e1.trans e2) _ fun H3 e3 => ⟨_, _, rfl, rfl, _, rfl, ?_⟩
  rw [k2, nodup_keys, len] at hiff
  have : decide ((n : Int) < (ps.length : Nat)) = !decide ps.Nodup := by
    by_cases c : ps.Nodup
    · have := hiff.mpr c
      simp [c]
      omega
    · have : n ≠ ps.length := fun z => c (hiff.mp z)
      simp [c]
      omega
  rw [this]
  exact q H3 (e2.trans e3)
/-- all([..]) of tests -/
theorem ev_all {bs : List Bool} (h : EvL te σ H (bs.map V.bl)) : Ev (tCB (rAll K) (tCons te tNil)) σ H (.bl (bs.all id)) := fun H1 e Q q =>
  h H1 e _ fun p H2 hp e2 h2 => ⟨p, bs, rfl, sq_of h2, q H2 e2⟩
theorem ev_any {bs : List Bool} (h : EvL te σ H (bs.map V.bl)) : Ev (tCB (rAny K) (tCons te tNil)) σ H (.bl (bs.any id)) := fun H1 e Q q =>
  h H1 e _ fun p H2 hp e2 h2 => ⟨p, bs, rfl, sq_of h2, q H2 e2⟩
theorem ev_lenP {a : Addr} {ps : List (Nat × Nat)} (h : Ev te σ H (.ref a)) (hl : Prs H a ps) : Ev (tCB (rLenS K) (tCons te tNil)) σ H (.int (ps.length : Int)) := by
  obtain ⟨as, h1, h2⟩ := hl
  have := ev_len (K := K) h (sq_of h1)
  rw [List.length_map, paired_len h2] at this
  exact this
end
theorem pe_fldB {X : Cx} {K : PySem.W.Frag} {e : Expr} {ta : TE} {f : Str} {pos : Pos} (hk : X.K = K) (he : PE X e ta) (hb : attributeBase e f X.env (eval e X.env) = eval e X.env) : PE X (.Attribute e f pos) (tFld K ta f) := by
  subst hk
  exact pe_fld he hb
end OP

/-! Nets, plainly: their ties told, more. -/
namespace OP
open PySem PySem.Spec PyProof.Rows L2 Evl
structure WebOk (W : Web) : Prop where
  small : W.size ≤ 40
  len : W.near.length = W.size
  row : ∀ r ∈ W.near, r.length ≤ W.size ∧ ∀ x ∈ r, x < W.size
theorem webOk_of {n : Nat} (ps : List (Nat × Nat)) (h : n ≤ 40) : WebOk (webOf n ps) := by
  refine ⟨h, by simp [webOf], fun r hr => ?_⟩
  obtain ⟨i, _, rfl⟩ := List.mem_map.mp hr
  refine ⟨?_, fun x hx => (mem_nearOf.mp hx).1⟩
  unfold nearOf
  have := List.length_filter_le (fun j => ps.contains (i, j) || ps.contains (j, i)) (List.range n)
  rw [List.length_range] at this
  exact this
def upOf (W : Web) (i : Nat) : List (Nat × Nat) := ((W.near.getD i []).filter fun j => decide (i < j)).map fun j => (i, j)
def tiesOf (W : Web) : List (Nat × Nat) := (List.range W.size).flatMap (upOf W)
theorem near_web {n : Nat} (ps : List (Nat × Nat)) {i : Nat} (h : i < n) : (webOf n ps).near.getD i [] = nearOf n ps i := by
  unfold webOf
  rw [List.getD_eq_getElem?_getD]
  simp [h]
theorem near_web? {n : Nat} (ps : List (Nat × Nat)) {i : Nat} (h : i < n) : (webOf n ps).near[i]? = some (nearOf n ps i) := by
  unfold webOf
  simp [h]
theorem mem_tiesOf {n : Nat} {ps : List (Nat × Nat)} (ok : TiesOk n ps) {p : Nat × Nat} : p ∈ tiesOf (webOf n ps) ↔ p ∈ ps := by
  unfold tiesOf
  rw [List.mem_flatMap]
  constructor
  · rintro ⟨i, hi, hp⟩
    have hi : i < n := List.mem_range.mp hi
    unfold upOf at hp
    rw [near_web ps hi] at hp
    obtain ⟨j, hj, rfl⟩ := List.mem_map.mp hp
    obtain ⟨h1, h2⟩ := List.mem_filter.mp hj
    rcases (mem_nearOf.mp h1).2 with z | z
    · exact z
    · have := (ok _ z).1
      dsimp only at this
      simp at h2
      omega
  · intro hp
    obtain ⟨h1, h2⟩ := ok p hp
    refine ⟨p.1, List.mem_range.mpr (by show p.1 < n; omega), ?_⟩
    unfold upOf
    rw [near_web ps (by omega)]
    exact List.mem_map.mpr ⟨p.2, List.mem_filter.mpr ⟨mem_nearOf.mpr ⟨h2, .inl hp⟩, decide_eq_true h1⟩, rfl⟩
theorem upOf_fst {W : Web} {i : Nat} {p : Nat × Nat} (h : p ∈ upOf W i) : p.1 = i := by
  obtain ⟨j, _, rfl⟩ := List.mem_map.mp h
  rfl
theorem tiesOf_sorted (n : Nat) (ps : List (Nat × Nat)) : (tiesOf (webOf n ps)).Pairwise fun a b => a.1 < b.1 ∨ (a.1 = b.1 ∧ a.2 < b.2) := by
  unfold tiesOf
  show ((List.range n).flatMap _).Pairwise _
  rw [List.pairwise_flatMap]
  refine ⟨fun i hi => ?_, ?_⟩
  · unfold upOf
    rw [near_web ps (List.mem_range.mp hi), List.pairwise_map]
    exact ((nearOf_le n ps i).filter _).imp fun h => .inr ⟨rfl, h⟩
  · refine (List.pairwise_lt_range (n := n)).imp fun {i j} hij p hp q hq => .inl ?_
    rw [upOf_fst hp, upOf_fst hq]
    exact hij
theorem tiesOf_web {n : Nat} {ps : List (Nat × Nat)} (ok : TiesOk n ps) (nd : ps.Nodup) : tiesOf (webOf n ps) = srtP ps := by
  have s := tiesOf_sorted n ps
  have nd' : (tiesOf (webOf n ps)).Nodup := s.imp fun {a b} h e => by
    subst e
    omega
  exact srtP_one ((List.perm_ext_iff_of_nodup nd' nd).mpr fun p => mem_tiesOf ok) (s.imp fun h => leP_iff.mpr (h.imp id fun z => ⟨z.1, Nat.le_of_lt z.2⟩))
theorem upOf_len {W : Web} (ok : WebOk W) (i : Nat) : (upOf W i).length ≤ 40 := by
  unfold upOf
  rw [List.length_map]
  refine Nat.le_trans (List.length_filter_le _ _) ?_
  rw [List.getD_eq_getElem?_getD]
  cases h : W.near[i]? with
  | none => exact Nat.zero_le _
  | some r => exact Nat.le_trans (ok.row r (List.mem_of_getElem? h)).1 ok.small
theorem flat_len {α : Type} {f : Nat → List α} {m : Nat} (h : ∀ i, (f i).length ≤ m) (n : Nat) : ((List.range n).flatMap f).length ≤ n * m := by
  induction n with
  | zero => simp
  | succ n ih =>
    rw [List.range_succ, List.flatMap_append, List.length_append]
    have := h n
    simp only [List.flatMap_cons, List.flatMap_nil, List.append_nil]
    rw [Nat.succ_mul]
    omega
/-- the rows of a net in the heap -/
theorem Rows.row {H : Hp} {l : Addr} {rs : List (List Nat)} (h : Rows H l rs) {i : Nat} {r : List Nat} (hr : rs[i]? = some r) : ∃ (as : List Addr) (b : Addr), H l = some (.lst (as.map V.ref)) ∧ as[i]? = some b ∧ Ints H b r := by
  obtain ⟨as, h1, h2⟩ := h
  obtain ⟨b, hb, hi⟩ := paired_get h2 hr
  exact ⟨as, b, h1, hb, hi⟩
section
variable {K : PySem.W.Frag} {σ : L2.St} {H H' : Hp} {ta tb te tv tl : TE} {t u : TT} {x y z v : V} {D : Ends} {tu tw tz : TS} {g : TG} {R : Rn}
/-- net.near[i]: the row's address -/
theorem ev_near {C a : Addr} {W : Web} {i : Nat} {r : List Nat} (hn : NetAt C H a W) (cl : Cls K C) (na : NoAttr K C "near") (ho : Ev ta σ H (.ref a)) (hi : Ev tb σ H (vn i)) (hr : W.near[i]? = some r) :
    ∃ b, Ints H b r ∧ Ev (tOp (rIxL K) (tFld K ta "near") tb) σ H (.ref b) := by
  obtain ⟨dx, l, h, rw_⟩ := hn
  obtain ⟨as, b, h1, h2, h3⟩ := rw_.row hr
  exact ⟨b, h3, ev_op (ev_fld ho h cl na (netF_near _ _)) hi (rv_ixL (sq_of h1) (atI_nat (map_get' h2)))⟩
theorem ev_size {C a : Addr} {W : Web} (hn : NetAt C H a W) (cl : Cls K C) (na : NoAttr K C "size") (ho : Ev ta σ H (.ref a)) : Ev (tFld K ta "size") σ H (vn W.size) := by
  obtain ⟨dx, l, h, _⟩ := hn
  exact ev_fld ho h cl na (netF_size _ _)
end
end OP

/-! Comparing data; values of which a predicate tells. -/
namespace OP
open PySem PySem.Spec PyProof.Rows L2 Evl
theorem dec_int (i j : Int) : decide (V.int i = V.int j) = decide (i = j) := by
  by_cases h : i = j <;> simp [h]
theorem dec_nat (i j : Nat) : decide (vn i = vn j) = decide (i = j) := by
  rw [dec_int]
  by_cases h : i = j
  · simp [h]
  · have : ¬ (i : Int) = (j : Int) := by omega
    simp [h, this]
/-! ### data -/
theorem eqvAll_map {α : Type} [DecidableEq α] {f : α → PyData} (h : ∀ x y, PyData.eqv (f x) (f y) = decide (x = y)) : ∀ xs ys : List α, PyData.eqvAll (xs.map f) (ys.map f) = decide (xs = ys)
  | [], [] => by simp [PyData.eqvAll]
  | [], _ :: _ => by simp [PyData.eqvAll]
  | _ :: _, [] => by simp [PyData.eqvAll]
  | x :: xs, y :: ys => by
    simp only [List.map_cons, PyData.eqvAll]
    rw [h, eqvAll_map h xs ys]
    by_cases e : x = y
    · subst e
      by_cases e2 : xs = ys <;> simp [e2]
    · simp [e]
theorem lay_map {α : Type} {f : α → PyData} (h : ∀ x, (f x).canLay0 = true) : ∀ xs : List α, PyData.canLayAll0 (xs.map f) = true
  | [] => by simp [PyData.canLayAll0]
  | x :: xs => by simp [PyData.canLayAll0, h x, lay_map h xs]
theorem depth_map {α : Type} {f : α → PyData} {m : Nat} (h : ∀ x, (f x).depth ≤ m) : ∀ xs : List α, PyData.depthAll (xs.map f) ≤ m
  | [] => by simp [PyData.depthAll]
  | x :: xs => by
    have h1 := depth_map h xs
    have h2 := h x
    simp only [List.map_cons, PyData.depthAll]
    omega
theorem shaped_list {α : Type} {f : α → PyData} {m : Nat} (hm : m ≤ 60) (h : ∀ x, (f x).canLay0 = true) (hd : ∀ x, (f x).depth ≤ m) (xs : List α) : SeqAt.shaped (.list (xs.map f)) = true := by
  have h1 := depth_map hd xs
  have h2 : PyData.depth (.list (xs.map f)) ≤ 64 := by
    simp only [PyData.depth]
    omega
  show (PyData.canLay0 (.list (xs.map f)) && decide (PyData.depth (.list (xs.map f)) ≤ 64)) = true
  rw [Bool.and_eq_true]
  exact ⟨by simp only [PyData.canLay0]; exact lay_map h xs, decide_eq_true h2⟩
def nD (n : Nat) : PyData := .int n
def pD (p : Nat × Nat) : PyData := .tuple [.int p.1, .int p.2]
def oD : Option Nat → PyData
  | none => .none
  | some n => .int n
theorem nD_eqv (x y : Nat) : PyData.eqv (nD x) (nD y) = decide (x = y) := by
  simp only [nD, PyData.eqv]
  by_cases e : x = y
  · simp [e]
  · have : ¬ ((x : Int) = (y : Int)) := by omega
    simp [e, this]
theorem oD_eqv (x y : Option Nat) : PyData.eqv (oD x) (oD y) = decide (x = y) := by
  cases x <;> cases y <;> simp only [oD, PyData.eqv]
  · simp
  · simp
  · simp
  · rename_i x y
    have := nD_eqv x y
    simp only [nD, PyData.eqv] at this
    rw [this]
    simp
theorem pD_eqv (x y : Nat × Nat) : PyData.eqv (pD x) (pD y) = decide (x = y) := by
  obtain ⟨a, b⟩ := x
  obtain ⟨c, d⟩ := y
  have h1 := nD_eqv a c
  have h2 := nD_eqv b d
  simp only [nD] at h1 h2
  simp only [pD, PyData.eqv, PyData.eqvAll]
  simp only [PyData.eqv] at h1 h2
  rw [h1, h2]
  by_cases e1 : a = c <;> by_cases e2 : b = d <;> simp [e1, e2]
def nsD (ns : List Nat) : PyData := .list (ns.map nD)
def psD (ps : List (Nat × Nat)) : PyData := .list (ps.map pD)
def osD (os : List (Option Nat)) : PyData := .list (os.map oD)
def nssD (rs : List (List Nat)) : PyData := .list (rs.map nsD)
theorem nD_lay (x : Nat) : (nD x).canLay0 = true := by simp [nD, PyData.canLay0]
theorem nD_depth (x : Nat) : (nD x).depth ≤ 1 := by simp [nD, PyData.depth]
theorem oD_lay (x : Option Nat) : (oD x).canLay0 = true := by cases x <;> simp [oD, PyData.canLay0]
theorem oD_depth (x : Option Nat) : (oD x).depth ≤ 1 := by cases x <;> simp [oD, PyData.depth]
theorem pD_lay (x : Nat × Nat) : (pD x).canLay0 = true := by simp [pD, PyData.canLay0, PyData.canLayAll0]
theorem pD_depth (x : Nat × Nat) : (pD x).depth ≤ 2 := by simp [pD, PyData.depth, PyData.depthAll]
theorem nsD_lay (x : List Nat) : (nsD x).canLay0 = true := by
  simp only [nsD, PyData.canLay0]
  exact lay_map nD_lay x
theorem nsD_depth (x : List Nat) : (nsD x).depth ≤ 3 := by
  have := depth_map nD_depth x
  simp only [nsD, PyData.depth]
  omega
theorem nsD_shaped (ns : List Nat) : SeqAt.shaped (nsD ns) = true := shaped_list (by decide) nD_lay nD_depth ns
theorem psD_shaped (ns : List (Nat × Nat)) : SeqAt.shaped (psD ns) = true := shaped_list (by decide) pD_lay pD_depth ns
theorem osD_shaped (ns : List (Option Nat)) : SeqAt.shaped (osD ns) = true := shaped_list (by decide) oD_lay oD_depth ns
theorem nssD_shaped (ns : List (List Nat)) : SeqAt.shaped (nssD ns) = true := shaped_list (by decide) nsD_lay nsD_depth ns
theorem nsD_eqv (x y : List Nat) : PyData.eqv (nsD x) (nsD y) = decide (x = y) := by
  simp only [nsD, PyData.eqv]
  exact eqvAll_map nD_eqv x y
theorem psD_eqv (x y : List (Nat × Nat)) : PyData.eqv (psD x) (psD y) = decide (x = y) := by
  simp only [psD, PyData.eqv]
  exact eqvAll_map pD_eqv x y
theorem osD_eqv (x y : List (Option Nat)) : PyData.eqv (osD x) (osD y) = decide (x = y) := by
  simp only [osD, PyData.eqv]
  exact eqvAll_map oD_eqv x y
theorem nssD_eqv (x y : List (List Nat)) : PyData.eqv (nssD x) (nssD y) = decide (x = y) := by
  simp only [nssD, PyData.eqv]
  exact eqvAll_map nsD_eqv x y
section
variable {K : PySem.W.Frag} {H : Hp}
theorem dpAll_map {α : Type} {g : α → V} {f : α → PyData} (h : ∀ x, Dp K H (g x) (f x)) : ∀ xs : List α, DpAll K H (xs.map g) (xs.map f)
  | [] => .nil
  | x :: xs => .cons (h x) (dpAll_map h xs)
theorem dpAll_paired {α : Type} {F : Addr → α → Prop} {f : α → PyData} (h : ∀ a x, F a x → Dp K H (.ref a) (f x)) : ∀ {as : List Addr} {xs : List α}, Paired F as xs → DpAll K H (as.map V.ref) (xs.map f)
  | _, _, .nil => .nil
  | _, _, .cons r t => .cons (h _ _ r) (dpAll_paired h t)
theorem dp_vo (x : Option Nat) : Dp K H (vo x) (oD x) := by
  cases x
  · exact .non
  · exact .int _
theorem dp_ints {a : Addr} {ns : List Nat} (h : Ints H a ns) : Dp K H (.ref a) (nsD ns) := .lst (sq_of h) (dpAll_map (fun x => .int _) ns)
theorem dp_opts {a : Addr} {ns : List (Option Nat)} (h : Opts H a ns) : Dp K H (.ref a) (osD ns) := .lst (sq_of h) (dpAll_map dp_vo ns)
theorem dp_pr {a : Addr} {p : Nat × Nat} (h : Pr H a p) : Dp K H (.ref a) (pD p) := .tup (st_of h) (.cons (.int _) (.cons (.int _) .nil))
theorem dp_prs {a : Addr} {ps : List (Nat × Nat)} (h : Prs H a ps) : Dp K H (.ref a) (psD ps) := by
  obtain ⟨as, h1, h2⟩ := h
  exact .lst (sq_of h1) (dpAll_paired (fun _ _ r => dp_pr r) h2)
theorem dp_rows {a : Addr} {rs : List (List Nat)} (h : Rows H a rs) : Dp K H (.ref a) (nssD rs) := by
  obtain ⟨as, h1, h2⟩ := h
  exact .lst (sq_of h1) (dpAll_paired (fun _ _ r => dp_ints r) h2)
/-- two things told as data, compared -/
theorem rv_eqD {x y : V} {d e : PyData} {b : Bool} (h : ∀ H1, Ex H H1 → Dp K H1 x d ∧ Dp K H1 y e) (s1 : SeqAt.shaped d = true) (s2 : SeqAt.shaped e = true) (hb : PyData.eqv d e = b) : RV (rEqD K) x y H (.bl b) := fun H1 e1 Q q => by
  subst hb
  exact ⟨d, e, (h H1 e1).1, (h H1 e1).2, s1, s2, q H1 (Ex.refl H1)⟩
theorem rv_neD {x y : V} {d e : PyData} {b : Bool} (h : ∀ H1, Ex H H1 → Dp K H1 x d ∧ Dp K H1 y e) (s1 : SeqAt.shaped d = true) (s2 : SeqAt.shaped e = true) (hb : PyData.eqv d e = b) : RV (rNeD K) x y H (.bl (!b)) := fun H1 e1 Q q => by
  subst hb
  exact ⟨d, e, (h H1 e1).1, (h H1 e1).2, s1, s2, q H1 (Ex.refl H1)⟩
theorem rv_neI {a b : Addr} {x y : List Nat} (h1 : Ints H a x) (h2 : Ints H b y) : RV (rNeD K) (.ref a) (.ref b) H (.bl (!decide (x = y))) := rv_neD (fun _ e => ⟨dp_ints (h1.go e), dp_ints (h2.go e)⟩) (nsD_shaped _) (nsD_shaped _) (nsD_eqv _ _)
theorem rv_eqI {a b : Addr} {x y : List Nat} (h1 : Ints H a x) (h2 : Ints H b y) : RV (rEqD K) (.ref a) (.ref b) H (.bl (decide (x = y))) := rv_eqD (fun _ e => ⟨dp_ints (h1.go e), dp_ints (h2.go e)⟩) (nsD_shaped _) (nsD_shaped _) (nsD_eqv _ _)
theorem rv_neP {a b : Addr} {x y : List (Nat × Nat)} (h1 : Prs H a x) (h2 : Prs H b y) : RV (rNeD K) (.ref a) (.ref b) H (.bl (!decide (x = y))) := rv_neD (fun _ e => ⟨dp_prs (h1.go e), dp_prs (h2.go e)⟩) (psD_shaped _) (psD_shaped _) (psD_eqv _ _)
theorem rv_eqP {a b : Addr} {x y : List (Nat × Nat)} (h1 : Prs H a x) (h2 : Prs H b y) : RV (rEqD K) (.ref a) (.ref b) H (.bl (decide (x = y))) := rv_eqD (fun _ e => ⟨dp_prs (h1.go e), dp_prs (h2.go e)⟩) (psD_shaped _) (psD_shaped _) (psD_eqv _ _)
theorem rv_neO {a b : Addr} {x y : List (Option Nat)} (h1 : Opts H a x) (h2 : Opts H b y) : RV (rNeD K) (.ref a) (.ref b) H (.bl (!decide (x = y))) := rv_neD (fun _ e => ⟨dp_opts (h1.go e), dp_opts (h2.go e)⟩) (osD_shaped _) (osD_shaped _) (osD_eqv _ _)
theorem rv_eqO {a b : Addr} {x y : List (Option Nat)} (h1 : Opts H a x) (h2 : Opts H b y) : RV (rEqD K) (.ref a) (.ref b) H (.bl (decide (x = y))) := rv_eqD (fun _ e => ⟨dp_opts (h1.go e), dp_opts (h2.go e)⟩) (osD_shaped _) (osD_shaped _) (osD_eqv _ _)
theorem kind_prs {a : Addr} {ps : List (Nat × Nat)} (h : Prs H a ps) : Kind K H (.ref a) "list" true := by
  obtain ⟨as, h1, _⟩ := h
  exact kind_of (.base (.lst h1)) (by decide +kernel)
theorem prs_nil {a : Addr} (h : H a = some (.lst [])) : Prs H a [] := ⟨[], h, .nil⟩
end
theorem paired_imp {α β : Type} {F G : α → β → Prop} : ∀ {as : List α} {bs : List β}, Paired F as bs → (∀ a ∈ as, ∀ b, F a b → G a b) → Paired G as bs
  | _, _, .nil, _ => .nil
  | _, _, .cons r t, h => .cons (h _ List.mem_cons_self _ r) (paired_imp t fun a ha => h a (List.mem_cons_of_mem _ ha))
/-- a Net at a whose lists are new since H0 -/
def NetNew (C : Addr) (H0 H : Hp) (a : Addr) (W : Web) : Prop := ∃ (dx l : Addr) (as : List Addr), H a = some (.ins C dx (netF W.size l)) ∧ H0 l = none ∧ H l = some (.lst (as.map V.ref)) ∧ Paired (fun b r => Ints H b r) as W.near ∧ ∀ b ∈ as, H0 b = none
theorem NetNew.at {C : Addr} {H0 H : Hp} {a : Addr} {W : Web} (x : NetNew C H0 H a W) : NetAt C H a W := by
  obtain ⟨dx, l, as, h1, h2, h3, h4, h5⟩ := x
  exact ⟨dx, l, h1, as, h3, h4⟩
theorem NetNew.go {C : Addr} {H0 H H' : Hp} {a : Addr} {W : Web} (x : NetNew C H0 H a W) (s : Ex H H') : NetNew C H0 H' a W := by
  obtain ⟨dx, l, as, h1, h2, h3, h4, h5⟩ := x
  exact ⟨dx, l, as, s _ _ h1, h2, s _ _ h3, Paired.mapP h4 fun _ _ z => s _ _ z, h5⟩
theorem NetNew.back {C : Addr} {H00 H0 H : Hp} {a : Addr} {W : Web} (x : NetNew C H0 H a W) (s : Ex H00 H0) : NetNew C H00 H a W := by
  obtain ⟨dx, l, as, h1, h2, h3, h4, h5⟩ := x
  exact ⟨dx, l, as, h1, fresh_back s h2, h3, h4, fun b hb => fresh_back s (h5 b hb)⟩
theorem NetNew.set {C : Addr} {H0 H : Hp} {a d : Addr} {W : Web} {o : HO} {xs ys : List V} (x : NetNew C H0 H a W) (h0 : H0 d = some (.lst xs)) (h : H d = some (.lst ys)) : NetNew C H0 (upd H d o) a W := by
  obtain ⟨dx, l, as, h1, h2, h3, h4, h5⟩ := x
  have ne : ∀ b, H0 b = none → b ≠ d := fun b hb z => by rw [z, h0] at hb; cases hb
  refine ⟨dx, l, as, ?_, h2, ?_, ?_, h5⟩
  · rw [upd_ne (fun z => by rw [z, h] at h1; cases h1)]
    exact h1
  · rw [upd_ne (ne l h2)]
    exact h3
  · refine paired_imp h4 fun b hb r z => ?_
    show upd _ _ _ _ = _
    rw [upd_ne (ne _ (h5 _ hb))]
    exact z
theorem Prs.set {H : Hp} {l d : Addr} {ps : List (Nat × Nat)} {o : HO} {ys : List V} (x : Prs H l ps) (ne : l ≠ d) (h : H d = some (.lst ys)) : Prs (upd H d o) l ps := by
  obtain ⟨as, h1, h2⟩ := x
  refine ⟨as, by rw [upd_ne ne]; exact h1, Paired.mapP h2 fun b p z => ?_⟩
  show upd _ _ _ b = _
  rw [upd_ne (fun e => by rw [e] at z; have z := (show H d = _ from z).symm.trans h; cases z)]
  exact z
theorem nearOf_perm {n : Nat} {ps qs : List (Nat × Nat)} (h : ps.Perm qs) (i : Nat) : nearOf n ps i = nearOf n qs i := by
  unfold nearOf
  refine List.filter_congr fun j _ => ?_
  rw [Bool.eq_iff_iff]
  simp only [Bool.or_eq_true, List.contains_iff_mem, h.mem_iff]
theorem webOf_perm {n : Nat} {ps qs : List (Nat × Nat)} (h : ps.Perm qs) : webOf n ps = webOf n qs := by
  unfold webOf
  rw [show nearOf n ps = nearOf n qs from funext fun i => nearOf_perm h i]
/-! ### values of which P tells -/
abbrev HV := Hp → V → Prop
def EvP (te : TE) (σ : L2.St) (H : Hp) (P : HV) : Prop := ∀ H1, Ex H H1 → ∀ Q : VK, (∀ v H2, Ex H1 H2 → P H2 v → Q v H2) → te σ H1 Q
def EvPs (ta : TA) (σ : L2.St) (H : Hp) (n : Nat) (P : HV) : Prop := ∀ H1, Ex H H1 → ∀ Q : List V → Hp → Prop, (∀ vs H2, Ex H1 H2 → vs.length = n → (∀ x ∈ vs, P H2 x) → Q vs H2) → ta σ H1 Q
def EvPL (te : TE) (σ : L2.St) (H : Hp) (n : Nat) (P : HV) : Prop := ∀ H1, Ex H H1 → ∀ Q : VK, (∀ p vs H2, H1 p = none → Ex H1 H2 → H2 p = some (.lst vs) → vs.length = n → (∀ x ∈ vs, P H2 x) → Q (.ref p) H2) → te σ H1 Q
def Stay (P : HV) : Prop := ∀ (G G' : Hp) (v : V), Ex G G' → P G v → P G' v
section
variable {K : PySem.W.Frag} {σ : L2.St} {H H' : Hp} {ta tb te tx : TE} {x y z v : V} {P : HV} {n m : Nat}
theorem ep_v (h : Ev te σ H v) (p : ∀ G, Ex H G → P G v) : EvP te σ H P := fun H1 e Q q => h H1 e Q fun H2 e2 => q v H2 e2 (p H2 (e.trans e2))
theorem ep_u {xs : List V} (h : EvU te σ H xs) (p : ∀ a G, Ex H G → G a = some (.tup xs) → P G (.ref a)) : EvP te σ H P := fun H1 e Q q => h H1 e Q fun a H2 ha e2 h2 => q _ H2 e2 (p a H2 (e.trans e2) h2)
theorem ep_l {xs : List V} (h : EvL te σ H xs) (p : ∀ a G, Ex H G → G a = some (.lst xs) → P G (.ref a)) : EvP te σ H P := fun H1 e Q q => h H1 e Q fun a H2 ha e2 h2 => q _ H2 e2 (p a H2 (e.trans e2) h2)
theorem eps_nil : EvPs tNil σ H 0 P := fun H1 e Q q => q [] H1 (Ex.refl H1) rfl fun x hx => nomatch hx
theorem eps_cons {tr : TA} (stay : Stay P) (h : EvP te σ H P) (hr : EvPs tr σ H n P) : EvPs (tCons te tr) σ H (n + 1) P := fun H1 e Q q => h H1 e _ fun v H2 e2 pv => hr H2 (e.trans e2) _ fun vs H3 e3 len pvs =>
  q _ H3 (e2.trans e3) (by rw [List.length_cons, len]) fun x hx => by
    rcases List.mem_cons.mp hx with c | c
    · rw [c]; exact stay _ _ _ e3 pv
    · exact pvs x c
theorem epl_lst {ta : TA} (stay : Stay P) (h : EvPs ta σ H n P) (hn : n ≤ 100000) : EvPL (tLst ta) σ H n P := fun H1 e Q q => h H1 e _ fun vs H2 e2 len pvs => ⟨by rw [len]; exact sz_of hn, fun p hp =>
  q p vs _ (fresh_back e2 hp) (e2.trans (Ex.new hp)) upd_same len fun x hx => stay _ _ _ (Ex.new hp) (pvs x hx)⟩
theorem EvPL.mono (e : Ex H H') (h : EvPL te σ H n P) : EvPL te σ H' n P := fun H1 a Q q => h H1 (e.trans a) Q q
theorem EvP.mono (e : Ex H H') (h : EvP te σ H P) : EvP te σ H' P := fun H1 a Q q => h H1 (e.trans a) Q q
theorem EvP.imp {P' : HV} (h : EvP te σ H P) (k : ∀ G v, Ex H G → P G v → P' G v) : EvP te σ H P' := fun H1 e Q q => h H1 e Q fun v H2 e2 p => q v H2 e2 (k H2 v (e.trans e2) p)
theorem epl_cat (stay : Stay P) {a : Addr} {xs : List V} (h1 : Ev ta σ H (.ref a)) (ha : H a = some (.lst xs)) (hx : ∀ x ∈ xs, P H x) (h2 : EvPL tb σ H m P) (hl : xs.length + m ≤ 100000) : EvPL (tOp rCat ta tb) σ H (xs.length + m) P := fun H1 e Q q =>
  h1 H1 e _ fun H2 e2 => h2 H2 (e.trans e2) _ fun p vs H3 hp e3 h3 len pvs => ⟨a, p, xs, vs, rfl, rfl, e3 _ _ (e2 _ _ (e _ _ ha)), h3, by rw [len]; exact sz_of hl, fun r hr =>
    q r _ _ (fresh_back (e2.trans e3) hr) ((e2.trans e3).trans (Ex.new hr)) upd_same (by rw [List.length_append, len]) fun x hx' => by
      rcases List.mem_append.mp hx' with c | c
      · exact stay _ _ _ (((e.trans e2).trans e3).trans (Ex.new hr)) (hx x c)
      · exact stay _ _ _ (Ex.new hr) (pvs x c)⟩
/-- xs[i] -/
theorem ep_pick (stay : Stay P) (h : EvPL te σ H n P) {k : Nat} (hi : Ev tb σ H (.int (k : Int))) (hk : k < n) : EvP (tOp (rIxL K) te tb) σ H P := fun H1 e Q q => h H1 e _ fun p vs H2 hp e2 h2 len pvs => hi H2 (e.trans e2) _ fun H3 e3 => by
  have hlt : k < vs.length := by omega
  exact ⟨p, vs, _, vs[k], rfl, rfl, sq_of (e3 _ _ h2), atI_nat (List.getElem?_eq_getElem hlt), q _ H3 (e2.trans e3) (stay _ _ _ e3 (pvs _ (List.getElem_mem hlt)))⟩
/-- a call's value, one argument of which P tells -/
theorem ev_callP {sp : Sp} {dvs : List V} {E : XK} {tr : TA} {R : V → List V → Hp → Prop} (h : EvP ta σ H P) (hr : ∀ v H1, Ex H H1 → P H1 v → EvA tr σ H1 (y :: [])) (hs : ∀ v H1, Ex H H1 → P H1 v → SpV sp ((v :: [y]) ++ dvs) H1 z) (stay : Stay P) : Ev (tCall sp dvs E (tCons ta tr)) σ H z := fun H1 e Q q =>
  h H1 e _ fun v H2 e2 pv => hr v H2 (e.trans e2) pv H2 (Ex.refl H2) _ fun H3 e3 => hs v H3 ((e.trans e2).trans e3) (stay _ _ _ e3 pv) H3 (Ex.refl H3) Q (fun H4 e4 => q H4 ((e2.trans e3).trans e4)) E
theorem q_asgP {i : Nat} {D : Ends} {tz : TS} (h : EvP te σ H P) (k : ∀ v H1, Ex H H1 → P H1 v → tz D (σ.set i (some v)) H1) : tSeq (tAsg te (gName i)) tz D σ H := h H (Ex.refl H) _ fun v H1 e p => k v H1 e p
theorem q_asgPL {i : Nat} {D : Ends} {tz : TS} (h : EvPL te σ H n P) (k : ∀ p vs H1, H p = none → Ex H H1 → H1 p = some (.lst vs) → vs.length = n → (∀ x ∈ vs, P H1 x) → tz D (σ.set i (some (.ref p))) H1) : tSeq (tAsg te (gName i)) tz D σ H := h H (Ex.refl H) _ k
/-- an if without else, the places behind it told by M -/
theorem q_whenM {t : TT} {tu tz : TS} {D : Ends} {b : Bool} (h : EvT t σ H b) (M : L2.St → Hp → Prop) (k : ∀ σ' H', M σ' H' → tz D σ' H') (h1 : b = true → ∀ H1, Ex H H1 → (∀ σ' H', M σ' H' → tz D σ' H') → tu { D with nx := tz D } σ H1) (h2 : b = false → ∀ H1, Ex H H1 → M σ H1) : tSeq (tIfS t tu tNext) tz D σ H :=
  q_when h (fun c H1 e => h1 c H1 e k) (fun c H1 e => k _ _ (h2 c H1 e))
theorem q_ifM {t : TT} {tu tw tz : TS} {D : Ends} {b : Bool} (h : EvT t σ H b) (M : L2.St → Hp → Prop) (k : ∀ σ' H', M σ' H' → tz D σ' H') (h1 : b = true → ∀ H1, Ex H H1 → (∀ σ' H', M σ' H' → tz D σ' H') → tu { D with nx := tz D } σ H1) (h2 : b = false → ∀ H1, Ex H H1 → (∀ σ' H', M σ' H' → tz D σ' H') → tw { D with nx := tz D } σ H1) : tSeq (tIfS t tu tw) tz D σ H :=
  q_if h (fun c H1 e => h1 c H1 e k) (fun c H1 e => h2 c H1 e k)
/-- for i, x in enumerate(xs) -/
theorem q_forEnum {g : TG} {tu tz : TS} {D : Ends} {a : Addr} {xs : List V} {ta : TA} (h : EvA ta σ H [.ref a]) (hx : SqL K H a xs) (Pv : Nat → L2.St → Hp → Prop) (h0 : ∀ H1, Ex H H1 → Pv 0 σ H1) (hl : ∀ i σ' H', i ≤ xs.length → Pv i σ' H' → SqL K H' a xs)
    (hs : ∀ (i : Nat) (x : V) (t : Addr) σ' G G1, xs[i]? = some x → Pv i σ' G → Ex G G1 → G t = none → G1 t = some (.tup [.int (i : Nat), x]) → g (.ref t) σ' G1 fun σ2 H2 => tu { D with nx := Pv (i + 1), ct := Pv (i + 1), bk := tz D } σ2 H2)
    (hd : ∀ σ' H', Pv xs.length σ' H' → tz D σ' H') : tSeq (tFor (iEnum K ta) g tu) tz D σ H :=
  h H (Ex.refl H) _ fun H1 e1 => ⟨a, xs, rfl, ex_l e1 hx, for_it (D := { D with nx := tz D }) walk_enum Pv (h0 H1 e1) hl (fun i x σ' G G' hi p y => by
    obtain ⟨t, u, y', rfl, ht, rfl, hu, hy⟩ := y
    cases hu
    exact hs i y' t σ' G _ hy p (Ex.new ht) ht upd_same) hd⟩
/-- o.m(..) of a list, the value dropped -/
theorem s_dropM {r : V → List V → Hp → VK → Prop} {D : Ends} {l : Addr} {xs vs : List V} {tr : TA} (ho : Ev ta σ H (.ref l)) (hl : H l = some (.lst xs)) (h : EvA tr σ H vs) (k : ∀ H1, Ex H H1 → r (.ref l) vs H1 fun _ H2 => D.nx σ H2) : tDrop (tBM K "list" r ta tr) D σ H :=
  ho H (Ex.refl H) _ fun H1 e1 => ⟨.inl ⟨rfl, xs, sq_of (e1 _ _ hl)⟩, h H1 e1 _ fun H2 e2 => k H2 (e1.trans e2)⟩
end
section
variable {K : PySem.W.Frag} {σ : L2.St} {H H' : Hp} {ta tb te tx : TE} {x y z v : V}
theorem own_ins {H : Hp} {x dx C : Addr} (hx : H x = none) (hdx : H dx = none) (ne : dx ≠ x) : Ex H (upd (upd H dx (.own x)) x (.ins C dx [])) :=
  (Ex.new hdx).trans (Ex.new (by rw [upd_ne ne.symm]; exact hx))
theorem given_list {α : Type} (d : α) (l : List α) (f : α → Bool) (v : α → V) : given l.length (fun k => f (l.getD k d)) (fun k => v (l.getD k d)) = (l.filter f).map v := by
  have e : l = (List.range l.length).map fun k => l.getD k d := by
    apply List.ext_getElem
    · simp
    · intro i h1 h2
      simp [List.getD_eq_getElem?_getD, h1]
  have e2 : (l.filter f).map v = (((List.range l.length).map fun k => l.getD k d).filter f).map v := by rw [← e]
  rw [e2, List.filter_map, List.map_map]
  rfl
/-- [te for x in xs if t], xs a list of data -/
theorem el_filt {α : Type} {t : TT} {a : Addr} {l : List α} {g : α → V} {tl : TE} {j : Nat} {vs : List Nat} (d : α) (f : α → Bool) (v : α → V) (h : Ev tl σ H (.ref a)) (hx : SqL K H a (l.map g)) (hz : l.length ≤ 40000) (hw : ∀ x, wipe ((wipe σ vs).set j (some x)) vs = wipe σ vs)
    (ht : ∀ x H1, Ex H H1 → x ∈ l → EvT t ((wipe σ vs).set j (some (g x))) H1 (f x)) (he : ∀ x H1, Ex H H1 → x ∈ l → f x = true → Ev te ((wipe σ vs).set j (some (g x))) H1 (v x)) :
    EvL (tLc (iList K tl) (gName j) t te vs) σ H ((l.filter f).map v) := by
  rw [← given_list d]
  have key : ∀ (i : Nat) (x : V), (l.map g)[i]? = some x → x = g (l.getD i d) ∧ l.getD i d ∈ l := fun i x hx => by
    obtain ⟨y, hy, rfl⟩ := map_get hx
    have : l.getD i d = y := by rw [List.getD_eq_getElem?_getD, hy]; rfl
    rw [this]
    exact ⟨rfl, List.mem_of_getElem? hy⟩
  have := el_lcL (K := K) (te := te) (t := t) (j := j) (vs := vs) (fun k => f (l.getD k d)) (fun k => v (l.getD k d)) h hx (by rw [List.length_map]; exact hz) hw
    (fun i x H1 e hi => by rw [(key i x hi).1]; exact ht _ H1 e (key i x hi).2) (fun i x H1 e hi hf => by rw [(key i x hi).1]; exact he _ H1 e (key i x hi).2 hf)
  rw [List.length_map] at this
  exact this
/-- [te for x, y in ps if t], ps a list of pairs -/
theorem el_pairs {t : TT} {l : Addr} {ps : List (Nat × Nat)} {tl : TE} {i j : Nat} {vs : List Nat} (f : Nat × Nat → Bool) (v : Nat × Nat → V) (h : Ev tl σ H (.ref l)) (hl : Prs H l ps) (hz : ps.length ≤ 40000) (hw : ∀ x y, wipe (((wipe σ vs).set i (some x)).set j (some y)) vs = wipe σ vs)
    (ht : ∀ p H1, Ex H H1 → p ∈ ps → EvT t (((wipe σ vs).set i (some (vn p.1))).set j (some (vn p.2))) H1 (f p)) (he : ∀ p H1, Ex H H1 → p ∈ ps → f p = true → Ev te (((wipe σ vs).set i (some (vn p.1))).set j (some (vn p.2))) H1 (v p)) :
    EvL (tLc (iList K tl) (gTup K 2 (gCons (gName i) (gCons (gName j) gNil))) t te vs) σ H ((ps.filter f).map v) := by
  rw [← given_list (0, 0)]
  obtain ⟨as, ha, hp⟩ := hl
  have len := paired_len hp
  rw [← len]
  exact fun H0 e Q q => h H0 e _ fun H1 e1 => ⟨l, rfl, ⟨as.map V.ref, sq_of (e1 _ _ (e _ _ ha))⟩, fun Dl hD => lc_list (xs := as.map V.ref) (Cw H1 (fun k => f (ps.getD k (0, 0))) (fun k => v (ps.getD k (0, 0))) Dl) ⟨hD, Ex.new hD, upd_same⟩ (fun i H' _ p => sq_of (p.2.1 _ _ (e1 _ _ (e _ _ ha))))
    (fun k x H' hk p => by
      obtain ⟨b, hb, rfl⟩ := map_get hk
      obtain ⟨r, hr, hpr⟩ := paired_get' hp hb
      have eg : ps.getD k (0, 0) = r := by rw [List.getD_eq_getElem?_getD, hr]; rfl
      have hm := List.mem_of_getElem? hr
      refine ⟨b, [vn r.1, vn r.2], rfl, st_of (p.2.1 _ _ (e1 _ _ (e _ _ hpr))), rfl, _, _, rfl, _, _, rfl, rfl, hw _ _, ?_⟩
      refine cw_turn p (by have := (List.getElem?_eq_some_iff.mp hb).1; omega) ?_ ?_
      · show EvT t _ H1 (f (ps.getD k (0, 0)))
        rw [eg]
        exact ht r H1 (e.trans e1) hm
      · intro hf
        have hf : f (ps.getD k (0, 0)) = true := hf
        show Ev te _ H1 (v (ps.getD k (0, 0)))
        rw [eg] at hf ⊢
        exact he r H1 (e.trans e1) hm hf)
    (fun H' p => by
      rw [List.length_map] at p
      exact q Dl H' (fresh_back e1 p.1) (e1.trans p.2.1) p.2.2)⟩
theorem el_is {xs ys : List V} (h : EvL te σ H xs) (e : xs = ys) : EvL te σ H ys := by
  subst e
  exact h
/-- tuple(xs) -/
theorem ep_tupleP {P : HV} {l : Addr} {ps : List (Nat × Nat)} (h : Ev te σ H (.ref l)) (hl : Prs H l ps) (p : ∀ a G, Ex H G → ∀ xs, G a = some (.tup xs) → P G (.ref a)) :
    EvP (tCB (fun xs H Q => ∃ p ys, xs = [.ref p] ∧ ((SqL K H p ys ∧ ∀ l, H l = none → Q (.ref l) (upd H l (.tup ys))) ∨ (SqT K H p ys ∧ Q (.ref p) H))) (tCons te tNil)) σ H P := fun H1 e Q q => h H1 e _ fun H2 e2 => by
  obtain ⟨as, h1, h2⟩ := hl
  exact ⟨l, as.map V.ref, rfl, .inl ⟨sq_of (e2 _ _ (e _ _ h1)), fun r hr => q _ _ (e2.trans (Ex.new hr)) (p r _ ((e.trans e2).trans (Ex.new hr)) _ upd_same)⟩⟩
/-- lists, joined -/
theorem el_cat {xs ys : List V} (h1 : EvL ta σ H xs) (h2 : EvL tb σ H ys) (hl : xs.length + ys.length ≤ 100000) : EvL (tOp rCat ta tb) σ H (xs ++ ys) := fun H1 e Q q =>
  h1 H1 e _ fun a H2 ha e2 h2' => h2 H2 (e.trans e2) _ fun b H3 hb e3 h3 => ⟨a, b, xs, ys, rfl, rfl, e3 _ _ h2', h3, sz_of hl, fun p hp => q p _ (fresh_back (e2.trans e3) hp) ((e2.trans e3).trans (Ex.new hp)) upd_same⟩
theorem el_catV {a : Addr} {xs ys : List V} (h1 : Ev ta σ H (.ref a)) (ha : H a = some (.lst xs)) (h2 : EvL tb σ H ys) (hl : xs.length + ys.length ≤ 100000) : EvL (tOp rCat ta tb) σ H (xs ++ ys) := fun H1 e Q q =>
  h1 H1 e _ fun H2 e2 => h2 H2 (e.trans e2) _ fun b H3 hb e3 h3 => ⟨a, b, xs, ys, rfl, rfl, e3 _ _ (e2 _ _ (e _ _ ha)), h3, sz_of hl, fun p hp => q p _ (fresh_back (e2.trans e3) hp) ((e2.trans e3).trans (Ex.new hp)) upd_same⟩
theorem cut_take {xs : List V} {k : Nat} (h : k ≤ xs.length) : cutV xs none (some (k : Int)) = xs.take k := by
  unfold cutV
  rw [HT.sIx_none, HT.sIx_nat, Nat.min_eq_left h]
  simp
theorem cut_drop {xs : List V} {k : Nat} (h : k ≤ xs.length) : cutV xs (some (k : Int)) none = xs.drop k := by
  unfold cutV
  rw [HT.sIx_none, HT.sIx_nat, Nat.min_eq_left h]
  rw [← List.length_drop, List.take_length]
/-- a call's value, the second argument a new list, or what P tells of -/
theorem ev_call2L {sp : Sp} {dvs : List V} {E : XK} {xs : List V} (h1 : Ev ta σ H x) (h2 : EvL tb σ H xs) (hs : ∀ p H1, Ex H H1 → H1 p = some (.lst xs) → SpV sp ([x, .ref p] ++ dvs) H1 z) : Ev (tCall sp dvs E (tCons ta (tCons tb tNil))) σ H z := fun H1 e Q q =>
  h1 H1 e _ fun H2 e2 => h2 H2 (e.trans e2) _ fun p H3 hp e3 h3 => hs p H3 ((e.trans e2).trans e3) h3 H3 (Ex.refl H3) Q (fun H4 e4 => q H4 ((e2.trans e3).trans e4)) E
theorem ev_call2P {sp : Sp} {dvs : List V} {E : XK} {P : HV} (h1 : Ev ta σ H x) (h2 : EvP tb σ H P) (hs : ∀ u H1, Ex H H1 → P H1 u → SpV sp ([x, u] ++ dvs) H1 z) : Ev (tCall sp dvs E (tCons ta (tCons tb tNil))) σ H z := fun H1 e Q q =>
  h1 H1 e _ fun H2 e2 => h2 H2 (e.trans e2) _ fun u H3 e3 p3 => hs u H3 ((e.trans e2).trans e3) p3 H3 (Ex.refl H3) Q (fun H4 e4 => q H4 ((e2.trans e3).trans e4)) E
theorem ev_call2PL {sp : Sp} {dvs : List V} {E : XK} {P : HV} {xs : List V} (stay : Stay P) (h1 : EvP ta σ H P) (h2 : EvL tb σ H xs) (hs : ∀ u p H1, Ex H H1 → P H1 u → H1 p = some (.lst xs) → SpV sp ([u, .ref p] ++ dvs) H1 z) : Ev (tCall sp dvs E (tCons ta (tCons tb tNil))) σ H z := fun H1 e Q q =>
  h1 H1 e _ fun u H2 e2 pu => h2 H2 (e.trans e2) _ fun p H3 hp e3 h3 => hs u p H3 ((e.trans e2).trans e3) (stay _ _ _ e3 pu) h3 H3 (Ex.refl H3) Q (fun H4 e4 => q H4 ((e2.trans e3).trans e4)) E
/-- C(..): the new instance is at p -/
theorem make_of {C : Addr} {sp : Sp} {dvs vs : List V} {E : XK} {tr : TA} {Q : VK} (h : EvA tr σ H vs) (k : ∀ H1 p dx, Ex H H1 → H p = none → H1 p = some (.ins C dx []) → sp (.ref p :: (vs ++ dvs)) H1 (fun v H2 => v = .non ∧ Q (.ref p) H2) E) : tMake C sp dvs E tr σ H Q :=
  h H (Ex.refl H) _ fun H1 e1 p dx hp hdx ne => k _ p dx (e1.trans (own_ins hp hdx ne)) (fresh_back e1 hp) upd_same
theorem s_dropMake {C : Addr} {sp : Sp} {dvs vs : List V} {E : XK} {tr : TA} {D : Ends} (h : EvA tr σ H vs) (k : ∀ H1 p dx, Ex H H1 → H p = none → H1 p = some (.ins C dx []) → sp (.ref p :: (vs ++ dvs)) H1 (fun v H2 => v = .non ∧ D.nx σ H2) E) : tDrop (tMake C sp dvs E tr) D σ H := make_of h k
theorem q_asgMake {C : Addr} {sp : Sp} {dvs vs : List V} {E : XK} {tr : TA} {D : Ends} {tz : TS} {i : Nat} (h : EvA tr σ H vs) (k : ∀ H1 p dx, Ex H H1 → H p = none → H1 p = some (.ins C dx []) → sp (.ref p :: (vs ++ dvs)) H1 (fun v H2 => v = .non ∧ tz D (σ.set i (some (.ref p))) H2) E) : tSeq (tAsg (tMake C sp dvs E tr) (gName i)) tz D σ H := make_of (Q := fun x H1 => tz D (σ.set i (some x)) H1) h k
end
section
variable {K : PySem.W.Frag} {σ : L2.St} {H H' : Hp} {ta tb te tx : TE} {x y z v : V}
/-- a, b = e -/
theorem q_asg2N {i j : Nat} {R : Rn} {D : Ends} {tz : TS} (h : EvN te σ H R) (k : ∀ v fs H1, Ex H H1 → (∀ p ∈ fs, H p = none) → R v fs H1 → ∃ p x y, v = .ref p ∧ SqT K H1 p [x, y] ∧ tz D ((σ.set i (some x)).set j (some y)) H1) :
    tSeq (tAsg te (gTup K 2 (gCons (gName i) (gCons (gName j) gNil)))) tz D σ H := h H (Ex.refl H) _ fun v fs H1 e f r => by
  obtain ⟨p, x, y, rfl, hp, q⟩ := k v fs H1 e f r
  exact ⟨p, [x, y], rfl, hp, rfl, _, _, rfl, _, _, rfl, rfl, q⟩
/-- ps + [(i, j)] -/
theorem en_snocP {l : Addr} {ps : List (Nat × Nat)} {i j : Nat} (h1 : Ev ta σ H (.ref l)) (hl : Prs H l ps) (h2 : EvU tb σ H [vn i, vn j]) (few : ps.length ≤ 90000) : EvN (tOp rCat ta (tLst (tCons tb tNil))) σ H (fun v fs G => ∃ p, v = .ref p ∧ Prs G p (ps ++ [(i, j)])) := fun H1 e Q q =>
  h1 H1 e _ fun H2 e2 => h2 H2 (e.trans e2) _ fun t H3 ht e3 h3 => by
    obtain ⟨as, ha, hp⟩ := hl
    refine ⟨by show 1 ≤ sizeLine; decide, fun b hb => ?_⟩
    have e4 : Ex H3 (upd H3 b (.lst [.ref t])) := Ex.new hb
    refine ⟨l, b, as.map V.ref, [.ref t], rfl, rfl, e4 _ _ (e3 _ _ (e2 _ _ (e _ _ ha))), upd_same, sz_of (by rw [List.length_map, paired_len hp]; show ps.length + 1 ≤ 100000; omega), fun r hr => ?_⟩
    have e5 := e4.trans (Ex.new (o := .lst (as.map V.ref ++ [.ref t])) hr)
    refine q _ [] _ ((e2.trans e3).trans e5) (fun x hx => nomatch hx) ⟨r, rfl, as ++ [t], by rw [upd_same, List.map_append]; rfl, paired_app (Paired.mapP hp fun _ _ z => ?_) (.cons ?_ .nil)⟩
    · exact ((((e.trans e2).trans e3).trans e5) _ _ z)
    · exact e5 _ _ h3
end
open L2H (RoomH PinOk cxH inv_startH roomH_of) in
/-- such a def, called with the handled error in the suite, whatever its class is called there -/
theorem pe_callE2 {X : Cx} {k : Nat} {f D : Addr} {fd : FuncData} {y x : Str} {q pos : Pos} {e : Expr} {te : TE} {a : Addr} {oe : Obj} {cls : Value} {d : Option Addr} (F : FnE X.prog X.w X.K X.mg X.base k f fd y D) (hr : RoomH k X.A) (hp : (a, oe) ∈ X.pn) (hz : Zc cls d oe) (hf : ∃ vs, oe.data = .fields vs)
    (hg : Gl X x) (hm : X.mg x = some (.ref f)) (hk : PySem.W.keepIn X.K (.ref f) = true) (hb : Binds X.K fd [y] []) (he : PE X e te) (hdb : (x == ("__debug__" : Str)) = false := by decide)
    (hst : starEach [e] X.env = (false, eval e X.env) :: starEach [] X.env := by rfl) (hpl : (backTo pos (starEach [] X.env)).any (·.1) = false := by rfl) :
    PE X (.Call (.Name x q) [e] [] pos) (fun σ H Q => te σ H fun v H1 => v = .ref a ∧ cls = .ref D ∧ d = none ∧ ∀ H', Same H1 H' → Q (.bl true) H') := by
  by_cases c : cls = .ref D ∧ d = none
  · obtain ⟨rfl, rfl⟩ := c
    have z := pe_callE (q := q) (pos := pos) F hr hp hz hf hg hm hk hb he hdb hst hpl
    refine ⟨fun pins s σ H Q I h => z.run pins s σ H Q I ?_⟩
    have : (fun v H1 => v = V.ref a ∧ Value.ref D = .ref D ∧ (none : Option Addr) = none ∧ ∀ H', Same H1 H' → Q (.bl true) H') = fun v H1 => v = V.ref a ∧ ∀ H', Same H1 H' → Q (.bl true) H' := by
      funext v H1
      simp
    rw [← this]
    exact h
  · refine ⟨fun pins s σ H Q I h => ?_⟩
    refine wpAny_Call_Name_kw (ld_glob I hg hm ?_ hdb)
    refine PySem.W.callWith_K (h₀ := X.base) I.ok.mod.kin hk (thn ((pa_cons he pa_nil hst).run pos pins s σ H (fun vs H1 => False) I ?_) fun us s1 ⟨vs, H1, I1, r, ev⟩ => ev.elim) hst hpl
    show te σ H _
    have : (fun v H1 => v = V.ref a ∧ cls = .ref D ∧ d = none ∧ ∀ H', Same H1 H' → Q (.bl true) H') = fun (_ : V) (_ : Hp) => False := by
      funext v H1
      simp only [eq_iff_iff, iff_false]
      exact fun z => c ⟨z.2.1, z.2.2.1⟩
    rw [this] at h
    exact h
theorem rc_int1 {H : Hp} {k : Bool} : RC (fun xs H Q => (∃ i, xs = [.int i] ∧ Q (.int i) H) ∨ ∃ k, xs = [.bl k] ∧ Q (.int (if k then 1 else 0)) H) [.bl k] H (.int (if k then 1 else 0)) := fun H1 _ Q q => .inr ⟨k, rfl, q H1 (Ex.refl H1)⟩
theorem rc_isE {K : PySem.W.Frag} {H : Hp} {D a : Addr} {c : V} {cv : Value} {b : Bool} (k : ClsV c cv) (e : PySem.W.kitOne K (.ref D) cv = some b) : RC (rIsE K D a) [.ref a, c] H (.bl b) := fun H1 _ Q q => ⟨c, cv, b, rfl, fun u r => k.eq r, e, q H1 (Ex.refl H1)⟩
end OP

/-! Dicts of places, each True; what can be reached. -/
namespace OP
open PySem PySem.Spec PyProof.Rows L2 Evl
def keyP (k : Nat) : Key × V := (Sum.inl (k : Int), .bl true)
def Keys (H : Hp) (d : Addr) (ks : List Nat) : Prop := H d = some (.dK (ks.map keyP))
theorem Keys.go {H H' : Hp} {d : Addr} {ks : List Nat} (h : Keys H d ks) (e : Ex H H') : Keys H' d ks := e _ _ h
theorem inl_inj {x y : Nat} : ((Sum.inl (x : Int) : Key) = Sum.inl (y : Int)) ↔ x = y := by
  constructor
  · intro h
    injection h with h
    omega
  · intro h
    rw [h]
theorem valV_keys (ks : List Nat) (x : Nat) : (valV (ks.map keyP) (Sum.inl (x : Int))).isSome = decide (x ∈ ks) := by
  rw [← valV_any, List.any_map, Bool.eq_iff_iff, List.any_eq_true, decide_eq_true_iff]
  constructor
  · rintro ⟨y, hy, e⟩
    have e : y = x := inl_inj.mp (of_decide_eq_true e)
    rw [← e]
    exact hy
  · intro h
    exact ⟨x, h, decide_eq_true rfl⟩
theorem putK_keys (ks : List Nat) (x : Nat) : putK (ks.map keyP) (Sum.inl (x : Int)) (.bl true) = (if x ∈ ks then ks else ks ++ [x]).map keyP := by
  unfold putK
  rw [valV_any, valV_keys]
  by_cases h : x ∈ ks
  · rw [if_pos (decide_eq_true h), if_pos h, List.map_map]
    refine List.map_congr_left fun y hy => ?_
    show (if (keyP y).1 = _ then ((keyP y).1, V.bl true) else keyP y) = keyP y
    split
    · rfl
    · rfl
  · rw [if_neg (by simpa using h), if_neg h, List.map_append]
    rfl
theorem dropK_keys (ks : List Nat) (x : Nat) : dropK (ks.map keyP) (Sum.inl (x : Int)) = (ks.filter fun y => decide (y ≠ x)).map keyP := by
  unfold dropK
  rw [List.filter_map]
  congr 1
  refine List.filter_congr fun y _ => ?_
  show decide ((keyP y).1 ≠ _) = decide (y ≠ x)
  by_cases h : y = x
  · subst h
    simp [keyP]
  · have : ¬ ((keyP y).1 = Sum.inl (x : Int)) := fun z => h (inl_inj.mp z)
    simp [h, this]
theorem dropK_none (ks : List Nat) (x : Nat) (h : x ∉ ks) : (ks.filter fun y => decide (y ≠ x)) = ks := by
  rw [List.filter_eq_self]
  intro y hy
  exact decide_eq_true fun z => h (by rw [← z]; exact hy)
section
variable {K : PySem.W.Frag} {σ : L2.St} {H H' : Hp} {ta tb td ty tv te tx : TE} {x y z v : V} {D : Ends} {tz : TS} {d : Addr} {ks : List Nat} {k : Nat}
theorem ev_din (h1 : Ev ty σ H (vn k)) (h2 : Ev td σ H (.ref d)) (hk : Keys H d ks) : Ev (tDIn ty td) σ H (.bl (decide (k ∈ ks))) := fun H1 e Q q => h1 H1 e _ fun H2 e2 => h2 H2 (e.trans e2) _ fun H3 e3 =>
  ⟨d, _, rfl, .inl ⟨_, Sum.inl (k : Int), .inl (((e.trans e2).trans e3) _ _ hk), rfl, rfl⟩, by rw [valV_keys]; exact q H3 (e2.trans e3)⟩
theorem ev_dnotin (h1 : Ev ty σ H (vn k)) (h2 : Ev td σ H (.ref d)) (hk : Keys H d ks) : Ev (tDNotIn ty td) σ H (.bl (!decide (k ∈ ks))) := fun H1 e Q q => h1 H1 e _ fun H2 e2 => h2 H2 (e.trans e2) _ fun H3 e3 =>
  ⟨d, _, rfl, .inl ⟨_, Sum.inl (k : Int), .inl (((e.trans e2).trans e3) _ _ hk), rfl, rfl⟩, by rw [valV_keys]; exact q H3 (e2.trans e3)⟩
def addK (ks : List Nat) (k : Nat) : List Nat := if k ∈ ks then ks else ks ++ [k]
theorem s_dput (h1 : Ev td σ H (.ref d)) (h2 : Ev ty σ H (vn k)) (h3 : Ev tv σ H (.bl true)) (hk : Keys H d ks) (hl : ks.length < 90000) (c : ∀ H1, Ex H H1 → D.nx σ (upd H1 d (.dK ((addK ks k).map keyP)))) : sDPut td ty tv D σ H :=
  h3 H (Ex.refl H) _ fun H1 e1 => h1 H1 e1 _ fun H2 e2 => h2 H2 (e1.trans e2) _ fun H3 e3 => ⟨d, _, rfl, .inl ⟨_, Sum.inl (k : Int), ((e1.trans e2).trans e3) _ _ hk, rfl, sz_lt (by rw [List.length_map]; omega), rfl⟩, by
    rw [putK_keys]
    exact c H3 ((e1.trans e2).trans e3)⟩
theorem q_dput (h1 : Ev td σ H (.ref d)) (h2 : Ev ty σ H (vn k)) (h3 : Ev tv σ H (.bl true)) (hk : Keys H d ks) (hl : ks.length < 90000) (c : ∀ H1, Ex H H1 → tz D σ (upd H1 d (.dK ((addK ks k).map keyP)))) : tSeq (sDPut td ty tv) tz D σ H :=
  s_dput (D := { D with nx := tz D }) h1 h2 h3 hk hl c
/-- d.pop(k, None), dropped -/
theorem s_dpop (h1 : Ev td σ H (.ref d)) (h2 : Ev ty σ H (vn k)) (hk : Keys H d ks) (c : ∀ H1, Ex H H1 → D.nx σ (upd H1 d (.dK ((ks.filter fun y => decide (y ≠ k)).map keyP)))) (c2 : ∀ H1, Ex H H1 → Keys H1 d (ks.filter fun y => decide (y ≠ k)) → D.nx σ H1) : tDrop (tDPop2 td ty (tC .non)) D σ H :=
  h1 H (Ex.refl H) _ fun H1 e1 => ⟨d, rfl, .inl ⟨_, .inl (e1 _ _ hk)⟩, h2 H1 e1 _ fun H2 e2 => ⟨_, Sum.inl (k : Int), e2 _ _ (e1 _ _ hk), rfl, fun v hv => by
    rw [dropK_keys]
    exact c H2 (e1.trans e2), fun hn => by
    have : k ∉ ks := fun z => by
      have h := valV_keys ks k
      rw [hn] at h
      simp [z] at h
    exact c2 H2 (e1.trans e2) (by rw [dropK_none ks k this]; exact e2 _ _ (e1 _ _ hk))⟩⟩
theorem s_dpopX (h1 : Ev td σ H (.ref d)) (hk : Keys H d ks) (h : ∀ H1, Ex H H1 → ∀ Q : VK, ty σ H1 Q) : tDrop (tDPop2 td ty te) D σ H :=
  h1 H (Ex.refl H) _ fun H1 e1 => ⟨d, rfl, .inl ⟨_, .inl (e1 _ _ hk)⟩, h H1 e1 _⟩
theorem x_call {sp : Sp} {dvs vs : List V} {E : XK} {tr : TA} (h : EvA tr σ H vs) (hs : ∀ H1, Ex H H1 → ∀ Q : VK, sp (vs ++ dvs) H1 Q E) (Q : VK) : tCall sp dvs E tr σ H Q := h H (Ex.refl H) _ fun H1 e1 => hs H1 e1 Q
/-- {k: True} -/
theorem en_disp1 (h1 : Ev ty σ H (vn k)) (h2 : Ev tv σ H (.bl true)) : EvN (tDisp [(ty, tv)]) σ H (fun v fs G => ∃ p, v = .ref p ∧ fs = [p] ∧ Keys G p [k]) := fun H1 e Q q p hp => by
  have e1 : Ex H1 (upd H1 p (.dK [])) := Ex.new hp
  show ty σ _ _
  refine h1 _ (e.trans e1) _ fun H2 e2 => h2 H2 ((e.trans e1).trans e2) _ fun H3 e3 => ⟨e3 _ _ (e2 _ _ upd_same), [keyP k], rfl, by show 1 ≤ 15; decide, ?_⟩
  exact q _ [p] _ (((e1.trans e2).trans e3).mut hp) (fun r hr => by rw [List.mem_singleton.mp hr]; exact hp) ⟨p, rfl, rfl, upd_same⟩
theorem en_dnew : EvN tDNewK σ H (fun v fs G => ∃ p, v = .ref p ∧ fs = [p] ∧ Keys G p []) := fun H1 e Q q p hp =>
  q _ [p] _ (Ex.new hp) (fun r hr => by rw [List.mem_singleton.mp hr]; exact hp) ⟨p, rfl, rfl, upd_same⟩
/-- sorted(d) -/
def rSortedDI (K : PySem.W.Frag) : List V → Hp → VK → Prop := fun xs H Q => ∃ (a : Addr) (kvs : List (Key × V)) (ks : List Int), xs = [.ref a] ∧ Rd H a (.dK kvs) ∧ kvs.map (·.1) = ks.map Sum.inl ∧ ks.length < 64 ∧
    ∀ (ys : List Int) (p : Addr), ys.Perm ks → ys.Pairwise (· ≤ ·) → H p = none → Q (.ref p) (upd H p (.lst (ys.map V.int)))
theorem el_sortedD {ta : TA} (h : EvA ta σ H [.ref d]) (hk : Keys H d ks) (hl : ks.length < 64) : EvL (tCB (rSortedDI K) ta) σ H ((srt ks).map vn) := fun H1 e Q q => h H1 e _ fun H2 e2 =>
  ⟨d, _, ks.map (fun n : Nat => (n : Int)), rfl, .inl (e2 _ _ (e _ _ hk)), by rw [List.map_map, List.map_map]; rfl, by rw [List.length_map]; exact hl, fun ys p pm pw hp => by
    rw [srt_ints pm pw]
    exact q p _ (fresh_back e2 hp) (e2.trans (Ex.new hp)) upd_same⟩
/-- x = xs.pop() -/
theorem q_popAsg {l : Addr} {ws : List Nat} {i : Nat} (h : Ev ta σ H (.ref l)) (hl : Ints H l (ws ++ [k])) (c : ∀ H1, Ex H H1 → tz D (σ.set i (some (vn k))) (upd H1 l (.lst (ws.map vn)))) : tSeq (tAsg (tBM0 K "list" rPop ta) (gName i)) tz D σ H :=
  h H (Ex.refl H) _ fun H1 e1 => ⟨.inl ⟨rfl, _, sq_of (e1 _ _ hl)⟩, l, (ws ++ [k]).map vn, vn k, rfl, rfl, e1 _ _ hl, by simp, by
    have : ((ws ++ [k]).map vn).dropLast = ws.map vn := by rw [List.map_append]; exact List.dropLast_concat
    rw [this]
    exact c H1 e1⟩
end
/-! ### what can be reached -/
inductive Reach (nb : Nat → List Nat) (th : Nat → Bool) (s : Nat) : Nat → Prop
  | base : Reach nb th s s
  | step {x y : Nat} : Reach nb th s x → y ∈ nb x → th y = true → Reach nb th s y
open Classical in
noncomputable def partL (n : Nat) (nb : Nat → List Nat) (th : Nat → Bool) (s : Nat) : List Nat := (List.range n).filter fun x => decide (Reach nb th s x)
structure Dfs (n : Nat) (nb : Nat → List Nat) (th : Nat → Bool) (s : Nat) (ms ws : List Nat) : Prop where
  nd : ms.Nodup
  start : s ∈ ms
  lt : ∀ x ∈ ms, x < n
  re : ∀ x ∈ ms, Reach nb th s x
  sub : ∀ x ∈ ws, x ∈ ms
  cl : ∀ x ∈ ms, x ∈ ws ∨ ∀ y ∈ nb x, th y = true → y ∈ ms
structure DfsM (n : Nat) (nb : Nat → List Nat) (th : Nat → Bool) (s : Nat) (ms ws : List Nat) (h k : Nat) : Prop where
  nd : ms.Nodup
  start : s ∈ ms
  here : h ∈ ms
  lt : ∀ x ∈ ms, x < n
  re : ∀ x ∈ ms, Reach nb th s x
  sub : ∀ x ∈ ws, x ∈ ms
  cl : ∀ x ∈ ms, x ∈ ws ∨ x = h ∨ ∀ y ∈ nb x, th y = true → y ∈ ms
  pre : ∀ y ∈ (nb h).take k, th y = true → y ∈ ms
section
variable {n : Nat} {nb : Nat → List Nat} {th : Nat → Bool} {s : Nat} {ms ws : List Nat} {h k y : Nat}
theorem dfs_init (hs : s < n) : Dfs n nb th s [s] [s] := by
  refine ⟨by simp, by simp, fun x hx => ?_, fun x hx => ?_, fun x hx => hx, fun x hx => .inl hx⟩
  · rw [List.mem_singleton.mp hx]; exact hs
  · rw [List.mem_singleton.mp hx]; exact .base
theorem dfs_pop (d : Dfs n nb th s ms (ws ++ [h])) : DfsM n nb th s ms ws h 0 := by
  refine ⟨d.nd, d.start, d.sub h (by simp), d.lt, d.re, fun x hx => d.sub x (by simp [hx]), fun x hx => ?_, fun y hy => by simp at hy⟩
  rcases d.cl x hx with z | z
  · rcases List.mem_append.mp z with z | z
    · exact .inl z
    · exact .inr (.inl (List.mem_singleton.mp z))
  · exact .inr (.inr z)
theorem dfs_no (d : DfsM n nb th s ms ws h k) (hy : (nb h)[k]? = some y) (no : th y = true → y ∈ ms) : DfsM n nb th s ms ws h (k + 1) := by
  refine ⟨d.nd, d.start, d.here, d.lt, d.re, d.sub, d.cl, fun z hz => ?_⟩
  rw [take_snoc hy] at hz
  rcases List.mem_append.mp hz with c | c
  · exact d.pre z c
  · rw [List.mem_singleton.mp c]; exact no
theorem dfs_yes (d : DfsM n nb th s ms ws h k) (hy : (nb h)[k]? = some y) (ht : th y = true) (ny : y ∉ ms) (yn : y < n) : DfsM n nb th s (ms ++ [y]) (ws ++ [y]) h (k + 1) := by
  have up : ∀ x, x ∈ ms → x ∈ ms ++ [y] := fun x hx => List.mem_append_left _ hx
  refine ⟨?_, up _ d.start, up _ d.here, fun x hx => ?_, fun x hx => ?_, fun x hx => ?_, fun x hx => ?_, fun z hz ht' => ?_⟩
  · exact List.nodup_append.mpr ⟨d.nd, by simp, fun a ha b hb z => ny (by rw [List.mem_singleton.mp hb] at z; rw [← z]; exact ha)⟩
  · rcases List.mem_append.mp hx with c | c
    · exact d.lt x c
    · rw [List.mem_singleton.mp c]; exact yn
  · rcases List.mem_append.mp hx with c | c
    · exact d.re x c
    · rw [List.mem_singleton.mp c]; exact .step (d.re h d.here) (List.mem_of_getElem? hy) ht
  · rcases List.mem_append.mp hx with c | c
    · exact up x (d.sub x c)
    · exact List.mem_append_right _ c
  · rcases List.mem_append.mp hx with c | c
    · rcases d.cl x c with e | e | e
      · exact .inl (List.mem_append_left _ e)
      · exact .inr (.inl e)
      · exact .inr (.inr fun z hz hz' => up z (e z hz hz'))
    · exact .inl (List.mem_append_right _ c)
  · rw [take_snoc hy] at hz
    rcases List.mem_append.mp hz with c | c
    · exact up z (d.pre z c ht')
    · exact List.mem_append_right _ c
theorem dfs_done (d : DfsM n nb th s ms ws h (nb h).length) : Dfs n nb th s ms ws := by
  refine ⟨d.nd, d.start, d.lt, d.re, d.sub, fun x hx => ?_⟩
  rcases d.cl x hx with e | e | e
  · exact .inl e
  · subst e
    refine .inr fun y hy => d.pre y ?_
    rw [List.take_length]
    exact hy
  · exact .inr e
theorem dfs_mem (d : Dfs n nb th s ms []) (x : Nat) : x ∈ ms ↔ Reach nb th s x := by
  refine ⟨d.re x, fun r => ?_⟩
  induction r with
  | base => exact d.start
  | step r hy ht ih =>
    rcases d.cl _ ih with c | c
    · cases c
    · exact c _ hy ht
theorem partL_le (n : Nat) (nb : Nat → List Nat) (th : Nat → Bool) (s : Nat) : (partL n nb th s).Pairwise (· < ·) := List.Pairwise.filter _ List.pairwise_lt_range
theorem partL_nodup (n : Nat) (nb : Nat → List Nat) (th : Nat → Bool) (s : Nat) : (partL n nb th s).Nodup := (partL_le n nb th s).imp fun h => Nat.ne_of_lt h
open Classical in
theorem mem_partL {x : Nat} : x ∈ partL n nb th s ↔ x < n ∧ Reach nb th s x := by
  unfold partL
  rw [List.mem_filter, List.mem_range]
  exact and_congr_right fun _ => ⟨fun h => of_decide_eq_true h, fun h => decide_eq_true h⟩
theorem dfs_end (d : Dfs n nb th s ms []) : srt ms = partL n nb th s := by
  refine (srt_one ?_ ((partL_le n nb th s).imp fun h => Nat.le_of_lt h)).symm
  refine (List.perm_ext_iff_of_nodup (partL_nodup _ _ _ _) d.nd).mpr fun x => ?_
  rw [mem_partL, dfs_mem d]
  exact ⟨fun h => h.2, fun h => ⟨d.lt x ((dfs_mem d x).mpr h), h⟩⟩
theorem few_of {ms : List Nat} (nd : ms.Nodup) (lt : ∀ x ∈ ms, x < n) : ms.length ≤ n := by
  have : ms.Perm ((List.range n).filter fun x => decide (x ∈ ms)) := by
    refine (List.perm_ext_iff_of_nodup nd (List.nodup_range.filter _)).mpr fun x => ?_
    rw [List.mem_filter, List.mem_range, decide_eq_true_iff]
    exact ⟨fun h => ⟨lt x h, h⟩, fun h => h.2⟩
  rw [this.length_eq]
  have := List.length_filter_le (fun x => decide (x ∈ ms)) (List.range n)
  rw [List.length_range] at this
  exact this
end
end OP

/-! The parts of a net, plainly. -/
namespace OP
open PySem PySem.Spec PyProof.Rows L2 Evl
def nbOf (W : Web) (i : Nat) : List Nat := W.near.getD i []
def inK (ks : List Nat) (x : Nat) : Bool := decide (x ∈ ks)
theorem WebOk.nb {W : Web} (ok : WebOk W) {h : Nat} (hh : h < W.size) : ∃ r, W.near[h]? = some r ∧ nbOf W h = r ∧ r.length ≤ 40 ∧ ∀ x ∈ r, x < W.size := by
  obtain ⟨r, hr⟩ : ∃ r, W.near[h]? = some r := ⟨_, List.getElem?_eq_getElem (by rw [ok.len]; exact hh)⟩
  have := ok.row r (List.mem_of_getElem? hr)
  exact ⟨r, hr, by rw [nbOf, List.getD_eq_getElem?_getD, hr]; rfl, Nat.le_trans this.1 ok.small, this.2⟩
noncomputable def partsStep (n : Nat) (nb : Nat → List Nat) (th : Nat → Bool) (acc : List (List Nat)) (i : Nat) : List (List Nat) := if th i = true ∧ i ∉ acc.flatten then acc ++ [partL n nb th i] else acc
noncomputable def partsPre (n : Nat) (nb : Nat → List Nat) (th : Nat → Bool) (i : Nat) : List (List Nat) := (List.range i).foldl (partsStep n nb th) []
noncomputable def partsL (n : Nat) (nb : Nat → List Nat) (th : Nat → Bool) : List (List Nat) := partsPre n nb th n
section
variable {n : Nat} {nb : Nat → List Nat} {th : Nat → Bool}
theorem partsPre_succ (i : Nat) : partsPre n nb th (i + 1) = partsStep n nb th (partsPre n nb th i) i := by
  unfold partsPre
  rw [List.range_succ, List.foldl_append]
  rfl
theorem partsPre_yes {i : Nat} (h : th i = true ∧ i ∉ (partsPre n nb th i).flatten) : partsPre n nb th (i + 1) = partsPre n nb th i ++ [partL n nb th i] := by
  rw [partsPre_succ, partsStep, if_pos h]
theorem partsPre_no {i : Nat} (h : ¬ (th i = true ∧ i ∉ (partsPre n nb th i).flatten)) : partsPre n nb th (i + 1) = partsPre n nb th i := by
  rw [partsPre_succ, partsStep, if_neg h]
theorem partsPre_len (i : Nat) : (partsPre n nb th i).length ≤ i := by
  induction i with
  | zero => exact Nat.le_refl _
  | succ i ih =>
    by_cases h : th i = true ∧ i ∉ (partsPre n nb th i).flatten
    · rw [partsPre_yes h, List.length_append, List.length_singleton]
      omega
    · rw [partsPre_no h]
      omega
/-- every part has its own first place -/
theorem partsPre_mem (i : Nat) (hi : i ≤ n) : ∀ p ∈ partsPre n nb th i, ∃ s, s < n ∧ th s = true ∧ p = partL n nb th s := by
  induction i with
  | zero => intro p hp; cases hp
  | succ i ih =>
    intro p hp
    by_cases h : th i = true ∧ i ∉ (partsPre n nb th i).flatten
    · rw [partsPre_yes h] at hp
      rcases List.mem_append.mp hp with c | c
      · exact ih (by omega) p c
      · exact ⟨i, by omega, h.1, List.mem_singleton.mp c⟩
    · rw [partsPre_no h] at hp
      exact ih (by omega) p hp
theorem partL_self {s : Nat} (h : s < n) : s ∈ partL n nb th s := mem_partL.mpr ⟨h, .base⟩
theorem partsL_ne : ∀ p ∈ partsL n nb th, p ≠ [] := fun p hp => by
  obtain ⟨s, hs, _, rfl⟩ := partsPre_mem n (Nat.le_refl _) p hp
  intro z
  have := partL_self (nb := nb) (th := th) hs
  rw [z] at this
  cases this
theorem partL_few {s : Nat} : (partL n nb th s).length ≤ n := few_of (partL_nodup _ _ _ _) fun x hx => (mem_partL.mp hx).1
end
theorem mem_addK {ks : List Nat} {k x : Nat} : x ∈ addK ks k ↔ x ∈ ks ∨ x = k := by
  unfold addK
  split
  · rename_i h
    exact ⟨fun z => .inl z, fun z => z.elim id fun e => by rw [e]; exact h⟩
  · rw [List.mem_append, List.mem_singleton]
theorem addK_nodup {ks : List Nat} {k : Nat} (h : ks.Nodup) : (addK ks k).Nodup := by
  unfold addK
  split
  · exact h
  · rename_i c
    exact List.nodup_append.mpr ⟨h, by simp, fun a ha b hb z => c (by rw [List.mem_singleton.mp hb] at z; rw [← z]; exact ha)⟩
/-- the places that are left -/
def thOf (n : Nat) (ts : List Nat) (x : Nat) : Bool := decide (x < n) && !decide (x ∈ ts)
theorem thOf_of {n : Nat} {ks ts : List Nat} (h : ∀ x, x ∈ ks ↔ x < n ∧ x ∉ ts) : inK ks = thOf n ts := by
  funext x
  unfold inK thOf
  by_cases c : x ∈ ks
  · have := (h x).mp c
    simp [c, this]
  · have := mt (h x).mpr c
    simp only [c, decide_false]
    by_cases c1 : x < n
    · have : x ∈ ts := Classical.byContradiction fun z => this ⟨c1, z⟩
      simp [this]
    · simp [c1]
section
variable {K : PySem.W.Frag} {σ : L2.St} {H H' : Hp} {ta tb td ty tv te tx : TE} {x y z v : V}
theorem s_dropX {D : Ends} (h : ∀ Q : VK, te σ H Q) : tDrop te D σ H := h _
theorem s_dropX1 {D : Ends} (h : te σ H (fun _ H1 => D.nx σ H1)) : tDrop te D σ H := h
theorem paired_at' {α β : Type} {F : α → β → Prop} {as : List α} {bs : List β} {i : Nat} {a : α} {b : β} (p : Paired F as bs) (ha : as[i]? = some a) (hb : bs[i]? = some b) : F a b := by
  obtain ⟨b', h1, h2⟩ := paired_get' p ha
  rw [hb] at h1
  cases h1
  exact h2
theorem ep_lF {P : HV} {xs : List V} (h : EvL te σ H xs) (p : ∀ a G, Ex H G → H a = none → G a = some (.lst xs) → P G (.ref a)) : EvP te σ H P := fun H1 e Q q => h H1 e Q fun a H2 ha e2 h2 => q _ H2 e2 (p a H2 (e.trans e2) (fresh_back e ha) h2)
theorem q_forN {R : Rn} {D : Ends} {tu tz : TS} {tl : TE} {j : Nat} (h : EvN tl σ H R) (k : ∀ v fs H1, Ex H H1 → (∀ p ∈ fs, H p = none) → R v fs H1 → ∃ a xs, v = .ref a ∧ SqL K H1 a xs ∧ ∃ Pv : Nat → L2.St → Hp → Prop, Pv 0 σ H1 ∧ (∀ i σ' H', i ≤ xs.length → Pv i σ' H' → SqL K H' a xs) ∧
    (∀ i x σ' H', xs[i]? = some x → Pv i σ' H' → tu { D with nx := Pv (i + 1), ct := Pv (i + 1), bk := tz D } (σ'.set j (some x)) H') ∧ (∀ σ' H', Pv xs.length σ' H' → tz D σ' H')) : tSeq (tFor (iList K tl) (gName j) tu) tz D σ H :=
  h H (Ex.refl H) _ fun v fs H1 e f r => by
    obtain ⟨a, xs, rfl, hx, Pv, h0, hl, hs, hd⟩ := k v fs H1 e f r
    exact ⟨a, rfl, ⟨xs, hx⟩, for_list (D := { D with nx := tz D }) Pv h0 hl hs hd⟩
theorem en_of_epl {P : HV} {n : Nat} (h : EvPL te σ H n P) : EvN te σ H (fun v fs G => ∃ p vs, v = .ref p ∧ fs = [p] ∧ G p = some (.lst vs) ∧ vs.length = n ∧ ∀ x ∈ vs, P G x) := fun H1 e Q q => h H1 e Q fun p vs H2 hp e2 h2 len pv => q _ [p] H2 e2 (fun r hr => by rw [List.mem_singleton.mp hr]; exact hp) ⟨p, vs, rfl, rfl, h2, len, pv⟩
/-- o.m(..) of a list, the value dropped -/
theorem q_dropM {r : V → List V → Hp → VK → Prop} {D : Ends} {tz : TS} {l : Addr} {xs vs : List V} {tr : TA} (ho : Ev ta σ H (.ref l)) (hl : H l = some (.lst xs)) (h : EvA tr σ H vs) (k : ∀ H1, Ex H H1 → r (.ref l) vs H1 fun _ H2 => tz D σ H2) : tSeq (tDrop (tBM K "list" r ta tr)) tz D σ H :=
  ho H (Ex.refl H) _ fun H1 e1 => ⟨.inl ⟨rfl, xs, sq_of (e1 _ _ hl)⟩, h H1 e1 _ fun H2 e2 => k H2 (e1.trans e2)⟩
theorem q_dropM0 {r : V → List V → Hp → VK → Prop} {D : Ends} {tz : TS} {l : Addr} {xs : List V} (ho : Ev ta σ H (.ref l)) (hl : H l = some (.lst xs)) (k : ∀ H1, Ex H H1 → r (.ref l) [] H1 fun _ H2 => tz D σ H2) : tSeq (tDrop (tBM0 K "list" r ta)) tz D σ H :=
  ho H (Ex.refl H) _ fun H1 e1 => ⟨.inl ⟨rfl, xs, sq_of (e1 _ _ hl)⟩, k H1 e1⟩
/-- i % m, m > 0 -/
theorem ev_modN {i : Int} {m : Nat} (hm : 0 < m) (h : Ev te σ H (.int i)) (h2 : Ev tb σ H (vn m)) : Ev (tOp (rI (fun _ j => 0 < j) fun i j => .int (i % j)) te tb) σ H (vn (i % m).toNat) := ev_is (ev_op h h2 (rv_I (by omega))) (by
  have := Int.emod_nonneg i (show (m : Int) ≠ 0 by omega)
  show V.int _ = V.int _
  rw [Int.toNat_of_nonneg this])
theorem modN_lt (i : Int) {m : Nat} (hm : 0 < m) : (i % m).toNat < m := by
  have h1 := Int.emod_nonneg i (show (m : Int) ≠ 0 by omega)
  have h2 := Int.emod_lt_of_pos i (show (0 : Int) < m by omega)
  omega
/-- xs.append(e), e a new thing -/
theorem q_appN {R : Rn} {D : Ends} {tz : TS} {l : Addr} {xs : List V} (hl : H l = some (.lst xs)) (ha : Ev ta σ H (.ref l)) (h : EvN te σ H R) (hz : xs.length < 100000) (k : ∀ v fs H1, Ex H H1 → (∀ p ∈ fs, H p = none) → R v fs H1 → tz D σ (upd H1 l (.lst (xs ++ [v])))) :
    tSeq (tDrop (tBM K "list" rAppend ta (tCons te tNil))) tz D σ H := ha H (Ex.refl H) _ fun H1 e1 =>
  ⟨Or.inl ⟨rfl, xs, sq_of (e1 l _ hl)⟩, h H1 e1 _ fun v fs H2 e2 fr r => ⟨l, xs, v, rfl, rfl, e2 l _ (e1 l _ hl), sz_lt hz, k v fs H2 (e1.trans e2) (fun p hp => fresh_back e1 (fr p hp)) r⟩⟩
theorem atI_last {xs : List V} {v : V} : atI (xs ++ [v]) (-1) = some v := by
  have : ixN (xs ++ [v]).length (-1) = some xs.length := by
    unfold ixN
    rw [if_neg (by decide)]
    rw [List.length_append, List.length_singleton]
    rw [if_pos (by omega)]
    congr 1
    omega
  unfold atI
  rw [this]
  simp
/-- [(e, True) for i in range(n) if t] -/
theorem en_pairsTrue {tr : TA} {t : TT} {j n : Nat} {vs : List Nat} (f : Nat → Bool) (h : EvA tr σ H [.int n]) (hn : n ≤ 40000) (hw : ∀ x, wipe ((wipe σ vs).set j (some x)) vs = wipe σ vs)
    (ht : ∀ (i : Nat) H1, Ex H H1 → i < n → EvT t ((wipe σ vs).set j (some (vn i))) H1 (f i)) (he : ∀ (i : Nat) H1, Ex H H1 → i < n → EvU te ((wipe σ vs).set j (some (vn i))) H1 [vn i, .bl true]) :
    EvN (tLc (iRng1 tr) (gName j) t te vs) σ H (fun v fs G => ∃ D as, v = .ref D ∧ G D = some (.lst (as.map V.ref)) ∧ Paired (fun p k => G p = some (.tup [vn k, .bl true])) as ((List.range n).filter f)) := fun H0 e Q q =>
  h H0 e _ fun H1 e1 => ⟨n, rfl, by omega, by omega, fun D hD =>
  lc_range (lo := 0) (n := (n : Int).toNat) (fun i H' => Ex H1 H' ∧ ∃ as, H' D = some (.lst (as.map V.ref)) ∧ Paired (fun p k => H' p = some (.tup [vn k, .bl true])) as ((List.range i).filter f))
    ⟨Ex.new hD, [], upd_same, .nil⟩
    (fun i H' hi ⟨e2, as, hd, hp⟩ => by
      have e0 : (0 : Int) + (i : Int) = (i : Int) := Int.zero_add _
      rw [Int.toNat_natCast] at hi
      show wipe ((wipe σ vs).set j (some (.int ((0 : Int) + (i : Int))))) vs = wipe σ vs ∧ t ((wipe σ vs).set j (some (.int ((0 : Int) + (i : Int))))) H' fun b H3 => if b = true then te ((wipe σ vs).set j (some (.int ((0 : Int) + (i : Int))))) H3 fun y H4 => ∃ acc, H4 D = some (.lst acc) ∧ acc.length < sizeLine ∧ _ else _
      rw [e0]
      refine ⟨hw _, ht i H' ((e.trans e1).trans e2) hi H' (Ex.refl H') _ fun H3 e3 => ?_⟩
      have len : as.length ≤ i := by
        rw [paired_len hp]
        have := List.length_filter_le f (List.range i)
        rw [List.length_range] at this
        exact this
      cases hf : f i with
      | false =>
        show Ex H1 H3 ∧ _
        refine ⟨e2.trans e3, as, e3 _ _ hd, ?_⟩
        rw [List.range_succ, List.filter_append]
        simp only [List.filter_cons, List.filter_nil, hf, Bool.false_eq_true, if_false, List.append_nil]
        exact Paired.mapP hp fun _ _ z => e3 _ _ z
      | true =>
        show te _ H3 _
        refine he i H' ((e.trans e1).trans e2) hi H3 e3 _ fun p H4 hp4 e4 hpt => ⟨as.map V.ref, e4 _ _ (e3 _ _ hd), sz_lt (by rw [List.length_map]; omega), ((e2.trans e3).trans e4).mut hD, as ++ [p], by rw [upd_same, List.map_append]; rfl, ?_⟩
        rw [List.range_succ, List.filter_append]
        simp only [List.filter_cons, List.filter_nil, hf, if_true]
        have ne : ∀ b k, H' b = some (.tup [vn k, .bl true]) → b ≠ D := fun b k z w => by rw [w, hd] at z; cases z
        refine paired_app (Paired.mapP hp fun b k z => ?_) (.cons ?_ .nil)
        · rw [upd_ne (ne b k z)]
          exact e4 _ _ (e3 _ _ z)
        · rw [upd_ne (fun w => by rw [w, e3 _ _ hd] at hp4; cases hp4)]
          exact hpt)
    (fun H' ⟨e2, as, hd, hp⟩ => by
      rw [Int.toNat_natCast] at hp
      exact q _ [] H' (e1.trans e2) (fun r hr => nomatch hr) ⟨D, as, rfl, hd, hp⟩)⟩
def rDictP (K : PySem.W.Frag) : List V → Hp → VK → Prop := fun xs H Q => ∃ (a : Addr) (ps : List Addr) (kvs : List (Key × V)), xs = [.ref a] ∧ SqL K H a (ps.map V.ref) ∧ Paired (fun p kv => SqT K H p [kV kv.1, kv.2]) ps kvs ∧
    ∀ p, H p = none → Q (.ref p) (upd H p (.dK (mergeK [] kvs)))
theorem mergeK_keys : ∀ (ks acc : List Nat), (acc ++ ks).Nodup → mergeK (acc.map keyP) (ks.map keyP) = (acc ++ ks).map keyP
  | [], acc, _ => by rw [List.append_nil]; rfl
  | k :: ks, acc, nd => by
    show mergeK (putK (acc.map keyP) (Sum.inl (k : Int)) (.bl true)) (ks.map keyP) = _
    have : k ∉ acc := fun z => by
      have := (List.nodup_append.mp nd).2.2 k z k List.mem_cons_self
      exact this rfl
    rw [putK_keys, if_neg this, mergeK_keys ks (acc ++ [k]) (by rw [List.append_assoc]; exact nd), List.append_assoc]
    rfl
theorem paired_mapR {α β γ : Type} {F : α → β → Prop} {G : α → γ → Prop} {g : β → γ} : ∀ {as : List α} {bs : List β}, Paired F as bs → (∀ a b, F a b → G a (g b)) → Paired G as (bs.map g)
  | _, _, .nil, _ => .nil
  | _, _, .cons r t, h => .cons (h _ _ r) (paired_mapR t h)
/-- dict([(k, True) ..]) -/
theorem en_dictTrue {ks : List Nat} (nd : ks.Nodup) (h : EvN ta σ H (fun v fs G => ∃ D as, v = .ref D ∧ G D = some (.lst (as.map V.ref)) ∧ Paired (fun p k => G p = some (.tup [vn k, .bl true])) as ks)) : EvN (tCB (rDictP K) (tCons ta tNil)) σ H (fun v fs G => ∃ p, v = .ref p ∧ fs = [p] ∧ Keys G p ks) := fun H1 e Q q =>
  h H1 e _ fun v fs H2 e2 fr r => by
    obtain ⟨D, as, rfl, hD, hp⟩ := r
    refine ⟨D, as, ks.map keyP, rfl, sq_of hD, ?_, fun p hp2 => ?_⟩
    · exact paired_mapR hp fun a k z => st_of z
    · have := mergeK_keys ks [] nd
      rw [show mergeK [] (ks.map keyP) = ks.map keyP from this]
      exact q _ [p] _ (e2.trans (Ex.new hp2)) (fun r hr => by rw [List.mem_singleton.mp hr]; exact fresh_back e2 hp2) ⟨p, rfl, rfl, upd_same⟩
end
end OP

/-! Pairings, plainly. -/
namespace OP
open PySem PySem.Spec PyProof.Rows L2 Evl
def Apart (p q : Nat × Nat) : Prop := p.1 ≠ q.1 ∧ p.1 ≠ q.2 ∧ p.2 ≠ q.1 ∧ p.2 ≠ q.2
structure PairsOk (W : Web) (ps : List (Nat × Nat)) : Prop where
  tie : ∀ p ∈ ps, p.1 < p.2 ∧ p.2 < W.size ∧ p.2 ∈ nbOf W p.1
  apart : ps.Pairwise Apart
def mateOf (ps : List (Nat × Nat)) (i : Nat) : Option Nat := ps.findSome? fun p => if p.1 = i then some p.2 else if p.2 = i then some p.1 else none
def mateL (n : Nat) (ps : List (Nat × Nat)) : List (Option Nat) := (List.range n).map (mateOf ps)
theorem mateL_len (n : Nat) (ps : List (Nat × Nat)) : (mateL n ps).length = n := by simp [mateL]
theorem mateL_get {n : Nat} (ps : List (Nat × Nat)) {i : Nat} (h : i < n) : (mateL n ps)[i]? = some (mateOf ps i) := by
  unfold mateL
  simp [h]
theorem mateOf_none {ps : List (Nat × Nat)} {i : Nat} : mateOf ps i = none ↔ ∀ p ∈ ps, p.1 ≠ i ∧ p.2 ≠ i := by
  unfold mateOf
  rw [List.findSome?_eq_none_iff]
  refine forall_congr' fun p => forall_congr' fun hp => ?_
  by_cases h1 : p.1 = i
  · simp [h1]
  · by_cases h2 : p.2 = i
    · simp [h1, h2]
    · simp [h1, h2]
theorem PairsOk.pre {W : Web} {ps qs : List (Nat × Nat)} (h : PairsOk W (ps ++ qs)) : PairsOk W ps :=
  ⟨fun p hp => h.tie p (List.mem_append_left _ hp), (List.pairwise_append.mp h.apart).1⟩
theorem PairsOk.snoc {W : Web} {ps : List (Nat × Nat)} {q : Nat × Nat} : PairsOk W (ps ++ [q]) ↔ PairsOk W ps ∧ (q.1 < q.2 ∧ q.2 < W.size ∧ q.2 ∈ nbOf W q.1) ∧ ∀ p ∈ ps, Apart p q := by
  constructor
  · intro h
    exact ⟨h.pre, h.tie q (by simp), fun p hp => (List.pairwise_append.mp h.apart).2.2 p hp q (by simp)⟩
  · rintro ⟨h1, h2, h3⟩
    refine ⟨fun p hp => ?_, List.pairwise_append.mpr ⟨h1.apart, by simp, fun p hp r hr => by rw [List.mem_singleton.mp hr]; exact h3 p hp⟩⟩
    rcases List.mem_append.mp hp with c | c
    · exact h1.tie p c
    · rw [List.mem_singleton.mp c]; exact h2
theorem apart_free {ps : List (Nat × Nat)} {q : Nat × Nat} : (∀ p ∈ ps, Apart p q) ↔ mateOf ps q.1 = none ∧ mateOf ps q.2 = none := by
  rw [mateOf_none, mateOf_none]
  constructor
  · intro h
    exact ⟨fun p hp => ⟨(h p hp).1, (h p hp).2.2.1⟩, fun p hp => ⟨(h p hp).2.1, (h p hp).2.2.2⟩⟩
  · rintro ⟨h1, h2⟩ p hp
    exact ⟨(h1 p hp).1, (h2 p hp).1, (h1 p hp).2, (h2 p hp).2⟩
theorem mateOf_snoc {ps : List (Nat × Nat)} {q : Nat × Nat} (ne : q.1 ≠ q.2) (f1 : mateOf ps q.1 = none) (f2 : mateOf ps q.2 = none) (i : Nat) : mateOf (ps ++ [q]) i = if i = q.2 then some q.1 else if i = q.1 then some q.2 else mateOf ps i := by
  have e : mateOf (ps ++ [q]) i = (mateOf ps i).or (if q.1 = i then some q.2 else if q.2 = i then some q.1 else none) := by
    unfold mateOf
    rw [List.findSome?_append]
    congr 1
    rw [List.findSome?_cons]
    split
    · rename_i h
      rw [h]
    · rename_i h
      rw [h]
      rfl
  rw [e]
  by_cases h2 : i = q.2
  · subst h2
    rw [f2, if_pos rfl, if_neg ne, if_pos rfl]
    rfl
  · rw [if_neg h2]
    by_cases h1 : i = q.1
    · subst h1
      rw [f1, if_pos rfl, if_pos rfl]
      rfl
    · rw [if_neg h1, if_neg (fun z => h1 z.symm), if_neg (fun z => h2 z.symm), Option.or_none]
theorem mateOf_some {W : Web} {ps : List (Nat × Nat)} (ok : PairsOk W ps) {i j : Nat} : mateOf ps i = some j ↔ (i, j) ∈ ps ∨ (j, i) ∈ ps := by
  constructor
  · intro h
    unfold mateOf at h
    obtain ⟨p, hp, e⟩ := List.exists_of_findSome?_eq_some h
    split at e
    · rename_i c
      cases e
      rw [← c]
      exact .inl hp
    · split at e
      · rename_i c
        cases e
        rw [← c]
        exact .inr hp
      · cases e
  · intro h
    -- the first one that has i is the only one
    have key : ∀ p ∈ ps, (p.1 = i ∨ p.2 = i) → ∀ q ∈ ps, (q.1 = i ∨ q.2 = i) → p = q := fun p hp h1 q hq h2 => by
      refine Classical.byContradiction fun ne => ?_
      have ap : Apart p q ∨ Apart q p := by
        have := List.pairwise_iff_getElem.mp ok.apart
        obtain ⟨a, ha, rfl⟩ := List.getElem_of_mem hp
        obtain ⟨b, hb, rfl⟩ := List.getElem_of_mem hq
        rcases Nat.lt_trichotomy a b with c | c | c
        · exact .inl (this a b ha hb c)
        · subst c; exact absurd rfl ne
        · exact .inr (this b a hb ha c)
      rcases ap with ⟨x1, x2, x3, x4⟩ | ⟨x1, x2, x3, x4⟩ <;> omega
    cases e : mateOf ps i with
    | none =>
      have := mateOf_none.mp e
      rcases h with h | h
      · exact absurd rfl (this _ h).1
      · exact absurd rfl (this _ h).2
    | some k =>
      have e2 := e
      unfold mateOf at e2
      obtain ⟨p, hp, e2⟩ := List.exists_of_findSome?_eq_some e2
      split at e2
      · rename_i c
        cases e2
        rcases h with h | h
        · have := key p hp (.inl c) _ h (.inl rfl)
          rw [this]
        · have := key p hp (.inl c) _ h (.inr rfl)
          have t := ok.tie _ h
          rw [this] at c
          dsimp only at c t
          omega
      · split at e2
        · rename_i c
          cases e2
          rcases h with h | h
          · have := key p hp (.inr c) _ h (.inl rfl)
            have t := ok.tie _ h
            rw [this] at c
            dsimp only at c t
            omega
          · have := key p hp (.inr c) _ h (.inr rfl)
            rw [this]
        · cases e2
/-- the pairs that mates tell -/
def upB (ms : List (Option Nat)) (i : Nat) : Bool := match ms.getD i none with
  | some j => decide (i < j)
  | none => false
def pairsOf (ms : List (Option Nat)) : List (Nat × Nat) := ((List.range ms.length).filter (upB ms)).map fun i => (i, (ms.getD i none).getD 0)
theorem mem_pairsOf {ms : List (Option Nat)} {p : Nat × Nat} : p ∈ pairsOf ms ↔ ms[p.1]? = some (some p.2) ∧ p.1 < p.2 := by
  unfold pairsOf
  rw [List.mem_map]
  constructor
  · rintro ⟨i, hi, rfl⟩
    obtain ⟨h1, h2⟩ := List.mem_filter.mp hi
    have h1 := List.mem_range.mp h1
    unfold upB at h2
    rw [List.getD_eq_getElem?_getD] at h2 ⊢
    rw [List.getElem?_eq_getElem h1] at h2 ⊢
    dsimp only [Option.getD_some] at h2 ⊢
    split at h2
    · rename_i j e
      rw [e]
      exact ⟨rfl, by simpa using h2⟩
    · cases h2
  · rintro ⟨h1, h2⟩
    obtain ⟨hl, he⟩ := List.getElem?_eq_some_iff.mp h1
    refine ⟨p.1, List.mem_filter.mpr ⟨List.mem_range.mpr hl, ?_⟩, ?_⟩
    · unfold upB
      rw [List.getD_eq_getElem?_getD, h1]
      exact decide_eq_true h2
    · rw [List.getD_eq_getElem?_getD, h1]
      rfl
theorem pairsOf_sorted (ms : List (Option Nat)) : (pairsOf ms).Pairwise fun a b => a.1 < b.1 := by
  unfold pairsOf
  rw [List.pairwise_map]
  exact List.pairwise_lt_range.filter _
theorem pairsOf_len (ms : List (Option Nat)) : (pairsOf ms).length ≤ ms.length := by
  unfold pairsOf
  rw [List.length_map]
  have := List.length_filter_le (upB ms) (List.range ms.length)
  rw [List.length_range] at this
  exact this
theorem PairsOk.nodup {W : Web} {ps : List (Nat × Nat)} (ok : PairsOk W ps) : ps.Nodup := ok.apart.imp fun h e => h.1 (by rw [e])
theorem pairsOf_mates {W : Web} {ps : List (Nat × Nat)} (ok : PairsOk W ps) : pairsOf (mateL W.size ps) = srtP ps := by
  have s := pairsOf_sorted (mateL W.size ps)
  refine srtP_one ((List.perm_ext_iff_of_nodup (s.imp fun h e => ?_) ok.nodup).mpr fun p => ?_) (s.imp fun h => leP_iff.mpr (.inl h))
  · rw [e] at h
    omega
  · rw [mem_pairsOf]
    constructor
    · rintro ⟨h1, h2⟩
      have hl := (List.getElem?_eq_some_iff.mp h1).1
      rw [mateL_len] at hl
      rw [mateL_get ps hl] at h1
      rcases (mateOf_some ok).mp (Option.some.inj h1) with c | c
      · exact c
      · have := (ok.tie _ c).1
        dsimp only at this
        omega
    · intro hp
      obtain ⟨t1, t2, _⟩ := ok.tie p hp
      refine ⟨?_, t1⟩
      rw [mateL_get ps (by omega)]
      exact congrArg some ((mateOf_some ok).mpr (.inl hp))
theorem PairsOk.few {W : Web} {ps : List (Nat × Nat)} (ok : PairsOk W ps) : ps.length ≤ W.size := by
  rw [← (srtP_perm ps).length_eq, ← pairsOf_mates ok]
  have := pairsOf_len (mateL W.size ps)
  rw [mateL_len] at this
  exact this
theorem PairsOk.perm {W : Web} {ps qs : List (Nat × Nat)} (h : ps.Perm qs) (ok : PairsOk W ps) : PairsOk W qs :=
  ⟨fun p hp => ok.tie p (h.mem_iff.mpr hp), ok.apart.perm h fun {a b} x => ⟨fun z => x.1 z.symm, fun z => x.2.2.1 z.symm, fun z => x.2.1 z.symm, fun z => x.2.2.2 z.symm⟩⟩
theorem getD_get {α : Type} {l : List α} {i : Nat} (d : α) (h : i < l.length) : l[i]? = some (l.getD i d) := by
  rw [List.getD_eq_getElem?_getD, List.getElem?_eq_getElem h]
  rfl
def aloneOf (n : Nat) (ms : List (Option Nat)) : List Nat := (List.range n).filter fun i => decide (ms.getD i none = none)
theorem inV_nat (x : Nat) (ts : List Nat) : inV (vn x) (ts.map vn) = decide (x ∈ ts) := by
  unfold inV
  rw [List.any_map, Bool.eq_iff_iff, List.any_eq_true, decide_eq_true_iff]
  constructor
  · rintro ⟨y, hy, e⟩
    have : x = y := by
      have e : ((y : Int) == (x : Int)) = true := e
      have := eq_of_beq e
      omega
    rw [this]
    exact hy
  · intro h
    exact ⟨x, h, beq_self_eq_true (x : Int)⟩
theorem flat_nats (ts : List Nat) : (ts.map vn).all flatV = true := by
  rw [List.all_map, List.all_eq_true]
  intro x _
  rfl
section
variable {K : PySem.W.Frag} {σ : L2.St} {H H' : Hp} {ta tb td ty tv te tx : TE} {x y z v : V}
/-- [(.., ..) for i in range(n) if t] -/
theorem en_pairsNew {tr : TA} {t : TT} {j n : Nat} {vs : List Nat} (f : Nat → Bool) (g : Nat → Nat × Nat) (h : EvA tr σ H [.int n]) (hn : n ≤ 40000) (hw : ∀ x, wipe ((wipe σ vs).set j (some x)) vs = wipe σ vs)
    (ht : ∀ (i : Nat) H1, Ex H H1 → i < n → EvT t ((wipe σ vs).set j (some (vn i))) H1 (f i)) (he : ∀ (i : Nat) H1, Ex H H1 → i < n → f i = true → EvU te ((wipe σ vs).set j (some (vn i))) H1 [vn (g i).1, vn (g i).2]) :
    EvN (tLc (iRng1 tr) (gName j) t te vs) σ H (fun v fs G => ∃ D as, v = .ref D ∧ fs = [D] ∧ G D = some (.lst (as.map V.ref)) ∧ Paired (Pr G) as (((List.range n).filter f).map g)) := fun H0 e Q q =>
  h H0 e _ fun H1 e1 => ⟨n, rfl, by omega, by omega, fun D hD =>
  lc_range (lo := 0) (n := (n : Int).toNat) (fun i H' => Ex H1 H' ∧ ∃ as, H' D = some (.lst (as.map V.ref)) ∧ Paired (Pr H') as (((List.range i).filter f).map g))
    ⟨Ex.new hD, [], upd_same, .nil⟩
    (fun i H' hi ⟨e2, as, hd, hp⟩ => by
      have e0 : (0 : Int) + (i : Int) = (i : Int) := Int.zero_add _
      rw [Int.toNat_natCast] at hi
      show wipe ((wipe σ vs).set j (some (.int ((0 : Int) + (i : Int))))) vs = wipe σ vs ∧ t ((wipe σ vs).set j (some (.int ((0 : Int) + (i : Int))))) H' fun b H3 => if b = true then te ((wipe σ vs).set j (some (.int ((0 : Int) + (i : Int))))) H3 fun y H4 => ∃ acc, H4 D = some (.lst acc) ∧ acc.length < sizeLine ∧ _ else _
      rw [e0]
      refine ⟨hw _, ht i H' ((e.trans e1).trans e2) hi H' (Ex.refl H') _ fun H3 e3 => ?_⟩
      have len : as.length ≤ i := by
        rw [paired_len hp, List.length_map]
        have := List.length_filter_le f (List.range i)
        rw [List.length_range] at this
        exact this
      cases hf : f i with
      | false =>
        show Ex H1 H3 ∧ _
        refine ⟨e2.trans e3, as, e3 _ _ hd, ?_⟩
        rw [List.range_succ, List.filter_append]
        simp only [List.filter_cons, List.filter_nil, hf, Bool.false_eq_true, if_false, List.append_nil]
        exact Paired.mapP hp fun _ _ z => e3 _ _ z
      | true =>
        show te _ H3 _
        refine he i H' ((e.trans e1).trans e2) hi hf H3 e3 _ fun p H4 hp4 e4 hpt => ⟨as.map V.ref, e4 _ _ (e3 _ _ hd), sz_lt (by rw [List.length_map]; omega), ((e2.trans e3).trans e4).mut hD, as ++ [p], by rw [upd_same, List.map_append]; rfl, ?_⟩
        rw [List.range_succ, List.filter_append, List.map_append]
        simp only [List.filter_cons, List.filter_nil, hf, if_true, List.map_cons, List.map_nil]
        have ne : ∀ b k, Pr H' b k → b ≠ D := fun b k z w => by
          have z' : H' b = _ := z
          rw [w, hd] at z'
          cases z'
        refine paired_app (Paired.mapP hp fun b k z => ?_) (.cons ?_ .nil)
        · show upd _ _ _ b = _
          rw [upd_ne (ne b k z)]
          exact e4 _ _ (e3 _ _ z)
        · show upd _ _ _ p = _
          rw [upd_ne (fun w => by rw [w, e3 _ _ hd] at hp4; cases hp4)]
          exact hpt)
    (fun H' ⟨e2, as, hd, hp⟩ => by
      rw [Int.toNat_natCast] at hp
      exact q _ [D] H' (e1.trans e2) (fun r hr => by rw [List.mem_singleton.mp hr]; exact fresh_back e1 hD) ⟨D, as, rfl, rfl, hd, hp⟩)⟩
theorem call_x {sp : Sp} {dvs vs : List V} {E : XK} {tr : TA} {Q : VK} (h : EvA tr σ H vs) (k : ∀ H1, Ex H H1 → sp (vs ++ dvs) H1 Q E) : tCall sp dvs E tr σ H Q := h H (Ex.refl H) _ fun H1 e1 => k H1 e1
theorem call1_x {sp : Sp} {dvs : List V} {E : XK} {Q : VK} (h : te σ H fun v H1 => sp ([v] ++ dvs) H1 Q E) : tCall sp dvs E (tCons te tNil) σ H Q := h
theorem s_ret_x {D : Ends} (h : te σ H D.rt) : tRet te D σ H := h
theorem q_asg_x {D : Ends} {tz : TS} {i : Nat} (h : te σ H fun v H1 => tz D (σ.set i (some v)) H1) : tSeq (tAsg te (gName i)) tz D σ H := h
theorem s_drop_x {D : Ends} (h : te σ H fun _ H1 => D.nx σ H1) : tDrop te D σ H := h
/-- a, b = a pair -/
theorem q_asg2 {i j : Nat} {D : Ends} {tz : TS} {p : Addr} (h : Ev te σ H (.ref p)) (hp : SqT K H p [x, y]) (k : ∀ H1, Ex H H1 → tz D ((σ.set i (some x)).set j (some y)) H1) : tSeq (tAsg te (gTup K 2 (gCons (gName i) (gCons (gName j) gNil)))) tz D σ H :=
  h H (Ex.refl H) _ fun H1 e => ⟨p, [x, y], rfl, ex_t e hp, rfl, _, _, rfl, _, _, rfl, rfl, k H1 e⟩
end
theorem units65 {k : Nat} {A : Around} (r : Room k A) : A.units + 65 < cLine := by
  have := r.un
  omega
/-- what is not come to -/
theorem pss_dead {X : Cx} {sts : List Stmt} : PSs X sts (fun _ _ _ => False) := ⟨fun _ _ _ _ _ _ h => h.elim⟩
theorem pe_callDead {X : Cx} {x : Str} {f : Addr} {p pos : Pos} {e : Expr} {es : List Expr} {t : TA} (hg : Gl X x) (hm : X.mg x = some (.ref f)) (hk : PySem.W.keepIn X.K (.ref f) = true) (ha : PA X (e :: es) t) (hdb : (x == ("__debug__" : Str)) = false := by decide)
    (he : starEach (e :: es) X.env = (false, eval e X.env) :: starEach es X.env := by rfl) (hpl : (backTo pos (starEach es X.env)).any (·.1) = false := by rfl) : PE X (.Call (.Name x p) (e :: es) [] pos) (fun σ H _ => t σ H fun _ _ => False) := by
  refine ⟨fun pins s σ H Q I h => ?_⟩
  refine wpAny_Call_Name_kw (ld_glob I hg hm ?_ hdb)
  exact PySem.W.callWith_K (h₀ := X.base) I.ok.mod.kin hk (thn (ha.run pos pins s σ H _ I h) fun us s1 ⟨vs, H1, I1, r, q⟩ => q.elim) he hpl
mutual
theorem dp_go {K : PySem.W.Frag} {H H' : Hp} (e : Ex H H') : ∀ {v : V} {d : PyData}, Dp K H v d → Dp K H' v d
  | _, _, .non => .non
  | _, _, .bl b => .bl b
  | _, _, .int i => .int i
  | _, _, .str x => .str x
  | _, _, .lst h a => .lst (ex_l e h) (dpAll_go e a)
  | _, _, .tup h a => .tup (ex_t e h) (dpAll_go e a)
theorem dpAll_go {K : PySem.W.Frag} {H H' : Hp} (e : Ex H H') : ∀ {vs : List V} {ds : List PyData}, DpAll K H vs ds → DpAll K H' vs ds
  | _, _, .nil => .nil
  | _, _, .cons h t => .cons (dp_go e h) (dpAll_go e t)
end
def DatV (K : PySem.W.Frag) (G : Hp) (v : V) : Prop := ∃ d, Dp K G v d ∧ d.canLay0 = true ∧ d.depth ≤ 5
theorem DatV.go {K : PySem.W.Frag} {G G' : Hp} {v : V} (h : DatV K G v) (e : Ex G G') : DatV K G' v := by
  obtain ⟨d, h1, h2⟩ := h
  exact ⟨d, dp_go e h1, h2⟩
section
variable {K : PySem.W.Frag} {σ : L2.St} {H H' : Hp} {ta tb td ty tv te tx : TE} {x y z v : V}
theorem dat_ii {G : Hp} {a : Addr} {i j : Int} (h : G a = some (.tup [.int i, .int j])) : DatV K G (.ref a) := ⟨.tuple [.int i, .int j], .tup (st_of h) (.cons (.int _) (.cons (.int _) .nil)), by simp [PyData.canLay0, PyData.canLayAll0], by simp [PyData.depth, PyData.depthAll]⟩
theorem dat_ib {G : Hp} {a : Addr} {i : Int} {b : Bool} (h : G a = some (.tup [.int i, .bl b])) : DatV K G (.ref a) := ⟨.tuple [.int i, .bool b], .tup (st_of h) (.cons (.int _) (.cons (.bl _) .nil)), by simp [PyData.canLay0, PyData.canLayAll0], by simp [PyData.depth, PyData.depthAll]⟩
theorem dat_i {G : Hp} {a : Addr} {i : Int} (h : G a = some (.tup [.int i])) : DatV K G (.ref a) := ⟨.tuple [.int i], .tup (st_of h) (.cons (.int _) .nil), by simp [PyData.canLay0, PyData.canLayAll0], by simp [PyData.depth, PyData.depthAll]⟩
theorem dat_l {G : Hp} {a : Addr} {i j : Int} (h : G a = some (.lst [.int i, .int j])) : DatV K G (.ref a) := ⟨.list [.int i, .int j], .lst (sq_of h) (.cons (.int _) (.cons (.int _) .nil)), by simp [PyData.canLay0, PyData.canLayAll0], by simp [PyData.depth, PyData.depthAll]⟩
theorem dat_non {G : Hp} : DatV K G .non := ⟨.none, .non, by simp [PyData.canLay0], by simp [PyData.depth]⟩
theorem dat_str {G : Hp} (z : Str) (h : PyData.strOk z = true) : DatV K G (.str z) := ⟨.str z, .str z, by simp [PyData.canLay0, h], by simp [PyData.depth]⟩
theorem dat_pr {G : Hp} {a : Addr} {p : Nat × Nat} (h : Pr G a p) : DatV K G (.ref a) := dat_ii h
theorem dat_all {G : Hp} : ∀ {vs : List V}, (∀ v ∈ vs, DatV K G v) → ∃ ds, DpAll K G vs ds ∧ PyData.canLayAll0 ds = true ∧ PyData.depthAll ds ≤ 5
  | [], _ => ⟨[], .nil, by simp [PyData.canLayAll0], by simp [PyData.depthAll]⟩
  | v :: vs, h => by
    obtain ⟨d, h1, h2, h3⟩ := h v List.mem_cons_self
    obtain ⟨ds, g1, g2, g3⟩ := dat_all (vs := vs) fun u hu => h u (List.mem_cons_of_mem _ hu)
    exact ⟨d :: ds, .cons h1 g1, by simp [PyData.canLayAll0, h2, g2], by simp only [PyData.depthAll]; omega⟩
/-- a list of data equals its copy -/
theorem rv_neSame {a b : Addr} {xs : List V} (h1 : H a = some (.lst xs)) (h2 : H b = some (.lst xs)) (h : ∀ v ∈ xs, DatV K H v) : RV (rNeD K) (.ref a) (.ref b) H (.bl false) := by
  obtain ⟨ds, g1, g2, g3⟩ := dat_all h
  have lay : PyData.canLay0 (.list ds) = true := by
    simp only [PyData.canLay0]
    exact g2
  have dp : PyData.depth (.list ds) ≤ 64 := by
    simp only [PyData.depth]
    omega
  have sh : SeqAt.shaped (.list ds) = true := by
    show (PyData.canLay0 (.list ds) && decide (PyData.depth (.list ds) ≤ 64)) = true
    rw [Bool.and_eq_true]
    exact ⟨lay, decide_eq_true dp⟩
  exact rv_neD (b := true) (fun H1 e => ⟨.lst (sq_of (e _ _ h1)) (dpAll_go e g1), .lst (sq_of (e _ _ h2)) (dpAll_go e g1)⟩) sh sh (PySem.SeqAt.eqv_refl _ lay)
theorem ev_opU1 {r : R2} {xs : List V} (ha : EvU ta σ H xs) (hb : ∀ H1, Ex H H1 → Ev tb σ H1 y) (hr : ∀ p H1, H1 p = some (.tup xs) → Ex H H1 → RV r (.ref p) y H1 z) : Ev (tOp r ta tb) σ H z := fun H1 e Q q =>
  ha H1 e _ fun p H2 hp e2 h2 => hb H2 (e.trans e2) H2 (Ex.refl H2) _ fun H3 e3 => hr p H3 (e3 _ _ h2) ((e.trans e2).trans e3) H3 (Ex.refl H3) Q fun H4 e4 => q H4 ((e2.trans e3).trans e4)
theorem rv_notInP {p l : Addr} {q : Nat × Nat} {ps : List (Nat × Nat)} (h1 : Pr H p q) (h2 : Prs H l ps) : RV (rNotInD K) (.ref p) (.ref l) H (.bl (!decide (q ∈ ps))) := fun H1 e Q k => by
  have h1' : Pr H1 p q := e _ _ h1
  refine ⟨pD q, ps.map pD, dp_pr h1', dp_prs (h2.go e), ?_, psD_shaped ps, ?_⟩
  · have := pD_depth q
    show ((pD q).canLay0 && decide ((pD q).depth ≤ 64)) = true
    rw [Bool.and_eq_true]
    exact ⟨pD_lay q, decide_eq_true (by omega)⟩
  · have : ((ps.map pD).any fun z => PyData.eqv z (pD q)) = decide (q ∈ ps) := by
      rw [List.any_map, Bool.eq_iff_iff, List.any_eq_true, decide_eq_true_iff]
      constructor
      · rintro ⟨y, hy, e⟩
        have e : PyData.eqv (pD y) (pD q) = true := e
        rw [pD_eqv] at e
        rw [← of_decide_eq_true e]
        exact hy
      · intro h
        exact ⟨q, h, by show PyData.eqv (pD q) (pD q) = true; rw [pD_eqv]; simp⟩
    rw [this]
    exact k H1 (Ex.refl H1)
theorem rv_inP {p l : Addr} {q : Nat × Nat} {ps : List (Nat × Nat)} (h1 : Pr H p q) (h2 : Prs H l ps) : RV (rInD K) (.ref p) (.ref l) H (.bl (decide (q ∈ ps))) := fun H1 e Q k => by
  have h1' : Pr H1 p q := e _ _ h1
  refine ⟨pD q, ps.map pD, dp_pr h1', dp_prs (h2.go e), ?_, psD_shaped ps, ?_⟩
  · have := pD_depth q
    show ((pD q).canLay0 && decide ((pD q).depth ≤ 64)) = true
    rw [Bool.and_eq_true]
    exact ⟨pD_lay q, decide_eq_true (by omega)⟩
  · have : ((ps.map pD).any fun z => PyData.eqv z (pD q)) = decide (q ∈ ps) := by
      rw [List.any_map, Bool.eq_iff_iff, List.any_eq_true, decide_eq_true_iff]
      constructor
      · rintro ⟨y, hy, e⟩
        have e : PyData.eqv (pD y) (pD q) = true := e
        rw [pD_eqv] at e
        rw [← of_decide_eq_true e]
        exact hy
      · intro h
        exact ⟨q, h, by show PyData.eqv (pD q) (pD q) = true; rw [pD_eqv]; simp⟩
    rw [this]
    exact k H1 (Ex.refl H1)
theorem s_retP {P : HV} {D : Ends} (h : EvP te σ H P) (k : ∀ v H1, Ex H H1 → P H1 v → D.rt v H1) : tRet te D σ H := h H (Ex.refl H) _ k
/-- xs[0] or xs[-1] -/
theorem ep_ends {xs : List V} {i : Int} (h : EvL te σ H xs) (hi : Ev tb σ H (.int i)) (h01 : i = 0 ∨ i = -1) (ne : xs ≠ []) : EvP (tOp (rIxL K) te tb) σ H (fun _ v => v ∈ xs) := fun H1 e Q q => h H1 e _ fun p H2 hp e2 h2 => hi H2 (e.trans e2) _ fun H3 e3 => by
  have key : ∃ v, atI xs i = some v ∧ v ∈ xs := by
    rcases h01 with rfl | rfl
    · cases xs with
      | nil => exact absurd rfl ne
      | cons x xs => exact ⟨x, atI_nat (j := 0) rfl, List.mem_cons_self⟩
    · have e := List.dropLast_concat_getLast ne
      refine ⟨xs.getLast ne, ?_, List.getLast_mem ne⟩
      have := atI_last (xs := xs.dropLast) (v := xs.getLast ne)
      rw [e] at this
      exact this
  obtain ⟨v, h1, h3⟩ := key
  exact ⟨p, xs, i, v, rfl, rfl, sq_of (e3 _ _ h2), h1, q v H3 (e2.trans e3) h3⟩
theorem paired_zip {α β : Type} {F : α → β → Prop} : ∀ {as : List α} {bs : List β}, Paired F as bs → (∀ z ∈ as.zip bs, F z.1 z.2) ∧ (as.zip bs).map Prod.fst = as ∧ (as.zip bs).map Prod.snd = bs
  | _, _, .nil => ⟨fun z h => (by cases h), rfl, rfl⟩
  | _, _, .cons r t => by
    obtain ⟨h1, h2, h3⟩ := paired_zip t
    refine ⟨fun z hz => ?_, ?_, ?_⟩
    · rw [List.zip_cons_cons] at hz
      rcases List.mem_cons.mp hz with c | c
      · rw [c]; exact r
      · exact h1 z c
    · rw [List.zip_cons_cons, List.map_cons, h2]
    · rw [List.zip_cons_cons, List.map_cons, h3]
end
section
variable {K : PySem.W.Frag} {σ : L2.St} {H H' : Hp} {ta tb td ty tv te tx : TE} {x y z v : V}
theorem cut_drop1 (xs : List V) : cutV xs (some ((1 : Nat) : Int)) none = xs.drop 1 := by
  cases xs with
  | nil => rfl
  | cons x xs => exact cut_drop (by simp)
theorem et_yes : EvT tYes σ H true := fun H1 _ Q q => q H1 (Ex.refl H1)
theorem el_pairsY {l : Addr} {ps : List (Nat × Nat)} {tl : TE} {i j : Nat} {vs : List Nat} (v : Nat × Nat → V) (h : Ev tl σ H (.ref l)) (hl : Prs H l ps) (hz : ps.length ≤ 40000) (hw : ∀ x y, wipe (((wipe σ vs).set i (some x)).set j (some y)) vs = wipe σ vs)
    (he : ∀ p H1, Ex H H1 → p ∈ ps → Ev te (((wipe σ vs).set i (some (vn p.1))).set j (some (vn p.2))) H1 (v p)) : EvL (tLc (iList K tl) (gTup K 2 (gCons (gName i) (gCons (gName j) gNil))) tYes te vs) σ H (ps.map v) := by
  have := el_pairs (K := K) (fun _ => true) v h hl hz hw (fun _ _ _ _ => et_yes) (fun p H1 e hp _ => he p H1 e hp)
  rwa [List.filter_eq_self.mpr (by simp)] at this
theorem Prs.snoc {H : Hp} {l t : Addr} {ps : List (Nat × Nat)} {p : Nat × Nat} {as : List Addr} (hl : H l = some (.lst (as.map V.ref))) (hp : Paired (Pr H) as ps) (ht : Pr H t p) : Prs (upd H l (.lst (as.map V.ref ++ [.ref t]))) l (ps ++ [p]) := by
  have ne : ∀ b q, Pr H b q → b ≠ l := fun b q z w => by
    have z : H b = _ := z
    rw [w, hl] at z
    cases z
  have go : ∀ b q, Pr H b q → Pr (upd H l (.lst (as.map V.ref ++ [.ref t]))) b q := fun b q z => by
    show upd _ _ _ b = _
    rw [upd_ne (ne b q z)]
    exact z
  exact ⟨as ++ [t], by rw [upd_same, List.map_append]; rfl, paired_app (Paired.mapP hp go) (.cons (go t p ht) .nil)⟩
/-- found.append((i, j)) -/
theorem q_appP {D : Ends} {tz : TS} {l : Addr} {ps : List (Nat × Nat)} {i j : Nat} (hl : Prs H l ps) (few : ps.length ≤ 90000) (ha : Ev ta σ H (.ref l)) (h : EvU te σ H [vn i, vn j]) (k : ∀ H1 o, Ex H H1 → Prs (upd H1 l o) l (ps ++ [(i, j)]) → tz D σ (upd H1 l o)) : tSeq (tDrop (tBM K "list" rAppend ta (tCons te tNil))) tz D σ H := by
  obtain ⟨as, h1, h2⟩ := hl
  exact q_appU h1 ha h (by rw [List.length_map, paired_len h2]; omega) fun t H1 ht e1 ht1 => k H1 _ e1 (Prs.snoc (e1 _ _ h1) (Paired.mapP h2 fun _ _ z => e1 _ _ z) ht1)
/-- f(..).append((i, j)), what f(..) tells is new -/
theorem q_dropO {D : Ends} {tz : TS} {ps : List (Nat × Nat)} {i j : Nat} (ho : EvN ta σ H (fun v fs G => ∃ p, v = .ref p ∧ fs = [p] ∧ Prs G p ps)) (few : ps.length ≤ 90000) (h : ∀ H1, Ex H H1 → EvU te σ H1 [vn i, vn j]) (k : ∀ H', Ex H H' → tz D σ H') : tSeq (tDrop (tBM K "list" rAppend ta (tCons te tNil))) tz D σ H :=
  ho H (Ex.refl H) _ fun v fs H1 e1 fr r => by
    obtain ⟨p, rfl, rfl, as, h1, h2⟩ := r
    exact ⟨.inl ⟨rfl, _, sq_of h1⟩, h H1 e1 H1 (Ex.refl H1) _ fun t H2 ht e2 ht2 => ⟨p, as.map V.ref, .ref t, rfl, rfl, e2 _ _ h1, sz_lt (by rw [List.length_map, paired_len h2]; omega), k _ ((e1.trans e2).mut (fr p List.mem_cons_self))⟩⟩
theorem alone_due {W : Web} {qs : List (Nat × Nat)} : aloneOf W.size (mateL W.size qs) = (List.range W.size).filter fun i => !decide (i ∈ qs.map (fun p => p.1) ++ qs.map (fun p => p.2)) := by
  unfold aloneOf
  refine List.filter_congr fun i hi => ?_
  have hi := List.mem_range.mp hi
  rw [List.getD_eq_getElem?_getD, mateL_get qs hi]
  show decide (mateOf qs i = none) = _
  have : (mateOf qs i = none) ↔ i ∉ qs.map (fun p => p.1) ++ qs.map (fun p => p.2) := by
    rw [mateOf_none, List.mem_append, List.mem_map, List.mem_map]
    constructor
    · rintro h (⟨p, hp, e⟩ | ⟨p, hp, e⟩)
      · exact (h p hp).1 e
      · exact (h p hp).2 e
    · intro h p hp
      exact ⟨fun e => h (.inl ⟨p, hp, e⟩), fun e => h (.inr ⟨p, hp, e⟩)⟩
  by_cases c : mateOf qs i = none
  · simp only [c, this.mp c, decide_true, decide_false, Bool.not_false]
  · have := mt this.mpr c
    simp only [c, decide_false, Classical.not_not.mp this, decide_true, Bool.not_true]
end
end OP

/-! len(set(places)), the places with doubles or without; ways. -/
namespace OP
open PySem PySem.Spec PyProof.Rows L2 Evl
open L2H (RoomH PinOk cxH inv_startH roomH_of)
theorem firstMet_len (ns : List Int) : ∀ i, i ≤ ns.length → (firstMet (fun i => ns.getD i 0) i).length ≤ i ∧ ((firstMet (fun i => ns.getD i 0) i).length = i ↔ (ns.take i).Nodup)
  | 0, _ => by simp [firstMet_zero]
  | i + 1, h => by
    obtain ⟨ih1, ih2⟩ := firstMet_len ns i (by omega)
    have hi : ns[i]? = some ns[i] := List.getElem?_eq_getElem (by omega)
    have hv : ns.getD i 0 = ns[i] := by rw [List.getD_eq_getElem?_getD, hi]; rfl
    have tk : ns.take (i + 1) = ns.take i ++ [ns[i]] := take_snoc hi
    have anyE := firstMet_any (fun i => ns.getD i 0) i (ns.getD i 0)
    have mapE : (List.range i).map (fun i => ns.getD i 0) = ns.take i := by
      apply List.ext_getElem
      · simp; omega
      · intro j h1 h2
        simp at h1
        simp [List.getD_eq_getElem?_getD, show j < ns.length by omega]
    rw [mapE] at anyE
    rw [firstMet_succ]
    unfold step_dedup
    rw [tk, List.nodup_append]
    by_cases c : ((firstMet (fun i => ns.getD i 0) i).any (· == ns.getD i 0)) = true
    · rw [if_pos c]
      refine ⟨by omega, fun z => by omega, fun z => ?_⟩
      rw [anyE, hv, List.any_eq_true] at c
      obtain ⟨y, hy, e⟩ := c
      exact absurd (eq_of_beq e) (z.2.2 y hy _ List.mem_cons_self)
    · rw [if_neg c, List.length_append, List.length_singleton]
      refine ⟨by omega, fun z => ⟨ih2.mp (by omega), by simp, fun a ha b hb e => c ?_⟩, fun z => by rw [ih2.mpr z.1]⟩
      rw [anyE, hv, List.any_eq_true]
      rw [List.mem_singleton.mp hb] at e
      exact ⟨a, ha, by rw [e]; exact beq_self_eq_true _⟩
def tLenSetD (K : PySem.W.Frag) (ta : TE) : TE := fun σ H Q => ta σ H fun x H1 => ∃ (l : Addr) (ns : List Int), x = V.ref l ∧ SqL K H1 l (ns.map V.int) ∧ ns.length < 4000 ∧ ∀ m : Nat, m ≤ ns.length → (m = ns.length ↔ ns.Nodup) → Q (.int m) H1
theorem pe_lenSetD {X : Cx} {a : Expr} {ta : TE} {p p2 q pos : Pos} (hc : X.calm = true) (hg : Gl X "len") (hm : X.mg "len" = none) (hg2 : Gl X "set") (hm2 : X.mg "set" = none) (ha : PE X a ta)
    (na : starEach [a] X.env = (false, eval a X.env) :: starEach [] X.env := by rfl) : PE X (.Call (.Name "len" p) [.Call (.Name "set" p2) [a] [] q] [] pos) (tLenSetD X.K ta) := by
  refine ⟨fun pins s σ H Q I h => ?_⟩
  refine Call_ (ld_blt I hg hm PySem.boot_len ?_)
  refine PyProof.Rows.callWith_builtin1 (PyProof.Rows.args_cons ?_ rfl) rfl rfl
  refine Call_ (ld_blt I hg2 hm2 PyProof.Rows.boot_set ?_)
  refine PyProof.Rows.callWith_type1 (PyProof.Rows.args_cons (thn (ha.run pins s σ H _ I h) fun v s1 ⟨x, H1, I1, r1, q1⟩ => PyProof.Rows.args_nil ?_) na) na rfl
  obtain ⟨l, ns, rfl, hq, h1, q1⟩ := q1
  cases r1
  obtain ⟨its, r, pl, hz⟩ := I1.list hq
  have hl : its.toArray.size = ns.length := by rw [List.size_toArray, ← r.length, List.length_map]
  refine call_set_list (I1.ok.hd hc) pl.isList (ns := ns) (by simpa using r.ints) (by unfold scanBound; omega) fun h' tk hS hk => ?_
  rw [hl] at hS
  obtain ⟨m1, m2⟩ := firstMet_len ns ns.length (Nat.le_refl _)
  rw [List.take_length] at m2
  refine PyProof.Rows.args_nil ?_
  obtain ⟨o, es, ep, t, ho, hex, hd, _, _, _, hf, hn⟩ := hS
  have I2 : Inv X pins σ H1 { s1 with heap := h', toks := tk } := I1.kept fun b o e => hk b o (Heap.lt_size e) e
  exact call_len_set ho hex hd hf (by rw [hn] <;> omega) ⟨.int (firstMet (fun i => ns.getD i 0) ns.length).length, H1, I2.tok _, ⟨_, by rw [hn]⟩, q1 _ m1 m2⟩
section
variable {K : PySem.W.Frag} {σ : L2.St} {H H' : Hp} {ta tb te tx : TE} {x y z v : V}
/-- len(set(way)) < len(way) -/
theorem et_dupI {l : Addr} {ns : List Nat} (h : Ev te σ H (.ref l)) (hl : Ints H l ns) (few : ns.length < 4000) (hb : Ev tb σ H (.int ns.length)) :
    EvT (tTest (tOp (rI0 fun i j => .bl (decide (i < j))) (tLenSetD K te) tb)) σ H (!decide ns.Nodup) := fun H1 e1 Q q => h H1 e1 _ fun H2 e2 => by
  refine ⟨l, ns.map fun n : Nat => (n : Int), rfl, sq_of (by rw [List.map_map]; exact e2 _ _ (e1 _ _ hl)), by rw [List.length_map]; exact few, fun m hm hiff => ?_⟩
  rw [List.length_map] at hm hiff
  have nn : (ns.map fun n : Nat => (n : Int)).Nodup ↔ ns.Nodup := by
    unfold List.Nodup
    rw [List.pairwise_map]
    exact ⟨fun h => h.imp fun z e => z (by rw [e]), fun h => h.imp fun z e => z (by omega)⟩
  rw [nn] at hiff
  refine hb H2 (e1.trans e2) _ fun H3 e3 => ⟨_, _, rfl, rfl, _, rfl, ?_⟩
  have : decide ((m : Int) < (ns.length : Nat)) = !decide ns.Nodup := by
    by_cases c : ns.Nodup
    · have := hiff.mpr c
      simp [c]
      omega
    · have : m ≠ ns.length := fun z => c (hiff.mp z)
      simp [c]
      omega
  rw [this]
  exact q H3 (e2.trans e3)
end
end OP
namespace OP
open PySem PySem.Spec PyProof.Rows L2 Evl
section
variable {K : PySem.W.Frag} {σ : L2.St} {H H' : Hp} {ta tb te tx : TE} {x y z v : V}
theorem rgC_two {k : Nat} (hk : k ≤ 10000) : RgC 0 ((2 * k : Nat) : Int) 2 k := by
  refine ⟨by decide, by decide, ?_, ?_⟩
  · have fit : ∀ i : Int, -100000 ≤ i → i ≤ 100000 → Builtin.Range.rangeFitsLong i = true := fun i h1 h2 => by
      unfold Builtin.Range.rangeFitsLong
      rw [Bool.and_eq_true]
      exact ⟨decide_eq_true (Int.le_trans (by decide) h1), decide_eq_true (Int.lt_of_le_of_lt h2 (by decide))⟩
    have sz : Builtin.Range.rangeSize 0 ((2 * k : Nat) : Int) 2 = (k : Int) := by
      rw [PyProof.Rows.rangeSize_pos (by decide) (by omega)]
      omega
    unfold Builtin.Range.small
    rw [sz, fit 0 (by decide) (by decide), fit _ (by omega) (by omega), fit 2 (by decide) (by decide), fit (k : Int) (by omega) (by omega), if_pos (by decide), fit _ (by omega) (by omega)]
    simp
  · rw [PyProof.Rows.rangeSize_pos (by decide) (by omega)]
    omega
/-- for i in range(0, 2 k, 2) -/
theorem q_forR3 {D : Ends} {tu tz : TS} {tr : TA} {j k : Nat} (h : EvA tr σ H [.int 0, .int ((2 * k : Nat) : Int), .int 2]) (hk : k ≤ 10000) (Pv : Nat → L2.St → Hp → Prop) (h0 : ∀ H1, Ex H H1 → Pv 0 σ H1)
    (hs : ∀ (i : Nat) σ' H', i < k → Pv i σ' H' → tu { D with nx := Pv (i + 1), ct := Pv (i + 1), bk := tz D } (σ'.set j (some (vn (2 * i)))) H') (hd : ∀ σ' H', Pv k σ' H' → tz D σ' H') : tSeq (tFor (iRng3 tr) (gName j) tu) tz D σ H :=
  h H (Ex.refl H) _ fun H1 e => ⟨0, ((2 * k : Nat) : Int), 2, k, rfl, rgC_two hk, for_it (D := { D with nx := tz D }) walk_rangeC Pv (h0 H1 e) (fun _ _ _ _ _ => trivial) (fun i x σ' G G' hi p y => by
    obtain ⟨rfl, rfl⟩ := y
    have : V.int (0 + (i : Nat) * 2) = vn (2 * i) := by
      show V.int _ = V.int _
      congr 1
      omega
    show tu { D with nx := Pv (i + 1), ct := Pv (i + 1), bk := tz D } (σ'.set j (some (V.int (0 + (i : Nat) * 2)))) _
    rw [this]
    exact hs i σ' _ hi p) hd⟩
end
end OP

/-! A way turned, plainly. -/
namespace OP
open PySem PySem.Spec PyProof.Rows L2 Evl
def turnK (ms : List (Option Nat)) (ns : List Nat) : Nat → List (Option Nat)
  | 0 => ms
  | k + 1 => ((turnK ms ns k).set (ns.getD (2 * k) 0) (some (ns.getD (2 * k + 1) 0))).set (ns.getD (2 * k + 1) 0) (some (ns.getD (2 * k) 0))
theorem turnK_len (ms : List (Option Nat)) (ns : List Nat) : ∀ k, (turnK ms ns k).length = ms.length
  | 0 => rfl
  | k + 1 => by rw [turnK, List.length_set, List.length_set, turnK_len ms ns k]
def turnL (ms : List (Option Nat)) (ns : List Nat) : List (Option Nat) := turnK ms ns (ns.length / 2)
theorem turnL_len (ms : List (Option Nat)) (ns : List Nat) : (turnL ms ns).length = ms.length := turnK_len _ _ _
theorem set_get_ne {α : Type} {l : List α} {i j : Nat} {x : α} (h : i ≠ j) : (l.set i x)[j]? = l[j]? := by
  rw [List.getElem?_set]
  simp [h]
theorem set_get_eq {α : Type} {l : List α} {i : Nat} {x : α} (h : i < l.length) : (l.set i x)[i]? = some x := by
  rw [List.getElem?_set]
  simp [h]
theorem nd_ix'' {l : List Nat} {i j : Nat} {x : Nat} (h : l.Nodup) (hi : l[i]? = some x) (hj : l[j]? = some x) : i = j := by
  obtain ⟨h1, e1⟩ := List.getElem?_eq_some_iff.mp hi
  obtain ⟨h2, e2⟩ := List.getElem?_eq_some_iff.mp hj
  exact (List.getElem_inj h).mp (e1.trans e2.symm)
/-- behind k turns -/
theorem turnK_get {ms : List (Option Nat)} {ns : List Nat} (nd : ns.Nodup) (lt : ∀ x ∈ ns, x < ms.length) : ∀ k, 2 * k ≤ ns.length →
    (∀ j x y, j < k → ns[2 * j]? = some x → ns[2 * j + 1]? = some y → (turnK ms ns k)[x]? = some (some y) ∧ (turnK ms ns k)[y]? = some (some x)) ∧ (∀ x, (∀ i, i < 2 * k → ns[i]? ≠ some x) → (turnK ms ns k)[x]? = ms[x]?)
  | 0, _ => ⟨fun j x y hj => absurd hj (Nat.not_lt_zero _), fun x _ => rfl⟩
  | k + 1, h => by
    obtain ⟨ih1, ih2⟩ := turnK_get nd lt k (by omega)
    have a0 : ns[2 * k]? = some (ns.getD (2 * k) 0) := getD_get 0 (by omega)
    have a1 : ns[2 * k + 1]? = some (ns.getD (2 * k + 1) 0) := getD_get 0 (by omega)
    obtain ⟨u, hu⟩ : ∃ u, u = ns.getD (2 * k) 0 := ⟨_, rfl⟩
    obtain ⟨w, hw⟩ : ∃ w, w = ns.getD (2 * k + 1) 0 := ⟨_, rfl⟩
    rw [turnK, ← hu, ← hw]
    rw [← hu] at a0
    rw [← hw] at a1
    have uw : u ≠ w := fun z => by
      rw [z] at a0
      have := nd_ix'' nd a0 a1
      omega
    have lu : u < (turnK ms ns k).length := by rw [turnK_len]; exact lt u (List.mem_of_getElem? a0)
    have lw : w < ((turnK ms ns k).set u (some w)).length := by rw [List.length_set, turnK_len]; exact lt w (List.mem_of_getElem? a1)
    constructor
    · intro j x y hj hx hy
      by_cases e : j = k
      · subst e
        have : x = u := Option.some.inj (hx.symm.trans a0)
        subst this
        have : y = w := Option.some.inj (hy.symm.trans a1)
        subst this
        exact ⟨by rw [set_get_ne (Ne.symm uw), set_get_eq lu], set_get_eq lw⟩
      · obtain ⟨g1, g2⟩ := ih1 j x y (by omega) hx hy
        have n1 : u ≠ x := fun z => by rw [z] at a0; have := nd_ix'' nd a0 hx; omega
        have n2 : u ≠ y := fun z => by rw [z] at a0; have := nd_ix'' nd a0 hy; omega
        have n3 : w ≠ x := fun z => by rw [z] at a1; have := nd_ix'' nd a1 hx; omega
        have n4 : w ≠ y := fun z => by rw [z] at a1; have := nd_ix'' nd a1 hy; omega
        exact ⟨by rw [set_get_ne n3, set_get_ne n1, g1], by rw [set_get_ne n4, set_get_ne n2, g2]⟩
    · intro x hx
      have n1 : u ≠ x := fun z => hx (2 * k) (by omega) (by rw [a0, z])
      have n2 : w ≠ x := fun z => hx (2 * k + 1) (by omega) (by rw [a1, z])
      rw [set_get_ne n2, set_get_ne n1]
      exact ih2 x fun i hi => hx i (by omega)
theorem turnL_get {ms : List (Option Nat)} {ns : List Nat} (nd : ns.Nodup) (ev : ns.length % 2 = 0) (lt : ∀ x ∈ ns, x < ms.length) :
    (∀ j x y, ns[2 * j]? = some x → ns[2 * j + 1]? = some y → (turnL ms ns)[x]? = some (some y) ∧ (turnL ms ns)[y]? = some (some x)) ∧ (∀ x, x ∉ ns → (turnL ms ns)[x]? = ms[x]?) := by
  obtain ⟨h1, h2⟩ := turnK_get (ms := ms) nd lt (ns.length / 2) (by omega)
  refine ⟨fun j x y hx hy => h1 j x y ?_ hx hy, fun x hx => h2 x fun i _ e => hx (List.mem_of_getElem? e)⟩
  have := (List.getElem?_eq_some_iff.mp hy).1
  omega
section
variable {K : PySem.W.Frag} {σ : L2.St} {H H' : Hp} {te : TE}
/-- xs[::-1] -/
theorem el_rev {a : Addr} {xs : List V} (h : Ev te σ H (.ref a)) (ha : H a = some (.lst xs)) : EvL (tRevL K te) σ H xs.reverse := fun H1 e Q q => h H1 e _ fun H2 e2 =>
  ⟨a, xs, rfl, sq_of (e2 _ _ (e _ _ ha)), fun p hp => q p _ (fresh_back e2 hp) (e2.trans (Ex.new hp)) upd_same⟩
end
def tieOf (x y : Nat) : Nat × Nat := if x < y then (x, y) else (y, x)
theorem tieOf_comm (x y : Nat) : tieOf x y = tieOf y x := by
  unfold tieOf
  by_cases h : x < y
  · rw [if_pos h, if_neg (by omega)]
  · by_cases h2 : y < x
    · rw [if_neg h, if_pos h2]
    · have : x = y := by omega
      subst this
      rfl
theorem tieOf_cases (x y : Nat) : (tieOf x y = (x, y) ∧ x < y) ∨ (tieOf x y = (y, x) ∧ y ≤ x) := by
  unfold tieOf
  by_cases h : x < y
  · exact .inl ⟨if_pos h, h⟩
  · exact .inr ⟨if_neg h, by omega⟩
theorem tieOf_ok {n x y : Nat} (hx : x < n) (hy : y < n) (ne : x ≠ y) : (tieOf x y).1 < (tieOf x y).2 ∧ (tieOf x y).2 < n := by
  rcases tieOf_cases x y with ⟨e, h⟩ | ⟨e, h⟩ <;> rw [e] <;> dsimp only <;> omega
theorem apart_tie {a b c d : Nat} (h1 : a ≠ c) (h2 : a ≠ d) (h3 : b ≠ c) (h4 : b ≠ d) : Apart (tieOf a b) (tieOf c d) := by
  rcases tieOf_cases a b with ⟨e, _⟩ | ⟨e, _⟩ <;> rcases tieOf_cases c d with ⟨f, _⟩ | ⟨f, _⟩ <;> rw [e, f] <;> exact ⟨by assumption, by assumption, by assumption, by assumption⟩
theorem tieOf_inj {a b c d : Nat} (h : tieOf a b = tieOf c d) : (a = c ∧ b = d) ∨ (a = d ∧ b = c) := by
  rcases tieOf_cases a b with ⟨e, _⟩ | ⟨e, _⟩ <;> rcases tieOf_cases c d with ⟨f, _⟩ | ⟨f, _⟩ <;> rw [e, f] at h <;> injection h with h1 h2 <;> omega
/-- tied, told by the tie of the two -/
theorem near_tie {n : Nat} {ts : List (Nat × Nat)} (ok : TiesOk n ts) {x y : Nat} (hx : x < n) : y ∈ nbOf (webOf n ts) x ↔ x ≠ y ∧ tieOf x y ∈ ts := by
  rw [nbOf, near_web ts hx, mem_nearOf]
  constructor
  · rintro ⟨_, h | h⟩
    · have := (ok _ h).1
      dsimp only at this
      refine ⟨by omega, ?_⟩
      rw [tieOf, if_pos this]
      exact h
    · have := (ok _ h).1
      dsimp only at this
      refine ⟨by omega, ?_⟩
      rw [tieOf, if_neg (by omega)]
      exact h
  · rintro ⟨ne, h⟩
    have t := ok _ h
    rcases tieOf_cases x y with ⟨e, _⟩ | ⟨e, _⟩
    · rw [e] at h t
      exact ⟨t.2, .inl h⟩
    · rw [e] at h t
      dsimp only at t
      exact ⟨by omega, .inr h⟩
theorem mate_tie {W : Web} {ps : List (Nat × Nat)} (ok : PairsOk W ps) {x y : Nat} (ne : x ≠ y) (h : tieOf x y ∈ ps) : mateOf ps x = some y ∧ mateOf ps y = some x := by
  rcases tieOf_cases x y with ⟨e, _⟩ | ⟨e, _⟩
  · rw [e] at h
    exact ⟨(mateOf_some ok).mpr (.inl h), (mateOf_some ok).mpr (.inr h)⟩
  · rw [e] at h
    exact ⟨(mateOf_some ok).mpr (.inr h), (mateOf_some ok).mpr (.inl h)⟩
theorem mate_iff {W : Web} {ps : List (Nat × Nat)} (ok : PairsOk W ps) {x y : Nat} : mateOf ps x = some y ↔ x ≠ y ∧ tieOf x y ∈ ps := by
  constructor
  · intro h
    rcases (mateOf_some ok).mp h with h | h
    · have := (ok.tie _ h).1
      dsimp only at this
      exact ⟨by omega, by rw [tieOf, if_pos this]; exact h⟩
    · have := (ok.tie _ h).1
      dsimp only at this
      exact ⟨by omega, by rw [tieOf, if_neg (by omega)]; exact h⟩
  · exact fun h => (mate_tie ok h.1 h.2).1
theorem mateL_ext {n : Nat} {ms : List (Option Nat)} {ps : List (Nat × Nat)} (l : ms.length = n) (h : ∀ x, x < n → ms[x]? = some (mateOf ps x)) : ms = mateL n ps := by
  apply List.ext_getElem?
  intro i
  by_cases c : i < n
  · rw [h i c, mateL_get ps c]
  · rw [List.getElem?_eq_none (by omega), List.getElem?_eq_none (by rw [mateL_len]; omega)]
/-! ### a way and the pairs along it -/
/-- the pairs that are taken up when a way is turned -/
def outPairs (ns : List Nat) : List (Nat × Nat) := (List.range (ns.length / 2)).map fun j => tieOf (ns.getD (2 * j) 0) (ns.getD (2 * j + 1) 0)
def midPairs (ns : List Nat) : List (Nat × Nat) := (List.range (ns.length / 2 - 1)).map fun j => tieOf (ns.getD (2 * j + 1) 0) (ns.getD (2 * j + 2) 0)
theorem nd_getD {ns : List Nat} (nd : ns.Nodup) {i j : Nat} (hi : i < ns.length) (hj : j < ns.length) (ne : i ≠ j) : ns.getD i 0 ≠ ns.getD j 0 := fun e => by
  have h1 : ns[i]? = some (ns.getD i 0) := getD_get 0 hi
  have h2 : ns[j]? = some (ns.getD j 0) := getD_get 0 hj
  rw [e] at h1
  exact ne (nd_ix'' nd h1 h2)
theorem out_apart {ns : List Nat} (nd : ns.Nodup) : (outPairs ns).Pairwise Apart := by
  unfold outPairs
  rw [List.pairwise_map]
  refine List.Pairwise.imp_of_mem (fun {i j} hi hj h => ?_) (List.pairwise_lt_range (n := ns.length / 2))
  have hi := List.mem_range.mp hi
  have hj := List.mem_range.mp hj
  exact apart_tie (nd_getD nd (by omega) (by omega) (by omega)) (nd_getD nd (by omega) (by omega) (by omega)) (nd_getD nd (by omega) (by omega) (by omega)) (nd_getD nd (by omega) (by omega) (by omega))
theorem mid_apart {ns : List Nat} (nd : ns.Nodup) : (midPairs ns).Pairwise Apart := by
  unfold midPairs
  rw [List.pairwise_map]
  refine List.Pairwise.imp_of_mem (fun {i j} hi hj h => ?_) (List.pairwise_lt_range (n := ns.length / 2 - 1))
  have hi := List.mem_range.mp hi
  have hj := List.mem_range.mp hj
  exact apart_tie (nd_getD nd (by omega) (by omega) (by omega)) (nd_getD nd (by omega) (by omega) (by omega)) (nd_getD nd (by omega) (by omega) (by omega)) (nd_getD nd (by omega) (by omega) (by omega))
end OP

/-! A net along a way. -/
namespace OP
open PySem PySem.Spec PyProof.Rows L2 Evl
structure IsWay (W : Web) (ms : List (Option Nat)) (ns : List Nat) : Prop where
  two : 2 ≤ ns.length
  even : ns.length % 2 = 0
  lt : ∀ x ∈ ns, x < W.size
  nd : ns.Nodup
  first : ∀ x, ns[0]? = some x → ms[x]? = some none
  last : ∀ x, ns[ns.length - 1]? = some x → ms[x]? = some none
  step : ∀ i x y, ns[i]? = some x → ns[i + 1]? = some y → y ∈ nbOf W x ∧ (ms[x]? = some (some y) ↔ i % 2 = 1)
structure Lay (n : Nat) (ts : List (Nat × Nat)) (ns : List Nat) (X : List (Nat × Nat)) : Prop where
  tok : TiesOk n ts
  nd : ns.Nodup
  ev : ns.length % 2 = 0
  two : 2 ≤ ns.length
  lt : ∀ x ∈ ns, x < n
  xin : ∀ p ∈ X, p ∈ ts
  xap : X.Pairwise Apart
  xout : ∀ p ∈ X, p.1 ∉ ns ∧ p.2 ∉ ns
  mid : ∀ p ∈ midPairs ns, p ∈ ts
  out : ∀ p ∈ outPairs ns, p ∈ ts
theorem pairsOk_of {n : Nat} {ts ps : List (Nat × Nat)} (tok : TiesOk n ts) (h : ∀ p ∈ ps, p ∈ ts) (ap : ps.Pairwise Apart) : PairsOk (webOf n ts) ps :=
  ⟨fun p hp => by
    obtain ⟨h1, h2⟩ := tok p (h p hp)
    refine ⟨h1, h2, ?_⟩
    rw [nbOf, near_web ts (show p.1 < n by omega)]
    exact mem_nearOf.mpr ⟨h2, .inl (h p hp)⟩, ap⟩
theorem mem_getD {ns : List Nat} {i : Nat} (h : i < ns.length) : ns.getD i 0 ∈ ns := List.mem_of_getElem? (getD_get 0 h)
theorem in_mid {ns : List Nat} {p : Nat × Nat} (h : p ∈ midPairs ns) : ∃ j, 2 * j + 2 < ns.length ∧ p = tieOf (ns.getD (2 * j + 1) 0) (ns.getD (2 * j + 2) 0) := by
  obtain ⟨j, hj, rfl⟩ := List.mem_map.mp h
  have := List.mem_range.mp hj
  exact ⟨j, by omega, rfl⟩
theorem in_out {ns : List Nat} {p : Nat × Nat} (h : p ∈ outPairs ns) : ∃ j, 2 * j + 1 < ns.length ∧ p = tieOf (ns.getD (2 * j) 0) (ns.getD (2 * j + 1) 0) := by
  obtain ⟨j, hj, rfl⟩ := List.mem_map.mp h
  have := List.mem_range.mp hj
  exact ⟨j, by omega, rfl⟩
theorem tie_ends {x y : Nat} : ((tieOf x y).1 = x ∧ (tieOf x y).2 = y) ∨ ((tieOf x y).1 = y ∧ (tieOf x y).2 = x) := by
  rcases tieOf_cases x y with ⟨e, _⟩ | ⟨e, _⟩ <;> rw [e]
  · exact .inl ⟨rfl, rfl⟩
  · exact .inr ⟨rfl, rfl⟩
theorem cross {ns : List Nat} {q : Nat × Nat} {x y : Nat} (hx : x ∈ ns) (hy : y ∈ ns) (h : q.1 ∉ ns ∧ q.2 ∉ ns) : Apart (tieOf x y) q := by
  have key : ∀ z, z ∈ ns → z ≠ q.1 ∧ z ≠ q.2 := fun z hz => ⟨fun e => h.1 (by rw [← e]; exact hz), fun e => h.2 (by rw [← e]; exact hz)⟩
  rcases tie_ends (x := x) (y := y) with ⟨e1, e2⟩ | ⟨e1, e2⟩ <;> unfold Apart <;> rw [e1, e2]
  · exact ⟨(key x hx).1, (key x hx).2, (key y hy).1, (key y hy).2⟩
  · exact ⟨(key y hy).1, (key y hy).2, (key x hx).1, (key x hx).2⟩
section
variable {n : Nat} {ts X : List (Nat × Nat)} {ns : List Nat}
theorem Lay.pOk (l : Lay n ts ns X) : PairsOk (webOf n ts) (midPairs ns ++ X) := by
  refine pairsOk_of l.tok (fun p hp => (List.mem_append.mp hp).elim (l.mid p) (l.xin p)) (List.pairwise_append.mpr ⟨mid_apart l.nd, l.xap, fun p hp q hq => ?_⟩)
  obtain ⟨j, hj, rfl⟩ := in_mid hp
  exact cross (mem_getD (by omega)) (mem_getD (by omega)) (l.xout q hq)
theorem Lay.dOk (l : Lay n ts ns X) : PairsOk (webOf n ts) (outPairs ns ++ X) := by
  refine pairsOk_of l.tok (fun p hp => (List.mem_append.mp hp).elim (l.out p) (l.xin p)) (List.pairwise_append.mpr ⟨out_apart l.nd, l.xap, fun p hp q hq => ?_⟩)
  obtain ⟨j, hj, rfl⟩ := in_out hp
  exact cross (mem_getD (by omega)) (mem_getD (by omega)) (l.xout q hq)
theorem Lay.atX (l : Lay n ts ns X) {x y : Nat} (h : tieOf x y ∈ X) : x ∉ ns ∧ y ∉ ns := by
  have := l.xout _ h
  rcases tie_ends (x := x) (y := y) with ⟨e1, e2⟩ | ⟨e1, e2⟩ <;> rw [e1, e2] at this
  · exact this
  · exact ⟨this.2, this.1⟩
theorem at_ix {i : Nat} {x : Nat} (h : ns[i]? = some x) : x = ns.getD i 0 ∧ i < ns.length := by
  have hl := (List.getElem?_eq_some_iff.mp h).1
  exact ⟨Option.some.inj (h.symm.trans (getD_get 0 hl)), hl⟩
/-- two places of the way that are a pair -/
theorem Lay.pair_ix (l : Lay n ts ns X) {i k : Nat} (hi : i < ns.length) (hk : k < ns.length) (h : mateOf (midPairs ns ++ X) (ns.getD i 0) = some (ns.getD k 0)) : ∃ j, (i = 2 * j + 1 ∧ k = 2 * j + 2) ∨ (i = 2 * j + 2 ∧ k = 2 * j + 1) := by
  obtain ⟨ne, hm⟩ := (mate_iff l.pOk).mp h
  rcases List.mem_append.mp hm with hm | hm
  · obtain ⟨j, hj, e⟩ := in_mid hm
    have same : ∀ a b, a < ns.length → b < ns.length → ns.getD a 0 = ns.getD b 0 → a = b := fun a b ha hb e => Classical.byContradiction fun ne => nd_getD l.nd ha hb ne e
    rcases tieOf_inj e with ⟨e1, e2⟩ | ⟨e1, e2⟩
    · exact ⟨j, .inl ⟨same _ _ hi (by omega) e1, same _ _ hk (by omega) e2⟩⟩
    · exact ⟨j, .inr ⟨same _ _ hi (by omega) e1, same _ _ hk (by omega) e2⟩⟩
  · exact absurd (mem_getD hi) (l.atX hm).1
theorem Lay.mate_mid (l : Lay n ts ns X) {j : Nat} (h : 2 * j + 2 < ns.length) : mateOf (midPairs ns ++ X) (ns.getD (2 * j + 1) 0) = some (ns.getD (2 * j + 2) 0) ∧ mateOf (midPairs ns ++ X) (ns.getD (2 * j + 2) 0) = some (ns.getD (2 * j + 1) 0) := by
  have ev := l.ev
  exact mate_tie l.pOk (nd_getD l.nd (by omega) (by omega) (by omega)) (List.mem_append_left _ (List.mem_map.mpr ⟨j, List.mem_range.mpr (by omega), rfl⟩))
theorem Lay.mate_out (l : Lay n ts ns X) {j : Nat} (h : 2 * j + 1 < ns.length) : mateOf (outPairs ns ++ X) (ns.getD (2 * j) 0) = some (ns.getD (2 * j + 1) 0) ∧ mateOf (outPairs ns ++ X) (ns.getD (2 * j + 1) 0) = some (ns.getD (2 * j) 0) := by
  have ev := l.ev
  exact mate_tie l.dOk (nd_getD l.nd (by omega) (by omega) (by omega)) (List.mem_append_left _ (List.mem_map.mpr ⟨j, List.mem_range.mpr (by omega), rfl⟩))
theorem Lay.free (l : Lay n ts ns X) {i : Nat} (hi : i < ns.length) (h : i = 0 ∨ i + 1 = ns.length) : mateOf (midPairs ns ++ X) (ns.getD i 0) = none := by
  have ev := l.ev
  cases e : mateOf (midPairs ns ++ X) (ns.getD i 0) with
  | none => rfl
  | some z =>
    obtain ⟨ne, hm⟩ := (mate_iff l.pOk).mp e
    rcases List.mem_append.mp hm with hm | hm
    · obtain ⟨j, hj, e⟩ := in_mid hm
      rcases tieOf_inj e with ⟨e1, e2⟩ | ⟨e1, e2⟩
      · exact absurd e1 (nd_getD l.nd hi (by omega) (by omega))
      · exact absurd e1 (nd_getD l.nd hi (by omega) (by omega))
    · exact absurd (mem_getD hi) (l.atX hm).1
theorem Lay.way (l : Lay n ts ns X) : IsWay (webOf n ts) (mateL n (midPairs ns ++ X)) ns := by
  have ev := l.ev
  have two := l.two
  have mt : ∀ {x}, x ∈ ns → (mateL n (midPairs ns ++ X))[x]? = some (mateOf (midPairs ns ++ X) x) := fun {x} hx => mateL_get _ (l.lt x hx)
  refine ⟨l.two, l.ev, l.lt, l.nd, fun x hx => ?_, fun x hx => ?_, fun i x y hx hy => ?_⟩
  · obtain ⟨e, hl⟩ := at_ix hx
    rw [mt (List.mem_of_getElem? hx), e, l.free hl (.inl rfl)]
  · obtain ⟨e, hl⟩ := at_ix hx
    rw [mt (List.mem_of_getElem? hx), e, l.free hl (.inr (by omega))]
  · obtain ⟨ex, hlx⟩ := at_ix hx
    obtain ⟨ey, hly⟩ := at_ix hy
    have lx := l.lt x (List.mem_of_getElem? hx)
    have ne : x ≠ y := by rw [ex, ey]; exact nd_getD l.nd hlx hly (by omega)
    constructor
    · refine (near_tie l.tok lx).mpr ⟨ne, ?_⟩
      by_cases c : i % 2 = 1
      · obtain ⟨j, hj⟩ : ∃ j, i = 2 * j + 1 := ⟨i / 2, by omega⟩
        subst hj
        rw [ex, ey]
        exact l.mid _ (List.mem_map.mpr ⟨j, List.mem_range.mpr (by omega), rfl⟩)
      · obtain ⟨j, hj⟩ : ∃ j, i = 2 * j := ⟨i / 2, by omega⟩
        subst hj
        rw [ex, ey]
        exact l.out _ (List.mem_map.mpr ⟨j, List.mem_range.mpr (by omega), rfl⟩)
    · rw [mt (List.mem_of_getElem? hx)]
      constructor
      · intro h
        have h := Option.some.inj h
        rw [ex, ey] at h
        obtain ⟨j, h⟩ := l.pair_ix hlx hly h
        omega
      · intro c
        obtain ⟨j, hj⟩ : ∃ j, i = 2 * j + 1 := ⟨i / 2, by omega⟩
        subst hj
        rw [ex, ey]
        exact congrArg some (l.mate_mid (by omega)).1
theorem Lay.turn (l : Lay n ts ns X) : turnL (mateL n (midPairs ns ++ X)) ns = mateL n (outPairs ns ++ X) := by
  have ev := l.ev
  have ml := mateL_len n (midPairs ns ++ X)
  obtain ⟨t1, t2⟩ := turnL_get (ms := mateL n (midPairs ns ++ X)) l.nd l.ev (fun x hx => by rw [ml]; exact l.lt x hx)
  refine mateL_ext (by rw [turnL_len, ml]) fun x hx => ?_
  by_cases c : x ∈ ns
  · obtain ⟨i, hi⟩ := List.getElem?_of_mem c
    obtain ⟨ex, hl⟩ := at_ix hi
    by_cases e : i % 2 = 0
    · obtain ⟨j, hj⟩ : ∃ j, i = 2 * j := ⟨i / 2, by omega⟩
      subst hj
      rw [(t1 j x _ hi (getD_get 0 (by omega))).1, ex]
      exact congrArg some (l.mate_out (by omega)).1.symm
    · obtain ⟨j, hj⟩ : ∃ j, i = 2 * j + 1 := ⟨i / 2, by omega⟩
      subst hj
      rw [(t1 j _ x (getD_get 0 (by omega)) hi).2, ex]
      exact congrArg some (l.mate_out hl).2.symm
  · rw [t2 x c, mateL_get _ hx]
    refine congrArg some (Option.ext fun z => ?_)
    rw [mate_iff l.pOk, mate_iff l.dOk]
    refine and_congr_right fun _ => ?_
    rw [List.mem_append, List.mem_append]
    constructor
    · rintro (h | h)
      · obtain ⟨j, hj, e⟩ := in_mid h
        rcases tieOf_inj e with ⟨e1, _⟩ | ⟨e1, _⟩ <;> exact absurd (by rw [e1]; exact mem_getD (by omega)) c
      · exact .inr h
    · rintro (h | h)
      · obtain ⟨j, hj, e⟩ := in_out h
        rcases tieOf_inj e with ⟨e1, _⟩ | ⟨e1, _⟩ <;> exact absurd (by rw [e1]; exact mem_getD (by omega)) c
      · exact .inr h
end
end OP
namespace OP
open PySem PySem.Spec PyProof.Rows L2 Evl
theorem mateL_perm {W : Web} {ps qs : List (Nat × Nat)} (ok : PairsOk W ps) (h : qs.Perm ps) (n : Nat) : mateL n qs = mateL n ps := by
  have ok2 : PairsOk W qs := ok.perm h.symm
  unfold mateL
  refine List.map_congr_left fun x _ => Option.ext fun z => ?_
  rw [mate_iff ok, mate_iff ok2, h.mem_iff]
end OP

/-! Comprehensions over range(.., .., 2). -/
namespace OP
open PySem PySem.Spec PyProof.Rows L2 Evl
theorem rgC_step {lo k : Nat} (hk : k ≤ 10000) (hl : lo ≤ 10000) : RgC (lo : Int) ((lo + 2 * k : Nat) : Int) 2 k := by
  have fit : ∀ i : Int, -100000 ≤ i → i ≤ 100000 → Builtin.Range.rangeFitsLong i = true := fun i h1 h2 => by
    unfold Builtin.Range.rangeFitsLong
    rw [Bool.and_eq_true]
    exact ⟨decide_eq_true (Int.le_trans (by decide) h1), decide_eq_true (Int.lt_of_le_of_lt h2 (by decide))⟩
  have sz : Builtin.Range.rangeSize (lo : Int) ((lo + 2 * k : Nat) : Int) 2 = (k : Int) := by
    unfold Builtin.Range.rangeSize
    rw [if_pos (by decide)]
    split <;> omega
  refine ⟨by decide, by decide, ?_, sz⟩
  unfold Builtin.Range.small
  rw [sz, fit _ (by omega) (by omega), fit _ (by omega) (by omega), fit 2 (by decide) (by decide), fit (k : Int) (by omega) (by omega), if_pos (by decide), fit _ (by omega) (by omega)]
  simp
section
variable {K : PySem.W.Frag} {σ : L2.St} {H H' : Hp} {te : TE}
/-- [(.., ..) for i in range(lo, lo + 2 k, 2)] -/
theorem en_pairs3 {tr : TA} {j lo k : Nat} {vs : List Nat} (g : Nat → Nat × Nat) (h : EvA tr σ H [.int (lo : Int), .int ((lo + 2 * k : Nat) : Int), .int 2]) (hk : k ≤ 10000) (hlo : lo ≤ 10000) (hw : ∀ x, wipe ((wipe σ vs).set j (some x)) vs = wipe σ vs)
    (he : ∀ (i : Nat) H1, Ex H H1 → i < k → EvU te ((wipe σ vs).set j (some (vn (lo + 2 * i)))) H1 [vn (g i).1, vn (g i).2]) :
    EvN (tLc (iRng3 tr) (gName j) tYes te vs) σ H (fun v fs G => ∃ D as, v = .ref D ∧ fs = [D] ∧ G D = some (.lst (as.map V.ref)) ∧ Paired (Pr G) as ((List.range k).map g)) := fun H0 e Q q =>
  h H0 e _ fun H1 e1 => ⟨_, _, 2, k, rfl, rgC_step hk hlo, fun D hD =>
  lc_it walk_rangeC (fun i H' => Ex H1 H' ∧ ∃ as, H' D = some (.lst (as.map V.ref)) ∧ Paired (Pr H') as ((List.range i).map g))
    ⟨Ex.new hD, [], upd_same, .nil⟩ (fun _ _ _ _ => trivial)
    (fun i x G G' hi p y => by
      obtain ⟨rfl, rfl⟩ := y
      obtain ⟨e2, as, hd, hp⟩ := p
      have ex : V.int ((lo : Int) + (i : Nat) * 2) = vn (lo + 2 * i) := by
        show V.int _ = V.int _
        congr 1
        omega
      show wipe ((wipe σ vs).set j (some (V.int ((lo : Int) + (i : Nat) * 2)))) vs = wipe σ vs ∧ te ((wipe σ vs).set j (some (V.int ((lo : Int) + (i : Nat) * 2)))) _ fun y H4 => ∃ acc, H4 D = some (.lst acc) ∧ acc.length < sizeLine ∧ _
      rw [ex]
      have len : as.length = i := by rw [paired_len hp, List.length_map, List.length_range]
      refine ⟨hw _, he i _ ((e.trans e1).trans e2) hi _ (Ex.refl _) _ fun p H4 hp4 e4 hpt => ⟨as.map V.ref, e4 _ _ hd, sz_lt (by rw [List.length_map]; omega), (e2.trans e4).mut hD, as ++ [p], by rw [upd_same, List.map_append]; rfl, ?_⟩⟩
      rw [List.range_succ, List.map_append]
      have ne : ∀ b k, Pr _ b k → b ≠ D := fun b k z w => by
        have z' := z
        rw [w] at z'
        have z' := (show _ = some _ from z').symm.trans hd
        cases z'
      refine paired_app (paired_imp hp fun b hb k z => ?_) (.cons ?_ .nil)
      · show upd _ _ _ b = _
        rw [upd_ne (ne b k z)]
        exact e4 _ _ z
      · show upd _ _ _ p = _
        rw [upd_ne (fun w => by rw [w, hd] at hp4; cases hp4)]
        exact hpt)
    (fun H' ⟨e2, as, hd, hp⟩ => q _ [D] H' (e1.trans e2) (fun r hr => by rw [List.mem_singleton.mp hr]; exact fresh_back e1 hD) ⟨D, as, rfl, rfl, hd, hp⟩)⟩
end
end OP
namespace OP
open PySem PySem.Spec PyProof.Rows L2 Evl
/-- the pair beside the way -/
def besideX (rs : List Nat) : List (Nat × Nat) := if 2 ≤ rs.length then [tieOf (rs.getD 0 0) (rs.getD 1 0)] else []
theorem lay_of {n : Nat} {ts : List (Nat × Nat)} {ns rs : List Nat} (tok : TiesOk n ts) (nd : (ns ++ rs).Nodup) (lt : ∀ x ∈ ns ++ rs, x < n) (ev : ns.length % 2 = 0) (two : 2 ≤ ns.length)
    (mid : ∀ p ∈ midPairs ns, p ∈ ts) (out : ∀ p ∈ outPairs ns, p ∈ ts) (xin : ∀ p ∈ besideX rs, p ∈ ts) : Lay n ts ns (besideX rs) := by
  obtain ⟨n1, n2, n3⟩ := List.nodup_append.mp nd
  refine ⟨tok, n1, ev, two, fun x hx => lt x (List.mem_append_left _ hx), xin, ?_, fun p hp => ?_, mid, out⟩
  · unfold besideX
    split <;> simp
  · unfold besideX at hp
    split at hp
    · rename_i h
      rw [List.mem_singleton.mp hp]
      have a0 : rs.getD 0 0 ∈ rs := mem_getD (by omega)
      have a1 : rs.getD 1 0 ∈ rs := mem_getD (by omega)
      have key : ∀ z, z ∈ rs → z ∉ ns := fun z hz hn => n3 z hn z hz rfl
      rcases tie_ends (x := rs.getD 0 0) (y := rs.getD 1 0) with ⟨e1, e2⟩ | ⟨e1, e2⟩ <;> rw [e1, e2]
      · exact ⟨key _ a0, key _ a1⟩
      · exact ⟨key _ a1, key _ a0⟩
    · cases hp
/-- the first step alone is a way for all other pairs -/
theorem Lay.first {n : Nat} {ts X : List (Nat × Nat)} {ns : List Nat} (l : Lay n ts ns X) (h : 4 ≤ ns.length) : Lay n ts (ns.take 2) ((midPairs ns ++ X).drop 1) := by
  have two := l.two
  have g0 : (ns.take 2).getD 0 0 = ns.getD 0 0 := by
    rw [List.getD_eq_getElem?_getD, List.getD_eq_getElem?_getD, List.getElem?_take_of_lt (by decide)]
  have g1 : (ns.take 2).getD 1 0 = ns.getD 1 0 := by
    rw [List.getD_eq_getElem?_getD, List.getD_eq_getElem?_getD, List.getElem?_take_of_lt (by decide)]
  have tl : (ns.take 2).length = 2 := by rw [List.length_take]; omega
  have t2 : ∀ x ∈ ns.take 2, x = ns.getD 0 0 ∨ x = ns.getD 1 0 := fun x hx => by
    obtain ⟨i, hi⟩ := List.getElem?_of_mem hx
    have hl := (List.getElem?_eq_some_iff.mp hi).1
    obtain ⟨ex, _⟩ := at_ix hi
    rw [tl] at hl
    have : i = 0 ∨ i = 1 := by omega
    rcases this with rfl | rfl
    · exact .inl (ex.trans g0)
    · exact .inr (ex.trans g1)
  have md : midPairs ns = tieOf (ns.getD 1 0) (ns.getD 2 0) :: (midPairs ns).drop 1 := by
    have hl : 0 < (midPairs ns).length := by unfold midPairs; rw [List.length_map, List.length_range]; omega
    have e : (midPairs ns)[0] = tieOf (ns.getD 1 0) (ns.getD 2 0) := by
      unfold midPairs
      simp
    conv => lhs; rw [← List.drop_zero (l := midPairs ns), List.drop_eq_getElem_cons hl, e]
  have dropE : (midPairs ns ++ X).drop 1 = (midPairs ns).drop 1 ++ X := by
    conv => lhs; rw [md]
    rfl
  have ap := l.pOk.apart
  refine ⟨l.tok, l.nd.sublist (List.take_sublist 2 ns), by rw [tl], by rw [tl]; decide, fun x hx => l.lt x (List.mem_of_mem_take hx), fun p hp => ?_, ap.sublist (List.drop_sublist 1 _), fun p hp => ?_, fun p hp => ?_, fun p hp => ?_⟩
  · rcases List.mem_append.mp (List.mem_of_mem_drop hp) with c | c
    · exact l.mid p c
    · exact l.xin p c
  · have free : ∀ x, (x = ns.getD 0 0 ∨ x = ns.getD 1 0) → p.1 ≠ x ∧ p.2 ≠ x := fun x hx => by
      rcases hx with rfl | rfl
      · exact mateOf_none.mp (l.free (i := 0) (by omega) (.inl rfl)) p (List.mem_of_mem_drop hp)
      · rw [dropE] at hp
        have ap2 : (tieOf (ns.getD 1 0) (ns.getD 2 0) :: ((midPairs ns).drop 1 ++ X)).Pairwise Apart := by
          have : midPairs ns ++ X = tieOf (ns.getD 1 0) (ns.getD 2 0) :: ((midPairs ns).drop 1 ++ X) := by
            conv => lhs; rw [md]
            rfl
          rw [← this]
          exact ap
        have a := (List.pairwise_cons.mp ap2).1 p hp
        rcases tie_ends (x := ns.getD 1 0) (y := ns.getD 2 0) with ⟨e1, e2⟩ | ⟨e1, e2⟩
        · unfold Apart at a
          rw [e1] at a
          exact ⟨fun z => a.1 z.symm, fun z => a.2.1 z.symm⟩
        · unfold Apart at a
          rw [e2] at a
          exact ⟨fun z => a.2.2.1 z.symm, fun z => a.2.2.2 z.symm⟩
    exact ⟨fun z => (free _ (t2 _ z)).1 rfl, fun z => (free _ (t2 _ z)).2 rfl⟩
  · obtain ⟨j, hj, _⟩ := in_mid hp
    rw [tl] at hj
    omega
  · obtain ⟨j, hj, rfl⟩ := in_out hp
    rw [tl] at hj
    have : j = 0 := by omega
    subst this
    rw [show 2 * 0 = 0 from rfl, show 0 + 1 = 1 from rfl, g0, g1]
    exact l.out _ (List.mem_map.mpr ⟨0, List.mem_range.mpr (by omega), rfl⟩)
end OP

/-! Loops with any target; the heap without some lists; ways turned twice. -/
namespace OP
open PySem PySem.Spec PyProof.Rows L2 Evl
section
variable {K : PySem.W.Frag} {σ : L2.St} {H H' : Hp} {ta tb te tx : TE} {x y z v : V}
theorem q_forNg {g : TG} {R : Rn} {D : Ends} {tu tz : TS} {tl : TE} (h : EvN tl σ H R) (k : ∀ v fs H1, Ex H H1 → (∀ p ∈ fs, H p = none) → R v fs H1 → ∃ a xs, v = .ref a ∧ SqL K H1 a xs ∧ ∃ Pv : Nat → L2.St → Hp → Prop, Pv 0 σ H1 ∧ (∀ i σ' H', i ≤ xs.length → Pv i σ' H' → SqL K H' a xs) ∧
    (∀ i x σ' H', xs[i]? = some x → Pv i σ' H' → g x σ' H' fun σ2 H2 => tu { D with nx := Pv (i + 1), ct := Pv (i + 1), bk := tz D } σ2 H2) ∧ (∀ σ' H', Pv xs.length σ' H' → tz D σ' H')) : tSeq (tFor (iList K tl) g tu) tz D σ H :=
  h H (Ex.refl H) _ fun v fs H1 e f r => by
    obtain ⟨a, xs, rfl, hx, Pv, h0, hl, hs, hd⟩ := k v fs H1 e f r
    exact ⟨a, rfl, ⟨xs, hx⟩, for_list (D := { D with nx := tz D }) Pv h0 hl hs hd⟩
/-- the heap without some objects -/
def cutH (ds : List Addr) (H : Hp) : Hp := fun p => if p ∈ ds then none else H p
theorem cutH_ex (ds : List Addr) (H : Hp) : Ex (cutH ds H) H := fun p o e => by
  unfold cutH at e
  split at e
  · cases e
  · exact e
theorem cutH_mono (ds : List Addr) (e : Ex H H') : Ex (cutH ds H) (cutH ds H') := fun p o h => by
  unfold cutH at h ⊢
  split at h
  · cases h
  · rename_i n
    rw [if_neg n]
    exact e _ _ h
theorem cutH_none {ds : List Addr} {p : Addr} (h : p ∈ ds) : cutH ds H p = none := by
  unfold cutH
  rw [if_pos h]
theorem cutH_at {ds : List Addr} {p : Addr} {o : HO} (h : p ∉ ds) (e : H p = some o) : cutH ds H p = some o := by
  unfold cutH
  rw [if_neg h]
  exact e
theorem Ints.cut {ds : List Addr} {a : Addr} {ns : List Nat} (h : Ints H a ns) (n : a ∉ ds) : Ints (cutH ds H) a ns := cutH_at n h
theorem Prs.cut {ds : List Addr} {a : Addr} {ps : List (Nat × Nat)} (h : Prs H a ps) (n : a ∉ ds) (l : ∀ d ∈ ds, ∃ xs, H d = some (.lst xs)) : Prs (cutH ds H) a ps := by
  obtain ⟨as, h1, h2⟩ := h
  refine ⟨as, cutH_at n h1, Paired.mapP h2 fun b r hb => cutH_at (fun hd => ?_) hb⟩
  obtain ⟨xs, hx⟩ := l _ hd
  have hb : H b = _ := hb
  rw [hx] at hb
  cases hb
theorem ex_cut {ds : List Addr} (e : Ex H H') (n : ∀ d ∈ ds, H d = none) : Ex H (cutH ds H') := fun p o h => cutH_at (fun hp => by rw [n p hp] at h; cases h) (e _ _ h)
theorem ep_ofN {R : Rn} {P : HV} (h : EvN te σ H R) (k : ∀ v fs G, Ex H G → (∀ p ∈ fs, H p = none) → R v fs G → P G v) : EvP te σ H P := fun H1 e Q q => h H1 e Q fun v fs H2 e2 fr r => q v H2 e2 (k v fs H2 (e.trans e2) (fun p hp => fresh_back e (fr p hp)) r)
theorem ep_tup3 {P1 P2 P3 : HV} {tc : TE} (s1 : Stay P1) (s2 : Stay P2) (s3 : Stay P3) (h1 : EvP ta σ H P1) (h2 : EvP tb σ H P2) (h3 : EvP tc σ H P3) : EvP (tTup (tCons ta (tCons tb (tCons tc tNil)))) σ H (fun G v => ∃ p x y z, v = .ref p ∧ H p = none ∧ G p = some (.tup [x, y, z]) ∧ P1 G x ∧ P2 G y ∧ P3 G z) := fun H1 e Q q => by
  unfold tTup
  unfold tCons
  refine h1 H1 e _ fun x H2 e2 p1 => ?_
  refine h2 H2 (e.trans e2) _ fun y H3 e3 p2 => ?_
  refine h3 H3 ((e.trans e2).trans e3) _ fun z H4 e4 p3 => ?_
  have e14 := (e2.trans e3).trans e4
  refine ⟨by show 3 ≤ sizeLine; decide, fun p hp => ?_⟩
  have en := Ex.new (H := H4) (o := .tup [x, y, z]) hp
  exact q (.ref p) _ (e14.trans en) ⟨p, x, y, z, rfl, fresh_back (e.trans e14) hp, upd_same, s1 _ _ _ ((e3.trans e4).trans en) p1, s2 _ _ _ (e4.trans en) p2, s3 _ _ _ en p3⟩
/-- a list of a list of pairs and a list of places -/
def mixD (ps : List (Nat × Nat)) (ns : List Nat) : PyData := .list [psD ps, nsD ns]
theorem mixD_eqv (ps : List (Nat × Nat)) (ns : List Nat) : PyData.eqv (mixD ps ns) (mixD ps ns) = true := by
  have h1 := psD_eqv ps ps
  have h2 := nsD_eqv ns ns
  simp at h1 h2
  show PyData.eqv (.list [psD ps, nsD ns]) (.list [psD ps, nsD ns]) = true
  simp [PyData.eqv, PyData.eqvAll, h1, h2]
theorem mixD_shaped (ps : List (Nat × Nat)) (ns : List Nat) : SeqAt.shaped (mixD ps ns) = true := by
  have h1 := lay_map (f := pD) pD_lay ps
  have h2 := lay_map (f := nD) (fun _ => by simp [nD, PyData.canLay0]) ns
  have d1 := depth_map (f := pD) pD_depth ps
  have d2 := depth_map (f := nD) (m := 60) (fun _ => by simp [nD, PyData.depth]) ns
  show (PyData.canLay0 (mixD ps ns) && decide (PyData.depth (mixD ps ns) ≤ 64)) = true
  rw [Bool.and_eq_true]
  refine ⟨by simp [mixD, psD, nsD, PyData.canLay0, PyData.canLayAll0, h1, h2], decide_eq_true ?_⟩
  have d2' := depth_map (f := nD) (m := 1) (fun _ => by simp [nD, PyData.depth]) ns
  simp only [mixD, psD, nsD, PyData.depth, PyData.depthAll]
  omega
theorem rv_neMix {a b : Addr} {l1 l2 l3 l4 : Addr} {ps : List (Nat × Nat)} {ns : List Nat} (ha : H a = some (.lst [.ref l1, .ref l2])) (hb : H b = some (.lst [.ref l3, .ref l4])) (h1 : Prs H l1 ps) (h2 : Ints H l2 ns) (h3 : Prs H l3 ps) (h4 : Ints H l4 ns) :
    RV (rNeD K) (.ref a) (.ref b) H (.bl false) :=
  rv_neD (b := true) (d := mixD ps ns) (e := mixD ps ns) (fun G e => ⟨.lst (sq_of (e _ _ ha)) (.cons (dp_prs (h1.go e)) (.cons (dp_ints (h2.go e)) .nil)), .lst (sq_of (e _ _ hb)) (.cons (dp_prs (h3.go e)) (.cons (dp_ints (h4.go e)) .nil))⟩) (mixD_shaped ps ns) (mixD_shaped ps ns) (mixD_eqv ps ns)
end
theorem out_take2 {ns : List Nat} (h : 2 ≤ ns.length) : outPairs (ns.take 2) = [tieOf (ns.getD 0 0) (ns.getD 1 0)] := by
  match ns, h with
  | a :: b :: t, _ => simp [outPairs]
theorem mid_take2 {ns : List Nat} (h : 2 ≤ ns.length) : midPairs (ns.take 2) = [] := by
  match ns, h with
  | a :: b :: t, _ => simp [midPairs]
theorem Lay.told {n : Nat} {ts X : List (Nat × Nat)} {ns : List Nat} (l : Lay n ts ns X) : pairsOf (turnL (mateL n (midPairs ns ++ X)) ns) = srtP (outPairs ns ++ X) := by
  rw [l.turn]
  exact pairsOf_mates l.dOk
/-- the first step alone, told -/
theorem Lay.toldFirst {n : Nat} {ts X : List (Nat × Nat)} {ns : List Nat} (l : Lay n ts ns X) (h : 4 ≤ ns.length) : pairsOf (turnL (mateL n ((midPairs ns ++ X).drop 1)) (ns.take 2)) = srtP ((midPairs ns ++ X).drop 1 ++ [tieOf (ns.getD 0 0) (ns.getD 1 0)]) := by
  have f := l.first h
  have t := f.told
  rw [out_take2 (by omega), mid_take2 (by omega), List.nil_append] at t
  rw [t]
  exact srtP_one ((srtP_perm _).trans List.perm_append_comm) (srtP_le _)
/-- ties of a row told by their indices -/
theorem idx_nodup {os : List Nat} (nd : os.Nodup) {I : List (Nat × Nat)} (hI : I.Nodup) (lt : ∀ p ∈ I, p.1 < p.2 ∧ p.2 < os.length) : (I.map fun p => tieOf (os.getD p.1 0) (os.getD p.2 0)).Nodup := by
  unfold List.Nodup
  rw [List.pairwise_map]
  refine List.Pairwise.imp_of_mem (fun {p q} hp hq ne e => ne ?_) hI
  obtain ⟨p1, p2⟩ := lt p hp
  obtain ⟨q1, q2⟩ := lt q hq
  have same : ∀ a b, a < os.length → b < os.length → os.getD a 0 = os.getD b 0 → a = b := fun a b ha hb e => Classical.byContradiction fun ne => nd_getD nd ha hb ne e
  rcases tieOf_inj e with ⟨e1, e2⟩ | ⟨e1, e2⟩
  · exact Prod.ext (same _ _ (by omega) (by omega) e1) (same _ _ (by omega) (by omega) e2)
  · have := same _ _ (by omega) (by omega) e1
    have := same _ _ (by omega) (by omega) e2
    omega
theorem idx_ok {os : List Nat} {n : Nat} (nd : os.Nodup) (ltn : ∀ x ∈ os, x < n) {I : List (Nat × Nat)} (lt : ∀ p ∈ I, p.1 < p.2 ∧ p.2 < os.length) : TiesOk n (I.map fun p => tieOf (os.getD p.1 0) (os.getD p.2 0)) := fun t ht => by
  obtain ⟨p, hp, rfl⟩ := List.mem_map.mp ht
  obtain ⟨p1, p2⟩ := lt p hp
  exact tieOf_ok (ltn _ (mem_getD (by omega))) (ltn _ (mem_getD p2)) (nd_getD nd (by omega) p2 (by omega))
def midI (s : Nat) : List (Nat × Nat) := (List.range (s - 1)).map fun j => (2 * j + 1, 2 * j + 2)
def outI (s : Nat) : List (Nat × Nat) := (List.range s).map fun j => (2 * j, 2 * j + 1)
def xI (s m : Nat) : List (Nat × Nat) := if 1 < m then [(2 * s, 2 * s + 1)] else []
def twoI (s : Nat) : List (Nat × Nat) := if 2 < s then [(0, 2), (1, 2 * s - 2)] else []
def allI (s m : Nat) : List (Nat × Nat) := midI s ++ outI s ++ xI s m ++ twoI s
theorem mapR_nodup {f : Nat → Nat × Nat} (h : ∀ i j, f i = f j → i = j) (n : Nat) : ((List.range n).map f).Nodup := by
  unfold List.Nodup
  rw [List.pairwise_map]
  exact List.Pairwise.imp (fun {a b} lt e => by have := h _ _ e; omega) List.pairwise_lt_range
theorem mem_allI {s m : Nat} {p : Nat × Nat} : p ∈ allI s m ↔ (∃ j, j + 1 < s ∧ p = (2 * j + 1, 2 * j + 2)) ∨ (∃ j, j < s ∧ p = (2 * j, 2 * j + 1)) ∨ (1 < m ∧ p = (2 * s, 2 * s + 1)) ∨ (2 < s ∧ (p = (0, 2) ∨ p = (1, 2 * s - 2))) := by
  have h1 : p ∈ midI s ↔ ∃ j, j + 1 < s ∧ p = (2 * j + 1, 2 * j + 2) := by
    unfold midI
    rw [List.mem_map]
    constructor
    · rintro ⟨j, hj, rfl⟩
      rw [List.mem_range] at hj
      exact ⟨j, by omega, rfl⟩
    · rintro ⟨j, hj, rfl⟩
      exact ⟨j, List.mem_range.mpr (by omega), rfl⟩
  have h2 : p ∈ outI s ↔ ∃ j, j < s ∧ p = (2 * j, 2 * j + 1) := by
    unfold outI
    rw [List.mem_map]
    constructor
    · rintro ⟨j, hj, rfl⟩
      exact ⟨j, List.mem_range.mp hj, rfl⟩
    · rintro ⟨j, hj, rfl⟩
      exact ⟨j, List.mem_range.mpr hj, rfl⟩
  have h3 : p ∈ xI s m ↔ 1 < m ∧ p = (2 * s, 2 * s + 1) := by
    unfold xI
    split
    · rename_i h
      rw [List.mem_singleton]
      exact ⟨fun e => ⟨h, e⟩, fun e => e.2⟩
    · rename_i h
      exact ⟨fun e => (nomatch e), fun e => absurd e.1 h⟩
  have h4 : p ∈ twoI s ↔ 2 < s ∧ (p = (0, 2) ∨ p = (1, 2 * s - 2)) := by
    unfold twoI
    split
    · rename_i h
      rw [List.mem_cons, List.mem_singleton]
      exact ⟨fun e => ⟨h, e⟩, fun e => e.2⟩
    · rename_i h
      exact ⟨fun e => (nomatch e), fun e => absurd e.1 h⟩
  unfold allI
  rw [List.mem_append, List.mem_append, List.mem_append, h1, h2, h3, h4, or_assoc, or_assoc]
theorem allI_lt {s m : Nat} (hs : 1 ≤ s) : ∀ p ∈ allI s m, p.1 < p.2 ∧ p.2 < 2 * s + m := fun p hp => by
  rcases mem_allI.mp hp with ⟨j, hj, rfl⟩ | ⟨j, hj, rfl⟩ | ⟨hm, rfl⟩ | ⟨h2, rfl | rfl⟩ <;> dsimp only <;> omega
theorem allI_nodup {s m : Nat} (hs : 1 ≤ s) : (allI s m).Nodup := by
  have n1 : (midI s).Nodup := mapR_nodup (fun i j e => by injection e with e1 e2; omega) _
  have n2 : (outI s).Nodup := mapR_nodup (fun i j e => by injection e with e1 e2; omega) _
  have n3 : (xI s m).Nodup := by unfold xI; split <;> simp
  have n4 : (twoI s).Nodup := by
    unfold twoI
    split
    · rw [List.nodup_cons]
      refine ⟨fun h => ?_, by simp⟩
      have := List.mem_singleton.mp h
      injection this with e1 e2
      omega
    · simp
  have m1 : ∀ p ∈ midI s, ∃ j, j + 1 < s ∧ p = (2 * j + 1, 2 * j + 2) := fun p hp => by
    obtain ⟨j, hj, rfl⟩ := List.mem_map.mp hp
    rw [List.mem_range] at hj
    exact ⟨j, by omega, rfl⟩
  have m2 : ∀ p ∈ outI s, ∃ j, j < s ∧ p = (2 * j, 2 * j + 1) := fun p hp => by
    obtain ⟨j, hj, rfl⟩ := List.mem_map.mp hp
    exact ⟨j, List.mem_range.mp hj, rfl⟩
  have m3 : ∀ p ∈ xI s m, p = (2 * s, 2 * s + 1) := fun p hp => by
    unfold xI at hp
    split at hp
    · exact List.mem_singleton.mp hp
    · cases hp
  have m4 : ∀ p ∈ twoI s, 2 < s ∧ (p = (0, 2) ∨ p = (1, 2 * s - 2)) := fun p hp => by
    unfold twoI at hp
    split at hp
    · rename_i h
      rw [List.mem_cons, List.mem_singleton] at hp
      exact ⟨h, hp⟩
    · cases hp
  refine List.nodup_append.mpr ⟨List.nodup_append.mpr ⟨List.nodup_append.mpr ⟨n1, n2, fun p hp q hq e => ?_⟩, n3, fun p hp q hq e => ?_⟩, n4, fun p hp q hq e => ?_⟩
  · subst e
    obtain ⟨j, hj, e1⟩ := m1 p hp
    obtain ⟨k, hk, e2⟩ := m2 p hq
    rw [e1] at e2
    injection e2 with z1 z2
    omega
  · subst e
    have e2 := m3 p hq
    rcases List.mem_append.mp hp with hp | hp
    · obtain ⟨j, hj, e1⟩ := m1 p hp
      rw [e1] at e2
      injection e2 with z1 z2
      omega
    · obtain ⟨j, hj, e1⟩ := m2 p hp
      rw [e1] at e2
      injection e2 with z1 z2
      omega
  · subst e
    obtain ⟨h2, e2⟩ := m4 p hq
    rcases List.mem_append.mp hp with hp | hp
    · rcases List.mem_append.mp hp with hp | hp
      · obtain ⟨j, hj, e1⟩ := m1 p hp
        rw [e1] at e2
        rcases e2 with e2 | e2 <;> injection e2 with z1 z2 <;> omega
      · obtain ⟨j, hj, e1⟩ := m2 p hp
        rw [e1] at e2
        rcases e2 with e2 | e2 <;> injection e2 with z1 z2 <;> omega
    · have e1 := m3 p hp
      rw [e1] at e2
      rcases e2 with e2 | e2 <;> injection e2 with z1 z2 <;> omega
/-- ties told by indices of the order -/
def tiesI (os : List Nat) (I : List (Nat × Nat)) : List (Nat × Nat) := I.map fun p => tieOf (os.getD p.1 0) (os.getD p.2 0)
theorem getD_take {os : List Nat} {m i : Nat} (h : i < m) : (os.take m).getD i 0 = os.getD i 0 := by
  rw [List.getD_eq_getElem?_getD, List.getD_eq_getElem?_getD, List.getElem?_take_of_lt h]
theorem getD_drop (os : List Nat) (m i : Nat) : (os.drop m).getD i 0 = os.getD (m + i) 0 := by
  rw [List.getD_eq_getElem?_getD, List.getD_eq_getElem?_getD, List.getElem?_drop]
theorem mid_tiesI {os : List Nat} {s m : Nat} (len : os.length = 2 * s + m) : midPairs (os.take (2 * s)) = tiesI os (midI s) := by
  unfold midPairs tiesI midI
  rw [List.length_take, List.map_map, show min (2 * s) os.length / 2 - 1 = s - 1 by omega]
  refine List.map_congr_left fun j hj => ?_
  rw [List.mem_range] at hj
  show tieOf _ _ = tieOf _ _
  rw [getD_take (by omega), getD_take (by omega)]
theorem out_tiesI {os : List Nat} {s m : Nat} (len : os.length = 2 * s + m) : outPairs (os.take (2 * s)) = tiesI os (outI s) := by
  unfold outPairs tiesI outI
  rw [List.length_take, List.map_map, show min (2 * s) os.length / 2 = s by omega]
  refine List.map_congr_left fun j hj => ?_
  rw [List.mem_range] at hj
  show tieOf _ _ = tieOf _ _
  rw [getD_take (by omega), getD_take (by omega)]
theorem beside_tiesI {os : List Nat} {s m : Nat} (len : os.length = 2 * s + m) : besideX (os.drop (2 * s)) = tiesI os (xI s m) := by
  unfold besideX tiesI xI
  rw [List.length_drop, show os.length - 2 * s = m by omega]
  by_cases h : 1 < m
  · rw [if_pos h, if_pos (by omega), getD_drop, getD_drop]
    rfl
  · rw [if_neg h, if_neg (by omega)]
    rfl
end OP
namespace OP
open PySem PySem.Spec PyProof.Rows L2 Evl
section
variable {K : PySem.W.Frag} {σ : L2.St} {H H' : Hp} {ta tb te tx : TE} {x y z v : V} {ps qs : List (Nat × Nat)}
/-- a list of pairs, old or new; a new one -/
def EvPr (te : TE) (σ : L2.St) (H : Hp) (ps : List (Nat × Nat)) : Prop := EvN te σ H (fun v _ G => ∃ p, v = .ref p ∧ Prs G p ps)
def EvPrF (te : TE) (σ : L2.St) (H : Hp) (ps : List (Nat × Nat)) : Prop := EvN te σ H (fun v fs G => ∃ p, v = .ref p ∧ fs = [p] ∧ Prs G p ps)
theorem EvPrF.old (h : EvPrF te σ H ps) : EvPr te σ H ps := EvN.imp h fun _ _ _ _ ⟨p, h1, _, h3⟩ => ⟨p, h1, h3⟩
theorem evpr_var {a : Addr} (h : Ev te σ H (.ref a)) (hp : Prs H a ps) : EvPr te σ H ps := fun H1 e Q q => h H1 e _ fun H2 e2 => q _ [] H2 e2 (fun _ hp => nomatch hp) ⟨a, rfl, hp.go (e.trans e2)⟩
theorem EvPrF.el (h : EvPrF te σ H ps) {Q : VK} {H1 : Hp} (e : Ex H H1) (q : ∀ p H2, H1 p = none → Ex H1 H2 → Prs H2 p ps → Q (.ref p) H2) : te σ H1 Q :=
  h H1 e Q fun v fs H2 e2 fr ⟨p, h1, h2, h3⟩ => by
    subst h1
    exact q p H2 (fr p (by rw [h2]; exact List.mem_cons_self)) e2 h3
theorem evpr_cat (h1 : EvPr ta σ H ps) (h2 : EvPr tb σ H qs) (few : ps.length + qs.length ≤ 90000) : EvPrF (tOp rCat ta tb) σ H (ps ++ qs) := fun H1 e Q q =>
  h1 H1 e _ fun v fs H2 e2 _ r => h2 H2 (e.trans e2) _ fun v2 fs2 H3 e3 _ r2 => by
    obtain ⟨a, rfl, as, ha, hpa⟩ := r
    obtain ⟨b, rfl, bs, hb, hpb⟩ := r2
    refine ⟨a, b, as.map V.ref, bs.map V.ref, rfl, rfl, e3 _ _ ha, hb, sz_of (by rw [List.length_map, List.length_map, paired_len hpa, paired_len hpb]; omega), fun r hr => ?_⟩
    have e5 := Ex.new (H := H3) (o := .lst (as.map V.ref ++ bs.map V.ref)) hr
    have e25 := (e2.trans e3).trans e5
    refine q _ [r] _ e25 (fun x hx => by rw [List.mem_singleton.mp hx]; exact fresh_back (e2.trans e3) hr) ⟨r, rfl, rfl, as ++ bs, by rw [upd_same, List.map_append], paired_app (Paired.mapP hpa fun _ _ z => ?_) (Paired.mapP hpb fun _ _ z => ?_)⟩
    · exact (e3.trans e5) _ _ z
    · exact e5 _ _ z
theorem evpr_one {i j : Nat} (h : EvU te σ H [vn i, vn j]) : EvPrF (tLst (tCons te tNil)) σ H [(i, j)] := fun H1 e Q q => h H1 e _ fun t H2 ht e2 h2 => ⟨by show 1 ≤ sizeLine; decide, fun b hb => by
  have e3 := Ex.new (H := H2) (o := .lst [.ref t]) hb
  exact q _ [b] _ (e2.trans e3) (fun x hx => by rw [List.mem_singleton.mp hx]; exact fresh_back e2 hb) ⟨b, rfl, rfl, [t], upd_same, .cons (e3 _ _ h2) .nil⟩⟩
theorem evpr_two {i j k l : Nat} (h : EvU ta σ H [vn i, vn j]) (h' : EvU tb σ H [vn k, vn l]) : EvPrF (tLst (tCons ta (tCons tb tNil))) σ H [(i, j), (k, l)] := fun H1 e Q q => h H1 e _ fun t H2 ht e2 h2 => h' H2 (e.trans e2) _ fun u H3 hu e3 h3 => ⟨by show 2 ≤ sizeLine; decide, fun b hb => by
  have e4 := Ex.new (H := H3) (o := .lst [.ref t, .ref u]) hb
  exact q _ [b] _ ((e2.trans e3).trans e4) (fun x hx => by rw [List.mem_singleton.mp hx]; exact fresh_back (e2.trans e3) hb) ⟨b, rfl, rfl, [t, u], upd_same, .cons (e4 _ _ (e3 _ _ h2)) (.cons (e4 _ _ h3) .nil)⟩⟩
theorem evpr_sorted (h : EvPr te σ H ps) : EvPrF (tCB (rSortedPO K) (tCons te tNil)) σ H (srtP ps) := fun H1 e Q q => h H1 e _ fun v fs H2 e2 _ r => by
  obtain ⟨p, rfl, hp⟩ := r
  have ar : EvA (fun _ G Q => Q [.ref p] G) σ H2 [.ref p] := fun G _ Q q => q G (Ex.refl G)
  exact en_sortedP (K := K) ar hp H2 (Ex.refl H2) _ fun v fs H3 e3 fr r => by
    obtain ⟨a, bs, rfl, rfl, ha, hpr⟩ := r
    exact q _ [a] H3 (e2.trans e3) (fun x hx => fresh_back e2 (fr x hx)) ⟨a, rfl, rfl, bs, ha, Paired.mapP hpr fun _ _ z => e3 _ _ z⟩
theorem paired_rev {α β : Type} {F : α → β → Prop} : ∀ {as : List α} {bs : List β}, Paired F as bs → Paired F as.reverse bs.reverse
  | _, _, .nil => .nil
  | _, _, .cons r t => by
    rw [List.reverse_cons, List.reverse_cons]
    exact paired_app (paired_rev t) (.cons r .nil)
theorem evpr_rev {a : Addr} (h : Ev te σ H (.ref a)) (hp : Prs H a ps) : EvPrF (tRevL K te) σ H ps.reverse := fun H1 e Q q => by
  obtain ⟨as, ha, hpr⟩ := hp
  exact el_rev (K := K) h ha H1 e _ fun p H2 hp e2 hl => q _ [p] H2 e2 (fun x hx => by rw [List.mem_singleton.mp hx]; exact hp) ⟨p, rfl, rfl, as.reverse, by rw [hl, List.map_reverse], paired_rev (Paired.mapP hpr fun _ _ z => (e.trans e2) _ _ z)⟩
theorem cutDropA (xs : List V) (m : Nat) : cutV xs (some (m : Int)) none = xs.drop m := by
  by_cases h : m ≤ xs.length
  · exact cut_drop h
  · unfold cutV
    rw [HT.sIx_none, HT.sIx_nat, Nat.min_eq_right (by omega), List.drop_eq_nil_of_le (Nat.le_refl _), List.drop_eq_nil_of_le (by omega), List.take_nil]
theorem evpr_drop {a : Addr} {m : Nat} {tl : TO} (h : Ev te σ H (.ref a)) (hp : Prs H a ps) (ho : EvO tl σ H (some (m : Int))) : EvPrF (tSl (rSlL K) te tl tNoPart) σ H (ps.drop m) := fun H1 e Q q => by
  obtain ⟨as, ha, hpr⟩ := hp
  exact el_is (el_sl (K := K) (lo := some (m : Int)) (hi := none) h ho eo_none (sq_of ha)) (cutDropA _ m) H1 e _ fun p H2 hp e2 hl => q _ [p] H2 e2 (fun x hx => by rw [List.mem_singleton.mp hx]; exact hp) ⟨p, rfl, rfl, as.drop m, by rw [hl, List.map_drop], paired_drop m (Paired.mapP hpr fun _ _ z => (e.trans e2) _ _ z)⟩
theorem q_asgPr {i : Nat} {D : Ends} {tz : TS} (h : EvPrF te σ H ps) (k : ∀ p H1, H p = none → Ex H H1 → Prs H1 p ps → tz D (σ.set i (some (.ref p))) H1) : tSeq (tAsg te (gName i)) tz D σ H := h.el (Ex.refl H) k
/-- a != b, lists of pairs -/
theorem evpr_ne {b : Bool} (h1 : EvPr ta σ H ps) (h2 : EvPr tb σ H qs) (hb : decide (ps = qs) = b) : Ev (tOp (rNeD K) ta tb) σ H (.bl (!b)) := fun H1 e Q q =>
  h1 H1 e _ fun v fs H2 e2 _ r => h2 H2 (e.trans e2) _ fun v2 fs2 H3 e3 _ r2 => by
    obtain ⟨a, rfl, ha⟩ := r
    obtain ⟨c, rfl, hc⟩ := r2
    have hr := rv_neP (K := K) (ha.go e3) hc
    rw [hb] at hr
    exact hr H3 (Ex.refl H3) _ fun H4 e4 => q H4 ((e2.trans e3).trans e4)
theorem evpr_eq {b : Bool} (h1 : EvPr ta σ H ps) (h2 : EvPr tb σ H qs) (hb : decide (ps = qs) = b) : Ev (tOp (rEqD K) ta tb) σ H (.bl b) := fun H1 e Q q =>
  h1 H1 e _ fun v fs H2 e2 _ r => h2 H2 (e.trans e2) _ fun v2 fs2 H3 e3 _ r2 => by
    obtain ⟨a, rfl, ha⟩ := r
    obtain ⟨c, rfl, hc⟩ := r2
    have hr := rv_eqP (K := K) (ha.go e3) hc
    rw [hb] at hr
    exact hr H3 (Ex.refl H3) _ fun H4 e4 => q H4 ((e2.trans e3).trans e4)
theorem EvPr.ep {P : HV} (h : EvPr te σ H ps) (k : ∀ p G, Ex H G → Prs G p ps → P G (.ref p)) : EvP te σ H P := fun H1 e Q q => h H1 e Q fun v fs H2 e2 _ ⟨p, h1, h3⟩ => by
  subst h1
  exact q _ H2 e2 (k p H2 (e.trans e2) h3)
theorem EvPrF.ep {P : HV} (h : EvPrF te σ H ps) (k : ∀ p G, H p = none → Ex H G → Prs G p ps → P G (.ref p)) : EvP te σ H P := fun H1 e Q q => h.el e fun p H2 hp e2 h3 => q _ H2 e2 (k p H2 (fresh_back e hp) (e.trans e2) h3)
end
end OP
namespace OP
open PySem PySem.Spec PyProof.Rows L2 Evl
section
variable {K : PySem.W.Frag} {σ : L2.St} {H H' : Hp} {ta tb te tl tx : TE} {x y z v : V} {ps qs : List (Nat × Nat)} {D : Ends} {tz : TS}
theorem s_appP {l : Addr} {i j : Nat} (hl : Prs H l ps) (few : ps.length ≤ 90000) (ha : Ev ta σ H (.ref l)) (h : EvU te σ H [vn i, vn j]) (k : ∀ H1 o, Ex H H1 → Prs (upd H1 l o) l (ps ++ [(i, j)]) → D.nx σ (upd H1 l o)) : tDrop (tBM K "list" rAppend ta (tCons te tNil)) D σ H := by
  obtain ⟨as, h1, h2⟩ := hl
  exact s_appU h1 ha h (by rw [List.length_map, paired_len h2]; omega) fun t H1 ht e1 ht1 => k H1 _ e1 (Prs.snoc (e1 _ _ h1) (Paired.mapP h2 fun _ _ z => e1 _ _ z) ht1)
/-- found.append(x), x a pair that is there -/
theorem q_appR {l t : Addr} {r : Nat × Nat} (hl : Prs H l ps) (few : ps.length ≤ 90000) (ha : Ev ta σ H (.ref l)) (h : Ev te σ H (.ref t)) (ht : Pr H t r) (k : ∀ H1 o, Ex H H1 → Prs (upd H1 l o) l (ps ++ [r]) → tz D σ (upd H1 l o)) : tSeq (tDrop (tBM K "list" rAppend ta (tCons te tNil))) tz D σ H := by
  obtain ⟨as, h1, h2⟩ := hl
  refine q_dropM (vs := [.ref t]) ha h1 (ea_cons h ea_nil) fun H1 e1 => ⟨l, as.map V.ref, .ref t, rfl, rfl, e1 _ _ h1, sz_lt (by rw [List.length_map, paired_len h2]; omega), ?_⟩
  exact k H1 _ e1 (Prs.snoc (e1 _ _ h1) (Paired.mapP h2 fun _ _ z => e1 _ _ z) (e1 _ _ ht))
theorem s_appR {l t : Addr} {r : Nat × Nat} (hl : Prs H l ps) (few : ps.length ≤ 90000) (ha : Ev ta σ H (.ref l)) (h : Ev te σ H (.ref t)) (ht : Pr H t r) (k : ∀ H1 o, Ex H H1 → Prs (upd H1 l o) l (ps ++ [r]) → D.nx σ (upd H1 l o)) : tDrop (tBM K "list" rAppend ta (tCons te tNil)) D σ H := by
  obtain ⟨as, h1, h2⟩ := hl
  refine s_dropM (vs := [.ref t]) ha h1 (ea_cons h ea_nil) fun H1 e1 => ⟨l, as.map V.ref, .ref t, rfl, rfl, e1 _ _ h1, sz_lt (by rw [List.length_map, paired_len h2]; omega), ?_⟩
  exact k H1 _ e1 (Prs.snoc (e1 _ _ h1) (Paired.mapP h2 fun _ _ z => e1 _ _ z) (e1 _ _ ht))
theorem prs_last {l : Addr} {r : Nat × Nat} (h : Prs H l (ps ++ [r])) : ∃ xs t, H l = some (.lst (xs ++ [.ref t])) ∧ Pr H t r := by
  obtain ⟨as, h1, h2⟩ := h
  have len := paired_len h2
  rw [List.length_append, List.length_singleton] at len
  obtain ⟨t, ht, hp⟩ := paired_get (i := ps.length) (b := r) h2 (by simp)
  have e := take_snoc ht
  rw [← len, List.take_length] at e
  refine ⟨(as.take ps.length).map V.ref, t, ?_, hp⟩
  rw [h1]
  conv => lhs; rw [e]
  rw [List.map_append]
  rfl
theorem atI_neg {xs : List V} {m : Nat} {v : V} (h1 : 1 ≤ m) (h2 : m ≤ xs.length) (h : xs[xs.length - m]? = some v) : atI xs (-(m : Int)) = some v := by
  unfold atI ixN
  rw [if_neg (by omega), if_pos (by omega)]
  show xs[(-(m : Int) + (xs.length : Int)).toNat]? = _
  rw [← h]
  congr 1
  omega
theorem ev_allTup {l : Addr} {j : Nat} {vs : List Nat} (h : Ev tl σ H (.ref l)) (hl : Prs H l ps) (few : ps.length ≤ 40000) (hw : ∀ x, wipe ((wipe σ vs).set j (some x)) vs = wipe σ vs) (hv : ∀ x, ((wipe σ vs).set j (some x))[j]? = some (some x)) :
    Ev (tCB (rAll K) (tCons (tLc (iList K tl) (gName j) tYes (tCB (rIsi K) (tCons (tVar j) (tCons (tC (.ty "tuple")) tNil))) vs) tNil)) σ H (.bl true) := by
  obtain ⟨as, h1, h2⟩ := hl
  have len := paired_len h2
  refine ev_is (ev_all (bs := List.replicate as.length true) (el_map (xs := as.map V.ref) h (sq_of h1) (by rw [List.length_map]; omega) hw (by simp) (fun i x y H1 e1 hx hy => ?_))) (by simp)
  obtain ⟨b, hb, rfl⟩ := map_get hx
  obtain ⟨r, _, hr⟩ := prs_pick h2 b (List.mem_of_getElem? hb)
  have : y = .bl true := by
    rw [List.map_replicate] at hy
    exact (List.mem_replicate.mp (List.mem_of_getElem? hy)).2
  subst this
  exact ev_cb (ea_cons (ev_var (hv _)) (ea_cons ev_c ea_nil)) (rc_kind (kind_of (.base (.tup (e1 _ _ hr))) (by decide +kernel)))
end
end OP
namespace OP
open PySem PySem.Spec PyProof.Rows L2 Evl
section
variable {K : PySem.W.Frag} {σ : L2.St} {H H' : Hp} {te : TE} {tr : TA} {v : V} {Q : List V → Hp → Prop}
theorem ag_ev (h : Ev te σ H v) (k : ∀ H1, Ex H H1 → tr σ H1 fun vs H2 => Q (v :: vs) H2) : tCons te tr σ H Q := h H (Ex.refl H) _ fun H1 e => k H1 e
theorem ag_el {xs : List V} (h : EvL te σ H xs) (k : ∀ p H1, H p = none → Ex H H1 → H1 p = some (.lst xs) → tr σ H1 fun vs H2 => Q (.ref p :: vs) H2) : tCons te tr σ H Q := h H (Ex.refl H) _ fun p H1 hp e h1 => k p H1 hp e h1
theorem ag_nil (h : Q [] H) : tNil σ H Q := h
theorem call_ag {sp : Sp} {dvs : List V} {E : XK} {ta : TA} {R : VK} (h : ta σ H fun vs H1 => sp (vs ++ dvs) H1 R E) : tCall sp dvs E ta σ H R := h
end
end OP

/-! Two sides or an odd ring, plainly. -/
namespace OP
structure WebSym (W : Web) : Prop where
  sym : ∀ u v, v ∈ nbOf W u → u ∈ nbOf W v
  irr : ∀ u v, v ∈ nbOf W u → u ≠ v
  lt : ∀ u v, v ∈ nbOf W u → v < W.size
theorem webSym_of {n : Nat} {ts : List (Nat × Nat)} (tok : TiesOk n ts) : WebSym (webOf n ts) := by
  have key : ∀ u v, v ∈ nbOf (webOf n ts) u → u < n ∧ v < n ∧ u ≠ v ∧ ((u, v) ∈ ts ∨ (v, u) ∈ ts) := fun u v h => by
    by_cases hu : u < n
    · rw [nbOf, near_web ts hu] at h
      obtain ⟨h1, h2⟩ := mem_nearOf.mp h
      refine ⟨hu, h1, fun e => ?_, h2⟩
      subst e
      rcases h2 with h2 | h2 <;> have := (tok _ h2).1 <;> dsimp only at this <;> omega
    · rw [nbOf, List.getD_eq_getElem?_getD, List.getElem?_eq_none (by simp [webOf]; omega)] at h
      cases h
  refine ⟨fun u v h => ?_, fun u v h => (key u v h).2.2.1, fun u v h => (key u v h).2.1⟩
  obtain ⟨h1, h2, h3, h4⟩ := key u v h
  rw [nbOf, near_web ts h2]
  exact mem_nearOf.mpr ⟨h1, h4.symm⟩
def vis (sd : List (Option Nat)) (v : Nat) : Prop := ∃ s, sd[v]? = some (some s)
theorem vis_set {sd : List (Option Nat)} {o x v : Nat} (h : o < sd.length) : vis (sd.set o (some x)) v ↔ vis sd v ∨ v = o := by
  unfold vis
  by_cases e : v = o
  · subst e
    rw [set_get_eq h]
    exact ⟨fun _ => .inr rfl, fun _ => ⟨x, rfl⟩⟩
  · rw [set_get_ne (Ne.symm e)]
    exact ⟨fun h => .inl h, fun h => h.resolve_right e⟩
structure Tr (W : Web) (th : Nat → Bool) (sd ab : List (Option Nat)) (cl : Option (Nat × Nat)) (d r : Nat → Nat) (O : Nat → Prop) : Prop where
  sl : sd.length = W.size
  al : ab.length = W.size
  val : ∀ v s, sd[v]? = some (some s) → s = d v % 2
  top : ∀ v, vis sd v → (ab[v]? = some none ∧ r v = v ∧ d v = 0) ∨ (∃ u, ab[v]? = some (some u) ∧ vis sd u ∧ v ∈ nbOf W u ∧ d v = d u + 1 ∧ r v = r u)
  low : ∀ v, vis sd v → r v ≤ v ∧ vis sd (r v) ∧ d (r v) = 0 ∧ ∀ x, Reach (nbOf W) th x v → Reach (nbOf W) th x (r v)
  opn : ∀ v, vis sd v → O v ∨ ∀ u ∈ nbOf W v, vis sd u ∧ r u = r v ∧ (cl = none → d u % 2 ≠ d v % 2)
  cla : ∀ x y, cl = some (x, y) → vis sd x ∧ vis sd y ∧ y ∈ nbOf W x ∧ d x % 2 = d y % 2 ∧ r x = r y
structure TrS (W : Web) (th : Nat → Bool) (sd ab : List (Option Nat)) (cl : Option (Nat × Nat)) (d r : Nat → Nat) (root : Nat) (ws : List Nat) : Prop where
  tr : Tr W th sd ab cl d r (fun v => v ∈ ws)
  ws : ∀ v ∈ ws, vis sd v ∧ r v = root
  pre : ∀ v, v < root → vis sd v
structure TrM (W : Web) (th : Nat → Bool) (sd ab : List (Option Nat)) (cl : Option (Nat × Nat)) (d r : Nat → Nat) (root : Nat) (ws : List Nat) (h k : Nat) : Prop where
  tr : Tr W th sd ab cl d r (fun v => v ∈ ws ∨ v = h)
  ws : ∀ v ∈ ws, vis sd v ∧ r v = root
  here : vis sd h ∧ r h = root
  pre : ∀ v, v < root → vis sd v
  met : ∀ u ∈ (nbOf W h).take k, vis sd u ∧ r u = r h ∧ (cl = none → d u % 2 ≠ d h % 2)
section
variable {W : Web} {th : Nat → Bool} {sd ab : List (Option Nat)} {cl : Option (Nat × Nat)} {d r : Nat → Nat} {root h k o : Nat} {ws : List Nat}
theorem trs_pop (t : TrS W th sd ab cl d r root (ws ++ [h])) : TrM W th sd ab cl d r root ws h 0 := by
  refine ⟨⟨t.tr.sl, t.tr.al, t.tr.val, t.tr.top, t.tr.low, fun v hv => ?_, t.tr.cla⟩, fun v hv => t.ws v (List.mem_append_left _ hv), t.ws h (List.mem_append_right _ List.mem_cons_self), t.pre, fun u hu => by simp at hu⟩
  rcases t.tr.opn v hv with c | c
  · rcases List.mem_append.mp c with c | c
    · exact .inl (.inl c)
    · exact .inl (.inr (List.mem_singleton.mp c))
  · exact .inr c
theorem trm_done (t : TrM W th sd ab cl d r root ws h (nbOf W h).length) : TrS W th sd ab cl d r root ws := by
  refine ⟨⟨t.tr.sl, t.tr.al, t.tr.val, t.tr.top, t.tr.low, fun v hv => ?_, t.tr.cla⟩, t.ws, t.pre⟩
  rcases t.tr.opn v hv with (c | c) | c
  · exact .inl c
  · subst c
    have := t.met
    rw [List.take_length] at this
    exact .inr this
  · exact .inr c
theorem trm_root (s : WebSym W) (t : TrM W th sd ab cl d r root ws h k) (ho : o ∈ nbOf W h) (hv : vis sd o) : r o = r h := by
  rcases t.tr.opn o hv with (c | c) | c
  · exact (t.ws o c).2.trans t.here.2.symm
  · rw [c]
  · exact ((c h (s.sym h o ho)).2.1).symm
theorem trm_no (s : WebSym W) (t : TrM W th sd ab cl d r root ws h k) (ho : (nbOf W h)[k]? = some o) (hv : vis sd o) (no : cl = none → d o % 2 ≠ d h % 2) : TrM W th sd ab cl d r root ws h (k + 1) := by
  refine ⟨t.tr, t.ws, t.here, t.pre, fun u hu => ?_⟩
  rw [take_snoc ho] at hu
  rcases List.mem_append.mp hu with c | c
  · exact t.met u c
  · rw [List.mem_singleton.mp c]
    exact ⟨hv, trm_root s t (List.mem_of_getElem? ho) hv, no⟩
theorem trm_clash (s : WebSym W) (t : TrM W th sd ab none d r root ws h k) (ho : (nbOf W h)[k]? = some o) (hv : vis sd o) (e : d o % 2 = d h % 2) : TrM W th sd ab (some (h, o)) d r root ws h (k + 1) := by
  have hm := List.mem_of_getElem? ho
  refine ⟨⟨t.tr.sl, t.tr.al, t.tr.val, t.tr.top, t.tr.low, fun v hv => ?_, fun x y exy => ?_⟩, t.ws, t.here, t.pre, fun u hu => ?_⟩
  · rcases t.tr.opn v hv with c | c
    · exact .inl c
    · exact .inr fun u hu => ⟨(c u hu).1, (c u hu).2.1, fun z => nomatch z⟩
  · cases exy
    exact ⟨t.here.1, hv, hm, e.symm, (trm_root s t hm hv).symm⟩
  · rw [take_snoc ho] at hu
    rcases List.mem_append.mp hu with c | c
    · exact ⟨(t.met u c).1, (t.met u c).2.1, fun z => nomatch z⟩
    · rw [List.mem_singleton.mp c]
      exact ⟨hv, trm_root s t hm hv, fun z => nomatch z⟩
def upf (f : Nat → Nat) (o x : Nat) : Nat → Nat := fun v => if v = o then x else f v
theorem upf_eq (f : Nat → Nat) (o x : Nat) : upf f o x o = x := if_pos rfl
theorem upf_ne {f : Nat → Nat} {o x v : Nat} (h : v ≠ o) : upf f o x v = f v := if_neg h
theorem trm_new (s : WebSym W) (hth : ∀ y, y < W.size → th y = true) (t : TrM W th sd ab cl d r root ws h k) (ho : (nbOf W h)[k]? = some o) (hv : sd[o]? = some none) (abn : ab[o]? = some none) :
    TrM W th (sd.set o (some ((d h + 1) % 2))) (ab.set o (some h)) cl (upf d o (d h + 1)) (upf r o (r h)) root (ws ++ [o]) h (k + 1) := by
  have hm := List.mem_of_getElem? ho
  have on := s.lt h o hm
  have osl : o < sd.length := by rw [t.tr.sl]; exact on
  have oal : o < ab.length := by rw [t.tr.al]; exact on
  have nv : ¬ vis sd o := fun ⟨x, hx⟩ => by rw [hv] at hx; cases hx
  have ne : ∀ {v}, vis sd v → v ≠ o := fun hv' e => nv (by rw [← e]; exact hv')
  have V : ∀ {v}, vis (sd.set o (some ((d h + 1) % 2))) v ↔ vis sd v ∨ v = o := vis_set osl
  have hn := s.lt o h (s.sym h o hm)
  have hne := ne t.here.1
  have rle : r h ≤ o := by
    rw [t.here.2]
    exact Nat.le_of_not_lt fun z => nv (t.pre o z)
  have old : ∀ {v}, vis sd v → vis sd (r v) := fun hv' => (t.tr.low _ hv').2.1
  refine ⟨⟨by rw [List.length_set]; exact t.tr.sl, by rw [List.length_set]; exact t.tr.al, fun v x hx => ?_, fun v hv' => ?_, fun v hv' => ?_, fun v hv' => ?_, fun x y exy => ?_⟩, fun v hv' => ?_, ⟨V.mpr (.inl t.here.1), by rw [upf_ne hne]; exact t.here.2⟩, fun v hv' => V.mpr (.inl (t.pre v hv')), fun u hu => ?_⟩
  · by_cases e : v = o
    · subst e
      rw [set_get_eq osl] at hx
      rw [upf_eq]
      exact (Option.some.inj (Option.some.inj hx)).symm
    · rw [set_get_ne (Ne.symm e)] at hx
      rw [upf_ne e]
      exact t.tr.val v x hx
  · rcases V.mp hv' with c | c
    · have e := ne c
      rw [set_get_ne (Ne.symm e), upf_ne e, upf_ne e]
      rcases t.tr.top v c with z | ⟨u, z1, z2, z3, z4, z5⟩
      · exact .inl z
      · have eu := ne z2
        exact .inr ⟨u, z1, V.mpr (.inl z2), z3, by rw [upf_ne eu]; exact z4, by rw [upf_ne eu]; exact z5⟩
    · subst c
      rw [set_get_eq oal, upf_eq, upf_eq]
      exact .inr ⟨h, rfl, V.mpr (.inl t.here.1), hm, by rw [upf_ne hne], by rw [upf_ne hne]⟩
  · rcases V.mp hv' with c | c
    · have e := ne c
      obtain ⟨z1, z2, z3, z4⟩ := t.tr.low v c
      rw [upf_ne e]
      exact ⟨z1, V.mpr (.inl z2), by rw [upf_ne (ne z2)]; exact z3, z4⟩
    · subst c
      obtain ⟨z1, z2, z3, z4⟩ := t.tr.low h t.here.1
      rw [upf_eq]
      exact ⟨rle, V.mpr (.inl z2), by rw [upf_ne (ne z2)]; exact z3, fun x hx => z4 x (.step hx (s.sym h v hm) (hth h hn))⟩
  · rcases V.mp hv' with c | c
    · have e := ne c
      rcases t.tr.opn v c with (z | z) | z
      · exact .inl (.inl (List.mem_append_left _ z))
      · exact .inl (.inr z)
      · refine .inr fun u hu => ?_
        obtain ⟨z1, z2, z3⟩ := z u hu
        have eu := ne z1
        rw [upf_ne e, upf_ne eu, upf_ne e, upf_ne eu]
        exact ⟨V.mpr (.inl z1), z2, z3⟩
    · exact .inl (.inl (List.mem_append_right _ (by rw [c]; exact List.mem_cons_self)))
  · obtain ⟨z1, z2, z3, z4, z5⟩ := t.tr.cla x y exy
    rw [upf_ne (ne z1), upf_ne (ne z2), upf_ne (ne z1), upf_ne (ne z2)]
    exact ⟨V.mpr (.inl z1), V.mpr (.inl z2), z3, z4, z5⟩
  · rcases List.mem_append.mp hv' with c | c
    · obtain ⟨z1, z2⟩ := t.ws v c
      rw [upf_ne (ne z1)]
      exact ⟨V.mpr (.inl z1), z2⟩
    · rw [List.mem_singleton.mp c, upf_eq]
      exact ⟨V.mpr (.inr rfl), t.here.2⟩
  · rw [take_snoc ho] at hu
    rcases List.mem_append.mp hu with c | c
    · obtain ⟨z1, z2, z3⟩ := t.met u c
      rw [upf_ne (ne z1), upf_ne hne, upf_ne (ne z1), upf_ne hne]
      exact ⟨V.mpr (.inl z1), z2, z3⟩
    · rw [List.mem_singleton.mp c, upf_eq, upf_eq, upf_ne hne, upf_ne hne]
      exact ⟨V.mpr (.inr rfl), rfl, fun _ => by omega⟩
/-- a new root -/
theorem trs_root (t : Tr W th sd ab cl d r (fun _ => False)) (pre : ∀ v, v < root → vis sd v) (rn : root < W.size) (hv : sd[root]? = some none) (abn : ab[root]? = some none) :
    TrS W th (sd.set root (some 0)) ab cl (upf d root 0) (upf r root root) root [root] := by
  have osl : root < sd.length := by rw [t.sl]; exact rn
  have nv : ¬ vis sd root := fun ⟨x, hx⟩ => by rw [hv] at hx; cases hx
  have ne : ∀ {v}, vis sd v → v ≠ root := fun hv' e => nv (by rw [← e]; exact hv')
  have V : ∀ {v}, vis (sd.set root (some 0)) v ↔ vis sd v ∨ v = root := vis_set osl
  refine ⟨⟨by rw [List.length_set]; exact t.sl, t.al, fun v x hx => ?_, fun v hv' => ?_, fun v hv' => ?_, fun v hv' => ?_, fun x y exy => ?_⟩, fun v hv' => ?_, fun v hv' => V.mpr (.inl (pre v hv'))⟩
  · by_cases e : v = root
    · subst e
      rw [set_get_eq osl] at hx
      rw [upf_eq]
      exact (Option.some.inj (Option.some.inj hx)).symm
    · rw [set_get_ne (Ne.symm e)] at hx
      rw [upf_ne e]
      exact t.val v x hx
  · rcases V.mp hv' with c | c
    · have e := ne c
      rw [upf_ne e, upf_ne e]
      rcases t.top v c with z | ⟨u, z1, z2, z3, z4, z5⟩
      · exact .inl z
      · have eu := ne z2
        exact .inr ⟨u, z1, V.mpr (.inl z2), z3, by rw [upf_ne eu]; exact z4, by rw [upf_ne eu]; exact z5⟩
    · subst c
      rw [upf_eq, upf_eq]
      exact .inl ⟨abn, rfl, rfl⟩
  · rcases V.mp hv' with c | c
    · have e := ne c
      obtain ⟨z1, z2, z3, z4⟩ := t.low v c
      rw [upf_ne e]
      exact ⟨z1, V.mpr (.inl z2), by rw [upf_ne (ne z2)]; exact z3, z4⟩
    · subst c
      rw [upf_eq]
      exact ⟨Nat.le_refl _, V.mpr (.inr rfl), upf_eq _ _ _, fun x hx => hx⟩
  · rcases V.mp hv' with c | c
    · have e := ne c
      rcases t.opn v c with z | z
      · exact z.elim
      · refine .inr fun u hu => ?_
        obtain ⟨z1, z2, z3⟩ := z u hu
        have eu := ne z1
        rw [upf_ne e, upf_ne eu, upf_ne e, upf_ne eu]
        exact ⟨V.mpr (.inl z1), z2, z3⟩
    · exact .inl (by rw [c]; exact List.mem_cons_self)
  · obtain ⟨z1, z2, z3, z4, z5⟩ := t.cla x y exy
    rw [upf_ne (ne z1), upf_ne (ne z2), upf_ne (ne z1), upf_ne (ne z2)]
    exact ⟨V.mpr (.inl z1), V.mpr (.inl z2), z3, z4, z5⟩
  · rw [List.mem_singleton.mp hv', upf_eq]
    exact ⟨V.mpr (.inr rfl), rfl⟩
theorem trs_end (t : TrS W th sd ab cl d r root []) : Tr W th sd ab cl d r (fun _ => False) :=
  ⟨t.tr.sl, t.tr.al, t.tr.val, t.tr.top, t.tr.low, fun v hv => (t.tr.opn v hv).elim (fun c => nomatch c) .inr, t.tr.cla⟩
theorem tr_init {n : Nat} (hn : W.size = n) : Tr W th (List.replicate n none) (List.replicate n none) none (fun _ => 0) (fun v => v) (fun _ => False) := by
  have nv : ∀ v, ¬ vis (List.replicate n none) v := fun v ⟨x, hx⟩ => by
    have := List.mem_of_getElem? hx
    rw [List.mem_replicate] at this
    cases this.2
  exact ⟨by rw [List.length_replicate, hn], by rw [List.length_replicate, hn], fun v s hs => absurd ⟨s, hs⟩ (nv v), fun v hv => absurd hv (nv v), fun v hv => absurd hv (nv v), fun v hv => absurd hv (nv v), fun x y e => nomatch e⟩
/-- above of a place that is not met is none -/
theorem unmet_above (t : Tr W th sd ab cl d r O) (un : ∀ v, v < W.size → ¬ vis sd v → ab[v]? = some none) (hv : sd[o]? = some none) : ab[o]? = some none := by
  refine un o ?_ fun ⟨x, hx⟩ => by rw [hv] at hx; cases hx
  rw [← t.sl]
  exact (List.getElem?_eq_some_iff.mp hv).1
end
/-- two sides -/
def Two (W : Web) : Prop := ∃ c : Nat → Nat, ∀ u v, v ∈ nbOf W u → c u % 2 ≠ c v % 2
section
variable {W : Web} {th : Nat → Bool} {sd ab : List (Option Nat)} {cl : Option (Nat × Nat)} {d r : Nat → Nat} {root h k o : Nat} {ws : List Nat}
theorem tr_par {O : Nat → Prop} (t : Tr W th sd ab cl d r O) {c : Nat → Nat} (hc : ∀ u v, v ∈ nbOf W u → c u % 2 ≠ c v % 2) : ∀ m v, d v = m → vis sd v → c v % 2 = (c (r v) + d v) % 2
  | 0, v, e, hv => by
    rcases t.top v hv with ⟨_, z2, z3⟩ | ⟨u, _, _, _, z4, _⟩
    · rw [z2, z3]
      rfl
    · omega
  | m + 1, v, e, hv => by
    rcases t.top v hv with ⟨_, z2, z3⟩ | ⟨u, _, z2, z3, z4, z5⟩
    · omega
    · have ih := tr_par t hc m u (by omega) z2
      have := hc u v z3
      rw [z5, z4]
      omega
theorem tr_two (t : Tr W th sd ab none d r (fun _ => False)) (all : ∀ v, v < W.size → vis sd v) (s : WebSym W) : Two W :=
  ⟨d, fun u v hv => by
    rcases t.opn u (all u (s.lt v u (s.sym u v hv))) with c | c
    · exact c.elim
    · exact fun e => (c v hv).2.2 rfl e.symm⟩
theorem tr_notTwo {O : Nat → Prop} {x y : Nat} (t : Tr W th sd ab (some (x, y)) d r O) : ¬ Two W := fun ⟨c, hc⟩ => by
  obtain ⟨z1, z2, z3, z4, z5⟩ := t.cla x y rfl
  have h1 := tr_par t hc _ x rfl z1
  have h2 := tr_par t hc _ y rfl z2
  have := hc x y z3
  rw [z5] at h1
  omega
structure SidesOk (W : Web) (th : Nat → Bool) (xs : List Nat) : Prop where
  len : xs.length = W.size
  le : ∀ x ∈ xs, x ≤ 1
  ne : ∀ u v x y, v ∈ nbOf W u → xs[u]? = some x → xs[v]? = some y → x ≠ y
  least : ∀ s h x, Reach (nbOf W) th s h → (∀ z, Reach (nbOf W) th s z → h ≤ z) → xs[h]? = some x → x = 0
theorem tr_sides (t : Tr W th sd ab none d r (fun _ => False)) (all : ∀ v, v < W.size → vis sd v) : ∃ xs, sd = xs.map some ∧ SidesOk W th xs := by
  have e : sd = ((List.range W.size).map fun v => d v % 2).map some := by
    apply List.ext_getElem?
    intro v
    by_cases c : v < W.size
    · obtain ⟨s, hs⟩ := all v c
      rw [hs, t.val v s hs]
      simp [c]
    · rw [List.getElem?_eq_none (by rw [t.sl]; omega), List.getElem?_eq_none (by simp; omega)]
  have at_ : ∀ v x, ((List.range W.size).map fun v => d v % 2)[v]? = some x → v < W.size ∧ x = d v % 2 := fun v x hx => by
    obtain ⟨z, hz, rfl⟩ := map_get hx
    have hl := (List.getElem?_eq_some_iff.mp hz).1
    rw [List.length_range] at hl
    rw [List.getElem?_range hl] at hz
    cases hz
    exact ⟨hl, rfl⟩
  refine ⟨_, e, by simp, fun x hx => ?_, fun u v x y hv hx hy => ?_, fun s h x hr hle hx => ?_⟩
  · obtain ⟨v, _, rfl⟩ := List.mem_map.mp hx
    omega
  · obtain ⟨u1, rfl⟩ := at_ u x hx
    obtain ⟨v1, rfl⟩ := at_ v y hy
    rcases t.opn u (all u u1) with c | c
    · exact c.elim
    · exact fun e => (c v hv).2.2 rfl e.symm
  · obtain ⟨h1, rfl⟩ := at_ h x hx
    obtain ⟨z1, z2, z3, z4⟩ := t.low h (all h h1)
    have := hle _ (z4 s hr)
    have : r h = h := by omega
    rw [this] at z3
    rw [z3]
/-- from a place up to its root -/
inductive Chain (ab : List (Option Nat)) : Nat → List Nat → Prop
  | top {v : Nat} : ab[v]? = some none → Chain ab v [v]
  | step {v u : Nat} {xs : List Nat} : ab[v]? = some (some u) → Chain ab u xs → Chain ab v (v :: xs)
structure ChainOk (W : Web) (sd : List (Option Nat)) (d r : Nat → Nat) (v : Nat) (xs : List Nat) : Prop where
  len : xs.length = d v + 1
  at_ : ∀ i x, xs[i]? = some x → vis sd x ∧ d x + i = d v ∧ r x = r v
  nb : ∀ i x y, xs[i]? = some x → xs[i + 1]? = some y → x ∈ nbOf W y
  head : xs[0]? = some v
  last : xs[d v]? = some (r v)
theorem chain_ok {O : Nat → Prop} (t : Tr W th sd ab cl d r O) {v : Nat} {xs : List Nat} (c : Chain ab v xs) : vis sd v → ChainOk W sd d r v xs := by
  induction c with
  | @top v e =>
    intro hv
    rcases t.top v hv with ⟨_, z2, z3⟩ | ⟨u, z1, _⟩
    · refine ⟨by rw [z3]; rfl, fun i x hx => ?_, fun i x y hx hy => ?_, rfl, by rw [z3, z2]; rfl⟩
      · have : i = 0 := by
          have := (List.getElem?_eq_some_iff.mp hx).1
          simp at this
          exact this
        subst this
        cases hx
        exact ⟨hv, rfl, rfl⟩
      · have := (List.getElem?_eq_some_iff.mp hy).1
        simp at this
    · rw [e] at z1
      cases z1
  | @step v u xs e _ ih =>
    intro hv
    rcases t.top v hv with ⟨z1, _⟩ | ⟨u', z1, z2, z3, z4, z5⟩
    · rw [e] at z1
      cases z1
    · rw [e] at z1
      cases z1
      have ih := ih z2
      refine ⟨by rw [List.length_cons, ih.len, z4], fun i x hx => ?_, fun i x y hx hy => ?_, rfl, by rw [z4, z5]; exact ih.last⟩
      · cases i with
        | zero =>
          cases hx
          exact ⟨hv, rfl, rfl⟩
        | succ i =>
          have hx : xs[i]? = some x := hx
          obtain ⟨h1, h2, h3⟩ := ih.at_ i x hx
          exact ⟨h1, by omega, h3.trans z5.symm⟩
      · cases i with
        | zero =>
          cases hx
          have hy : xs[0]? = some y := hy
          rw [ih.head] at hy
          cases hy
          exact z3
        | succ i => exact ih.nb i x y hx hy
theorem ChainOk.nd {v : Nat} {xs : List Nat} (c : ChainOk W sd d r v xs) : xs.Nodup := by
  unfold List.Nodup
  rw [List.pairwise_iff_getElem]
  intro i j hi hj lt e
  have h1 := (c.at_ i xs[i] (List.getElem?_eq_getElem hi)).2.1
  have h2 := (c.at_ j xs[j] (List.getElem?_eq_getElem hj)).2.1
  rw [e] at h1
  omega
structure RingOk (W : Web) (xs : List Nat) : Prop where
  three : 3 ≤ xs.length
  odd : xs.length % 2 = 1
  lt : ∀ x ∈ xs, x < W.size
  nd : xs.Nodup
  nb : ∀ k x y, xs[k]? = some x → xs[(k + 1) % xs.length]? = some y → y ∈ nbOf W x
theorem head_in {one : List Nat} {f : Nat → Bool} : (∃ x ∈ one, f x = true) → ∃ m i : Nat, (one.filter f)[0]? = some m ∧ one[i]? = some m ∧ f m = true ∧ ∀ (k x : Nat), k < i → one[k]? = some x → f x = false := by
  induction one with
  | nil => rintro ⟨x, hx, _⟩; cases hx
  | cons a t ih =>
    intro hx
    by_cases c : f a = true
    · exact ⟨a, 0, by simp [c], rfl, c, fun k x hk => absurd hk (Nat.not_lt_zero _)⟩
    · obtain ⟨x, hx, fx⟩ := hx
      rcases List.mem_cons.mp hx with e | e
      · rw [e] at fx; exact absurd fx c
      · obtain ⟨m, i, h1, h2, h3, h4⟩ := ih ⟨x, e, fx⟩
        refine ⟨m, i + 1, by simpa [c] using h1, h2, h3, fun k x hk hx => ?_⟩
        cases k with
        | zero => cases hx; simpa using c
        | succ k => exact h4 k x (by omega) hx
theorem ring_of {O : Nat → Prop} {x y : Nat} (s : WebSym W) (t : Tr W th sd ab (some (x, y)) d r O) {one other : List Nat} (c1 : ChainOk W sd d r x one) (c2 : ChainOk W sd d r y other) :
    ∃ m i j, (one.filter fun z => decide (z ∈ other))[0]? = some m ∧ one[i]? = some m ∧ other[j]? = some m ∧ RingOk W (one.take (i + 1) ++ (other.take j).reverse) := by
  obtain ⟨z1, z2, z3, z4, z5⟩ := t.cla x y rfl
  have l2 := c2.last
  rw [← z5] at l2
  obtain ⟨m, i, h1, h2, h3, h4⟩ := head_in (one := one) (f := fun z => decide (z ∈ other)) ⟨r x, List.mem_of_getElem? c1.last, decide_eq_true (List.mem_of_getElem? l2)⟩
  have h3 := of_decide_eq_true h3
  obtain ⟨j, hj⟩ := List.getElem?_of_mem h3
  have il := (List.getElem?_eq_some_iff.mp h2).1
  have jl := (List.getElem?_eq_some_iff.mp hj).1
  have dx := (c1.at_ i m h2).2.1
  have dy := (c2.at_ j m hj).2.1
  obtain ⟨ring, hr⟩ : ∃ ring, ring = one.take (i + 1) ++ (other.take j).reverse := ⟨_, rfl⟩
  have rl : ring.length = i + 1 + j := by rw [hr, List.length_append, List.length_reverse, List.length_take, List.length_take]; omega
  have a1 : ∀ k, k ≤ i → ring[k]? = one[k]? := fun k hk => by
    rw [hr, List.getElem?_append_left (by rw [List.length_take]; omega), List.getElem?_take_of_lt (by omega)]
  have a2 : ∀ k, i ≤ k → k ≤ i + j → ring[k]? = other[i + j - k]? := fun k hk hk2 => by
    by_cases e : k = i
    · subst e
      rw [a1 k (Nat.le_refl _), h2, show k + j - k = j by omega, hj]
    · rw [hr, List.getElem?_append_right (by rw [List.length_take]; omega), List.getElem?_reverse (by rw [List.length_take, List.length_take]; omega), List.length_take, List.length_take, List.getElem?_take_of_lt (by omega)]
      congr 1
      omega
  have odd : (i + 1 + j) % 2 = 1 := by omega
  have ne : x ≠ y := s.irr x y z3
  have ij : i + j ≠ 0 := fun z => by
    have i0 : i = 0 := by omega
    have j0 : j = 0 := by omega
    rw [i0, c1.head] at h2
    rw [j0, c2.head] at hj
    cases h2
    cases hj
    exact ne rfl
  refine ⟨m, i, j, h1, h2, hj, ?_⟩
  rw [← hr]
  have mem : ∀ k z, ring[k]? = some z → k < i + 1 + j := fun k z hz => by
    rw [← rl]
    exact (List.getElem?_eq_some_iff.mp hz).1
  refine ⟨by omega, by rw [rl]; exact odd, fun z hz => ?_, ?_, fun k u v hu hv => ?_⟩
  · obtain ⟨k, hk⟩ := List.getElem?_of_mem hz
    have kl := mem k z hk
    have vz : vis sd z := by
      by_cases c : k ≤ i
      · rw [a1 k c] at hk
        exact (c1.at_ k z hk).1
      · rw [a2 k (by omega) (by omega)] at hk
        exact (c2.at_ _ z hk).1
    obtain ⟨q, hq⟩ := vz
    rw [← t.sl]
    exact (List.getElem?_eq_some_iff.mp hq).1
  · unfold List.Nodup
    rw [List.pairwise_iff_getElem]
    intro k l hk hl lt e
    have ek : ring[k]? = some ring[k] := List.getElem?_eq_getElem hk
    have el : ring[l]? = some ring[k] := by rw [List.getElem?_eq_getElem hl, e]
    rw [rl] at hk hl
    by_cases c : k < i
    · by_cases c' : l ≤ i
      · rw [a1 k (by omega)] at ek
        rw [a1 l c'] at el
        have := nd_ix'' c1.nd ek el
        omega
      · rw [a1 k (by omega)] at ek
        rw [a2 l (by omega) (by omega)] at el
        have := of_decide_eq_false (h4 k _ c ek)
        exact this (List.mem_of_getElem? el)
    · rw [a2 k (by omega) (by omega)] at ek
      rw [a2 l (by omega) (by omega)] at el
      have := nd_ix'' c2.nd ek el
      omega
  · have kl := mem k u hu
    rw [rl] at hv
    by_cases c : k = i + j
    · rw [c, show (i + j + 1) % (i + 1 + j) = 0 by rw [show i + j + 1 = i + 1 + j by omega]; exact Nat.mod_self _, a1 0 (Nat.zero_le _), c1.head] at hv
      rw [c, a2 _ (by omega) (Nat.le_refl _), Nat.sub_self, c2.head] at hu
      cases hu
      cases hv
      exact s.sym x y z3
    · rw [Nat.mod_eq_of_lt (by omega)] at hv
      by_cases c' : k + 1 ≤ i
      · rw [a1 k (by omega)] at hu
        rw [a1 (k + 1) c'] at hv
        exact s.sym _ _ (c1.nb k u v hu hv)
      · rw [a2 k (by omega) (by omega)] at hu
        rw [a2 (k + 1) (by omega) (by omega)] at hv
        rw [show i + j - k = i + j - (k + 1) + 1 by omega] at hu
        exact c2.nb _ v u hv hu
end
end OP
namespace OP
open PySem PySem.Spec PyProof.Rows L2 Evl
section
variable {K : PySem.W.Frag} {σ : L2.St} {H H' : Hp} {ta tb te tl : TE} {tr : TA} {v : V} {D : Ends}
/-- o.m(..), the value dropped -/
theorem s_dropMeth {C a dx : Addr} {m : Str} {sp : Sp} {dvs : List V} {E : XK} {fs : List (Str × V)} (ho : Ev ta σ H (.ref a)) (ha : H a = some (.ins C dx fs)) (no : fs.lookup m = none) (k : ∀ H1, Ex H H1 → tr σ H1 fun vs H2 => sp (.ref a :: (vs ++ dvs)) H2 (fun _ H3 => D.nx σ H3) E) :
    tDrop (tMeth C m sp dvs E ta tr) D σ H := ho H (Ex.refl H) _ fun H1 e => ⟨a, dx, fs, rfl, e _ _ ha, no, k H1 e⟩
theorem en_meth {C a dx : Addr} {m : Str} {P : Hp → List V → Rn → Prop} {dvs vs : List V} {E : XK} {fs : List (Str × V)} {R : Rn} (ho : Ev ta σ H (.ref a)) (ha : H a = some (.ins C dx fs)) (no : fs.lookup m = none) (h : EvA tr σ H vs) (hs : ∀ H1, Ex H H1 → P H1 (.ref a :: (vs ++ dvs)) R) :
    EvN (tMeth C m (newSp P) dvs E ta tr) σ H R := fun H1 e Q q => ho H1 e _ fun H2 e2 => ⟨a, dx, fs, rfl, e2 _ _ (e _ _ ha), no, h H2 (e.trans e2) _ fun H3 e3 => ⟨R, hs H3 ((e.trans e2).trans e3), fun v fs H4 e4 fr r => q v fs H4 ((e2.trans e3).trans e4) (fun p hp => fresh_back (e2.trans e3) (fr p hp)) r⟩⟩
/-- ns.index(m) -/
theorem ev_index {l : Addr} {ns : List Nat} {i m : Nat} (h : Ev ta σ H (.ref l)) (hl : Ints H l ns) (nd : ns.Nodup) (hi : ns[i]? = some m) (hm : Ev te σ H (vn m)) : Ev (tBM K "list" (rIndex K) ta (tCons te tNil)) σ H (vn i) := fun H1 e Q q =>
  h H1 e _ fun H2 e2 => ⟨.inl ⟨rfl, _, sq_of (e2 _ _ (e _ _ hl))⟩, hm H2 (e.trans e2) _ fun H3 e3 => ⟨l, ns.map vn, vn m, i, vn m, rfl, rfl, sq_of (e3 _ _ (e2 _ _ (e _ _ hl))), rfl, flat_nats ns, map_get' hi, by simp [eqV], fun k z hk hz => by
    obtain ⟨y, hy, rfl⟩ := map_get hz
    have ne : y ≠ m := fun w => by
      rw [w] at hy
      have := nd_ix'' nd hy hi
      omega
    simp [eqV]
    omega, q H3 (e2.trans e3)⟩⟩
/-- xs[::-1] of a new list -/
theorem el_revL {xs : List V} (h : EvL te σ H xs) : EvL (tRevL K te) σ H xs.reverse := fun H1 e Q q => h H1 e _ fun a H2 ha e2 h2 =>
  ⟨a, xs, rfl, sq_of h2, fun p hp => q p _ (fresh_back e2 hp) (e2.trans (Ex.new hp)) upd_same⟩
/-- a comprehension over what a call tells -/
theorem el_lcN {g : TG} {t : TT} {vs : List Nat} {R : Rn} {ys : List V} (h : EvN tl σ H R) (k : ∀ v fs H1, Ex H H1 → (∀ p ∈ fs, H p = none) → R v fs H1 → EvL (tLc (iList K (fun _ G Q => Q v G)) g t te vs) σ H1 ys) : EvL (tLc (iList K tl) g t te vs) σ H ys := fun H1 e Q q =>
  h H1 e _ fun v fs H2 e2 fr r => k v fs H2 (e.trans e2) (fun p hp => fresh_back e (fr p hp)) r H2 (Ex.refl H2) Q fun p H3 hp e3 h3 => q p H3 (fresh_back e2 hp) (e2.trans e3) h3
end
end OP

/-! The search for a way, plainly: what holds of base, above and outer. -/
namespace OP
structure MtOk (W : Web) (mt : Nat → Option Nat) : Prop where
  inv : ∀ x y, mt x = some y → mt y = some x
  nb : ∀ x y, mt x = some y → y ∈ nbOf W x
theorem MtOk.inj {W : Web} {mt : Nat → Option Nat} (m : MtOk W mt) {x y z : Nat} (h1 : mt x = some z) (h2 : mt y = some z) : x = y := by
  have a := m.inv x z h1
  have b := m.inv y z h2
  rw [a] at b
  exact Option.some.inj b
/-- along pairs and above, by turns -/
inductive PP (mt ab : Nat → Option Nat) : Nat → Nat → List Nat → Prop
  | nil {x : Nat} : PP mt ab x x [x]
  | step {x y z t : Nat} {L : List Nat} : mt x = some y → ab y = some z → PP mt ab z t L → PP mt ab x t (x :: y :: L)
theorem PP.self {mt ab : Nat → Option Nat} {x t : Nat} {L : List Nat} (p : PP mt ab x t L) : x ∈ L := by
  cases p with
  | nil => exact List.mem_cons_self
  | step _ _ _ => exact List.mem_cons_self
theorem PP.end_ {mt ab : Nat → Option Nat} {x t : Nat} {L : List Nat} (p : PP mt ab x t L) : t ∈ L := by
  induction p with
  | nil => exact List.mem_cons_self
  | step _ _ _ ih => exact List.mem_cons_of_mem _ (List.mem_cons_of_mem _ ih)
/-- other pointers, alike on the path -/
theorem PP.same {mt ab ab' : Nat → Option Nat} {x t : Nat} {L : List Nat} (p : PP mt ab x t L) : (∀ y ∈ L, ab' y = ab y) → PP mt ab' x t L := by
  induction p with
  | nil => exact fun _ => .nil
  | @step x y z t L h1 h2 _ ih => exact fun h => .step h1 (by rw [h y (by simp)]; exact h2) (ih fun u hu => h u (by simp [hu]))
structure SI (W : Web) (mt : Nat → Option Nat) (root : Nat) (bs : Nat → Nat) (ab : Nat → Option Nat) (O : Nat → Prop) (rk : Nat → Nat) : Prop where
  rootO : O root
  rootN : mt root = none
  rootB : bs root = root
  non : ∀ x, ¬ O x → bs x = x
  bo : ∀ x, O x → O (bs x)
  bb : ∀ x, bs (bs x) = bs x
  path : ∀ x, O x → ∃ L, PP mt ab x (bs x) L ∧ L.Nodup ∧ ∀ y ∈ L, bs y = bs x
  up : ∀ x, O x → bs x = x → x ≠ root → ∃ w y, mt x = some w ∧ ¬ O w ∧ ab w = some y ∧ O y ∧ rk (bs y) < rk x
  tie : ∀ v y, ab v = some y → y ∈ nbOf W v ∧ O y ∧ ∃ z, mt v = some z ∧ O z
/-- the bases from one up -/
inductive Anc (mt ab : Nat → Option Nat) (bs : Nat → Nat) : Nat → Nat → Prop
  | refl {b : Nat} : Anc mt ab bs b b
  | step {b w y c : Nat} : mt b = some w → ab w = some y → Anc mt ab bs (bs y) c → Anc mt ab bs b c
/-- from a place up to the first of the base top -/
inductive MK (mt ab : Nat → Option Nat) (bs : Nat → Nat) (top : Nat) : Nat → List Nat → Nat → Prop
  | done {v : Nat} : bs v = top → MK mt ab bs top v [] v
  | step {v w z t : Nat} {S : List Nat} : bs v ≠ top → mt v = some w → ab w = some z → MK mt ab bs top z S t → MK mt ab bs top v (v :: w :: S) t
section
variable {W : Web} {mt ab : Nat → Option Nat} {root : Nat} {bs : Nat → Nat} {O : Nat → Prop} {rk : Nat → Nat}
theorem SI.cls (s : SI W mt root bs ab O rk) {x y : Nat} (hx : O x) (e : bs y = bs x) : O y := by
  apply Classical.byContradiction
  intro n
  have := s.non y n
  rw [this] at e
  exact n (by rw [e]; exact s.bo x hx)
/-- a place that is no base has its mate in its class -/
theorem SI.mate_in (s : SI W mt root bs ab O rk) {x : Nat} (hx : O x) (ne : bs x ≠ x) : ∃ y z, mt x = some y ∧ ab y = some z ∧ bs y = bs x ∧ bs z = bs x := by
  obtain ⟨L, p, nd, cl⟩ := s.path x hx
  obtain ⟨b, hb⟩ : ∃ b, b = bs x := ⟨_, rfl⟩
  rw [← hb] at p cl ne ⊢
  cases p with
  | nil => exact absurd rfl ne
  | @step _ y z _ L h1 h2 p => exact ⟨y, z, h1, h2, cl y (by simp), cl z (by have := p.self; simp [this])⟩
theorem SI.outer_iff (s : SI W mt root bs ab O rk) (m : MtOk W mt) {x : Nat} : O x ↔ x = root ∨ ∃ y z, mt x = some y ∧ ab y = some z := by
  constructor
  · intro hx
    by_cases e : x = root
    · exact .inl e
    · by_cases b : bs x = x
      · obtain ⟨w, y, h1, _, h3, _⟩ := s.up x hx b e
        exact .inr ⟨w, y, h1, h3⟩
      · obtain ⟨y, z, h1, h2, _⟩ := s.mate_in hx b
        exact .inr ⟨y, z, h1, h2⟩
  · rintro (e | ⟨y, z, h1, h2⟩)
    · rw [e]; exact s.rootO
    · obtain ⟨_, _, u, h3, h4⟩ := s.tie y z h2
      rw [m.inv x y h1] at h3
      cases h3
      exact h4
theorem SI.mated (s : SI W mt root bs ab O rk) {x : Nat} (hx : O x) (ne : x ≠ root) : ∃ y, mt x = some y := by
  by_cases b : bs x = x
  · obtain ⟨w, y, h1, _⟩ := s.up x hx b ne
    exact ⟨w, h1⟩
  · obtain ⟨y, z, h1, _⟩ := s.mate_in hx b
    exact ⟨y, h1⟩
theorem Anc.trans {a b c : Nat} (h : Anc mt ab bs a b) (h2 : Anc mt ab bs b c) : Anc mt ab bs a c := by
  induction h with
  | refl => exact h2
  | step e1 e2 _ ih => exact .step e1 e2 (ih h2)
/-- a base -/
def IsB (bs : Nat → Nat) (O : Nat → Prop) (b : Nat) : Prop := O b ∧ bs b = b
theorem SI.isB (s : SI W mt root bs ab O rk) {x : Nat} (hx : O x) : IsB bs O (bs x) := ⟨s.bo x hx, s.bb x⟩
theorem SI.next (s : SI W mt root bs ab O rk) {b w y : Nat} (hb : IsB bs O b) (h1 : mt b = some w) (h2 : ab w = some y) : ¬ O w ∧ O y ∧ IsB bs O (bs y) ∧ rk (bs y) < rk b := by
  have ne : b ≠ root := fun e => by
    rw [e, s.rootN] at h1
    cases h1
  obtain ⟨w', y', g1, g2, g3, g4, g5⟩ := s.up b hb.1 hb.2 ne
  rw [h1] at g1
  cases g1
  rw [h2] at g3
  cases g3
  exact ⟨g2, g4, s.isB g4, g5⟩
theorem SI.anc (s : SI W mt root bs ab O rk) {b c : Nat} (h : Anc mt ab bs b c) : IsB bs O b → IsB bs O c ∧ rk c ≤ rk b ∧ (b ≠ c → rk c < rk b) := by
  induction h with
  | refl => exact fun hb => ⟨hb, Nat.le_refl _, fun n => absurd rfl n⟩
  | @step b w y c h1 h2 _ ih =>
    intro hb
    obtain ⟨_, _, g3, g4⟩ := s.next hb h1 h2
    obtain ⟨i1, i2, _⟩ := ih g3
    exact ⟨i1, by omega, fun _ => by omega⟩
theorem SI.anc_anti (s : SI W mt root bs ab O rk) {b c : Nat} (hb : IsB bs O b) (h : Anc mt ab bs b c) (h2 : Anc mt ab bs c b) : b = c := by
  apply Classical.byContradiction
  intro ne
  obtain ⟨i1, _, i3⟩ := s.anc h hb
  obtain ⟨_, j2, _⟩ := s.anc h2 i1
  have := i3 ne
  omega
/-- of two up from one, one is above the other -/
theorem Anc.chain {a b c : Nat} (h : Anc mt ab bs a b) : Anc mt ab bs a c → Anc mt ab bs b c ∨ Anc mt ab bs c b := by
  induction h with
  | refl => exact fun h => .inl h
  | @step a w y b h1 h2 h3 ih =>
    intro h
    cases h with
    | refl => exact .inr (.step h1 h2 h3)
    | step g1 g2 g3 =>
      rw [h1] at g1
      cases g1
      rw [h2] at g2
      cases g2
      exact ih g3
theorem SI.to_root (s : SI W mt root bs ab O rk) : ∀ n b, rk b ≤ n → IsB bs O b → Anc mt ab bs b root
  | n, b, hn, hb => by
    by_cases e : b = root
    · rw [e]; exact .refl
    · obtain ⟨w, y, h1, _, h3, h4, h5⟩ := s.up b hb.1 hb.2 e
      cases n with
      | zero => omega
      | succ n => exact .step h1 h3 (s.to_root n (bs y) (by omega) (s.isB h4))
/-- what lies on the way up below top -/
def Below (mt ab : Nat → Option Nat) (bs : Nat → Nat) (O : Nat → Prop) (top b0 y : Nat) : Prop := ∃ b, IsB bs O b ∧ Anc mt ab bs b0 b ∧ b ≠ top ∧ Anc mt ab bs b top ∧ ((O y ∧ bs y = b) ∨ (¬ O y ∧ mt b = some y))
theorem MK.base {top v t : Nat} {S : List Nat} (h : MK mt ab bs top v S t) : bs t = top := by
  induction h with
  | done e => exact e
  | step _ _ _ _ ih => exact ih
/-- a path in a class below top, and on from its base -/
theorem mk_cls {top v b t : Nat} {L S : List Nat} (p : PP mt ab v b L) : (∀ y ∈ L, bs y = b) → b ≠ top → MK mt ab bs top b S t → L.Nodup → (∀ y ∈ L, y = b ∨ y ∉ S) → S.Nodup → ∃ S', MK mt ab bs top v S' t ∧ S'.Nodup ∧ (∀ y, y ∈ S' → y ∈ L ∨ y ∈ S) ∧ ∀ y, y ∈ S → y ∈ S' := by
  induction p with
  | @nil b => exact fun _ _ m _ _ nd => ⟨S, m, nd, fun y hy => .inr hy, fun y hy => hy⟩
  | @step x y z b L h1 h2 p ih =>
    intro cl ne m nd dis ndS
    obtain ⟨n1, n2⟩ := List.nodup_cons.mp nd
    obtain ⟨n3, n4⟩ := List.nodup_cons.mp n2
    obtain ⟨S', m', nd', sub, sup⟩ := ih (fun u hu => cl u (by simp [hu])) ne m n4 (fun u hu => dis u (by simp [hu])) ndS
    have bL := p.end_
    have xb : x ≠ b := fun e => n1 (by rw [e]; simp [bL])
    have yb : y ≠ b := fun e => n3 (by rw [e]; exact bL)
    have xS : x ∉ S' := fun h => by
      rcases sub x h with c | c
      · exact n1 (by simp [c])
      · exact (dis x (by simp)).elim xb fun z => z c
    have yS : y ∉ S' := fun h => by
      rcases sub y h with c | c
      · exact n3 c
      · exact (dis y (by simp)).elim yb fun z => z c
    refine ⟨x :: y :: S', .step (by rw [cl x (by simp)]; exact ne) h1 h2 m', ?_, fun u hu => ?_, fun u hu => by simp [sup u hu]⟩
    · rw [List.nodup_cons, List.nodup_cons]
      refine ⟨fun h => ?_, yS, nd'⟩
      rcases List.mem_cons.mp h with c | c
      · exact n1 (by rw [c]; simp)
      · exact xS c
    · simp only [List.mem_cons] at hu ⊢
      rcases hu with c | c | c
      · exact .inl (.inl c)
      · exact .inl (.inr (.inl c))
      · exact (sub u c).imp (fun z => .inr (.inr z)) id
theorem SI.at_top (s : SI W mt root bs ab O rk) {b0 top : Nat} (hb : IsB bs O b0) (e : b0 = top) : ∀ b, IsB bs O b → Anc mt ab bs b0 b → b ≠ top → Anc mt ab bs b top → b ∈ ([] : List Nat) := fun b ib h1 ne h2 => absurd (s.anc_anti ib h2 (e ▸ h1)) ne
/-- the way up below top, whole -/
structure Sd (mt ab : Nat → Option Nat) (bs : Nat → Nat) (O : Nat → Prop) (top v : Nat) (S : List Nat) (t : Nat) : Prop where
  k : MK mt ab bs top v S t
  nd : S.Nodup
  ot : O t
  bel : ∀ y ∈ S, Below mt ab bs O top (bs v) y
  all : ∀ b, IsB bs O b → Anc mt ab bs (bs v) b → b ≠ top → Anc mt ab bs b top → b ∈ S
theorem SI.mkEx (s : SI W mt root bs ab O rk) (m : MtOk W mt) {top : Nat} : ∀ n v, rk (bs v) ≤ n → O v → Anc mt ab bs (bs v) top → ∃ S t, Sd mt ab bs O top v S t := by
  intro n
  induction n with
  | zero =>
    intro v hn hv h
    by_cases e : bs v = top
    · exact ⟨[], v, .done e, .nil, hv, (fun y hy => nomatch hy), s.at_top (s.isB hv) e⟩
    · cases h with
      | refl => exact absurd rfl e
      | step h1 h2 h3 =>
        have := (s.next (s.isB hv) h1 h2).2.2.2
        omega
  | succ n ih =>
    intro v hn hv h
    by_cases e : bs v = top
    · exact ⟨[], v, .done e, .nil, hv, (fun y hy => nomatch hy), s.at_top (s.isB hv) e⟩
    · obtain ⟨b, hb⟩ : ∃ b, b = bs v := ⟨_, rfl⟩
      have ib : IsB bs O b := by rw [hb]; exact s.isB hv
      rw [← hb] at h e hn
      have hh := h
      cases h with
      | refl => exact absurd rfl e
      | @step _ w y _ h1 h2 h3 =>
        obtain ⟨g1, g2, g3, g4⟩ := s.next ib h1 h2
        obtain ⟨S, t, m1, nd1, ot, bel, all1⟩ := ih y (by omega) g2 h3
        have belb : ∀ u ∈ S, Below mt ab bs O top b u := fun u hu => by
          obtain ⟨c, c1, c2, c3, c4, c5⟩ := bel u hu
          exact ⟨c, c1, .step h1 h2 c2, c3, c4, c5⟩
        have rkc : ∀ u ∈ S, ∃ c, IsB bs O c ∧ rk c < rk b ∧ ((O u ∧ bs u = c) ∨ (¬ O u ∧ mt c = some u)) := fun u hu => by
          obtain ⟨c, c1, c2, c3, c4, c5⟩ := bel u hu
          have := (s.anc c2 g3).2.1
          exact ⟨c, c1, by omega, c5⟩
        have bS : b ∉ S := fun hu => by
          obtain ⟨c, c1, c2, c3⟩ := rkc b hu
          rcases c3 with ⟨_, c3⟩ | ⟨c3, _⟩
          · rw [ib.2] at c3
            rw [c3] at c2
            omega
          · exact c3 ib.1
        have wS : w ∉ S := fun hu => by
          obtain ⟨c, c1, c2, c3⟩ := rkc w hu
          rcases c3 with ⟨c3, _⟩ | ⟨_, c3⟩
          · exact g1 c3
          · have := m.inj h1 c3
            rw [this] at c2
            omega
        have bw : b ≠ w := fun z => g1 (by rw [← z]; exact ib.1)
        have m2 : MK mt ab bs top b (b :: w :: S) t := .step (by rw [ib.2]; exact e) h1 h2 m1
        have nd2 : (b :: w :: S).Nodup := by
          rw [List.nodup_cons, List.nodup_cons]
          exact ⟨fun h => (List.mem_cons.mp h).elim bw bS, wS, nd1⟩
        obtain ⟨L, p, ndL, cl⟩ := s.path v hv
        rw [← hb] at p cl
        obtain ⟨S', m3, nd3, sub, sup⟩ := mk_cls p cl e m2 ndL (fun u hu => by
          by_cases ub : u = b
          · exact .inl ub
          · refine .inr fun h => ?_
            have ou : O u := s.cls ib.1 (by rw [cl u hu, ib.2])
            rcases List.mem_cons.mp h with c | c
            · exact ub c
            · rcases List.mem_cons.mp c with c | c
              · exact g1 (by rw [← c]; exact ou)
              · obtain ⟨d, d1, d2, d3⟩ := rkc u c
                rcases d3 with ⟨_, d3⟩ | ⟨d3, _⟩
                · rw [cl u hu] at d3
                  rw [d3] at d2
                  omega
                · exact d3 ou) nd2
        refine ⟨S', t, m3, nd3, ot, fun u hu => ?_, fun c ic hc nc hct => ?_⟩
        · rw [← hb]
          rcases sub u hu with c | c
          · exact ⟨b, ib, .refl, e, hh, .inl ⟨s.cls ib.1 (by rw [cl u c, ib.2]), cl u c⟩⟩
          · rcases List.mem_cons.mp c with c | c
            · rw [c]
              exact ⟨b, ib, .refl, e, hh, .inl ⟨ib.1, ib.2⟩⟩
            · rcases List.mem_cons.mp c with c | c
              · rw [c]
                exact ⟨b, ib, .refl, e, hh, .inr ⟨g1, h1⟩⟩
              · exact belb u c
        · rw [← hb] at hc
          refine sup c ?_
          cases hc with
          | refl => simp
          | step q1 q2 q3 =>
            rw [h1] at q1
            cases q1
            rw [h2] at q2
            cases q2
            have := all1 c ic q3 nc hct
            simp [this]
end
/-! ### what mark writes -/
def upo (f : Nat → Option Nat) (i : Nat) (x : Option Nat) : Nat → Option Nat := fun v => if v = i then x else f v
theorem upo_eq (f : Nat → Option Nat) (i : Nat) (x : Option Nat) : upo f i x i = x := if_pos rfl
theorem upo_ne {f : Nat → Option Nat} {i v : Nat} {x : Option Nat} (h : v ≠ i) : upo f i x v = f v := if_neg h
def mkAb (ab : Nat → Option Nat) : List Nat → Nat → Nat → Option Nat
  | v :: w :: S, c => mkAb (upo ab v (some c)) S w
  | _, _ => ab
/-- of a list of pairs: what is above the first of each -/
def Links (mt ab : Nat → Option Nat) : List Nat → Nat → Prop
  | v :: w :: S, c => ab v = some c ∧ mt v = some w ∧ mt w = some v ∧ Links mt ab S w
  | [], _ => True
  | [_], _ => False
section
variable {W : Web} {mt ab ab' : Nat → Option Nat} {root : Nat} {bs : Nat → Nat} {O : Nat → Prop} {rk : Nat → Nat}
theorem mkAb_out : ∀ {S : List Nat} {ab : Nat → Option Nat} {c x : Nat}, x ∉ S → mkAb ab S c x = ab x
  | [], _, _, _, _ => rfl
  | [_], _, _, _, _ => rfl
  | v :: w :: S, ab, c, x, h => by
    simp only [List.mem_cons, not_or] at h
    rw [mkAb, mkAb_out h.2.2, upo_ne h.1]
/-- the second ones of the pairs -/
def odds : List Nat → List Nat
  | _ :: w :: S => w :: odds S
  | _ => []
theorem odds_mem : ∀ {S : List Nat} {x : Nat}, x ∈ odds S → x ∈ S
  | v :: w :: S, x, h => by
    rcases List.mem_cons.mp h with c | c
    · simp [c]
    · have := odds_mem c
      simp [this]
/-- the second ones keep what is above them -/
theorem mkAb_odd : ∀ {S : List Nat} {ab : Nat → Option Nat} {c x : Nat}, S.Nodup → x ∈ odds S → mkAb ab S c x = ab x
  | v :: w :: S, ab, c, x, nd, h => by
    obtain ⟨n1, n2⟩ := List.nodup_cons.mp nd
    obtain ⟨n3, n4⟩ := List.nodup_cons.mp n2
    have xv : x ≠ v := fun e => n1 (by
      rw [← e]
      rcases List.mem_cons.mp h with c | c
      · simp [c]
      · have := odds_mem c
        simp [this])
    rw [mkAb]
    rcases List.mem_cons.mp h with c' | c'
    · rw [mkAb_out (by rw [c']; exact n3), upo_ne xv]
    · rw [mkAb_odd n4 c', upo_ne xv]
theorem mk_links (m : MtOk W mt) {top v t : Nat} {S : List Nat} (k : MK mt ab bs top v S t) : S.Nodup → ∀ {ab0 : Nat → Option Nat} {c : Nat}, Links mt (mkAb ab0 S c) S c := by
  induction k with
  | done _ => exact fun _ _ _ => trivial
  | @step v w z t S _ h1 h2 _ ih =>
    intro nd ab0 c
    obtain ⟨n1, n2⟩ := List.nodup_cons.mp nd
    obtain ⟨n3, n4⟩ := List.nodup_cons.mp n2
    refine ⟨?_, h1, m.inv _ _ h1, ih n4⟩
    rw [mkAb, mkAb_out (fun h => n1 (by simp [h])), upo_eq]
/-- the same way up with other pointers that are alike at the second ones -/
theorem MK.same {top v t : Nat} {S : List Nat} (k : MK mt ab bs top v S t) : (∀ y ∈ odds S, ab' y = ab y) → MK mt ab' bs top v S t := by
  induction k with
  | done e => exact fun _ => .done e
  | @step v w z t S h0 h1 h2 _ ih => exact fun h => .step h0 h1 (by rw [h w (by simp [odds])]; exact h2) (ih fun y hy => h y (by simp [odds, hy]))
/-- from a first one of the pairs up to t and on -/
theorem MK.pp {top v t T : Nat} {S L : List Nat} (k : MK mt ab bs top v S t) (p : PP mt ab t T L) : PP mt ab v T (S ++ L) := by
  induction k with
  | done _ => exact p
  | step _ h1 h2 _ ih => exact .step h1 h2 (ih p)
/-- every place of the pairs: a first one, with the rest of the way, or a second one -/
theorem MK.at {top v t : Nat} {S : List Nat} (k : MK mt ab bs top v S t) : ∀ x ∈ S, (∃ S1 S2, S = S1 ++ S2 ∧ MK mt ab bs top x S2 t ∧ ∀ y ∈ odds S2, y ∈ odds S) ∨ x ∈ odds S := by
  induction k with
  | done _ => exact fun x hx => nomatch hx
  | @step v w z t S h0 h1 h2 k ih =>
    intro x hx
    rcases List.mem_cons.mp hx with c | c
    · rw [c]
      exact .inl ⟨[], _, rfl, .step h0 h1 h2 k, fun y hy => hy⟩
    · rcases List.mem_cons.mp c with c | c
      · exact .inr (by simp [odds, c])
      · rcases ih x c with ⟨S1, S2, e, k', od⟩ | c
        · exact .inl ⟨v :: w :: S1, S2, by rw [e]; rfl, k', fun y hy => by simp [odds, od y hy]⟩
        · exact .inr (by simp [odds, c])
/-- down from a second one to c and on -/
theorem links_down : ∀ {S : List Nat} {c T : Nat} {L : List Nat}, Links mt ab S c → PP mt ab c T L → S.Nodup → L.Nodup → (∀ y ∈ S, y ∉ L) → ∀ x ∈ odds S, ∃ L', PP mt ab x T L' ∧ L'.Nodup ∧ ∀ y ∈ L', y ∈ S ∨ y ∈ L
  | v :: w :: S, c, T, L, lk, p, nd, ndL, dis, x, hx => by
    obtain ⟨l1, l2, l3, l4⟩ := lk
    obtain ⟨n1, n2⟩ := List.nodup_cons.mp nd
    obtain ⟨n3, n4⟩ := List.nodup_cons.mp n2
    have p2 : PP mt ab w T (w :: v :: L) := .step l3 l1 p
    have nd2 : (w :: v :: L).Nodup := by
      rw [List.nodup_cons, List.nodup_cons]
      exact ⟨fun h => (List.mem_cons.mp h).elim (fun e => n1 (by simp [e])) (dis w (by simp)), dis v (by simp), ndL⟩
    rcases List.mem_cons.mp hx with e | e
    · rw [e]
      refine ⟨_, p2, nd2, fun y hy => ?_⟩
      simp only [List.mem_cons] at hy ⊢
      rcases hy with c | c | c
      · exact .inl (.inr (.inl c))
      · exact .inl (.inl c)
      · exact .inr c
    · obtain ⟨L', q1, q2, q3⟩ := links_down l4 p2 n4 nd2 (fun y hy h => by
        rcases List.mem_cons.mp h with c | c
        · exact n3 (by rw [← c]; exact hy)
        · rcases List.mem_cons.mp c with c | c
          · exact n1 (by rw [← c]; simp [hy])
          · exact dis y (by simp [hy]) c) x e
      refine ⟨L', q1, q2, fun y hy => ?_⟩
      rcases q3 y hy with c | c
      · exact .inl (by simp [c])
      · simp only [List.mem_cons] at c ⊢
        rcases c with c | c | c
        · exact .inl (.inr (.inl c))
        · exact .inl (.inl c)
        · exact .inr c
/-- a second one's mate is a first one -/
theorem MK.mate (m : MtOk W mt) {top v t : Nat} {S : List Nat} (k : MK mt ab bs top v S t) : ∀ x ∈ S, ∃ y ∈ S, mt x = some y := by
  induction k with
  | done _ => exact fun x hx => nomatch hx
  | @step v w z t S h0 h1 h2 k ih =>
    intro x hx
    rcases List.mem_cons.mp hx with c | c
    · rw [c]
      exact ⟨w, by simp, h1⟩
    · rcases List.mem_cons.mp c with c | c
      · rw [c]
        exact ⟨v, by simp, m.inv _ _ h1⟩
      · obtain ⟨y, hy, e⟩ := ih x c
        exact ⟨y, by simp [hy], e⟩
theorem Links.same : ∀ {S : List Nat} {c : Nat}, Links mt ab S c → (∀ y ∈ S, ab' y = ab y) → Links mt ab' S c
  | v :: w :: S, c, l, h => ⟨by rw [h v (by simp)]; exact l.1, l.2.1, l.2.2.1, l.2.2.2.same fun y hy => h y (by simp [hy])⟩
  | [], _, _, _ => trivial
/-- ties of what mark wrote -/
theorem mk_tie {top v t : Nat} {S : List Nat} (k : MK mt ab bs top v S t) (ws : WebSym W) (old : ∀ x y, ab x = some y → y ∈ nbOf W x ∧ O y) : ∀ {c : Nat}, Links mt ab' S c → (∀ y ∈ odds S, ab' y = ab y) → c ∈ nbOf W v → ∀ x ∈ S, ∀ y, ab' x = some y → y ∈ nbOf W x ∧ (O y ∨ y = c ∨ y ∈ S) := by
  induction k with
  | done _ => exact fun _ _ _ x hx => nomatch hx
  | @step v w z t S h0 h1 h2 k ih =>
    intro c l od cv x hx y hy
    rcases List.mem_cons.mp hx with e | e
    · rw [e, l.1] at hy
      cases hy
      rw [e]
      exact ⟨cv, .inr (.inl rfl)⟩
    · rcases List.mem_cons.mp e with e | e
      · rw [e, od w (by simp [odds])] at hy
        rw [e]
        exact ⟨(old w y hy).1, .inl (old w y hy).2⟩
      · obtain ⟨i1, i2⟩ := ih l.2.2.2 (fun u hu => od u (by simp [odds, hu])) (ws.sym w z (old w z h2).1) x e y hy
        refine ⟨i1, ?_⟩
        rcases i2 with i2 | i2 | i2
        · exact .inl i2
        · exact .inr (.inr (by simp [i2]))
        · exact .inr (.inr (by simp [i2]))
theorem side_S {top v t c : Nat} {S S' Lt Lc : List Nat} (k : MK mt ab bs top v S t) (nd : S.Nodup) (od : ∀ y ∈ odds S, ab' y = ab y) (lk : Links mt ab' S c) (pt : PP mt ab' t top Lt) (ndt : Lt.Nodup) (clt : ∀ y ∈ Lt, bs y = top ∧ O y) (pc : PP mt ab' c top Lc) (ndc : Lc.Nodup) (clc : ∀ y ∈ Lc, y ∈ S' ∨ (bs y = top ∧ O y))
    (dis : ∀ y ∈ S, y ∉ S' ∧ ¬ (bs y = top ∧ O y)) : ∀ x ∈ S, ∃ L', PP mt ab' x top L' ∧ L'.Nodup ∧ ∀ y ∈ L', y ∈ S ∨ y ∈ S' ∨ (bs y = top ∧ O y) := by
  intro x hx
  rcases k.at x hx with ⟨S1, S2, e, k', o2⟩ | h
  · have sub : ∀ y ∈ S2, y ∈ S := fun y hy => by rw [e]; exact List.mem_append_right _ hy
    refine ⟨S2 ++ Lt, (k'.same fun y hy => od y (o2 y hy)).pp pt, ?_, fun y hy => ?_⟩
    · rw [e] at nd
      refine List.nodup_append.mpr ⟨(List.nodup_append.mp nd).2.1, ndt, fun y hy z hz w => ?_⟩
      subst w
      exact (dis y (sub y hy)).2 (clt y hz)
    · rcases List.mem_append.mp hy with h | h
      · exact .inl (sub y h)
      · exact .inr (.inr (clt y h))
  · obtain ⟨L', q1, q2, q3⟩ := links_down lk pc nd ndc (fun y hy hc => by
      rcases clc y hc with z | z
      · exact (dis y hy).1 z
      · exact (dis y hy).2 z) x h
    refine ⟨L', q1, q2, fun y hy => ?_⟩
    rcases q3 y hy with z | z
    · exact .inl z
    · exact .inr (clc y z)
theorem side_cls {top b x : Nat} {S S' L : List Nat} (m : MtOk W mt) (p : PP mt ab x b L) : L.Nodup → (∀ y ∈ L, bs y = b ∧ O y) → b ∈ S → (∀ y ∈ S, ∃ z ∈ S, mt y = some z) → (∀ y, O y → bs y = b → y ∉ S') → b ≠ top → (∀ y, y ∉ S → y ∉ S' → ab' y = ab y) →
    (∀ x ∈ S, ∃ L', PP mt ab' x top L' ∧ L'.Nodup ∧ ∀ y ∈ L', y ∈ S ∨ y ∈ S' ∨ (bs y = top ∧ O y)) → ∃ L', PP mt ab' x top L' ∧ L'.Nodup ∧ ∀ y ∈ L', y ∈ L ∨ y ∈ S ∨ y ∈ S' ∨ (bs y = top ∧ O y) := by
  induction p with
  | @nil b =>
    intro _ _ hb _ _ _ _ hs
    obtain ⟨L', q1, q2, q3⟩ := hs b hb
    exact ⟨L', q1, q2, fun y hy => .inr (q3 y hy)⟩
  | @step x y z b L h1 h2 p ih =>
    intro nd cl hb mate dis ne same hs
    by_cases xs : x ∈ S
    · obtain ⟨L', q1, q2, q3⟩ := hs x xs
      exact ⟨L', q1, q2, fun y hy => .inr (q3 y hy)⟩
    · have ys : y ∉ S := fun h => by
        obtain ⟨u, hu, e⟩ := mate y h
        rw [m.inv x y h1] at e
        cases e
        exact xs hu
      obtain ⟨n1, n2⟩ := List.nodup_cons.mp nd
      obtain ⟨n3, n4⟩ := List.nodup_cons.mp n2
      obtain ⟨L', q1, q2, q3⟩ := ih n4 (fun u hu => cl u (by simp [hu])) hb mate dis ne same hs
      have cx := cl x (by simp)
      have cy := cl y (by simp)
      have ys' := dis y cy.2 cy.1
      have key : ∀ u, u ∉ L → u ∉ S → u ∉ S' → bs u = b → u ∉ L' := fun u u1 u2 u3 u4 h => by
        rcases q3 u h with c | c | c | c
        · exact u1 c
        · exact u2 c
        · exact u3 c
        · exact ne (u4.symm.trans c.1)
      refine ⟨x :: y :: L', .step h1 (by rw [same y ys ys']; exact h2) q1, ?_, fun u hu => ?_⟩
      · rw [List.nodup_cons, List.nodup_cons]
        have yL := key y n3 ys ys' cy.1
        refine ⟨fun h => ?_, yL, q2⟩
        rcases List.mem_cons.mp h with e | e
        · exact n1 (by rw [e]; simp)
        · exact key x (fun h => n1 (by simp [h])) xs (dis x cx.2 cx.1) cx.1 e
      · simp only [List.mem_cons] at hu ⊢
        rcases hu with c | c | c
        · exact .inl (.inl c)
        · exact .inl (.inr (.inl c))
        · exact (q3 u c).imp (fun z => .inr (.inr z)) id
/-- what lies on the two ways up -/
def Rg (bs : Nat → Nat) (S S' : List Nat) (b : Nat) : Prop := ∃ y, (y ∈ S ∨ y ∈ S') ∧ bs y = b
open Classical in
noncomputable def bsC (bs : Nat → Nat) (S S' : List Nat) (top : Nat) : Nat → Nat := fun x => if Rg bs S S' (bs x) then top else bs x
theorem SI.close (s : SI W mt root bs ab O rk) (m : MtOk W mt) (ws : WebSym W) {one other top t t' : Nat} {S S' : List Nat} (h1 : O one) (h2 : O other) (tie : other ∈ nbOf W one) (a1 : Anc mt ab bs (bs one) top) (a2 : Anc mt ab bs (bs other) top)
    (a3 : ∀ c, Anc mt ab bs (bs one) c → Anc mt ab bs (bs other) c → Anc mt ab bs top c) (k1 : Sd mt ab bs O top one S t) (k2 : Sd mt ab bs O top other S' t') :
    SI W mt root (bsC bs S S' top) (mkAb (mkAb ab S other) S' one) (fun x => O x ∨ Rg bs S S' (bs x)) rk ∧ (∀ y ∈ S, y ∉ S') := by
  have it := (s.anc a1 (s.isB h1)).1
  have dis : ∀ y ∈ S, y ∉ S' := fun y hy hy' => by
    obtain ⟨b, b1, b2, b3, b4, b5⟩ := k1.bel y hy
    obtain ⟨c, c1, c2, c3, c4, c5⟩ := k2.bel y hy'
    have bc : b = c := by
      rcases b5 with ⟨o1, e1⟩ | ⟨o1, e1⟩ <;> rcases c5 with ⟨o2, e2⟩ | ⟨o2, e2⟩
      · exact e1.symm.trans e2
      · exact absurd o1 o2
      · exact absurd o2 o1
      · exact m.inj e1 e2
    subst bc
    exact b3 (s.anc_anti b1 b4 (a3 b b2 c2))
  refine ⟨?_, dis⟩
  obtain ⟨ab', hab⟩ : ∃ ab', ab' = mkAb (mkAb ab S other) S' one := ⟨_, rfl⟩
  rw [← hab]
  have same : ∀ y, y ∉ S → y ∉ S' → ab' y = ab y := fun y y1 y2 => by rw [hab, mkAb_out y2, mkAb_out y1]
  have od1 : ∀ y ∈ odds S, ab' y = ab y := fun y hy => by rw [hab, mkAb_out (dis y (odds_mem hy)), mkAb_odd k1.nd hy]
  have od2 : ∀ y ∈ odds S', ab' y = ab y := fun y hy => by rw [hab, mkAb_odd k2.nd hy, mkAb_out (fun h => dis y h (odds_mem hy))]
  have lk1 : Links mt ab' S other := (mk_links m k1.k k1.nd (ab0 := ab) (c := other)).same fun y hy => by rw [hab, mkAb_out (dis y hy)]
  have lk2 : Links mt ab' S' one := by rw [hab]; exact mk_links m k2.k k2.nd
  have kind : ∀ {y}, (y ∈ S ∨ y ∈ S') → ∃ b, IsB bs O b ∧ b ≠ top ∧ Anc mt ab bs b top ∧ (b ∈ S ∨ b ∈ S') ∧ ((O y ∧ bs y = b) ∨ (¬ O y ∧ mt b = some y)) := fun {y} hy => by
    rcases hy with hy | hy
    · obtain ⟨b, b1, b2, b3, b4, b5⟩ := k1.bel y hy
      exact ⟨b, b1, b3, b4, .inl (k1.all b b1 b2 b3 b4), b5⟩
    · obtain ⟨b, b1, b2, b3, b4, b5⟩ := k2.bel y hy
      exact ⟨b, b1, b3, b4, .inr (k2.all b b1 b2 b3 b4), b5⟩
  have ntop : ∀ {y}, (y ∈ S ∨ y ∈ S') → ¬ (bs y = top ∧ O y) := fun hy h => by
    obtain ⟨b, _, b3, _, _, b5⟩ := kind hy
    rcases b5 with ⟨_, e⟩ | ⟨o, _⟩
    · exact b3 (e.symm.trans h.1)
    · exact o h.2
  have topP : ∀ {u}, O u → bs u = top → ∃ L, PP mt ab' u top L ∧ L.Nodup ∧ ∀ y ∈ L, bs y = top ∧ O y := fun {u} hu e => by
    obtain ⟨L, p, nd, cl⟩ := s.path u hu
    rw [e] at p cl
    have cl2 : ∀ y ∈ L, bs y = top ∧ O y := fun y hy => ⟨cl y hy, s.cls hu (by rw [cl y hy, e])⟩
    exact ⟨L, p.same fun y hy => same y (fun h => ntop (.inl h) (cl2 y hy)) (fun h => ntop (.inr h) (cl2 y hy)), nd, cl2⟩
  obtain ⟨Lt, pt, ndt, clt⟩ := topP k1.ot k1.k.base
  obtain ⟨Lt', pt', ndt', clt'⟩ := topP k2.ot k2.k.base
  have pone : PP mt ab' one top (S ++ Lt) := (k1.k.same od1).pp pt
  have pother : PP mt ab' other top (S' ++ Lt') := (k2.k.same od2).pp pt'
  have nd1 : (S ++ Lt).Nodup := List.nodup_append.mpr ⟨k1.nd, ndt, fun y hy z hz w => by subst w; exact ntop (.inl hy) (clt y hz)⟩
  have nd2 : (S' ++ Lt').Nodup := List.nodup_append.mpr ⟨k2.nd, ndt', fun y hy z hz w => by subst w; exact ntop (.inr hy) (clt' y hz)⟩
  have P1 := side_S (S' := S') k1.k k1.nd od1 lk1 pt ndt clt pother nd2 (fun y hy => (List.mem_append.mp hy).imp id (clt' y)) (fun y hy => ⟨dis y hy, ntop (.inl hy)⟩)
  have P2 := side_S (S' := S) k2.k k2.nd od2 lk2 pt' ndt' clt' pone nd1 (fun y hy => (List.mem_append.mp hy).imp id (clt y)) (fun y hy => ⟨fun h => dis y h hy, ntop (.inr hy)⟩)
  have onS : ∀ {x}, Rg bs S S' (bs x) → ¬ O x → x ∈ S ∨ x ∈ S' := fun {x} ⟨y, hy, e⟩ nx => by
    rw [s.non x nx] at e
    by_cases oy : O y
    · exact absurd (by rw [← e]; exact s.bo y oy) nx
    · rw [s.non y oy] at e
      rw [← e]
      exact hy
  have onB : ∀ {x}, Rg bs S S' (bs x) → O x → ∃ b, IsB bs O b ∧ bs x = b ∧ b ≠ top ∧ Anc mt ab bs b top ∧ ((b ∈ S) ∨ (b ∈ S')) := fun {x} ⟨y, hy, e⟩ ox => by
    have oy : O y := s.cls ox e
    obtain ⟨b, b1, b2, b3, b4, b5⟩ := kind hy
    rcases b5 with ⟨_, e5⟩ | ⟨o, _⟩
    · exact ⟨b, b1, e.symm.trans e5, b2, b3, b4⟩
    · exact absurd oy o
  have yes : ∀ {x}, Rg bs S S' (bs x) → bsC bs S S' top x = top := fun h => if_pos h
  have no : ∀ {x}, ¬ Rg bs S S' (bs x) → bsC bs S S' top x = bs x := fun h => if_neg h
  have ofS : ∀ {x}, (x ∈ S ∨ x ∈ S') → Rg bs S S' (bs x) := fun {x} h => ⟨x, h, rfl⟩
  have bTop : ∀ {x}, bs x = top → bsC bs S S' top x = top := fun {x} h => by
    by_cases c : Rg bs S S' (bs x)
    · exact yes c
    · rw [no c, h]
  have clsNot : ∀ {b}, IsB bs O b → b ∈ S → ∀ y, O y → bs y = b → y ∉ S' := fun {b} ib hb y oy e hy => by
    obtain ⟨c, c1, c2, c3, c4, c5⟩ := k2.bel y hy
    obtain ⟨d, d1, d2, d3, d4, d5⟩ := k1.bel b hb
    rcases c5 with ⟨_, c5⟩ | ⟨c5, _⟩
    · rcases d5 with ⟨_, d5⟩ | ⟨d5, _⟩
      · rw [ib.2] at d5
        have : c = d := by rw [← c5, ← d5, e]
        subst this
        exact c3 (s.anc_anti c1 c4 (a3 c d2 c2))
      · exact d5 ib.1
    · exact c5 oy
  have clsNot' : ∀ {b}, IsB bs O b → b ∈ S' → ∀ y, O y → bs y = b → y ∉ S := fun {b} ib hb y oy e hy => by
    obtain ⟨c, c1, c2, c3, c4, c5⟩ := k1.bel y hy
    obtain ⟨d, d1, d2, d3, d4, d5⟩ := k2.bel b hb
    rcases c5 with ⟨_, c5⟩ | ⟨c5, _⟩
    · rcases d5 with ⟨_, d5⟩ | ⟨d5, _⟩
      · rw [ib.2] at d5
        have : c = d := by rw [← c5, ← d5, e]
        subst this
        exact c3 (s.anc_anti c1 c4 (a3 c c2 d2))
      · exact d5 ib.1
    · exact c5 oy
  have inTop : ∀ {x : Nat} {L' : List Nat}, Rg bs S S' (bs x) → (∀ y ∈ L', (bs y = bs x) ∨ y ∈ S ∨ y ∈ S' ∨ (bs y = top ∧ O y)) → ∀ y ∈ L', bsC bs S S' top y = bsC bs S S' top x := fun {x L'} hx h y hy => by
    rw [yes hx]
    rcases h y hy with c | c | c | c
    · exact yes (by rw [c]; exact hx)
    · exact yes (ofS (.inl c))
    · exact yes (ofS (.inr c))
    · exact bTop c.1
  refine ⟨.inl s.rootO, s.rootN, ?_, fun x hx => ?_, fun x hx => ?_, fun x => ?_, fun x hx => ?_, fun x hx hb hne => ?_, fun v y hy => ?_⟩
  · refine (no fun h => ?_).trans s.rootB
    obtain ⟨b, b1, b2, b3, b4, _⟩ := onB h s.rootO
    rw [s.rootB] at b2
    rw [← b2] at b3 b4
    cases b4 with
    | refl => exact b3 rfl
    | step e _ _ => rw [s.rootN] at e; cases e
  · have n1 : ¬ O x := fun h => hx (.inl h)
    rw [no fun h => hx (.inr h), s.non x n1]
  · by_cases c : Rg bs S S' (bs x)
    · rw [yes c]
      exact .inl it.1
    · rw [no c]
      exact .inl (s.bo x (hx.resolve_right c))
  · by_cases c : Rg bs S S' (bs x)
    · rw [yes c, bTop it.2]
    · rw [no c, no (by rw [s.bb]; exact c), s.bb]
  · by_cases c : Rg bs S S' (bs x)
    · by_cases ox : O x
      · obtain ⟨b, b1, b2, b3, b4, b5⟩ := onB c ox
        obtain ⟨L, p, nd, cl⟩ := s.path x ox
        have cl2 : ∀ y ∈ L, bs y = b ∧ O y := fun y hy => ⟨(cl y hy).trans b2, s.cls ox (cl y hy)⟩
        rw [b2] at p
        rw [yes c]
        rcases b5 with b5 | b5
        · obtain ⟨L', q1, q2, q3⟩ := side_cls (S := S) (S' := S') m p nd cl2 b5 (k1.k.mate m) (clsNot b1 b5) b3 same P1
          refine ⟨L', q1, q2, fun y hy => ?_⟩
          have := inTop (L' := L') c (fun y hy => (q3 y hy).imp (fun z => cl y z) id) y hy
          rw [this, yes c]
        · obtain ⟨L', q1, q2, q3⟩ := side_cls (S := S') (S' := S) m p nd cl2 b5 (k2.k.mate m) (clsNot' b1 b5) b3 (fun y y1 y2 => same y y2 y1) P2
          refine ⟨L', q1, q2, fun y hy => ?_⟩
          have := inTop (L' := L') c (fun y hy => (by
            rcases q3 y hy with z | z | z | z
            · exact .inl (cl y z)
            · exact .inr (.inr (.inl z))
            · exact .inr (.inl z)
            · exact .inr (.inr (.inr z)))) y hy
          rw [this, yes c]
      · rw [yes c]
        rcases onS c ox with h | h
        · obtain ⟨L', q1, q2, q3⟩ := P1 x h
          refine ⟨L', q1, q2, fun y hy => ?_⟩
          have := inTop (L' := L') c (fun y hy => .inr (q3 y hy)) y hy
          rw [this, yes c]
        · obtain ⟨L', q1, q2, q3⟩ := P2 x h
          refine ⟨L', q1, q2, fun y hy => ?_⟩
          have := inTop (L' := L') c (fun y hy => (by
            rcases q3 y hy with z | z | z
            · exact .inr (.inr (.inl z))
            · exact .inr (.inl z)
            · exact .inr (.inr (.inr z)))) y hy
          rw [this, yes c]
    · have ox := hx.resolve_right c
      obtain ⟨L, p, nd, cl⟩ := s.path x ox
      rw [no c]
      refine ⟨L, p.same fun y hy => same y (fun h => c ⟨y, .inl h, cl y hy⟩) (fun h => c ⟨y, .inr h, cl y hy⟩), nd, fun y hy => ?_⟩
      rw [no (by rw [cl y hy]; exact c), cl y hy]
  · have ib : O x ∧ bs x = x ∧ (x = top ∨ ¬ Rg bs S S' x) := by
      by_cases c : Rg bs S S' (bs x)
      · rw [yes c] at hb
        rw [← hb]
        exact ⟨it.1, it.2, .inl rfl⟩
      · rw [no c] at hb
        rw [hb] at c
        exact ⟨hx.resolve_right (by rw [hb]; exact c), hb, .inr c⟩
    obtain ⟨w, y, g1, g2, g3, g4, g5⟩ := s.up x ib.1 ib.2.1 hne
    have nw : ¬ Rg bs S S' (bs w) := fun h => by
      have hw := onS h g2
      obtain ⟨b, b1, b2, b3, b4, b5⟩ := kind hw
      rcases b5 with ⟨o, _⟩ | ⟨_, e⟩
      · exact g2 o
      · have bx := m.inj e g1
        rw [bx] at b1 b2 b4
        rcases ib.2.2 with z | z
        · exact b2 z
        · refine z ?_
          have := ofS b4
          rw [b1.2] at this
          exact this
    refine ⟨w, y, g1, fun h => h.elim g2 nw, ?_, .inl g4, ?_⟩
    · rw [same w (fun h => nw (ofS (.inl h))) (fun h => nw (ofS (.inr h)))]
      exact g3
    · by_cases c : Rg bs S S' (bs y)
      · rw [yes c]
        obtain ⟨b, b1, b2, b3, b4, _⟩ := onB c g4
        have := (s.anc b4 b1).2.1
        rw [b2] at g5
        omega
      · rw [no c]
        exact g5
  · have old : ∀ x y, ab x = some y → y ∈ nbOf W x ∧ O y := fun x y h => ⟨(s.tie x y h).1, (s.tie x y h).2.1⟩
    have outOf : ∀ {z}, (z ∈ S ∨ z ∈ S') → O z ∨ Rg bs S S' (bs z) := fun h => .inr (ofS h)
    by_cases c1 : v ∈ S
    · obtain ⟨i1, i2⟩ := mk_tie (O := O) k1.k ws old lk1 od1 tie v c1 y hy
      obtain ⟨z, hz, e⟩ := k1.k.mate m v c1
      refine ⟨i1, ?_, z, e, outOf (.inl hz)⟩
      rcases i2 with i2 | i2 | i2
      · exact .inl i2
      · rw [i2]; exact .inl h2
      · exact outOf (.inl i2)
    · by_cases c2 : v ∈ S'
      · obtain ⟨i1, i2⟩ := mk_tie (O := O) k2.k ws old lk2 od2 (ws.sym one other tie) v c2 y hy
        obtain ⟨z, hz, e⟩ := k2.k.mate m v c2
        refine ⟨i1, ?_, z, e, outOf (.inr hz)⟩
        rcases i2 with i2 | i2 | i2
        · exact .inl i2
        · rw [i2]; exact .inl h1
        · exact outOf (.inr i2)
      · rw [same v c1 c2] at hy
        obtain ⟨i1, i2, z, i3, i4⟩ := s.tie v y hy
        exact ⟨i1, .inl i2, z, i3, .inl i4⟩
end
end OP

/-! The search, plainly: a place more, the way at the end, the search in vain. -/
namespace OP
section
variable {W : Web} {mt ab : Nat → Option Nat} {root : Nat} {bs : Nat → Nat} {O : Nat → Prop} {rk : Nat → Nat}
theorem si_init (W : Web) {mt : Nat → Option Nat} {root : Nat} (h : mt root = none) : SI W mt root (fun x => x) (fun _ => none) (fun x => x = root) (fun _ => 0) :=
  ⟨rfl, h, rfl, fun _ _ => rfl, fun _ h => h, fun _ => rfl, fun x _ => ⟨[x], .nil, by simp, fun y hy => List.mem_singleton.mp hy⟩, fun x h _ n => absurd h n, fun _ _ h => nomatch h⟩
theorem SI.grow (s : SI W mt root bs ab O rk) (m : MtOk W mt) (ws : WebSym W) {place u z : Nat} (hp : O place) (hu : u ∈ nbOf W place) (nu : ¬ O u) (au : ab u = none) (mu : mt u = some z) :
    ¬ O z ∧ SI W mt root bs (upo ab u (some place)) (fun x => O x ∨ x = z) (upf rk z (rk (bs place) + 1)) := by
  have mz := m.inv u z mu
  have nz : ¬ O z := fun hz => by
    have zr : z ≠ root := fun e => by rw [e, s.rootN] at mz; cases mz
    by_cases b : bs z = z
    · obtain ⟨w, y, h1, _, h3, _⟩ := s.up z hz b zr
      rw [mz] at h1
      cases h1
      rw [au] at h3
      cases h3
    · obtain ⟨w, y, h1, h2, _⟩ := s.mate_in hz b
      rw [mz] at h1
      cases h1
      rw [au] at h2
      cases h2
  refine ⟨nz, ?_⟩
  have bz : bs z = z := s.non z nz
  have uz : u ≠ z := fun e => by
    rw [e] at mu
    exact ws.irr z z (m.nb z z mu) rfl
  have nOb : ∀ {x}, O x → bs x ≠ z := fun hx e => nz (by rw [← e]; exact s.bo _ hx)
  refine ⟨.inl s.rootO, s.rootN, s.rootB, fun x hx => s.non x fun h => hx (.inl h), fun x hx => ?_, s.bb, fun x hx => ?_, fun x hx hb hne => ?_, fun v y hy => ?_⟩
  · rcases hx with h | h
    · exact .inl (s.bo x h)
    · rw [h, bz]; exact .inr rfl
  · rcases hx with h | h
    · obtain ⟨L, p, nd, cl⟩ := s.path x h
      refine ⟨L, p.same fun y hy => upo_ne fun e => ?_, nd, cl⟩
      rw [e] at hy
      exact nu (s.cls h (cl u hy))
    · rw [h, bz]
      exact ⟨[z], .nil, by simp, fun y hy => by rw [List.mem_singleton.mp hy, bz]⟩
  · rcases hx with h | h
    · obtain ⟨w, y, h1, h2, h3, h4, h5⟩ := s.up x h hb hne
      have wu : w ≠ u := fun e => by rw [e, au] at h3; cases h3
      refine ⟨w, y, h1, fun hw => hw.elim h2 fun e => ?_, by rw [upo_ne wu]; exact h3, .inl h4, ?_⟩
      · rw [e] at h1
        have := m.inj h1 mu
        exact nu (by rw [← this]; exact h)
      · rw [upf_ne (nOb h4), upf_ne (fun e => nz (by rw [← e]; exact h))]
        exact h5
    · subst h
      refine ⟨u, place, mz, fun h => h.elim nu uz, upo_eq _ _ _, .inl hp, ?_⟩
      rw [upf_eq, upf_ne (nOb hp)]
      omega
  · by_cases e : v = u
    · subst e
      rw [upo_eq] at hy
      cases hy
      exact ⟨ws.sym _ _ hu, .inl hp, z, mu, .inr rfl⟩
    · rw [upo_ne e] at hy
      obtain ⟨i1, i2, w, i3, i4⟩ := s.tie v y hy
      exact ⟨i1, .inl i2, w, i3, .inl i4⟩
/-- the whole way up to the root -/
theorem SI.full (s : SI W mt root bs ab O rk) (m : MtOk W mt) {v : Nat} (hv : O v) : ∃ L, PP mt ab v root L ∧ L.Nodup ∧ ∀ y ∈ L, O y ∨ ∃ b, O b ∧ mt b = some y := by
  obtain ⟨S, t, sd⟩ := s.mkEx m (rk (bs v)) v (Nat.le_refl _) hv (s.to_root _ _ (Nat.le_refl _) (s.isB hv))
  obtain ⟨L, p, nd, cl⟩ := s.path t sd.ot
  have bt := sd.k.base
  rw [bt] at p cl
  have ol : ∀ y ∈ L, O y := fun y hy => s.cls s.rootO (by rw [cl y hy, s.rootB])
  refine ⟨S ++ L, sd.k.pp p, List.nodup_append.mpr ⟨sd.nd, nd, fun y hy z hz e => ?_⟩, fun y hy => ?_⟩
  · subst e
    obtain ⟨b, b1, b2, b3, b4, b5⟩ := sd.bel y hy
    rcases b5 with ⟨_, b5⟩ | ⟨b5, _⟩
    · exact b3 (b5.symm.trans (cl y hz))
    · exact b5 (ol y hz)
  · rcases List.mem_append.mp hy with h | h
    · obtain ⟨b, b1, _, _, _, b5⟩ := sd.bel y h
      rcases b5 with ⟨b5, _⟩ | ⟨_, b5⟩
      · exact .inl b5
      · exact .inr ⟨b, b1.1, b5⟩
    · exact .inl (ol y h)
/-- another pairing of as many pairs that leaves v alone in the place of the root -/
theorem remate (m : MtOk W mt) (ws : WebSym W) (tie : ∀ v y, ab v = some y → y ∈ nbOf W v) {v t : Nat} {L : List Nat} (p : PP mt ab v t L) : mt t = none → L.Nodup →
    ∃ mt', MtOk W mt' ∧ mt' v = none ∧ (∀ y, y ∉ L → mt' y = mt y) ∧ ∀ y, y ∈ L → y ≠ v → mt' y ≠ none := by
  induction p with
  | nil => exact fun h _ => ⟨mt, m, h, fun _ _ => rfl, fun y hy n => absurd (List.mem_singleton.mp hy) n⟩
  | @step v w z t L h1 h2 p ih =>
    intro ht nd
    obtain ⟨n1, n2⟩ := List.nodup_cons.mp nd
    obtain ⟨n3, n4⟩ := List.nodup_cons.mp n2
    obtain ⟨f, f1, f2, f3, f4⟩ := ih ht n4
    have vL : v ∉ L := fun h => n1 (by simp [h])
    have vw : v ≠ w := fun e => n1 (by simp [e])
    have zL := p.self
    have wz : w ≠ z := fun e => n3 (by rw [e]; exact zL)
    have vz : v ≠ z := fun e => vL (by rw [e]; exact zL)
    have fv : f v = some w := (f3 v vL).trans h1
    have fw : f w = some v := (f3 w n3).trans (m.inv v w h1)
    have zw := tie w z h2
    obtain ⟨g, hg⟩ : ∃ g, g = upo (upo (upo f v none) w (some z)) z (some w) := ⟨_, rfl⟩
    have gv : g v = none := by rw [hg, upo_ne vz, upo_ne vw, upo_eq]
    have gw : g w = some z := by rw [hg, upo_ne wz, upo_eq]
    have gz : g z = some w := by rw [hg, upo_eq]
    have go : ∀ y, y ≠ v → y ≠ w → y ≠ z → g y = f y := fun y a b c => by rw [hg, upo_ne c, upo_ne b, upo_ne a]
    have oth : ∀ {x y}, x ≠ v → x ≠ w → x ≠ z → f x = some y → y ≠ v ∧ y ≠ w ∧ y ≠ z := fun {x y} a b c e => by
      have e2 := f1.inv x y e
      refine ⟨fun h => ?_, fun h => ?_, fun h => ?_⟩
      · rw [h, fv] at e2; exact b (Option.some.inj e2).symm
      · rw [h, fw] at e2; exact a (Option.some.inj e2).symm
      · rw [h, f2] at e2; cases e2
    refine ⟨g, ⟨fun x y e => ?_, fun x y e => ?_⟩, gv, fun y hy => ?_, fun y hy ny => ?_⟩
    · by_cases a : x = v
      · rw [a, gv] at e; cases e
      · by_cases b : x = w
        · rw [b, gw] at e; cases e; rw [b]; exact gz
        · by_cases c : x = z
          · rw [c, gz] at e; cases e; rw [c]; exact gw
          · rw [go x a b c] at e
            obtain ⟨q1, q2, q3⟩ := oth a b c e
            rw [go y q1 q2 q3]
            exact f1.inv x y e
    · by_cases a : x = v
      · rw [a, gv] at e; cases e
      · by_cases b : x = w
        · rw [b, gw] at e; cases e; rw [b]; exact zw
        · by_cases c : x = z
          · rw [c, gz] at e; cases e; rw [c]; exact ws.sym _ _ zw
          · rw [go x a b c] at e
            exact f1.nb x y e
    · simp only [List.mem_cons, not_or] at hy
      rw [go y hy.1 hy.2.1 (fun h => hy.2.2 (by rw [h]; exact zL)), f3 y hy.2.2]
    · by_cases b : y = w
      · rw [b, gw]; exact fun h => nomatch h
      · by_cases c : y = z
        · rw [c, gz]; exact fun h => nomatch h
        · rw [go y ny b c]
          refine f4 y ?_ c
          simp only [List.mem_cons] at hy
          exact (hy.resolve_left ny).resolve_left b
/-! ### what was looked at -/
/-- a tie from v to u that was looked at -/
def Lkd (mt ab : Nat → Option Nat) (bs : Nat → Nat) (O P : Nat → Prop) (v u : Nat) : Prop := (P u → bs v = bs u ∨ mt v = some u) ∧ (¬ O u → mt v = some u ∨ ab u ≠ none)
theorem Lkd.grow {P : Nat → Prop} {ab' : Nat → Option Nat} {bs' : Nat → Nat} {O' : Nat → Prop} {v u : Nat} (h : Lkd mt ab bs O P v u) (hb : ∀ x y, bs x = bs y → bs' x = bs' y) (ho : ∀ x, O x → O' x) (ha : ∀ x, ab x ≠ none → ab' x ≠ none) : Lkd mt ab' bs' O' P v u :=
  ⟨fun p => (h.1 p).imp (hb v u) id, fun n => (h.2 fun o => n (ho u o)).imp id (ha u)⟩
theorem bsC_eq {S S' : List Nat} {top x y : Nat} (h : bs x = bs y) : bsC bs S S' top x = bsC bs S S' top y := by
  unfold bsC
  rw [h]
theorem mkAb_some : ∀ {S : List Nat} {ab : Nat → Option Nat} {c x : Nat}, ab x ≠ none → mkAb ab S c x ≠ none
  | [], _, _, _, h => h
  | [_], _, _, _, h => h
  | v :: w :: S, ab, c, x, h => by
    rw [mkAb]
    refine mkAb_some ?_
    by_cases e : x = v
    · rw [e, upo_eq]; exact fun z => nomatch z
    · rw [upo_ne e]; exact h
theorem bsC_one {S S' : List Nat} {top v t : Nat} (k : Sd mt ab bs O top v S t ∨ Sd mt ab bs O top v S' t) : bsC bs S S' top v = top := by
  unfold bsC
  split
  · rfl
  · rename_i n
    rcases k with k | k
    · have := k.k
      cases this with
      | done e => exact e
      | step _ _ _ _ => exact absurd ⟨v, .inl (by simp), rfl⟩ n
    · have := k.k
      cases this with
      | done e => exact e
      | step _ _ _ _ => exact absurd ⟨v, .inr (by simp), rfl⟩ n
/-! ### a search in vain -/
/-- tied to one another, by places of C -/
inductive Lnk (W : Web) (C : Nat → Prop) : Nat → Nat → Prop
  | refl {x : Nat} : C x → Lnk W C x x
  | step {x y t : Nat} : C x → y ∈ nbOf W x → Lnk W C y t → Lnk W C x t
structure Vain (W : Web) (mt : Nat → Option Nat) (r : Nat) (bs : Nat → Nat) (D : Nat → Prop) : Prop where
  rD : D r
  rN : mt r = none
  bD : ∀ v, D v → D (bs v)
  bb : ∀ v, bs (bs v) = bs v
  nbr : ∀ v u, D v → u ∈ nbOf W v → (D u ∧ bs u = bs v) ∨ (¬ D u ∧ ∃ z, mt u = some z ∧ D z)
  inn : ∀ v, D v → bs v ≠ v → ∃ w, mt v = some w ∧ D w ∧ bs w = bs v
  outr : ∀ v, D v → bs v = v → v ≠ r → ∃ w, mt v = some w ∧ ¬ D w
  conn : ∀ v, D v → Lnk W (fun y => D y ∧ bs y = bs v) v (bs v)
  rem : ∀ v, D v → ∃ mt', MtOk W mt' ∧ mt' v = none ∧ ∀ y, mt' y = none → y = v ∨ (mt y = none ∧ y ≠ r)
theorem pp_chain (m : MtOk W mt) (ws : WebSym W) (tie : ∀ v y, ab v = some y → y ∈ nbOf W v) {C : Nat → Prop} {x t : Nat} {L : List Nat} (p : PP mt ab x t L) : (∀ y ∈ L, C y) → Lnk W C x t := by
  induction p with
  | nil => exact fun h => .refl (h _ (by simp))
  | @step x y z t L h1 h2 p ih => exact fun h => .step (h x (by simp)) (m.nb x y h1) (.step (h y (by simp)) (tie y z h2) (ih fun u hu => h u (by simp [hu])))
theorem SI.vain (s : SI W mt root bs ab O rk) (m : MtOk W mt) (ws : WebSym W) (lk : ∀ v, O v → ∀ u ∈ nbOf W v, Lkd mt ab bs O O v u) : Vain W mt root bs O := by
  have tie : ∀ v y, ab v = some y → y ∈ nbOf W v := fun v y h => (s.tie v y h).1
  refine ⟨s.rootO, s.rootN, s.bo, s.bb, fun v u hv hu => ?_, fun v hv ne => ?_, fun v hv hb ne => ?_, fun v hv => ?_, fun v hv => ?_⟩
  · obtain ⟨k1, k2⟩ := lk v hv u hu
    by_cases ou : O u
    · refine .inl ⟨ou, ?_⟩
      rcases k1 ou with e | e
      · exact e.symm
      · by_cases b : bs v = v
        · have vr : v ≠ root := fun z => by rw [z, s.rootN] at e; cases e
          obtain ⟨w, y, h1, h2, _⟩ := s.up v hv b vr
          rw [e] at h1
          cases h1
          exact absurd ou h2
        · obtain ⟨w, y, h1, _, h3, _⟩ := s.mate_in hv b
          rw [e] at h1
          cases h1
          exact h3
    · refine .inr ⟨ou, ?_⟩
      rcases k2 ou with e | e
      · exact ⟨v, m.inv v u e, hv⟩
      · cases h : ab u with
        | none => exact absurd h e
        | some y =>
          obtain ⟨_, _, z, h3, h4⟩ := s.tie u y h
          exact ⟨z, h3, h4⟩
  · obtain ⟨w, y, h1, _, h3, _⟩ := s.mate_in hv ne
    exact ⟨w, h1, s.cls hv h3, h3⟩
  · obtain ⟨w, y, h1, h2, _⟩ := s.up v hv hb ne
    exact ⟨w, h1, h2⟩
  · obtain ⟨L, p, nd, cl⟩ := s.path v hv
    exact pp_chain m ws tie p fun y hy => ⟨s.cls hv (cl y hy), cl y hy⟩
  · obtain ⟨L, p, nd, cl⟩ := s.full m hv
    obtain ⟨f, f1, f2, f3, f4⟩ := remate m ws tie p s.rootN nd
    refine ⟨f, f1, f2, fun y hy => ?_⟩
    by_cases e : y = v
    · exact .inl e
    · refine .inr ?_
      have yL : y ∉ L := fun h => f4 y h e hy
      rw [f3 y yL] at hy
      exact ⟨hy, fun z => yL (by rw [z]; exact p.end_)⟩
end
end OP

/-! The search's lists as functions; the bases up; the way at the end. -/
namespace OP
def bsF (l : List Nat) (v : Nat) : Nat := (l[v]?).getD v
def abF (l : List (Option Nat)) (v : Nat) : Option Nat := (l[v]?).getD none
theorem bsF_at {l : List Nat} {v x : Nat} (h : l[v]? = some x) : bsF l v = x := by
  unfold bsF
  rw [h]
  rfl
theorem abF_at {l : List (Option Nat)} {v : Nat} {x : Option Nat} (h : l[v]? = some x) : abF l v = x := by
  unfold abF
  rw [h]
  rfl
theorem get_bsF {l : List Nat} {v : Nat} (h : v < l.length) : l[v]? = some (bsF l v) := by
  rw [bsF_at (List.getElem?_eq_getElem h)]
  exact List.getElem?_eq_getElem h
theorem get_abF {l : List (Option Nat)} {v : Nat} (h : v < l.length) : l[v]? = some (abF l v) := by
  rw [abF_at (List.getElem?_eq_getElem h)]
  exact List.getElem?_eq_getElem h
theorem bsF_set {l : List Nat} {i x : Nat} (h : i < l.length) : bsF (l.set i x) = upf (bsF l) i x := by
  funext v
  by_cases e : v = i
  · subst e
    rw [bsF_at (set_get_eq h), upf_eq]
  · unfold bsF
    rw [set_get_ne (Ne.symm e), upf_ne e]
theorem abF_set {l : List (Option Nat)} {i : Nat} {x : Option Nat} (h : i < l.length) : abF (l.set i x) = upo (abF l) i x := by
  funext v
  by_cases e : v = i
  · subst e
    rw [abF_at (set_get_eq h), upo_eq]
  · unfold abF
    rw [set_get_ne (Ne.symm e), upo_ne e]
theorem bsF_range (n : Nat) : bsF (List.range n) = fun x => x := by
  funext v
  unfold bsF
  by_cases h : v < n
  · rw [List.getElem?_range h]
    rfl
  · rw [List.getElem?_eq_none (by rw [List.length_range]; omega)]
    rfl
theorem abF_none (n : Nat) : abF (List.replicate n none) = fun _ => none := by
  funext v
  unfold abF
  by_cases h : v < n
  · rw [List.getElem?_replicate, if_pos h]
    rfl
  · rw [List.getElem?_replicate, if_neg h]
    rfl
/-- the bases up, in order -/
inductive UpL (mt ab : Nat → Option Nat) (bs : Nat → Nat) : Nat → List Nat → Prop
  | top {b : Nat} : mt b = none → UpL mt ab bs b [b]
  | step {b w y : Nat} {l : List Nat} : mt b = some w → ab w = some y → UpL mt ab bs (bs y) l → UpL mt ab bs b (b :: l)
section
variable {W : Web} {mt ab : Nat → Option Nat} {root : Nat} {bs : Nat → Nat} {O : Nat → Prop} {rk : Nat → Nat}
theorem UpL.mem {b : Nat} {l : List Nat} (u : UpL mt ab bs b l) : ∀ c, c ∈ l ↔ Anc mt ab bs b c := by
  induction u with
  | @top b h =>
    intro c
    rw [List.mem_singleton]
    constructor
    · intro e
      rw [e]
      exact .refl
    · intro a
      cases a with
      | refl => rfl
      | step h1 _ _ => rw [h] at h1; cases h1
  | @step b w y l h1 h2 _ ih =>
    intro c
    rw [List.mem_cons, ih]
    constructor
    · rintro (e | a)
      · rw [e]; exact .refl
      · exact .step h1 h2 a
    · intro a
      cases a with
      | refl => exact .inl rfl
      | step g1 g2 g3 =>
        rw [h1] at g1
        cases g1
        rw [h2] at g2
        cases g2
        exact .inr g3
theorem UpL.later {b : Nat} {l : List Nat} (u : UpL mt ab bs b l) : ∀ i k m c : Nat, i ≤ k → l[i]? = some m → l[k]? = some c → Anc mt ab bs m c := by
  induction u with
  | @top b h =>
    intro i k m c _ hi hk
    have h1 := List.mem_singleton.mp (List.mem_of_getElem? hi)
    have h2 := List.mem_singleton.mp (List.mem_of_getElem? hk)
    rw [h1, h2]
    exact .refl
  | @step b w y l h1 h2 u ih =>
    intro i k m c le hi hk
    cases i with
    | zero =>
      cases hi
      exact ((UpL.step h1 h2 u).mem c).mp (List.mem_of_getElem? hk)
    | succ i =>
      cases k with
      | zero => omega
      | succ k => exact ih i k m c (by omega) hi hk
theorem meet_of {a b : Nat} {la lb : List Nat} (ua : UpL mt ab bs a la) (ub : UpL mt ab bs b lb) (r : Nat) (ra : r ∈ la) (rb : r ∈ lb) : ∃ m, (lb.filter fun z => decide (z ∈ la))[0]? = some m ∧ Anc mt ab bs a m ∧ Anc mt ab bs b m ∧ ∀ c, Anc mt ab bs a c → Anc mt ab bs b c → Anc mt ab bs m c := by
  obtain ⟨m, i, h1, h2, h3, h4⟩ := head_in (one := lb) (f := fun z => decide (z ∈ la)) ⟨r, rb, decide_eq_true ra⟩
  refine ⟨m, h1, (ua.mem m).mp (of_decide_eq_true h3), (ub.mem m).mp (List.mem_of_getElem? h2), fun c c1 c2 => ?_⟩
  obtain ⟨k, hk⟩ := List.getElem?_of_mem ((ub.mem c).mpr c2)
  refine ub.later i k m c ?_ h2 hk
  apply Nat.le_of_not_lt
  intro lt
  exact of_decide_eq_false (h4 k c lt hk) ((ua.mem c).mpr c1)
theorem pp_ix {x t : Nat} {L : List Nat} (p : PP mt ab x t L) : L.length % 2 = 1 ∧ L[0]? = some x ∧ L[L.length - 1]? = some t ∧ ∀ i a b, L[i]? = some a → L[i + 1]? = some b → (i % 2 = 0 → mt a = some b) ∧ (i % 2 = 1 → ab a = some b) := by
  induction p with
  | nil =>
    refine ⟨rfl, rfl, rfl, fun i a b _ hb => ?_⟩
    have := (List.getElem?_eq_some_iff.mp hb).1
    simp at this
  | @step x y z t L h1 h2 p ih =>
    obtain ⟨i1, i2, i3, i4⟩ := ih
    have l1 : 1 ≤ L.length := by omega
    refine ⟨by simp; omega, rfl, ?_, fun i a b ha hb => ?_⟩
    · rw [List.length_cons, List.length_cons, show L.length + 1 + 1 - 1 = (L.length - 1) + 1 + 1 by omega]
      exact i3
    · match i with
      | 0 =>
        cases ha
        cases hb
        exact ⟨fun _ => h1, fun h => absurd h (by decide)⟩
      | 1 =>
        cases ha
        have hb : L[0]? = some b := hb
        rw [i2] at hb
        cases hb
        exact ⟨fun h => absurd h (by decide), fun _ => h2⟩
      | i + 2 =>
        obtain ⟨j1, j2⟩ := i4 i a b ha hb
        exact ⟨fun h => j1 (by omega), fun h => j2 (by omega)⟩
theorem SI.lt (s : SI W mt root bs ab O rk) (m : MtOk W mt) (ws : WebSym W) (hr : root < W.size) {x : Nat} (h : O x) : x < W.size := by
  by_cases e : x = root
  · rw [e]; exact hr
  · obtain ⟨y, hy⟩ := s.mated h e
    exact ws.lt y x (ws.sym x y (m.nb x y hy))
theorem SI.way {ms : List (Option Nat)} (s : SI W (abF ms) root bs ab O rk) (ml : ms.length = W.size) (m : MtOk W (abF ms)) (ws : WebSym W) (hr : root < W.size) {place other : Nat} {L : List Nat} (hp : O place) (hu : other ∈ nbOf W place) (no : ¬ O other) (mo : abF ms other = none) (p : PP (abF ms) ab place root L) (nd : L.Nodup)
    (cl : ∀ y ∈ L, O y ∨ ∃ b, O b ∧ abF ms b = some y) : IsWay W ms (other :: L).reverse := by
  obtain ⟨i1, i2, i3, i4⟩ := pp_ix p
  have oL : other ∉ L := fun h => (cl other h).elim no fun ⟨b, _, e⟩ => by rw [m.inv b other e] at mo; cases mo
  have ltL : ∀ y ∈ L, y < W.size := fun y hy => (cl y hy).elim (s.lt m ws hr) fun ⟨b, _, e⟩ => ws.lt b y (m.nb b y e)
  have oW : other < W.size := ws.lt place other hu
  have at_ : ∀ {x : Nat} {z : Option Nat}, x < W.size → abF ms x = z → ms[x]? = some z := fun {x z} hx e => by rw [get_abF (by rw [ml]; exact hx), e]
  have len : (other :: L).reverse.length = L.length + 1 := by rw [List.length_reverse, List.length_cons]
  have rg : ∀ i, i < L.length + 1 → (other :: L).reverse[i]? = (other :: L)[L.length - i]? := fun i hi => by
    rw [List.getElem?_reverse (by rw [List.length_cons]; exact hi), List.length_cons]
    congr 1
  refine ⟨by rw [len]; omega, by rw [len]; omega, fun x hx => ?_, ?_, fun x hx => ?_, fun x hx => ?_, fun i x y hx hy => ?_⟩
  · rw [List.mem_reverse, List.mem_cons] at hx
    rcases hx with e | e
    · rw [e]; exact oW
    · exact ltL x e
  · exact (List.reverse_perm _).nodup_iff.mpr (List.nodup_cons.mpr ⟨oL, nd⟩)
  · rw [rg 0 (by omega), Nat.sub_zero] at hx
    obtain ⟨k, hk⟩ : ∃ k, L.length = k + 1 := ⟨L.length - 1, by omega⟩
    rw [hk, List.getElem?_cons_succ] at hx
    rw [hk, Nat.add_sub_cancel, hx] at i3
    cases i3
    exact at_ (ltL _ p.end_) s.rootN
  · rw [len, Nat.add_sub_cancel, rg L.length (by omega), Nat.sub_self] at hx
    cases hx
    exact at_ oW mo
  · have hi : i + 1 < L.length + 1 := by
      have := (List.getElem?_eq_some_iff.mp hy).1
      rw [len] at this
      exact this
    rw [rg i (by omega)] at hx
    rw [rg (i + 1) hi] at hy
    obtain ⟨k, hk⟩ : ∃ k, L.length - i = k + 1 := ⟨L.length - i - 1, by omega⟩
    rw [hk, List.getElem?_cons_succ] at hx
    rw [show L.length - (i + 1) = k by omega] at hy
    have xL : x ∈ L := List.mem_of_getElem? hx
    have xW := ltL x xL
    cases k with
    | zero =>
      rw [i2] at hx
      cases hx
      cases hy
      refine ⟨hu, ?_⟩
      constructor
      · intro e
        have := m.inv _ _ (abF_at e)
        rw [mo] at this
        cases this
      · intro h
        omega
    | succ k =>
      rw [List.getElem?_cons_succ] at hy
      obtain ⟨j1, j2⟩ := i4 k y x hy hx
      by_cases c : k % 2 = 0
      · have e := j1 c
        have e2 := m.inv _ _ e
        exact ⟨m.nb _ _ e2, fun _ => by omega, fun _ => at_ xW e2⟩
      · have e := j2 (by omega)
        refine ⟨ws.sym _ _ (s.tie y x e).1, fun e2 => ?_, fun h => by omega⟩
        obtain ⟨k', rfl⟩ : ∃ k', k = k' + 1 := ⟨k - 1, by omega⟩
        have e3 := m.inv _ _ (abF_at e2)
        obtain ⟨u, hu'⟩ : ∃ u, L[k']? = some u := ⟨_, List.getElem?_eq_getElem (by have := (List.getElem?_eq_some_iff.mp hy).1; omega)⟩
        have e4 := m.inv _ _ ((i4 k' u y hu' hy).1 (by omega))
        rw [e3] at e4
        cases e4
        have := nd_ix'' nd hu' hx
        omega
end
end OP

/-! Greatest pairings: classes, counted. -/
namespace OP
theorem nodup_sub_len : ∀ {l l2 : List Nat}, l.Nodup → (∀ x ∈ l, x ∈ l2) → l.length ≤ l2.length
  | [], _, _, _ => Nat.zero_le _
  | a :: l, l2, nd, sub => by
    obtain ⟨n1, n2⟩ := List.nodup_cons.mp nd
    have ha := sub a List.mem_cons_self
    have ih := nodup_sub_len (l2 := l2.erase a) n2 fun x hx => (List.mem_erase_of_ne fun e => n1 (by rw [← e]; exact hx)).mpr (sub x (List.mem_cons_of_mem _ hx))
    have := List.length_erase_of_mem ha
    have pos : 0 < l2.length := List.length_pos_of_mem ha
    rw [List.length_cons]
    omega
/-- a list that pairs off with itself -/
theorem even_pairs : ∀ (k : Nat) {l : List Nat} {f : Nat → Option Nat}, l.length ≤ k → l.Nodup → (∀ x ∈ l, ∃ y ∈ l, f x = some y ∧ f y = some x ∧ x ≠ y) → l.length % 2 = 0
  | 0, [], _, _, _, _ => rfl
  | 0, _ :: _, _, h, _, _ => absurd h (by simp)
  | k + 1, [], _, _, _, _ => rfl
  | k + 1, x :: l, f, h, nd, hf => by
    obtain ⟨n1, n2⟩ := List.nodup_cons.mp nd
    obtain ⟨y, hy, h1, h2, ne⟩ := hf x List.mem_cons_self
    have yl : y ∈ l := (List.mem_cons.mp hy).resolve_left (Ne.symm ne)
    have len := List.length_erase_of_mem yl
    have pos : 0 < l.length := List.length_pos_of_mem yl
    rw [List.length_cons] at h
    have ih := even_pairs k (l := l.erase y) (f := f) (by omega) (n2.erase y) fun z hz => by
      have zl : z ∈ l := List.mem_of_mem_erase hz
      have zy : z ≠ y := fun e => by
        rw [e] at hz
        exact n2.not_mem_erase hz
      obtain ⟨u, hu, g1, g2, g3⟩ := hf z (List.mem_cons_of_mem _ zl)
      refine ⟨u, ?_, g1, g2, g3⟩
      have ux : u ≠ x := fun e => by
        rw [e, h1] at g2
        exact zy (Option.some.inj g2).symm
      have uy : u ≠ y := fun e => by
        rw [e, h2] at g2
        have := Option.some.inj g2
        exact n1 (by rw [this]; exact zl)
      exact (List.mem_erase_of_ne uy).mpr ((List.mem_cons.mp hu).resolve_left ux)
    rw [List.length_cons]
    omega
open Classical in
noncomputable def lst (n : Nat) (p : Nat → Prop) : List Nat := (List.range n).filter fun x => decide (p x)
noncomputable def cnt (n : Nat) (p : Nat → Prop) : Nat := (lst n p).length
open Classical in
theorem mem_lst {n : Nat} {p : Nat → Prop} {x : Nat} : x ∈ lst n p ↔ x < n ∧ p x := by
  unfold lst
  rw [List.mem_filter, List.mem_range]
  exact and_congr_right fun _ => ⟨fun h => of_decide_eq_true h, fun h => decide_eq_true h⟩
theorem lst_nodup (n : Nat) (p : Nat → Prop) : (lst n p).Nodup := List.nodup_range.filter _
theorem cnt_le {n : Nat} {p q : Nat → Prop} (h : ∀ x, x < n → p x → q x) : cnt n p ≤ cnt n q :=
  nodup_sub_len (lst_nodup n p) fun x hx => by
    obtain ⟨h1, h2⟩ := mem_lst.mp hx
    exact mem_lst.mpr ⟨h1, h x h1 h2⟩
theorem cnt_lt {n : Nat} {p q : Nat → Prop} (h : ∀ x, x < n → p x → q x) {v : Nat} (hv : v < n) (hq : q v) (hp : ¬ p v) : cnt n p + 1 ≤ cnt n q := by
  have : (v :: lst n p).length ≤ (lst n q).length := nodup_sub_len (List.nodup_cons.mpr ⟨fun h => hp (mem_lst.mp h).2, lst_nodup n p⟩) fun x hx => by
    rcases List.mem_cons.mp hx with e | e
    · rw [e]; exact mem_lst.mpr ⟨hv, hq⟩
    · obtain ⟨h1, h2⟩ := mem_lst.mp e
      exact mem_lst.mpr ⟨h1, h x h1 h2⟩
  rw [List.length_cons] at this
  exact this
theorem cnt_or {n : Nat} {p q : Nat → Prop} (dis : ∀ x, p x → ¬ q x) : cnt n (fun x => p x ∨ q x) = cnt n p + cnt n q := by
  have h1 : (lst n p ++ lst n q).Nodup := List.nodup_append.mpr ⟨lst_nodup n p, lst_nodup n q, fun a ha b hb e => dis a (mem_lst.mp ha).2 (by rw [e]; exact (mem_lst.mp hb).2)⟩
  have a1 : (lst n p ++ lst n q).length ≤ cnt n (fun x => p x ∨ q x) := nodup_sub_len h1 fun x hx => by
    rcases List.mem_append.mp hx with h | h
    · exact mem_lst.mpr ⟨(mem_lst.mp h).1, .inl (mem_lst.mp h).2⟩
    · exact mem_lst.mpr ⟨(mem_lst.mp h).1, .inr (mem_lst.mp h).2⟩
  have a2 : cnt n (fun x => p x ∨ q x) ≤ (lst n p ++ lst n q).length := nodup_sub_len (lst_nodup _ _) fun x hx => by
    obtain ⟨g1, g2⟩ := mem_lst.mp hx
    rw [List.mem_append, mem_lst, mem_lst]
    exact g2.imp (fun z => ⟨g1, z⟩) fun z => ⟨g1, z⟩
  rw [List.length_append] at a1 a2
  unfold cnt at *
  omega
/-- of one set into another, one to one -/
theorem cnt_inj {n : Nat} {p q : Nat → Prop} (f : Nat → Nat) (to : ∀ x, x < n → p x → f x < n ∧ q (f x)) (inj : ∀ x y, x < n → y < n → p x → p y → f x = f y → x = y) : cnt n p ≤ cnt n q := by
  have nd : ((lst n p).map f).Nodup := by
    unfold List.Nodup
    rw [List.pairwise_map]
    refine List.Pairwise.imp_of_mem (fun {a b} ha hb ne e => ne ?_) (lst_nodup n p)
    obtain ⟨a1, a2⟩ := mem_lst.mp ha
    obtain ⟨b1, b2⟩ := mem_lst.mp hb
    exact inj a b a1 b1 a2 b2 e
  have := nodup_sub_len (l2 := lst n q) nd fun y hy => by
    obtain ⟨x, hx, rfl⟩ := List.mem_map.mp hy
    obtain ⟨x1, x2⟩ := mem_lst.mp hx
    exact mem_lst.mpr (to x x1 x2)
  rw [List.length_map] at this
  exact this
/-! ### places in classes of one place more than pairs -/
structure CS (W : Web) (mt : Nat → Option Nat) (D : Nat → Prop) (cl : Nat → Nat) : Prop where
  lt : ∀ x, D x → x < W.size
  cD : ∀ x, D x → D (cl x)
  cc : ∀ x, D x → cl (cl x) = cl x
  nbr : ∀ x u, D x → u ∈ nbOf W x → (D u ∧ cl u = cl x) ∨ (¬ D u ∧ ∃ z, mt u = some z ∧ D z)
  inn : ∀ x, D x → cl x ≠ x → ∃ w, mt x = some w ∧ D w ∧ cl w = cl x
  outr : ∀ x, D x → cl x = x → mt x = none ∨ ∃ w, mt x = some w ∧ ¬ D w
def AA (mt : Nat → Option Nat) (D : Nat → Prop) (a : Nat) : Prop := ¬ D a ∧ ∃ z, mt a = some z ∧ D z
section
variable {W : Web} {mt mt2 : Nat → Option Nat} {D : Nat → Prop} {cl : Nat → Nat}
/-- the number of the classes -/
theorem CS.bases (c : CS W mt D cl) (m : MtOk W mt) (ws : WebSym W) : cnt W.size (fun x => D x ∧ cl x = x) = cnt W.size (fun x => D x ∧ mt x = none) + cnt W.size (AA mt D) := by
  rw [← cnt_or fun x h1 h2 => h2.1 h1.1]
  apply Nat.le_antisymm
  · refine cnt_inj (fun x => (mt x).getD x) (fun x hx h => ?_) fun x y hx hy h1 h2 e => ?_
    · rcases c.outr x h.1 h.2 with e | ⟨w, e, nw⟩
      · rw [e]
        exact ⟨hx, .inl ⟨h.1, e⟩⟩
      · rw [e]
        exact ⟨ws.lt x w (m.nb x w e), .inr ⟨nw, x, m.inv x w e, h.1⟩⟩
    · rcases c.outr x h1.1 h1.2 with e1 | ⟨w, e1, nw⟩ <;> rcases c.outr y h2.1 h2.2 with e2 | ⟨w2, e2, nw2⟩
      · rw [e1, e2] at e; exact e
      · rw [e1, e2] at e; exact absurd h1.1 (by rw [show x = w2 from e]; exact nw2)
      · rw [e1, e2] at e; exact absurd h2.1 (by rw [show y = w from e.symm]; exact nw)
      · rw [e1, e2] at e
        have e : w = w2 := e
        rw [← e] at e2
        exact m.inj e1 e2
  · have base : ∀ {x}, D x → (mt x = none ∨ ∃ w, mt x = some w ∧ ¬ D w) → cl x = x := fun {x} hx h => Classical.byContradiction fun ne => by
      obtain ⟨w, e, dw, _⟩ := c.inn x hx ne
      rcases h with h | ⟨w', h, nw⟩
      · rw [e] at h; cases h
      · rw [e] at h; cases h; exact nw dw
    refine cnt_inj (fun x => (mt x).getD x) (fun x hx h => ?_) fun x y hx hy h1 h2 e => ?_
    · rcases h with ⟨h1, h2⟩ | ⟨h1, z, h2, h3⟩
      · rw [h2]
        exact ⟨hx, h1, base h1 (.inl h2)⟩
      · rw [h2]
        exact ⟨c.lt z h3, h3, base h3 (.inr ⟨x, m.inv x z h2, h1⟩)⟩
    · rcases h1 with ⟨a1, a2⟩ | ⟨a1, z, a2, a3⟩ <;> rcases h2 with ⟨b1, b2⟩ | ⟨b1, z2, b2, b3⟩
      · rw [a2, b2] at e; exact e
      · rw [a2, b2] at e
        have e : x = z2 := e
        rw [e, m.inv y z2 b2] at a2
        cases a2
      · rw [a2, b2] at e
        have e : z = y := e
        rw [← e, m.inv x z a2] at b2
        cases b2
      · rw [a2, b2] at e
        have e : z = z2 := e
        rw [← e] at b2
        exact m.inj a2 b2
/-- a class is odd -/
theorem CS.odd (c : CS W mt D cl) (m : MtOk W mt) (ws : WebSym W) {b : Nat} (hb : D b) (eb : cl b = b) : (lst W.size fun x => D x ∧ cl x = b).length % 2 = 1 := by
  have bm : b ∈ lst W.size fun x => D x ∧ cl x = b := mem_lst.mpr ⟨c.lt b hb, hb, eb⟩
  have nd := lst_nodup W.size fun x => D x ∧ cl x = b
  have ev := even_pairs _ (l := (lst W.size fun x => D x ∧ cl x = b).erase b) (f := mt) (Nat.le_refl _) (nd.erase b) fun x hx => by
    have xb : x ≠ b := fun e => by
      rw [e] at hx
      exact nd.not_mem_erase hx
    obtain ⟨x1, x2, x3⟩ := mem_lst.mp (List.mem_of_mem_erase hx)
    obtain ⟨w, e, dw, cw⟩ := c.inn x x2 (by rw [x3]; exact Ne.symm xb)
    have wb : w ≠ b := fun h => by
      rw [h] at e
      rcases c.outr b hb eb with z | ⟨w', z, nw⟩
      · rw [m.inv x b e] at z; cases z
      · rw [m.inv x b e] at z; cases z; exact nw x2
    exact ⟨w, (List.mem_erase_of_ne wb).mpr (mem_lst.mpr ⟨c.lt w dw, dw, cw.trans x3⟩), e, m.inv x w e, ws.irr x w (m.nb x w e)⟩
  have len := List.length_erase_of_mem bm
  have pos := List.length_pos_of_mem bm
  omega
/-- of each class one place is in no pair with another one of it -/
theorem CS.leak (c : CS W mt D cl) (m : MtOk W mt) (ws : WebSym W) (m2 : MtOk W mt2) {b : Nat} (hb : D b) (eb : cl b = b) : ∃ x, D x ∧ cl x = b ∧ (mt2 x = none ∨ ∃ a, mt2 x = some a ∧ AA mt D a) := by
  apply Classical.byContradiction
  intro no
  have odd := c.odd m ws hb eb
  have ev := even_pairs _ (l := lst W.size fun x => D x ∧ cl x = b) (f := mt2) (Nat.le_refl _) (lst_nodup _ _) fun x hx => by
    obtain ⟨x1, x2, x3⟩ := mem_lst.mp hx
    cases e : mt2 x with
    | none => exact absurd ⟨x, x2, x3, .inl e⟩ no
    | some y =>
      have hy := m2.nb x y e
      rcases c.nbr x y x2 hy with ⟨d, cy⟩ | h
      · exact ⟨y, mem_lst.mpr ⟨c.lt y d, d, cy.trans x3⟩, rfl, m2.inv x y e, ws.irr x y hy⟩
      · exact absurd ⟨x, x2, x3, .inr ⟨y, e, h⟩⟩ no
  omega
theorem CS.count (c : CS W mt D cl) (m : MtOk W mt) (ws : WebSym W) (m2 : MtOk W mt2) : cnt W.size (fun x => D x ∧ mt x = none) + cnt W.size (AA mt D) ≤ cnt W.size (fun x => D x ∧ mt2 x = none) + cnt W.size (fun a => AA mt D a ∧ ∃ z, mt2 a = some z ∧ D z) := by
  rw [← c.bases m ws, ← cnt_or fun x h1 h2 => h2.1.1 h1.1]
  have ch : ∀ b, ∃ x, D b → cl b = b → D x ∧ cl x = b ∧ (mt2 x = none ∨ ∃ a, mt2 x = some a ∧ AA mt D a) := fun b => by
    by_cases h : D b ∧ cl b = b
    · obtain ⟨x, hx⟩ := c.leak m ws m2 h.1 h.2
      exact ⟨x, fun _ _ => hx⟩
    · exact ⟨0, fun h1 h2 => absurd ⟨h1, h2⟩ h⟩
  obtain ⟨g, hg⟩ := Classical.axiomOfChoice ch
  refine cnt_inj (fun b => (mt2 (g b)).getD (g b)) (fun b hb h => ?_) fun x y hx hy h1 h2 e => ?_
  · obtain ⟨g1, g2, g3⟩ := hg b h.1 h.2
    rcases g3 with g3 | ⟨a, g3, g4⟩
    · rw [g3]
      exact ⟨c.lt _ g1, .inl ⟨g1, g3⟩⟩
    · rw [g3]
      exact ⟨ws.lt _ a (m2.nb _ a g3), .inr ⟨g4, g b, m2.inv _ a g3, g1⟩⟩
  · obtain ⟨g1, g2, g3⟩ := hg x h1.1 h1.2
    obtain ⟨k1, k2, k3⟩ := hg y h2.1 h2.2
    have same : g x = g y := by
      rcases g3 with g3 | ⟨a, g3, g4⟩ <;> rcases k3 with k3 | ⟨a2, k3, k4⟩
      · rw [g3, k3] at e; exact e
      · rw [g3, k3] at e
        exact absurd g1 (by rw [show g x = a2 from e]; exact k4.1)
      · rw [g3, k3] at e
        exact absurd k1 (by rw [show g y = a from e.symm]; exact g4.1)
      · rw [g3, k3] at e
        have e : a = a2 := e
        rw [← e] at k3
        exact m2.inj g3 k3
    rw [← g2, ← k2, same]
end
/-! ### all searches in vain -/
section
variable {W : Web} {mt : Nat → Option Nat}
theorem Vain.lt {r : Nat} {bs : Nat → Nat} {D : Nat → Prop} (v : Vain W mt r bs D) (m : MtOk W mt) (ws : WebSym W) (hr : r < W.size) {x : Nat} (hx : D x) : x < W.size := by
  by_cases e : x = r
  · rw [e]; exact hr
  · have : ∃ w, mt x = some w := by
      by_cases b : bs x = x
      · obtain ⟨w, h, _⟩ := v.outr x hx b e
        exact ⟨w, h⟩
      · obtain ⟨w, h, _⟩ := v.inn x hx b
        exact ⟨w, h⟩
    obtain ⟨w, h⟩ := this
    exact ws.lt w x (ws.sym x w (m.nb x w h))
theorem Vain.only {r : Nat} {bs : Nat → Nat} {D : Nat → Prop} (v : Vain W mt r bs D) {x : Nat} (hx : D x) (h : mt x = none) : x = r := Classical.byContradiction fun e => by
  by_cases b : bs x = x
  · obtain ⟨w, h2, _⟩ := v.outr x hx b e
    rw [h] at h2
    cases h2
  · obtain ⟨w, h2, _⟩ := v.inn x hx b
    rw [h] at h2
    cases h2
theorem Vain.cs {r : Nat} {bs : Nat → Nat} {D : Nat → Prop} (v : Vain W mt r bs D) (m : MtOk W mt) (ws : WebSym W) (hr : r < W.size) : CS W mt D bs :=
  ⟨fun x hx => v.lt m ws hr hx, v.bD, fun x _ => v.bb x, v.nbr, v.inn, fun x hx b => by
    by_cases e : x = r
    · rw [e]; exact .inl v.rN
    · exact .inr (v.outr x hx b e)⟩
/-- no outer place of one search is an inner one of another -/
theorem Vain.apart {r r' : Nat} {bs bs' : Nat → Nat} {D D' : Nat → Prop} (v : Vain W mt r bs D) (v' : Vain W mt r' bs' D') (m : MtOk W mt) (ws : WebSym W) (hr : r < W.size) (hr' : r' < W.size) {x : Nat} (hx : D x) : ¬ AA mt D' x := fun ha => by
  obtain ⟨mt2, m2, n2, ex⟩ := v.rem x hx
  have c := (v'.cs m ws hr').count m ws m2
  have a1 : 1 ≤ cnt W.size (fun y => D' y ∧ mt y = none) := List.length_pos_of_mem (mem_lst.mpr ⟨hr', v'.rD, v'.rN⟩)
  have a2 : cnt W.size (fun y => D' y ∧ mt2 y = none) ≤ 1 := nodup_sub_len (l2 := [r']) (lst_nodup _ _) fun y hy => by
    obtain ⟨y1, y2, y3⟩ := mem_lst.mp hy
    rcases ex y y3 with e | ⟨e, _⟩
    · rw [e] at y2; exact absurd y2 ha.1
    · rw [v'.only y2 e]; exact List.mem_cons_self
  have a3 := cnt_lt (n := W.size) (p := fun a => AA mt D' a ∧ ∃ z, mt2 a = some z ∧ D' z) (q := AA mt D') (fun _ _ h => h.1) (v.lt m ws hr hx) ha fun h => by
    obtain ⟨z, e, _⟩ := h.2
    rw [n2] at e
    cases e
  omega
theorem Vain.base {r r' : Nat} {bs bs' : Nat → Nat} {D D' : Nat → Prop} (v : Vain W mt r bs D) (v' : Vain W mt r' bs' D') (m : MtOk W mt) (ws : WebSym W) (hr : r < W.size) (hr' : r' < W.size) {x : Nat} (hx : D x) (hx' : D' x) : bs x = bs' x := by
  have walk : ∀ {u t}, Lnk W (fun y => D y ∧ bs y = bs x) u t → D' u → D' t ∧ bs' t = bs' u := fun {u t} l => by
    induction l with
    | refl _ => exact fun h => ⟨h, rfl⟩
    | @step u y t hu hy l ih =>
      intro h
      have dy : D y := by cases l with
        | refl h => exact h.1
        | step h _ _ => exact h.1
      rcases v'.nbr u y h hy with ⟨d, e⟩ | h2
      · obtain ⟨i1, i2⟩ := ih d
        exact ⟨i1, i2.trans e⟩
      · exact absurd h2 (v.apart v' m ws hr hr' dy)
  obtain ⟨h1, h2⟩ := walk (v.conn x hx) hx'
  apply Classical.byContradiction
  intro ne
  have nb : bs' (bs x) ≠ bs x := fun e => ne (by rw [← e, h2])
  obtain ⟨w, e, dw, _⟩ := v'.inn (bs x) h1 nb
  have db := v.bD x hx
  by_cases br : bs x = r
  · rw [br, v.rN] at e
    cases e
  · obtain ⟨w', e', nw⟩ := v.outr (bs x) db (v.bb x) br
    rw [e] at e'
    cases e'
    exact v'.apart v m ws hr' hr dw ⟨nw, bs x, m.inv _ _ e, db⟩
/-- for each place that is alone a search in vain -/
structure Fam (W : Web) (mt : Nat → Option Nat) (bs : Nat → Nat → Nat) (D : Nat → Nat → Prop) : Prop where
  v : ∀ r, r < W.size → mt r = none → Vain W mt r (bs r) (D r)
def FD (W : Web) (mt : Nat → Option Nat) (D : Nat → Nat → Prop) (x : Nat) : Prop := ∃ r, r < W.size ∧ mt r = none ∧ D r x
variable {bs : Nat → Nat → Nat} {D : Nat → Nat → Prop}
theorem Fam.cs (f : Fam W mt bs D) (m : MtOk W mt) (ws : WebSym W) : ∃ cl, CS W mt (FD W mt D) cl ∧ ∀ r x, r < W.size → mt r = none → D r x → cl x = bs r x := by
  have ch : ∀ x, ∃ r, FD W mt D x → r < W.size ∧ mt r = none ∧ D r x := fun x => by
    by_cases h : FD W mt D x
    · obtain ⟨r, hr⟩ := h
      exact ⟨r, fun _ => hr⟩
    · exact ⟨0, fun h2 => absurd h2 h⟩
  obtain ⟨g, hg⟩ := Classical.axiomOfChoice ch
  have eq : ∀ r x, r < W.size → mt r = none → D r x → bs (g x) x = bs r x := fun r x h1 h2 h3 => by
    obtain ⟨k1, k2, k3⟩ := hg x ⟨r, h1, h2, h3⟩
    exact (f.v _ k1 k2).base (f.v r h1 h2) m ws k1 h1 k3 h3
  refine ⟨fun x => bs (g x) x, ⟨fun x hx => ?_, fun x hx => ?_, fun x hx => ?_, fun x u hx hu => ?_, fun x hx ne => ?_, fun x hx e => ?_⟩, eq⟩
  all_goals obtain ⟨k1, k2, k3⟩ := hg x hx
  all_goals have v := f.v _ k1 k2
  · exact v.lt m ws k1 k3
  · exact ⟨g x, k1, k2, v.bD x k3⟩
  · show bs (g (bs (g x) x)) (bs (g x) x) = bs (g x) x
    rw [eq (g x) _ k1 k2 (v.bD x k3)]
    exact v.bb x
  · rcases v.nbr x u k3 hu with ⟨d, e⟩ | ⟨nd, z, e, dz⟩
    · exact .inl ⟨⟨g x, k1, k2, d⟩, (eq (g x) u k1 k2 d).trans e⟩
    · refine .inr ⟨fun ⟨r, h1, h2, h3⟩ => ?_, z, e, g x, k1, k2, dz⟩
      exact (f.v r h1 h2).apart v m ws h1 k1 h3 ⟨nd, z, e, dz⟩
  · obtain ⟨w, e, dw, ew⟩ := v.inn x k3 ne
    exact ⟨w, e, ⟨g x, k1, k2, dw⟩, (eq (g x) w k1 k2 dw).trans ew⟩
  · by_cases xr : x = g x
    · exact .inl (by rw [xr]; exact k2)
    · obtain ⟨w, e', nw⟩ := v.outr x k3 e xr
      refine .inr ⟨w, e', fun ⟨r, h1, h2, h3⟩ => ?_⟩
      exact (f.v r h1 h2).apart v m ws h1 k1 h3 ⟨nw, x, m.inv x w e', k3⟩
/-- how many places are alone -/
noncomputable def ex (W : Web) (mt : Nat → Option Nat) : Nat := cnt W.size fun x => mt x = none
structure Great (W : Web) (mt : Nat → Option Nat) : Prop where
  m : MtOk W mt
  le : ∀ mt2, MtOk W mt2 → ex W mt ≤ ex W mt2
/-- left alone by some greatest pairing -/
def Missed (W : Web) (x : Nat) : Prop := x < W.size ∧ ∃ mt2, Great W mt2 ∧ mt2 x = none
theorem Fam.more (f : Fam W mt bs D) (m : MtOk W mt) (ws : WebSym W) {mt2 : Nat → Option Nat} (m2 : MtOk W mt2) : ex W mt + cnt W.size (fun x => ¬ FD W mt D x ∧ mt2 x = none) ≤ ex W mt2 := by
  obtain ⟨cl, c, _⟩ := f.cs m ws
  have h := c.count m ws m2
  have a1 : ex W mt ≤ cnt W.size (fun x => FD W mt D x ∧ mt x = none) := cnt_le fun x hx e => ⟨⟨x, hx, e, (f.v x hx e).rD⟩, e⟩
  have a2 : cnt W.size (fun a => AA mt (FD W mt D) a ∧ ∃ z, mt2 a = some z ∧ FD W mt D z) ≤ cnt W.size (AA mt (FD W mt D)) := cnt_le fun _ _ h => h.1
  have a3 : cnt W.size (fun x => (FD W mt D x ∧ mt2 x = none) ∨ (¬ FD W mt D x ∧ mt2 x = none)) ≤ ex W mt2 := cnt_le fun x _ h => h.elim (fun z => z.2) fun z => z.2
  rw [cnt_or fun x h1 h2 => h2.1 h1.1] at a3
  omega
theorem Fam.great (f : Fam W mt bs D) (m : MtOk W mt) (ws : WebSym W) : Great W mt := ⟨m, fun mt2 m2 => by have := f.more m ws m2; omega⟩
theorem Fam.missed (f : Fam W mt bs D) (m : MtOk W mt) (ws : WebSym W) {x : Nat} : FD W mt D x ↔ Missed W x := by
  have gr := f.great m ws
  constructor
  · rintro ⟨r, h1, h2, h3⟩
    have v := f.v r h1 h2
    obtain ⟨mt2, m2, n2, e2⟩ := v.rem x h3
    have xW := v.lt m ws h1 h3
    refine ⟨xW, mt2, ⟨m2, fun mt3 m3 => Nat.le_trans ?_ (gr.le mt3 m3)⟩, n2⟩
    have : (lst W.size fun y => mt2 y = none).length ≤ (x :: (lst W.size fun y => mt y = none).erase r).length := nodup_sub_len (lst_nodup _ _) fun y hy => by
      obtain ⟨y1, y2⟩ := mem_lst.mp hy
      rcases e2 y y2 with e | ⟨e, ne⟩
      · rw [e]; exact List.mem_cons_self
      · exact List.mem_cons_of_mem _ ((List.mem_erase_of_ne ne).mpr (mem_lst.mpr ⟨y1, e⟩))
    have rm : r ∈ lst W.size fun y => mt y = none := mem_lst.mpr ⟨h1, h2⟩
    have len := List.length_erase_of_mem rm
    have pos := List.length_pos_of_mem rm
    rw [List.length_cons] at this
    unfold ex cnt
    omega
  · rintro ⟨xW, mt2, g2, n2⟩
    apply Classical.byContradiction
    intro no
    have h := f.more m ws g2.m
    have h2 := g2.le mt m
    have pos : 0 < cnt W.size (fun x => ¬ FD W mt D x ∧ mt2 x = none) := List.length_pos_of_mem (mem_lst.mpr ⟨xW, no, n2⟩)
    omega
end
end OP

/-! A way turned makes two places fewer alone; the fence. -/
namespace OP
section
variable {W : Web} {ms : List (Option Nat)} {ns : List Nat}
theorem IsWay.mates (w : IsWay W ms ns) (m : MtOk W (abF ms)) (ml : ms.length = W.size) {i : Nat} {x : Nat} (hx : ns[i]? = some x) : ((i = 0 ∨ i + 1 = ns.length) ∧ abF ms x = none) ∨ (i ≠ 0 ∧ i + 1 ≠ ns.length ∧ ∃ y ∈ ns, abF ms x = some y) := by
  have il := (List.getElem?_eq_some_iff.mp hx).1
  have ev := w.even
  by_cases c0 : i = 0
  · subst c0
    exact .inl ⟨.inl rfl, abF_at (w.first x hx)⟩
  · by_cases c1 : i + 1 = ns.length
    · exact .inl ⟨.inr c1, abF_at (w.last x (by rw [← c1]; exact hx))⟩
    · refine .inr ⟨c0, c1, ?_⟩
      by_cases odd : i % 2 = 1
      · obtain ⟨y, hy⟩ : ∃ y, ns[i + 1]? = some y := ⟨_, List.getElem?_eq_getElem (by omega)⟩
        exact ⟨y, List.mem_of_getElem? hy, abF_at ((w.step i x y hx hy).2.mpr odd)⟩
      · obtain ⟨k, rfl⟩ : ∃ k, i = k + 1 := ⟨i - 1, by omega⟩
        obtain ⟨y, hy⟩ : ∃ y, ns[k]? = some y := ⟨_, List.getElem?_eq_getElem (by omega)⟩
        exact ⟨y, List.mem_of_getElem? hy, m.inv y x (abF_at ((w.step k y x hy hx).2.mpr (by omega)))⟩
theorem IsWay.turned (w : IsWay W ms ns) (m : MtOk W (abF ms)) (ml : ms.length = W.size) (ws : WebSym W) : MtOk W (abF (turnL ms ns)) ∧ ex W (abF (turnL ms ns)) + 2 = ex W (abF ms) := by
  obtain ⟨t1, t2⟩ := turnL_get (ms := ms) w.nd w.even (fun x hx => by rw [ml]; exact w.lt x hx)
  have ev := w.even
  have two := w.two
  have out : ∀ x, x ∉ ns → abF (turnL ms ns) x = abF ms x := fun x hx => by
    unfold abF
    rw [t2 x hx]
  have in_ : ∀ x, x ∈ ns → ∃ y, y ∈ ns ∧ abF (turnL ms ns) x = some y ∧ abF (turnL ms ns) y = some x ∧ y ∈ nbOf W x := fun x hx => by
    obtain ⟨i, hi⟩ := List.getElem?_of_mem hx
    have il := (List.getElem?_eq_some_iff.mp hi).1
    by_cases e : i % 2 = 0
    · obtain ⟨j, rfl⟩ : ∃ j, i = 2 * j := ⟨i / 2, by omega⟩
      obtain ⟨y, hy⟩ : ∃ y, ns[2 * j + 1]? = some y := ⟨_, List.getElem?_eq_getElem (by omega)⟩
      obtain ⟨g1, g2⟩ := t1 j x y hi hy
      exact ⟨y, List.mem_of_getElem? hy, abF_at g1, abF_at g2, (w.step _ x y hi hy).1⟩
    · obtain ⟨j, rfl⟩ : ∃ j, i = 2 * j + 1 := ⟨i / 2, by omega⟩
      obtain ⟨y, hy⟩ : ∃ y, ns[2 * j]? = some y := ⟨_, List.getElem?_eq_getElem (by omega)⟩
      obtain ⟨g1, g2⟩ := t1 j y x hy hi
      exact ⟨y, List.mem_of_getElem? hy, abF_at g2, abF_at g1, ws.sym _ _ (w.step _ y x hy hi).1⟩
  have stay : ∀ x y, x ∉ ns → abF ms x = some y → y ∉ ns := fun x y hx e hy => by
    obtain ⟨i, hi⟩ := List.getElem?_of_mem hy
    have e2 := m.inv x y e
    rcases w.mates m ml hi with ⟨_, h⟩ | ⟨_, _, z, hz, h⟩
    · rw [h] at e2; cases e2
    · rw [h] at e2
      cases e2
      exact hx hz
  refine ⟨⟨fun x y e => ?_, fun x y e => ?_⟩, ?_⟩
  · by_cases c : x ∈ ns
    · obtain ⟨z, z1, z2, z3, z4⟩ := in_ x c
      rw [z2] at e
      cases e
      exact z3
    · rw [out x c] at e
      rw [out y (stay x y c e)]
      exact m.inv x y e
  · by_cases c : x ∈ ns
    · obtain ⟨z, z1, z2, z3, z4⟩ := in_ x c
      rw [z2] at e
      cases e
      exact z4
    · rw [out x c] at e
      exact m.nb x y e
  · have a0 : ns[0]? = some (ns.getD 0 0) := getD_get 0 (by omega)
    have a1 : ns[ns.length - 1]? = some (ns.getD (ns.length - 1) 0) := getD_get 0 (by omega)
    obtain ⟨u, hu⟩ : ∃ u, u = ns.getD 0 0 := ⟨_, rfl⟩
    obtain ⟨v, hv⟩ : ∃ v, v = ns.getD (ns.length - 1) 0 := ⟨_, rfl⟩
    rw [← hu] at a0
    rw [← hv] at a1
    have uv : u ≠ v := fun e => by
      rw [e] at a0
      have := nd_ix'' w.nd a0 a1
      omega
    have um := List.mem_of_getElem? a0
    have vm := List.mem_of_getElem? a1
    have key : ∀ x, abF ms x = none ↔ (abF (turnL ms ns) x = none ∨ (x = u ∨ x = v)) := fun x => by
      by_cases c : x ∈ ns
      · obtain ⟨z, _, z2, _⟩ := in_ x c
        rw [z2]
        constructor
        · intro h
          obtain ⟨i, hi⟩ := List.getElem?_of_mem c
          rcases w.mates m ml hi with ⟨h1 | h1, _⟩ | ⟨_, _, y, _, h1⟩
          · rw [h1, a0] at hi
            exact .inr (.inl (Option.some.inj hi).symm)
          · rw [show i = ns.length - 1 by omega, a1] at hi
            exact .inr (.inr (Option.some.inj hi).symm)
          · rw [h] at h1; cases h1
        · rintro (h | h | h)
          · cases h
          · rw [h]; exact abF_at (w.first u a0)
          · rw [h]; exact abF_at (w.last v a1)
      · rw [out x c]
        exact ⟨.inl, fun h => h.elim id fun h => absurd (h.elim (fun e => by rw [e]; exact um) fun e => by rw [e]; exact vm) c⟩
    have dis : ∀ x, abF (turnL ms ns) x = none → ¬ (x = u ∨ x = v) := fun x h h2 => by
      obtain ⟨z, _, z2, _⟩ := in_ x (h2.elim (fun e => by rw [e]; exact um) fun e => by rw [e]; exact vm)
      rw [h] at z2
      cases z2
    have c1 : ex W (abF ms) = cnt W.size fun x => abF (turnL ms ns) x = none ∨ (x = u ∨ x = v) := by
      apply Nat.le_antisymm
      · exact cnt_le fun x _ h => (key x).mp h
      · exact cnt_le fun x _ h => (key x).mpr h
    rw [c1, cnt_or dis]
    have c2 : cnt W.size (fun x => x = u ∨ x = v) = 2 := by
      apply Nat.le_antisymm
      · exact nodup_sub_len (l2 := [u, v]) (lst_nodup _ _) fun x hx => by
          rcases (mem_lst.mp hx).2 with e | e <;> rw [e] <;> simp
      · exact nodup_sub_len (l := [u, v]) (by simp [uv]) fun x hx => by
          simp only [List.mem_cons, List.mem_nil_iff, or_false] at hx
          rcases hx with e | e
          · rw [e]; exact mem_lst.mpr ⟨w.lt u um, .inl rfl⟩
          · rw [e]; exact mem_lst.mpr ⟨w.lt v vm, .inr rfl⟩
    rw [c2]
    rfl
theorem IsWay.notGreat (w : IsWay W ms ns) (m : MtOk W (abF ms)) (ml : ms.length = W.size) (ws : WebSym W) : ¬ Great W (abF ms) := fun g => by
  obtain ⟨h1, h2⟩ := w.turned m ml ws
  have := g.le _ h1
  omega
theorem fam_of {mt : Nat → Option Nat} (h : ∀ r, r < W.size → mt r = none → ∃ bs D, Vain W mt r bs D) : ∃ bs D, Fam W mt bs D := by
  have ch : ∀ r, ∃ p : (Nat → Nat) × (Nat → Prop), r < W.size → mt r = none → Vain W mt r p.1 p.2 := fun r => by
    by_cases c : r < W.size ∧ mt r = none
    · obtain ⟨b, d, v⟩ := h r c.1 c.2
      exact ⟨(b, d), fun _ _ => v⟩
    · exact ⟨(fun x => x, fun _ => False), fun h1 h2 => absurd ⟨h1, h2⟩ c⟩
  obtain ⟨g, hg⟩ := Classical.axiomOfChoice ch
  exact ⟨fun r => (g r).1, fun r => (g r).2, ⟨fun r h1 h2 => hg r h1 h2⟩⟩
end
/-- the fence of a net -/
def FenceP (W : Web) (x : Nat) : Prop := ¬ Missed W x ∧ ∃ u ∈ nbOf W x, Missed W u
noncomputable def fenceL (W : Web) : List Nat := lst W.size (FenceP W)
end OP
namespace OP
open PySem PySem.Spec PyProof.Rows L2 Evl
theorem ag_en {σ : L2.St} {H : Hp} {te : TE} {tr : TA} {R : Rn} {Q : List V → Hp → Prop} (h : EvN te σ H R) (k : ∀ v fs H1, Ex H H1 → (∀ p ∈ fs, H p = none) → R v fs H1 → tr σ H1 fun vs H2 => Q (v :: vs) H2) : tCons te tr σ H Q := h H (Ex.refl H) _ fun v fs H1 e fr r => k v fs H1 e fr r
end OP

/-! sorted(set(places)). -/
namespace OP
open PySem PySem.Spec PyProof.Rows L2
section
variable {P : Program} {w : World} {A : Around} {E : Value → Shared → Prop} {s : Shared}
/-- set(xs), xs a list of ints -/
theorem make_setI {l : Addr} {items : Array Value} (ns : List Int) {Q : Value → Shared → Prop} (hh : A.handled = none) (hl : s.heap.IsList l items) (hit : IntsAre items.toList ns) (few : ns.length < 4000)
    (h : ∀ (h' : Heap) (tk c : Nat), SetR w h' s.heap.objs.size (fun j => decide (j ∈ ns)) c → c ≤ ns.length → (∀ b o, s.heap.get? b = some o → h'.get? b = some o) → Q (.ref s.heap.objs.size) { s with heap := h', toks := tk }) :
    wpAny (model P w) A (call (.type "set") [.ref l]) Q E s := by
  have isz : items.size = ns.length := by
    have q := IntsAre.length hit
    rwa [Array.length_toList] at q
  have S0 := F.called_set
  obtain ⟨c, tl, hmro⟩ := S0.mro
  have hmade := S0.made
  have hsub := S0.sub
  refine wpAny_call (codeAny_of_tree ?_)
  show wpAny _ _ (callAny (.type "set") _) _ _ _
  refine wpAny_pure ⟨Code.quiet_builtin _ (by decide +kernel), codeAny_builtin F.entry_type_call ?_⟩
  rw [Around.under_plain (weight_type_call_type "set" [.ref l] []) rfl]
  have h1 := S0.notType
  have h2 := S0.canCreate
  have h3 := F.typeCall_set_1 (.ref l)
  repeat (any_goals (first | assumption | wp_step))
  refine codeAny_mono (code_set_led1 (.ref l) (E := E) (Q₁ := fun v s1 => v = .ref s.heap.objs.size ∧ s1 = { s with heap := s.heap.push (bareSet w) }) ⟨rfl, rfl⟩) fun r s1 hr => ?_
  match r, hr with
  | .error e, hr => exact hr
  | .ok (.ret v), hr =>
    obtain ⟨rfl, rfl⟩ := hr
    have at_ : (s.heap.push (bareSet w)).get? s.heap.objs.size = some (bareSet w) := Heap.get?_push_size _ rfl
    have ty : Shared.TypeIs { s with heap := s.heap.push (bareSet w) } (.ref s.heap.objs.size) "set" := ⟨_, at_, rfl⟩
    have i1 := S0.init.lookup
    have i2 := S0.init.bind (.ref s.heap.objs.size)
    repeat (any_goals (first | assumption | wp_step))
    refine codeAny_mono (codeAny_call_builtin (R := wants (fun v s2 => v = .none ∧ ∃ h' tk c, s2 = { s with heap := h', toks := tk } ∧ SetR w h' s.heap.objs.size (fun j => decide (j ∈ ns)) c ∧ c ≤ ns.length ∧
        (∀ b o, s.heap.get? b = some o → h'.get? b = some o)) E) S0.init.plain F.entry_set_init (check_set_init_1 ty ?_)) fun r2 s2 hr2 => ?_
    · obtain ⟨⟨oc, od, odt, osl⟩, hol, hcl, nl, hdl⟩ := hl
      dsimp only at hcl hdl
      subst hcl hdl
      have ll : (s.heap.push (bareSet w)).IsList l items := ⟨_, Heap.get?_push_of_some _ hol, rfl, nl, rfl⟩
      have s1 := F.sub_list_set
      have s2 := F.sub_list_frozenset
      have hol' := Heap.get?_push_of_some (bareSet w) hol
      have nd : (Value.type "list" == Value.type "dict") = false := by decide
      unfold Builtin.«set.__init__» noKeywords Builtin.Frozenset.updateFrom
      generalize hPI : pyIter = PI
      wp_walk
      subst hPI
      refine wpAny_pyIter_list ll (wpAny_bind (wpAny_runValue ?_))
      have lS : l < s.heap.objs.size := Heap.lt_size hol
      have sz : (s.heap.push (bareSet w)).objs.size = s.heap.objs.size + 1 := Heap.size_push ..
      have lI : l ≠ (s.heap.push (bareSet w)).objs.size := by rw [sz]; exact Nat.ne_of_lt (Nat.lt_succ_of_lt lS)
      refine set_update_ints ((Walks.list (by simp [hh]) _ l lI items).toS) s.heap.objs.size (by
          rw [sz]
          simp only [List.mem_cons, List.mem_singleton, List.not_mem_nil, or_false, not_or]
          exact ⟨Nat.ne_of_lt (Nat.lt_succ_self _), Nat.ne_of_gt lS⟩) ns isz (by unfold scanBound; omega) (fun i v hv => ?items) (items.size - 0) 0 _ (by omega) (Nat.zero_le _)
        ⟨⟨_, Heap.get?_push_size _ rfl, rfl, rfl⟩, ll.push _⟩ ⟨0, Nat.le_refl 0, setR_new_at (Heap.get?_push_of_some _ at_)⟩ ?hR
      case items =>
        have lt : i < ns.length := by rw [← isz]; exact (Array.getElem?_eq_some_iff.mp hv).1
        obtain ⟨t, e⟩ := PyProof.Rows.IntsAre.int_at hit i v (by rw [Array.getElem?_toList]; exact hv)
        refine ⟨ns[i], t, List.getElem?_eq_getElem lt, ?_⟩
        rw [e, List.getD_eq_getElem?_getD, List.getElem?_eq_getElem lt]
        rfl
      case hR =>
        intro s' c' m hc R
        obtain ⟨h', g', d', tk', os'⟩ := s'
        obtain rfl : g' = s.gens := m.gens
        obtain rfl : d' = s.drawn := m.drawn
        obtain rfl : os' = s.os := m.os
        show wpAny _ _ _ _ _ _
        refine wpAny_pure ?_
        show wpAny _ _ (ret Value.none) _ _ _
        rw [isz] at hc
        refine wpAny_pure ⟨rfl, h', tk', c', rfl, R, hc, fun b o e => ?_⟩
        have b0 : b < s.heap.objs.size := Heap.lt_size e
        refine m.heap b o ?_ (Heap.get?_push_of_some _ (Heap.get?_push_of_some _ e))
        rw [sz]
        simp only [List.mem_cons, List.mem_singleton, List.not_mem_nil, or_false, not_or]
        exact ⟨Nat.ne_of_lt b0, Nat.ne_of_lt (Nat.lt_succ_of_lt b0)⟩
    · match r2, hr2 with
      | .error e, hr2 => exact hr2
      | .ok (.ret v), hr2 =>
        obtain ⟨rfl, h', tk, c, rfl, R, hc, kp⟩ := hr2
        repeat (any_goals (first | assumption | wp_step))
        exact h _ _ _ R hc kp
      | .ok .next, hr2 => exact hr2.elim
      | .ok .brk, hr2 => exact hr2.elim
      | .ok .cont, hr2 => exact hr2.elim
  | .ok .next, hr => exact hr.elim
  | .ok .brk, hr => exact hr.elim
  | .ok .cont, hr => exact hr.elim
end
section
variable {X : Cx}
def rSetI (K : PySem.W.Frag) (w : World) : List V → Hp → VK → Prop := fun xs H Q => ∃ (l : Addr) (ns : List Int), xs = [V.ref l] ∧ SqL K H l (ns.map V.int) ∧ ns.length < 4000 ∧ ∀ a c, H a = none → c ≤ ns.length → Q (.ref a) (upd H a (SetO w a (fun j => decide (j ∈ ns)) c))
theorem cr_setI (hc : X.calm = true) : CallR X (.type "set") (rSetI X.K X.w) := by
  intro pins s σ H xs us Q I r h
  obtain ⟨l, ns, rfl, hl, few, q⟩ := h
  rw [Vals.ref1 r]
  obtain ⟨its, rv, pl, hz⟩ := I.list hl
  have hn : H s.heap.objs.size = none := I.hok.fresh (Nat.le_refl _)
  refine make_setI (P := X.prog) (w := X.w) ns (I.ok.hd hc) pl.isList (by simpa using rv.ints) few fun h' tk c R hc k => ?_
  exact ⟨.ref s.heap.objs.size, upd H s.heap.objs.size (SetO X.w s.heap.objs.size (fun j => decide (j ∈ ns)) c), I.laid (t' := tk) k (Nat.le_refl _) (setO_new R), rfl, q _ c hn hc⟩
end
open Evl in
/-- sorted(set(ns)) of a rising list is the same -/
theorem el_sortedSet {K : PySem.W.Frag} {w : World} {σ : L2.St} {H : Hp} {te : TE} {l : Addr} {ns : List Nat} (h : Ev te σ H (.ref l)) (hl : Ints H l ns) (few : ns.length < 64) (up : ns.Pairwise (· < ·)) : EvL (tCB (rSortedSet w) (tCons (tCB (rSetI K w) (tCons te tNil)) tNil)) σ H (ns.map vn) := fun H1 e Q q =>
  h H1 e _ fun H2 e2 => ⟨l, ns.map fun n : Nat => (n : Int), rfl, sq_of (by rw [List.map_map]; exact e2 _ _ (e _ _ hl)), by rw [List.length_map]; omega, fun a c ha hc => by
    rw [List.length_map] at hc
    refine ⟨a, _, c, rfl, upd_same, by omega, fun ms p pw mem len hp => ?_⟩
    have e3 : Ex H2 (upd H2 a (SetO w a (fun j => decide (j ∈ ns.map fun n : Nat => (n : Int))) c)) := Ex.new ha
    have eq : ms = ns.map fun n : Nat => (n : Int) := by
      have nd2 : (ns.map fun n : Nat => (n : Int)).Pairwise (· < ·) := by
        rw [List.pairwise_map]
        exact up.imp fun h => by omega
      refine List.Perm.eq_of_pairwise (le := (· < ·)) (fun a b _ _ h1 h2 => by omega) pw nd2 ((List.perm_ext_iff_of_nodup (pw.imp fun h => by omega) (nd2.imp fun h => by omega)).mpr fun x => ?_)
      rw [mem, decide_eq_true_iff]
    have e4 := e3.trans (Ex.new (o := .lst (ms.map V.int)) hp)
    refine q p _ (fresh_back (e2.trans e3) hp) (e2.trans e4) ?_
    rw [upd_same, eq, List.map_map]
    rfl⟩
end OP

/-! The odd parts behind the fence, counted. -/
namespace OP
structure GreatF (W : Web) (mt : Nat → Option Nat) : Prop where
  g : Great W mt
  f : ∃ bs D, Fam W mt bs D
theorem Lnk.mono {W : Web} {C C' : Nat → Prop} (h : ∀ x, C x → C' x) {x t : Nat} (l : Lnk W C x t) : Lnk W C' x t := by
  induction l with
  | refl c => exact .refl (h _ c)
  | step c n _ ih => exact .step (h _ c) n ih
theorem Lnk.start {W : Web} {C : Nat → Prop} {x t : Nat} (l : Lnk W C x t) : C x := by
  cases l with
  | refl c => exact c
  | step c _ _ => exact c
theorem Lnk.snoc {W : Web} {C : Nat → Prop} {x t u : Nat} (l : Lnk W C x t) : u ∈ nbOf W t → C u → Lnk W C x u := by
  induction l with
  | refl c => exact fun n cu => .step c n (.refl cu)
  | step c n _ ih => exact fun n2 cu => .step c n (ih n2 cu)
theorem Lnk.back {W : Web} (ws : WebSym W) {C : Nat → Prop} {x t : Nat} (l : Lnk W C x t) : Lnk W C t x := by
  induction l with
  | refl c => exact .refl c
  | step c n _ ih => exact ih.snoc (ws.sym _ _ n) c
theorem reach_trans {nb : Nat → List Nat} {th : Nat → Bool} {a b c : Nat} (h1 : Reach nb th a b) (h2 : Reach nb th b c) : Reach nb th a c := by
  induction h2 with
  | base => exact h1
  | step _ n t ih => exact .step ih n t
theorem Lnk.reach {W : Web} {C : Nat → Prop} {th : Nat → Bool} (h : ∀ x, C x → th x = true) {x t : Nat} (l : Lnk W C x t) : Reach (nbOf W) th x t := by
  induction l with
  | refl _ => exact .base
  | step c n l ih => exact reach_trans (.step .base n (h _ l.start)) ih
theorem reach_back {W : Web} (ws : WebSym W) {th : Nat → Bool} {a b : Nat} (ha : th a = true) (h : Reach (nbOf W) th a b) : Reach (nbOf W) th b a ∧ th b = true := by
  induction h with
  | base => exact ⟨.base, ha⟩
  | step _ n t ih => exact ⟨reach_trans (.step .base (ws.sym _ _ n) ih.2) ih.1, t⟩
theorem Fam.conn {W : Web} {mt : Nat → Option Nat} {bs : Nat → Nat → Nat} {D : Nat → Nat → Prop} (f : Fam W mt bs D) (m : MtOk W mt) (ws : WebSym W) : ∃ cl, CS W mt (FD W mt D) cl ∧ ∀ x, FD W mt D x → Lnk W (fun y => FD W mt D y ∧ cl y = cl x) x (cl x) := by
  obtain ⟨cl, c, eq⟩ := f.cs m ws
  refine ⟨cl, c, fun x ⟨r, h1, h2, h3⟩ => ?_⟩
  have := (f.v r h1 h2).conn x h3
  rw [eq r x h1 h2 h3]
  exact this.mono fun y ⟨d, e⟩ => ⟨⟨r, h1, h2, d⟩, by rw [eq r y h1 h2 d, e]⟩
theorem flat_count {B : Nat → Bool} : ∀ {R : List (List Nat)}, (∀ r ∈ R, (r.filter B).length = r.length % 2) → (R.flatten.filter B).length = (R.filter fun r => decide (r.length % 2 = 1)).length
  | [], _ => rfl
  | r :: R, h => by
    rw [List.flatten_cons, List.filter_append, List.length_append, h r List.mem_cons_self, flat_count fun r' hr => h r' (List.mem_cons_of_mem _ hr), List.filter_cons]
    by_cases c : r.length % 2 = 1
    · simp [c]
      omega
    · simp [c]
      omega
theorem parts_flat {W : Web} (ws : WebSym W) {th : Nat → Bool} (lt : ∀ x, th x = true → x < W.size) : ∀ i, i ≤ W.size → ((partsPre W.size (nbOf W) th i).flatten.Nodup ∧ (∀ x ∈ (partsPre W.size (nbOf W) th i).flatten, th x = true) ∧ ∀ x, x < i → th x = true → x ∈ (partsPre W.size (nbOf W) th i).flatten)
  | 0, _ => ⟨.nil, fun x hx => (nomatch hx), fun x hx => absurd hx (Nat.not_lt_zero _)⟩
  | i + 1, h => by
    obtain ⟨h1, h2, h3⟩ := parts_flat ws lt i (by omega)
    by_cases c : th i = true ∧ i ∉ (partsPre W.size (nbOf W) th i).flatten
    · rw [partsPre_yes c, List.flatten_append]
      simp only [List.flatten_cons, List.flatten_nil, List.append_nil]
      refine ⟨List.nodup_append.mpr ⟨h1, partL_nodup _ _ _ _, fun a ha b hb e => ?_⟩, fun x hx => ?_, fun x hx ht => ?_⟩
      · subst e
        obtain ⟨r, hr, ar⟩ := List.mem_flatten.mp ha
        obtain ⟨s, hs, ts, rfl⟩ := partsPre_mem i (by omega) r hr
        obtain ⟨_, ra⟩ := mem_partL.mp ar
        obtain ⟨_, rb⟩ := mem_partL.mp hb
        have := reach_trans ra (reach_back ws c.1 rb).1
        exact c.2 (List.mem_flatten.mpr ⟨_, hr, mem_partL.mpr ⟨by omega, this⟩⟩)
      · rcases List.mem_append.mp hx with e | e
        · exact h2 x e
        · exact (reach_back ws c.1 (mem_partL.mp e).2).2
      · by_cases e : x = i
        · exact List.mem_append_right _ (mem_partL.mpr ⟨by omega, by rw [e]; exact .base⟩)
        · exact List.mem_append_left _ (h3 x (by omega) ht)
    · rw [partsPre_no c]
      refine ⟨h1, h2, fun x hx ht => ?_⟩
      by_cases e : x = i
      · rw [e] at ht ⊢
        exact Classical.byContradiction fun n => c ⟨ht, n⟩
      · exact h3 x (by omega) ht
theorem fence_th {W : Web} {x : Nat} : thOf W.size (fenceL W) x = true ↔ x < W.size ∧ ¬ FenceP W x := by
  unfold thOf
  rw [Bool.and_eq_true, decide_eq_true_iff, Bool.not_eq_true', decide_eq_false_iff_not, fenceL, mem_lst]
  exact and_congr_right fun h => ⟨fun n f => n ⟨h, f⟩, fun n f => n f.2⟩
theorem GreatF.count {W : Web} {mt : Nat → Option Nat} (gf : GreatF W mt) (ws : WebSym W) : ((partsL W.size (nbOf W) (thOf W.size (fenceL W))).filter fun r => decide (r.length % 2 = 1)).length = (fenceL W).length + ex W mt := by
  obtain ⟨bs, D0, f⟩ := gf.f
  have m := gf.g.m
  obtain ⟨cl, c, conn⟩ := f.conn m ws
  obtain ⟨D, hD⟩ : ∃ D, D = FD W mt D0 := ⟨_, rfl⟩
  rw [← hD] at c conn
  have dm : ∀ x, D x ↔ Missed W x := fun x => by rw [hD]; exact f.missed m ws
  have exD : ∀ x, x < W.size → mt x = none → D x := fun x hx e => by rw [hD]; exact ⟨x, hx, e, (f.v x hx e).rD⟩
  have fa : ∀ x, FenceP W x ↔ AA mt D x := fun x => by
    constructor
    · rintro ⟨h1, u, hu, h2⟩
      have nd : ¬ D x := fun h => h1 ((dm x).mp h)
      rcases c.nbr u x ((dm u).mpr h2) (ws.sym _ _ hu) with ⟨d, _⟩ | h
      · exact absurd d nd
      · exact h
    · rintro ⟨nd, z, e, dz⟩
      exact ⟨fun h => nd ((dm x).mpr h), z, m.nb x z e, (dm z).mp dz⟩
  have bsum := c.bases m ws
  have e1 : cnt W.size (fun x => D x ∧ mt x = none) = ex W mt := by
    apply Nat.le_antisymm
    · exact cnt_le fun x _ h => h.2
    · exact cnt_le fun x hx h => ⟨exD x hx h, h⟩
  have e2 : cnt W.size (AA mt D) = (fenceL W).length := by
    apply Nat.le_antisymm
    · exact cnt_le fun x _ h => (fa x).mpr h
    · exact cnt_le fun x _ h => (fa x).mp h
  have hB : ∀ x, Decidable (D x ∧ cl x = x) := fun x => Classical.propDecidable _
  obtain ⟨B, hBd⟩ : ∃ B : Nat → Bool, ∀ x, B x = true ↔ D x ∧ cl x = x := ⟨fun x => @decide _ (hB x), fun x => ⟨fun h => @of_decide_eq_true _ (hB x) h, fun h => @decide_eq_true _ (hB x) h⟩⟩
  obtain ⟨th, hth⟩ : ∃ th, th = thOf W.size (fenceL W) := ⟨_, rfl⟩
  rw [← hth]
  have tt : ∀ x, th x = true ↔ x < W.size ∧ ¬ AA mt D x := fun x => by rw [hth, fence_th, fa]
  have tD : ∀ x, D x → th x = true := fun x hx => (tt x).mpr ⟨c.lt x hx, fun h => h.1 hx⟩
  have row : ∀ r ∈ partsL W.size (nbOf W) th, (r.filter B).length = r.length % 2 := fun r hr => by
    obtain ⟨s, hs, ts, rfl⟩ := partsPre_mem W.size (Nat.le_refl _) r hr
    by_cases ds : D s
    · have key : ∀ y, Reach (nbOf W) th s y ↔ D y ∧ cl y = cl s := fun y => by
        constructor
        · intro h
          induction h with
          | base => exact ⟨ds, rfl⟩
          | @step x y _ n t ih =>
            rcases c.nbr x y ih.1 n with ⟨d, e⟩ | h
            · exact ⟨d, e.trans ih.2⟩
            · exact absurd h ((tt y).mp t).2
        · rintro ⟨dy, e⟩
          have l1 := (conn s ds).reach (th := th) fun x hx => tD x hx.1
          have l2 := ((conn y dy).back ws).reach (th := th) fun x hx => tD x hx.1
          rw [e] at l2
          exact reach_trans l1 l2
      have dcl := c.cD s ds
      have ecl := c.cc s ds
      have odd := c.odd m ws dcl ecl
      have same : (partL W.size (nbOf W) th s).length = (lst W.size fun x => D x ∧ cl x = cl s).length := by
        apply Nat.le_antisymm
        · exact nodup_sub_len (partL_nodup _ _ _ _) fun x hx => by
            obtain ⟨h1, h2⟩ := mem_partL.mp hx
            exact mem_lst.mpr ⟨h1, (key x).mp h2⟩
        · exact nodup_sub_len (lst_nodup _ _) fun x hx => by
            obtain ⟨h1, h2⟩ := mem_lst.mp hx
            exact mem_partL.mpr ⟨h1, (key x).mpr h2⟩
      rw [same, odd]
      apply Nat.le_antisymm
      · exact nodup_sub_len (l2 := [cl s]) ((partL_nodup _ _ _ _).filter _) fun x hx => by
          rw [List.mem_filter, mem_partL] at hx
          obtain ⟨⟨_, h1⟩, h2⟩ := hx
          have := ((key x).mp h1).2
          rw [((hBd x).mp h2).2] at this
          rw [this]
          exact List.mem_cons_self
      · exact nodup_sub_len (l := [cl s]) (by simp) fun x hx => by
          rw [List.mem_singleton.mp hx, List.mem_filter, mem_partL]
          exact ⟨⟨c.lt _ dcl, (key _).mpr ⟨dcl, ecl⟩⟩, (hBd _).mpr ⟨dcl, ecl⟩⟩
    · have out : ∀ y, Reach (nbOf W) th s y → ¬ D y ∧ th y = true := fun y h => by
        induction h with
        | base => exact ⟨ds, ts⟩
        | @step x y _ n t ih =>
          refine ⟨fun dy => ?_, t⟩
          rcases c.nbr y x dy (ws.sym _ _ n) with ⟨d, _⟩ | h
          · exact ih.1 d
          · exact ((tt x).mp ih.2).2 h
      have none_ : ((partL W.size (nbOf W) th s).filter B) = [] := List.filter_eq_nil_iff.mpr fun x hx hb => (out x (mem_partL.mp hx).2).1 ((hBd x).mp hb).1
      have ev := even_pairs _ (l := partL W.size (nbOf W) th s) (f := mt) (Nat.le_refl _) (partL_nodup _ _ _ _) fun x hx => by
        obtain ⟨h1, h2⟩ := mem_partL.mp hx
        obtain ⟨nd, tx⟩ := out x h2
        cases e : mt x with
        | none => exact absurd (exD x h1 e) nd
        | some y =>
          have n := m.nb x y e
          have ny : ¬ D y := fun dy => by
            rcases c.nbr y x dy (ws.sym _ _ n) with ⟨d, _⟩ | h
            · exact nd d
            · exact ((tt x).mp tx).2 h
          have yW := ws.lt x y n
          have ty : th y = true := (tt y).mpr ⟨yW, fun ⟨_, z, e2, dz⟩ => by
            rw [m.inv x y e] at e2
            cases e2
            exact nd dz⟩
          exact ⟨y, mem_partL.mpr ⟨yW, .step h2 n ty⟩, rfl, m.inv x y e, ws.irr x y n⟩
      rw [none_, ev]
      rfl
  rw [← flat_count row]
  obtain ⟨p1, p2, p3⟩ := parts_flat ws (th := th) (fun x h => ((tt x).mp h).1) W.size (Nat.le_refl _)
  have e3 : ((partsL W.size (nbOf W) th).flatten.filter B).length = cnt W.size (fun x => D x ∧ cl x = x) := by
    apply Nat.le_antisymm
    · exact nodup_sub_len (p1.filter _) fun x hx => by
        rw [List.mem_filter] at hx
        have := (hBd x).mp hx.2
        exact mem_lst.mpr ⟨c.lt x this.1, this⟩
    · exact nodup_sub_len (lst_nodup _ _) fun x hx => by
        obtain ⟨h1, h2⟩ := mem_lst.mp hx
        rw [List.mem_filter]
        exact ⟨p3 x h1 (tD x h2.1), (hBd x).mpr h2⟩
  rw [e3, bsum, e1, e2]
  omega
end OP

/-! Pairings and mates; data compared. -/
namespace OP
open PySem PySem.Spec PyProof.Rows L2 Evl
theorem near_in {n : Nat} {ps : List (Nat × Nat)} (tok : TiesOk n ps) {a b : Nat} (lt : a < b) (h : b ∈ nbOf (webOf n ps) a) : (a, b) ∈ ps := by
  have bn : b < n := (webSym_of tok).lt a b h
  obtain ⟨_, h⟩ := (near_tie tok (show a < n by omega)).mp h
  unfold tieOf at h
  rw [if_pos lt] at h
  exact h
section
variable {W : Web} {ms : List (Option Nat)}
theorem pairsOf_at {ms : List (Option Nat)} {p : Nat × Nat} : p ∈ pairsOf ms ↔ abF ms p.1 = some p.2 ∧ p.1 < p.2 := by
  rw [mem_pairsOf]
  refine and_congr_left fun _ => ⟨abF_at, fun h => ?_⟩
  unfold abF at h
  cases e : ms[p.1]? with
  | none => rw [e] at h; cases h
  | some x =>
    rw [e] at h
    exact congrArg some h
theorem pairsOf_ok (m : MtOk W (abF ms)) (ws : WebSym W) : PairsOk W (pairsOf ms) := by
  refine ⟨fun p hp => ?_, (pairsOf_sorted ms).imp_of_mem fun {p q} hp hq lt => ?_⟩
  · obtain ⟨h1, h2⟩ := pairsOf_at.mp hp
    have := m.nb _ _ h1
    exact ⟨h2, ws.lt _ _ this, this⟩
  · obtain ⟨p1, p2⟩ := pairsOf_at.mp hp
    obtain ⟨q1, q2⟩ := pairsOf_at.mp hq
    refine ⟨by omega, by omega, fun e => ?_, fun e => ?_⟩
    · rw [← e, m.inv _ _ p1] at q1
      have := Option.some.inj q1
      omega
    · rw [← e] at q1
      have := m.inj p1 q1
      omega
theorem in_pairs (m : MtOk W (abF ms)) (ws : WebSym W) {x : Nat} : (∃ q ∈ pairsOf ms, x = q.1 ∨ x = q.2) ↔ abF ms x ≠ none := by
  constructor
  · rintro ⟨q, hq, e⟩
    obtain ⟨h1, h2⟩ := pairsOf_at.mp hq
    rcases e with e | e
    · rw [e, h1]; exact fun h => nomatch h
    · rw [e, m.inv _ _ h1]; exact fun h => nomatch h
  · intro h
    cases e : abF ms x with
    | none => exact absurd e h
    | some y =>
      have ne := ws.irr _ _ (m.nb _ _ e)
      by_cases lt : x < y
      · exact ⟨(x, y), pairsOf_at.mpr ⟨e, lt⟩, .inl rfl⟩
      · exact ⟨(y, x), pairsOf_at.mpr ⟨m.inv _ _ e, by show y < x; omega⟩, .inr rfl⟩
end
/-- the places in no pair -/
def leftQ (n : Nat) (qs : List (Nat × Nat)) : List Nat := (List.range n).filter fun x => !decide (∃ q ∈ qs, x = q.1 ∨ x = q.2)
theorem leftQ_mem {n : Nat} {qs : List (Nat × Nat)} {x : Nat} : x ∈ leftQ n qs ↔ x < n ∧ ¬ ∃ q ∈ qs, x = q.1 ∨ x = q.2 := by
  unfold leftQ
  rw [List.mem_filter, List.mem_range]
  simp
theorem leftQ_nodup (n : Nat) (qs : List (Nat × Nat)) : (leftQ n qs).Nodup := List.nodup_range.filter _
theorem leftQ_few (n : Nat) (qs : List (Nat × Nat)) : (leftQ n qs).length ≤ n := few_of (leftQ_nodup n qs) fun x hx => (leftQ_mem.mp hx).1
theorem leftQ_len {W : Web} {qs : List (Nat × Nat)} (ok : PairsOk W qs) : (leftQ W.size qs).length + 2 * qs.length = W.size := by
  have nd : (qs.map (·.1) ++ qs.map (·.2)).Nodup := by
    refine List.nodup_append.mpr ⟨?_, ?_, fun a ha b hb e => ?_⟩
    · unfold List.Nodup
      rw [List.pairwise_map]
      exact ok.apart.imp fun h => h.1
    · unfold List.Nodup
      rw [List.pairwise_map]
      exact ok.apart.imp fun h => h.2.2.2
    · obtain ⟨p, hp, rfl⟩ := List.mem_map.mp ha
      obtain ⟨q, hq, rfl⟩ := List.mem_map.mp hb
      have tp := (ok.tie p hp).1
      obtain ⟨i, hi⟩ := List.getElem?_of_mem hp
      obtain ⟨j, hj⟩ := List.getElem?_of_mem hq
      obtain ⟨hi1, hi2⟩ := List.getElem?_eq_some_iff.mp hi
      obtain ⟨hj1, hj2⟩ := List.getElem?_eq_some_iff.mp hj
      by_cases c : i = j
      · subst c
        rw [hi] at hj
        cases hj
        omega
      · rcases Nat.lt_or_gt_of_ne c with c | c
        · have := List.pairwise_iff_getElem.mp ok.apart i j hi1 hj1 c
          rw [hi2, hj2] at this
          exact this.2.1 e
        · have := List.pairwise_iff_getElem.mp ok.apart j i hj1 hi1 c
          rw [hi2, hj2] at this
          exact this.2.2.1 e.symm
  have mem : ∀ x, x ∈ qs.map (·.1) ++ qs.map (·.2) ↔ ∃ q ∈ qs, x = q.1 ∨ x = q.2 := fun x => by
    rw [List.mem_append, List.mem_map, List.mem_map]
    constructor
    · rintro (⟨q, hq, e⟩ | ⟨q, hq, e⟩)
      · exact ⟨q, hq, .inl e.symm⟩
      · exact ⟨q, hq, .inr e.symm⟩
    · rintro ⟨q, hq, e | e⟩
      · exact .inl ⟨q, hq, e.symm⟩
      · exact .inr ⟨q, hq, e.symm⟩
  have all : (leftQ W.size qs ++ (qs.map (·.1) ++ qs.map (·.2))).Nodup := List.nodup_append.mpr ⟨leftQ_nodup _ _, nd, fun a ha b hb e => by
    subst e
    exact (leftQ_mem.mp ha).2 ((mem a).mp hb)⟩
  have le := few_of (n := W.size) all fun x hx => by
    rcases List.mem_append.mp hx with h | h
    · exact (leftQ_mem.mp h).1
    · obtain ⟨q, hq, e⟩ := (mem x).mp h
      have := ok.tie q hq
      omega
  have ge : (List.range W.size).length ≤ _ := nodup_sub_len (l2 := leftQ W.size qs ++ (qs.map (·.1) ++ qs.map (·.2))) List.nodup_range fun x hx => by
    rw [List.mem_append, leftQ_mem, mem]
    have := List.mem_range.mp hx
    by_cases c : ∃ q ∈ qs, x = q.1 ∨ x = q.2
    · exact .inr c
    · exact .inl ⟨this, c⟩
  rw [List.length_range] at ge
  rw [List.length_append, List.length_append, List.length_map, List.length_map] at le ge
  omega
theorem leftQ_ex {W : Web} {ms : List (Option Nat)} (m : MtOk W (abF ms)) (ws : WebSym W) : (leftQ W.size (pairsOf ms)).length = ex W (abF ms) := by
  apply Nat.le_antisymm
  · exact nodup_sub_len (leftQ_nodup _ _) fun x hx => by
      obtain ⟨h1, h2⟩ := leftQ_mem.mp hx
      exact mem_lst.mpr ⟨h1, Classical.byContradiction fun h => h2 ((in_pairs m ws).mpr h)⟩
  · exact nodup_sub_len (lst_nodup _ _) fun x hx => by
      obtain ⟨h1, h2⟩ := mem_lst.mp hx
      exact leftQ_mem.mpr ⟨h1, fun h => (in_pairs m ws).mp h h2⟩
theorem Great.same {W : Web} {mt mt2 : Nat → Option Nat} (g : Great W mt) (g2 : Great W mt2) : ex W mt = ex W mt2 := Nat.le_antisymm (g.le _ g2.m) (g2.le _ g.m)
section
variable {K : PySem.W.Frag} {σ : L2.St} {H : Hp} {te ta tb : TE}
theorem dat_int {G : Hp} (i : Int) : DatV K G (.int i) := ⟨.int i, .int _, by simp [PyData.canLay0], by simp [PyData.depth]⟩
theorem pD_shaped1 (p : Nat × Nat) : SeqAt.shaped (pD p) = true := by
  show (PyData.canLay0 (pD p) && decide (PyData.depth (pD p) ≤ 64)) = true
  rw [pD_lay, decide_eq_true (Nat.le_trans (pD_depth p) (by decide))]
  rfl
/-- xs[-1] == (i, j) -/
theorem rv_eqPr {a b : Addr} {p q : Nat × Nat} (h1 : Pr H a p) (h2 : Pr H b q) : RV (rEqD K) (.ref a) (.ref b) H (.bl (decide (p = q))) := rv_eqD (fun _ e => ⟨dp_pr (e _ _ h1), dp_pr (e _ _ h2)⟩) (pD_shaped1 _) (pD_shaped1 _) (pD_eqv _ _)
theorem rv_eqSame {a b : Addr} {xs : List V} (h1 : H a = some (.lst xs)) (h2 : H b = some (.lst xs)) (h : ∀ v ∈ xs, DatV K H v) : RV (rEqD K) (.ref a) (.ref b) H (.bl true) := by
  obtain ⟨ds, g1, g2, g3⟩ := dat_all h
  have lay : PyData.canLay0 (.list ds) = true := by
    simp only [PyData.canLay0]
    exact g2
  have dp : PyData.depth (.list ds) ≤ 64 := by
    simp only [PyData.depth]
    omega
  have sh : SeqAt.shaped (.list ds) = true := by
    show (PyData.canLay0 (.list ds) && decide (PyData.depth (.list ds) ≤ 64)) = true
    rw [Bool.and_eq_true]
    exact ⟨lay, decide_eq_true dp⟩
  exact rv_eqD (b := true) (fun H1 e => ⟨.lst (sq_of (e _ _ h1)) (dpAll_go e g1), .lst (sq_of (e _ _ h2)) (dpAll_go e g1)⟩) sh sh (PySem.SeqAt.eqv_refl _ lay)
theorem dat_nats {G : Hp} {ns : List Nat} {i : Int} : ∀ v ∈ ns.map vn ++ [V.int i], DatV K G v := fun v hv => by
  rcases List.mem_append.mp hv with h | h
  · obtain ⟨x, _, rfl⟩ := List.mem_map.mp h
    exact dat_int _
  · rw [List.mem_singleton.mp h]
    exact dat_int _
end
end OP

/-! The mates of a pairing, as a function. -/
namespace OP
section
variable {W : Web} {qs : List (Nat × Nat)}
theorem abF_mateL {x : Nat} (h : x < W.size) : abF (mateL W.size qs) x = mateOf qs x := abF_at (mateL_get _ h)
theorem abF_mateL_out {x : Nat} (h : ¬ x < W.size) : abF (mateL W.size qs) x = none := by
  unfold abF
  rw [List.getElem?_eq_none (by rw [mateL_len]; omega)]
  rfl
theorem tie_lt (ok : PairsOk W qs) {x y : Nat} (h : tieOf x y ∈ qs) : x < W.size ∧ y < W.size := by
  obtain ⟨h1, h2, _⟩ := ok.tie _ h
  rcases tieOf_cases x y with ⟨e, _⟩ | ⟨e, _⟩ <;> rw [e] at h1 h2 <;> dsimp only at h1 h2 <;> omega
theorem mates_iff (ok : PairsOk W qs) {x y : Nat} : abF (mateL W.size qs) x = some y ↔ x ≠ y ∧ tieOf x y ∈ qs := by
  by_cases c : x < W.size
  · rw [abF_mateL c, mate_iff ok]
  · rw [abF_mateL_out c]
    exact ⟨fun h => (nomatch h), fun h => absurd (tie_lt ok h.2).1 c⟩
theorem mtOk_mates (ok : PairsOk W qs) (ws : WebSym W) : MtOk W (abF (mateL W.size qs)) := by
  refine ⟨fun x y h => ?_, fun x y h => ?_⟩
  · obtain ⟨h1, h2⟩ := (mates_iff ok).mp h
    exact (mates_iff ok).mpr ⟨Ne.symm h1, by rw [tieOf_comm]; exact h2⟩
  · obtain ⟨h1, h2⟩ := (mates_iff ok).mp h
    have t := (ok.tie _ h2).2.2
    rcases tieOf_cases x y with ⟨e, _⟩ | ⟨e, _⟩ <;> rw [e] at t
    · exact t
    · exact ws.sym _ _ t
theorem leftQ_none (ok : PairsOk W qs) {x : Nat} : x ∈ leftQ W.size qs ↔ x < W.size ∧ abF (mateL W.size qs) x = none := by
  rw [leftQ_mem]
  refine and_congr_right fun h => ?_
  rw [abF_mateL h, mateOf_none]
  exact ⟨fun n p hp => ⟨fun e => n ⟨p, hp, .inl e.symm⟩, fun e => n ⟨p, hp, .inr e.symm⟩⟩, fun n ⟨p, hp, e⟩ => e.elim (fun e => (n p hp).1 e.symm) fun e => (n p hp).2 e.symm⟩
theorem leftQ_exM (ok : PairsOk W qs) : (leftQ W.size qs).length = ex W (abF (mateL W.size qs)) := by
  apply Nat.le_antisymm
  · exact nodup_sub_len (leftQ_nodup _ _) fun x hx => mem_lst.mpr ((leftQ_none ok).mp hx)
  · exact nodup_sub_len (lst_nodup _ _) fun x hx => (leftQ_none ok).mpr (mem_lst.mp hx)
theorem srtP_up (ok : PairsOk W qs) : (srtP qs).Pairwise fun a b => a.1 < b.1 := by
  have ap := (ok.perm (srtP_perm qs).symm).apart
  have le := srtP_le qs
  refine List.Pairwise.imp (fun {a b} h => ?_) (List.pairwise_and_iff.mpr ⟨ap, le⟩)
  rcases leP_iff.mp h.2 with e | e
  · exact e
  · exact absurd e.1 h.1.1
theorem leftQ_perm {n : Nat} {a b : List (Nat × Nat)} (h : a.Perm b) : leftQ n a = leftQ n b := by
  unfold leftQ
  refine List.filter_congr fun x _ => congrArg not (decide_eq_decide.mpr ?_)
  constructor <;> rintro ⟨q, hq, e⟩
  · exact ⟨q, h.mem_iff.mp hq, e⟩
  · exact ⟨q, h.mem_iff.mpr hq, e⟩
end
end OP

/-! Covers, plainly. -/
namespace OP
theorem Great.free {W : Web} {mt : Nat → Option Nat} (g : Great W mt) (ws : WebSym W) {u v : Nat} (hu : mt u = none) (hv : mt v = none) : v ∉ nbOf W u := fun h => by
  have ne := ws.irr u v h
  have uW := ws.lt v u (ws.sym u v h)
  obtain ⟨f, hf⟩ : ∃ f, f = upo (upo mt u (some v)) v (some u) := ⟨_, rfl⟩
  have fu : f u = some v := by rw [hf, upo_ne ne, upo_eq]
  have fv : f v = some u := by rw [hf, upo_eq]
  have fo : ∀ x, x ≠ u → x ≠ v → f x = mt x := fun x a b => by rw [hf, upo_ne b, upo_ne a]
  have m : MtOk W f := by
    refine ⟨fun x y e => ?_, fun x y e => ?_⟩
    · by_cases a : x = u
      · rw [a, fu] at e; cases e; rw [a]; exact fv
      · by_cases b : x = v
        · rw [b, fv] at e; cases e; rw [b]; exact fu
        · rw [fo x a b] at e
          have e2 := g.m.inv x y e
          rw [fo y (fun z => by rw [z, hu] at e2; cases e2) (fun z => by rw [z, hv] at e2; cases e2)]
          exact e2
    · by_cases a : x = u
      · rw [a, fu] at e; cases e; rw [a]; exact h
      · by_cases b : x = v
        · rw [b, fv] at e; cases e; rw [b]; exact ws.sym _ _ h
        · rw [fo x a b] at e
          exact g.m.nb x y e
  have := cnt_lt (n := W.size) (p := fun x => f x = none) (q := fun x => mt x = none) (fun x _ e => by
    by_cases a : x = u
    · rw [a]; exact hu
    · by_cases b : x = v
      · rw [b]; exact hv
      · rw [← fo x a b]; exact e) uW hu (by rw [fu]; exact fun z => nomatch z)
  have := g.le f m
  unfold ex at this
  omega
/-- the search for a cover -/
structure CI (W : Web) (mt ab : Nat → Option Nat) (sd : Nat → Nat) (ks ws : List Nat) (O : Nat → Prop) : Prop where
  w0 : ∀ x ∈ ws, sd x = 0 ∧ x < W.size ∧ x ∉ ks
  wn : ws.Nodup
  path : ∀ x, sd x = 0 → (x ∈ ks ∨ x ∈ ws) → ∃ r L, PP mt ab x r L ∧ L.Nodup ∧ mt r = none ∧ ∀ y ∈ L, (sd y = 0 ∧ (y ∈ ks ∨ y ∈ ws)) ∨ (sd y = 1 ∧ y ∈ ks)
  one : ∀ y, sd y = 1 → y ∈ ks → ∃ z, mt y = some z ∧ (z ∈ ks ∨ z ∈ ws)
  tie : ∀ v y, ab v = some y → y ∈ nbOf W v
  done : ∀ x, sd x = 0 → x ∈ ks → O x ∨ ∀ u ∈ nbOf W x, u ∈ ks
  free : ∀ x, x < W.size → sd x = 0 → mt x = none → x ∈ ks ∨ x ∈ ws
  mate : ∀ x, sd x = 0 → (x ∈ ks ∨ x ∈ ws) → ∀ w, mt x = some w → w ∈ ks
section
variable {W : Web} {mt ab : Nat → Option Nat} {sd : Nat → Nat} {ks ws : List Nat} {O : Nat → Prop}
theorem ci_init (h : ∀ x, x ∈ ws ↔ x < W.size ∧ sd x = 0 ∧ mt x = none) (nd : ws.Nodup) : CI W mt (fun _ => none) sd [] ws (fun _ => False) :=
  ⟨fun x hx => ⟨((h x).mp hx).2.1, ((h x).mp hx).1, fun z => nomatch z⟩, nd, fun x _ hx => ⟨x, [x], .nil, by simp, ((h x).mp (hx.resolve_left (fun z => nomatch z))).2.2, fun y hy => by
    rw [List.mem_singleton.mp hy]
    have hx := hx.resolve_left (fun z => nomatch z)
    exact .inl ⟨((h x).mp hx).2.1, .inr hx⟩⟩, fun _ _ h => (nomatch h), fun _ _ h => (nomatch h), fun _ _ h => (nomatch h), fun x h1 h2 h3 => .inr ((h x).mpr ⟨h1, h2, h3⟩), fun x _ hx w e => by
    have hx := hx.resolve_left (fun z => nomatch z)
    rw [((h x).mp hx).2.2] at e
    cases e⟩
/-- here is met -/
theorem CI.pop {h : Nat} (c : CI W mt ab sd ks (ws ++ [h]) (fun _ => False)) : sd h = 0 ∧ h < W.size ∧ h ∉ ks ∧ CI W mt ab sd (addK ks h) ws (fun x => x = h) := by
  obtain ⟨h0, hW, hk⟩ := c.w0 h (by simp)
  have nd := List.nodup_append.mp c.wn
  have hw : h ∉ ws := fun z => nd.2.2 h z h (by simp) rfl
  have same : ∀ x, (x ∈ addK ks h ∨ x ∈ ws) ↔ (x ∈ ks ∨ x ∈ ws ++ [h]) := fun x => by
    rw [mem_addK, List.mem_append, List.mem_singleton]
    constructor
    · rintro ((a | a) | a)
      · exact .inl a
      · exact .inr (.inr a)
      · exact .inr (.inl a)
    · rintro (a | a | a)
      · exact .inl (.inl a)
      · exact .inr a
      · exact .inl (.inr a)
  refine ⟨h0, hW, hk, fun x hx => ?_, nd.1, fun x hx hm => ?_, fun y hy hm => ?_, c.tie, fun x hx hm => ?_, fun x a b d => (same x).mpr (c.free x a b d), fun x hx hm w e => mem_addK.mpr (.inl (c.mate x hx ((same x).mp hm) w e))⟩
  · obtain ⟨a, b, d⟩ := c.w0 x (List.mem_append_left _ hx)
    exact ⟨a, b, fun z => (mem_addK.mp z).elim d fun e => hw (by rw [← e]; exact hx)⟩
  · obtain ⟨r, L, p, n, e, cl⟩ := c.path x hx ((same x).mp hm)
    exact ⟨r, L, p, n, e, fun y hy => (cl y hy).imp (fun z => ⟨z.1, (same y).mpr z.2⟩) fun z => ⟨z.1, mem_addK.mpr (.inl z.2)⟩⟩
  · rcases mem_addK.mp hm with a | a
    · obtain ⟨z, e, hz⟩ := c.one y hy a
      exact ⟨z, e, (same z).mpr hz⟩
    · rw [a, h0] at hy; cases hy
  · rcases mem_addK.mp hm with a | a
    · rcases c.done x hx a with z | z
      · exact z.elim
      · exact .inr fun u hu => mem_addK.mpr (.inl (z u hu))
    · exact .inl a
/-- a place of the other side more, and its mate -/
theorem CI.more (g : Great W mt) (wsym : WebSym W) {h o : Nat} (c : CI W mt ab sd ks ws O) (h0 : sd h = 0) (hk : h ∈ ks) (ho : o ∈ nbOf W h) (no : o ∉ ks) (o1 : sd o = 1) (two : ∀ z, mt o = some z → sd z = 0) :
    ∃ z, mt o = some z ∧ z < W.size ∧ CI W mt (upo ab o (some h)) sd (addK ks o) (ws ++ [z]) O := by
  obtain ⟨r, L, p, nd, rn, cl⟩ := c.path h h0 (.inl hk)
  have oL : o ∉ L := fun z => (cl o z).elim (fun z => by rw [z.1] at o1; cases o1) fun z => no z.2
  obtain ⟨f, f1, f2, f3, f4⟩ := remate g.m wsym c.tie p rn nd
  have gf : Great W f := by
    refine ⟨f1, fun mt3 m3 => Nat.le_trans ?_ (g.le mt3 m3)⟩
    have rW : r < W.size := by
      by_cases e : r = h
      · rw [e]; exact wsym.lt o h (wsym.sym h o ho)
      · have rL := p.end_
        have := f4 r rL e
        cases e2 : f r with
        | none => exact absurd e2 this
        | some y => exact wsym.lt y r (wsym.sym r y (f1.nb r y e2))
    have rm : r ∈ lst W.size fun y => mt y = none := mem_lst.mpr ⟨rW, rn⟩
    have le : (lst W.size fun y => f y = none).length ≤ (h :: (lst W.size fun y => mt y = none).erase r).length := nodup_sub_len (lst_nodup _ _) fun y hy => by
      obtain ⟨y1, y2⟩ := mem_lst.mp hy
      by_cases e : y = h
      · rw [e]; exact List.mem_cons_self
      · have yL : y ∉ L := fun z => f4 y z e y2
        rw [f3 y yL] at y2
        exact List.mem_cons_of_mem _ ((List.mem_erase_of_ne fun z => yL (by rw [z]; exact p.end_)).mpr (mem_lst.mpr ⟨y1, y2⟩))
    have len := List.length_erase_of_mem rm
    have pos := List.length_pos_of_mem rm
    rw [List.length_cons] at le
    unfold ex cnt
    omega
  obtain ⟨z, hz⟩ : ∃ z, mt o = some z := by
    cases e : mt o with
    | some z => exact ⟨z, rfl⟩
    | none => exact absurd ho (gf.free wsym f2 ((f3 o oL).trans e))
  have z0 := two z hz
  have mz := g.m.inv o z hz
  have zn : ¬ (z ∈ ks ∨ z ∈ ws) := fun a => no (c.mate z z0 a o mz)
  have zW : z < W.size := wsym.lt o z (g.m.nb o z hz)
  have zo : z ≠ o := fun e => by rw [e, o1] at z0; cases z0
  have old : ∀ {x}, (x ∈ ks ∨ x ∈ ws) → (x ∈ addK ks o ∨ x ∈ ws ++ [z]) := fun a => a.imp (fun b => mem_addK.mpr (.inl b)) fun b => List.mem_append_left _ b
  have oldP : ∀ {y : Nat}, ((sd y = 0 ∧ (y ∈ ks ∨ y ∈ ws)) ∨ (sd y = 1 ∧ y ∈ ks)) → ((sd y = 0 ∧ (y ∈ addK ks o ∨ y ∈ ws ++ [z])) ∨ (sd y = 1 ∧ y ∈ addK ks o)) := fun a => a.imp (fun b => ⟨b.1, old b.2⟩) fun b => ⟨b.1, mem_addK.mpr (.inl b.2)⟩
  have oOut : ∀ {L' : List Nat}, (∀ y ∈ L', (sd y = 0 ∧ (y ∈ ks ∨ y ∈ ws)) ∨ (sd y = 1 ∧ y ∈ ks)) → o ∉ L' := fun a b => (a o b).elim (fun z => by rw [z.1] at o1; cases o1) fun z => no z.2
  refine ⟨z, hz, zW, fun x hx => ?_, ?_, fun x hx hm => ?_, fun y hy hm => ?_, fun v y e => ?_, fun x hx hm => ?_, fun x a b d => old (c.free x a b d), fun x hx hm w e => ?_⟩
  · rcases List.mem_append.mp hx with a | a
    · obtain ⟨a1, a2, a3⟩ := c.w0 x a
      exact ⟨a1, a2, fun q => (mem_addK.mp q).elim a3 fun e => by rw [e, o1] at a1; cases a1⟩
    · rw [List.mem_singleton.mp a]
      exact ⟨z0, zW, fun q => (mem_addK.mp q).elim (fun b => zn (.inl b)) zo⟩
  · exact List.nodup_append.mpr ⟨c.wn, by simp, fun a ha b hb e => zn (.inr (by rw [← List.mem_singleton.mp hb, ← e]; exact ha))⟩
  · by_cases e : x = z
    · subst e
      have p2 : PP mt (upo ab o (some h)) h r L := p.same fun y hy => upo_ne fun e => oL (by rw [← e]; exact hy)
      refine ⟨r, x :: o :: L, .step mz (upo_eq _ _ _) p2, ?_, rn, fun y hy => ?_⟩
      · rw [List.nodup_cons, List.nodup_cons]
        refine ⟨fun a => ?_, oL, nd⟩
        rcases List.mem_cons.mp a with b | b
        · exact zo b
        · rcases cl x b with d | d
          · exact zn d.2
          · rw [z0] at d; exact nomatch d.1
      · rcases List.mem_cons.mp hy with a | a
        · rw [a]; exact .inl ⟨z0, .inr (by simp)⟩
        · rcases List.mem_cons.mp a with b | b
          · rw [b]; exact .inr ⟨o1, mem_addK.mpr (.inr rfl)⟩
          · exact oldP (cl y b)
    · have hm : x ∈ ks ∨ x ∈ ws := by
        rcases hm with a | a
        · rcases mem_addK.mp a with b | b
          · exact .inl b
          · rw [b, o1] at hx; cases hx
        · rcases List.mem_append.mp a with b | b
          · exact .inr b
          · exact absurd (List.mem_singleton.mp b) e
      obtain ⟨r', L', p', nd', rn', cl'⟩ := c.path x hx hm
      exact ⟨r', L', p'.same fun y hy => upo_ne fun e => oOut cl' (by rw [← e]; exact hy), nd', rn', fun y hy => oldP (cl' y hy)⟩
  · rcases mem_addK.mp hm with a | a
    · obtain ⟨w, e, hw⟩ := c.one y hy a
      exact ⟨w, e, old hw⟩
    · rw [a]
      exact ⟨z, hz, .inr (by simp)⟩
  · by_cases a : v = o
    · rw [a, upo_eq] at e
      cases e
      rw [a]
      exact wsym.sym _ _ ho
    · rw [upo_ne a] at e
      exact c.tie v y e
  · rcases mem_addK.mp hm with a | a
    · exact (c.done x hx a).imp id fun q u hu => mem_addK.mpr (.inl (q u hu))
    · rw [a, o1] at hx; cases hx
  · by_cases a : x = z
    · rw [a, mz] at e
      cases e
      exact mem_addK.mpr (.inr rfl)
    · refine mem_addK.mpr (.inl (c.mate x hx ?_ w e))
      rcases hm with b | b
      · rcases mem_addK.mp b with d | d
        · exact .inl d
        · rw [d, o1] at hx; cases hx
      · rcases List.mem_append.mp b with d | d
        · exact .inr d
        · exact absurd (List.mem_singleton.mp d) a
theorem CI.all {h : Nat} (c : CI W mt ab sd ks ws (fun x => x = h)) (d : ∀ u ∈ nbOf W h, u ∈ ks) : CI W mt ab sd ks ws (fun _ => False) :=
  ⟨c.w0, c.wn, c.path, c.one, c.tie, fun x hx hm => (c.done x hx hm).elim (fun e => .inr (by rw [e]; exact d)) .inr, c.free, c.mate⟩
/-- the cover -/
def CovP (sd : Nat → Nat) (ks : List Nat) (x : Nat) : Prop := (x ∈ ks) ↔ sd x = 1
theorem CI.cover (c : CI W mt ab sd ks [] (fun _ => False)) (le : ∀ x, sd x ≤ 1) (col : ∀ u v, v ∈ nbOf W u → sd u ≠ sd v) (wsym : WebSym W) {u v : Nat} (h : v ∈ nbOf W u) : CovP sd ks u ∨ CovP sd ks v := by
  have key : ∀ {a b}, b ∈ nbOf W a → sd a = 0 → CovP sd ks a ∨ CovP sd ks b := fun {a b} hb a0 => by
    have b1 : sd b = 1 := by
      have := col a b hb
      have := le b
      omega
    by_cases k : a ∈ ks
    · rcases c.done a a0 k with z | z
      · exact z.elim
      · exact .inr ⟨fun _ => b1, fun _ => z b hb⟩
    · exact .inl ⟨fun z => absurd z k, fun z => by rw [a0] at z; cases z⟩
  by_cases u0 : sd u = 0
  · exact key h u0
  · have v0 : sd v = 0 := by
      have := col u v h
      have := le u
      have := le v
      omega
    exact (key (wsym.sym u v h) v0).symm
theorem CI.count (c : CI W mt ab sd ks [] (fun _ => False)) (m : MtOk W mt) (le : ∀ x, sd x ≤ 1) (col : ∀ u v, v ∈ nbOf W u → sd u ≠ sd v) (wsym : WebSym W) : 2 * cnt W.size (CovP sd ks) + ex W mt = W.size := by
  have nn : ∀ {z : Nat}, z ∉ ([] : List Nat) := fun h => nomatch h
  have mat : ∀ x, x < W.size → CovP sd ks x → ∃ y, mt x = some y ∧ ¬ CovP sd ks y := fun x hx hc => by
    by_cases x0 : sd x = 0
    · have xk : x ∉ ks := fun h => by rw [hc.mp h] at x0; cases x0
      cases e : mt x with
      | none => exact absurd ((c.free x hx x0 e).resolve_right nn) xk
      | some y =>
        have y1 : sd y = 1 := by
          have := col x y (m.nb x y e)
          have := le y
          omega
        refine ⟨y, rfl, fun h => ?_⟩
        obtain ⟨z, hz, zk⟩ := c.one y y1 (h.mpr y1)
        rw [m.inv x y e] at hz
        cases hz
        exact xk (zk.resolve_right nn)
    · have x1 : sd x = 1 := by have := le x; omega
      obtain ⟨z, hz, zk⟩ := c.one x x1 (hc.mpr x1)
      have z0 : sd z = 0 := by
        have := col x z (m.nb x z hz)
        have := le z
        omega
      exact ⟨z, hz, fun h => by rw [h.mp (zk.resolve_right nn)] at z0; cases z0⟩
  have back : ∀ x, ¬ CovP sd ks x → ∀ y, mt x = some y → CovP sd ks y := fun x hn y e => by
    rcases c.cover le col wsym (m.nb x y e) with h | h
    · exact absurd h hn
    · exact h
  have e1 : cnt W.size (CovP sd ks) = cnt W.size (fun x => ¬ CovP sd ks x ∧ mt x ≠ none) := by
    apply Nat.le_antisymm
    · refine cnt_inj (fun x => (mt x).getD x) (fun x hx h => ?_) fun x y hx hy h1 h2 e => ?_
      · obtain ⟨y, e, n⟩ := mat x hx h
        rw [e]
        exact ⟨wsym.lt x y (m.nb x y e), n, by show mt y ≠ none; rw [m.inv x y e]; exact fun z => nomatch z⟩
      · obtain ⟨a, ea, _⟩ := mat x hx h1
        obtain ⟨b, eb, _⟩ := mat y hy h2
        rw [ea, eb] at e
        have e : a = b := e
        rw [← e] at eb
        exact m.inj ea eb
    · refine cnt_inj (fun x => (mt x).getD x) (fun x hx h => ?_) fun x y hx hy h1 h2 e => ?_
      · cases e : mt x with
        | none => exact absurd e h.2
        | some y => exact ⟨wsym.lt x y (m.nb x y e), back x h.1 y e⟩
      · cases ea : mt x with
        | none => exact absurd ea h1.2
        | some a =>
          cases eb : mt y with
          | none => exact absurd eb h2.2
          | some b =>
            rw [ea, eb] at e
            have e : a = b := e
            rw [← e] at eb
            exact m.inj ea eb
  have e2 : cnt W.size (fun x => CovP sd ks x ∨ (¬ CovP sd ks x ∧ mt x ≠ none)) = cnt W.size (CovP sd ks) + cnt W.size (fun x => ¬ CovP sd ks x ∧ mt x ≠ none) := cnt_or fun x h1 h2 => h2.1 h1
  have e3 : cnt W.size (fun x => (CovP sd ks x ∨ (¬ CovP sd ks x ∧ mt x ≠ none)) ∨ mt x = none) = cnt W.size (fun x => CovP sd ks x ∨ (¬ CovP sd ks x ∧ mt x ≠ none)) + cnt W.size (fun x => mt x = none ∧ ¬ CovP sd ks x) := by
    rw [← cnt_or fun x h1 h2 => ?_]
    · apply Nat.le_antisymm
      · refine cnt_le fun x _ h => ?_
        rcases h with h | h
        · exact .inl h
        · by_cases k : CovP sd ks x
          · exact .inl (.inl k)
          · exact .inr ⟨h, k⟩
      · exact cnt_le fun x _ h => h.imp id fun z => z.1
    · rcases h1 with h1 | h1
      · exact h2.2 h1
      · exact h1.2 h2.1
  have e4 : cnt W.size (fun x => mt x = none ∧ ¬ CovP sd ks x) = ex W mt := by
    apply Nat.le_antisymm
    · exact cnt_le fun x _ h => h.1
    · exact cnt_le fun x hx h => ⟨h, fun k => by
        obtain ⟨y, e, _⟩ := mat x hx k
        rw [h] at e
        cases e⟩
  have e5 : cnt W.size (fun x => (CovP sd ks x ∨ (¬ CovP sd ks x ∧ mt x ≠ none)) ∨ mt x = none) = W.size := by
    apply Nat.le_antisymm
    · exact few_of (lst_nodup _ _) fun x hx => (mem_lst.mp hx).1
    · have := nodup_sub_len (l := List.range W.size) (l2 := lst W.size fun x => (CovP sd ks x ∨ (¬ CovP sd ks x ∧ mt x ≠ none)) ∨ mt x = none) List.nodup_range fun x hx => mem_lst.mpr ⟨List.mem_range.mp hx, by
        by_cases k : CovP sd ks x
        · exact .inl (.inl k)
        · by_cases e : mt x = none
          · exact .inr e
          · exact .inl (.inr ⟨k, e⟩)⟩
      rw [List.length_range] at this
      exact this
  omega
end
end OP

/-! Pairings that leave a place alone, or have it: a net without the ties of a place. -/
namespace OP
theorem nb_iff {n : Nat} {ps : List (Nat × Nat)} (tok : TiesOk n ps) {u v : Nat} : v ∈ nbOf (webOf n ps) u ↔ (u, v) ∈ ps ∨ (v, u) ∈ ps := by
  constructor
  · intro h
    by_cases hu : u < n
    · rw [nbOf, near_web ps hu] at h
      exact (mem_nearOf.mp h).2
    · rw [nbOf, List.getD_eq_getElem?_getD, List.getElem?_eq_none (by simp [webOf]; omega)] at h
      cases h
  · intro h
    have : u < n ∧ v < n := by
      rcases h with h | h <;> have := tok _ h <;> dsimp only at this <;> omega
    rw [nbOf, near_web ps this.1]
    exact mem_nearOf.mpr ⟨this.2, h⟩
theorem cnt_congr {n : Nat} {p q : Nat → Prop} (h : ∀ x, x < n → (p x ↔ q x)) : cnt n p = cnt n q := Nat.le_antisymm (cnt_le fun x hx => (h x hx).mp) (cnt_le fun x hx => (h x hx).mpr)
theorem cnt_is {n v : Nat} (h : v < n) : cnt n (fun x => x = v) = 1 := by
  apply Nat.le_antisymm
  · exact nodup_sub_len (l2 := [v]) (lst_nodup _ _) fun x hx => by rw [(mem_lst.mp hx).2]; exact List.mem_singleton_self v
  · exact nodup_sub_len (l := [v]) (by simp) fun x hx => by
      rw [List.mem_singleton.mp hx]
      exact mem_lst.mpr ⟨h, rfl⟩
theorem cnt_off {n v : Nat} {p q : Nat → Prop} (hv : v < n) (h : ∀ x, x < n → (p x ↔ (q x ∨ x = v))) (d : ¬ q v) : cnt n p = cnt n q + 1 := by
  rw [cnt_congr h, cnt_or (fun x hx e => d (by rw [← e]; exact hx)), cnt_is hv]
theorem Great.of {W : Web} {mt mt2 : Nat → Option Nat} (g : Great W mt) (m : MtOk W mt2) (h : ex W mt2 ≤ ex W mt) : Great W mt2 := ⟨m, fun mt3 m3 => Nat.le_trans h (g.le mt3 m3)⟩
/-- the ties without those of a place -/
def lessP (p : Nat) (ps : List (Nat × Nat)) : List (Nat × Nat) := ps.filter fun t => !decide (p = t.1 ∨ p = t.2)
section
variable {n p : Nat} {ps : List (Nat × Nat)}
theorem lessP_mem {t : Nat × Nat} : t ∈ lessP p ps ↔ t ∈ ps ∧ p ≠ t.1 ∧ p ≠ t.2 := by
  unfold lessP
  rw [List.mem_filter]
  simp
theorem less_ok (tok : TiesOk n ps) : TiesOk n (lessP p ps) := fun t ht => tok t (lessP_mem.mp ht).1
theorem less_nd (nd : ps.Nodup) : (lessP p ps).Nodup := nd.filter _
theorem less_len : (lessP p ps).length ≤ ps.length := List.length_filter_le _ _
theorem less_nb (tok : TiesOk n ps) {u v : Nat} : v ∈ nbOf (webOf n (lessP p ps)) u ↔ v ∈ nbOf (webOf n ps) u ∧ u ≠ p ∧ v ≠ p := by
  rw [nb_iff tok, nb_iff (less_ok tok), lessP_mem, lessP_mem]
  constructor
  · rintro (⟨a, b, c⟩ | ⟨a, b, c⟩)
    · exact ⟨.inl a, Ne.symm b, Ne.symm c⟩
    · exact ⟨.inr a, Ne.symm c, Ne.symm b⟩
  · rintro ⟨a | a, b, c⟩
    · exact .inl ⟨a, Ne.symm b, Ne.symm c⟩
    · exact .inr ⟨a, Ne.symm c, Ne.symm b⟩
theorem less_up (tok : TiesOk n ps) {mt : Nat → Option Nat} (m : MtOk (webOf n (lessP p ps)) mt) : MtOk (webOf n ps) mt ∧ mt p = none := by
  refine ⟨⟨m.inv, fun x y e => ((less_nb tok).mp (m.nb x y e)).1⟩, ?_⟩
  cases e : mt p with
  | none => rfl
  | some y => exact absurd rfl ((less_nb tok).mp (m.nb p y e)).2.1
theorem less_down (tok : TiesOk n ps) {mt : Nat → Option Nat} (m : MtOk (webOf n ps) mt) (h : mt p = none) : MtOk (webOf n (lessP p ps)) mt :=
  ⟨m.inv, fun x y e => (less_nb tok).mpr ⟨m.nb x y e, fun z => (by rw [z, h] at e; cases e), fun z => (by
    have := m.inv x y e
    rw [z, h] at this
    cases this)⟩⟩
theorem ex_web (n : Nat) (ps qs : List (Nat × Nat)) (mt : Nat → Option Nat) : ex (webOf n ps) mt = ex (webOf n qs) mt := rfl
/-- a pair taken away -/
theorem off_pair (tok : TiesOk n ps) {mt : Nat → Option Nat} (m : MtOk (webOf n ps) mt) {q : Nat} (h : mt p = some q) : MtOk (webOf n (lessP p ps)) (upo (upo mt q none) p none) ∧ ex (webOf n ps) (upo (upo mt q none) p none) = ex (webOf n ps) mt + 2 := by
  have ws := webSym_of tok
  have h2 := m.inv p q h
  have ne : p ≠ q := ws.irr p q (m.nb p q h)
  have pn : p < n := ws.lt q p (ws.sym p q (m.nb p q h))
  have qn : q < n := ws.lt p q (m.nb p q h)
  obtain ⟨f, hf⟩ : ∃ f, f = upo (upo mt q none) p none := ⟨_, rfl⟩
  rw [← hf]
  have fp : f p = none := by rw [hf, upo_eq]
  have fq : f q = none := by rw [hf, upo_ne (Ne.symm ne), upo_eq]
  have fo : ∀ x, x ≠ p → x ≠ q → f x = mt x := fun x a b => by rw [hf, upo_ne a, upo_ne b]
  have out : ∀ x y, f x = some y → x ≠ p ∧ x ≠ q ∧ y ≠ p ∧ y ≠ q ∧ mt x = some y := fun x y e => by
    have a : x ≠ p := fun z => by rw [z, fp] at e; cases e
    have b : x ≠ q := fun z => by rw [z, fq] at e; cases e
    rw [fo x a b] at e
    have e2 := m.inv x y e
    refine ⟨a, b, fun z => ?_, fun z => ?_, e⟩
    · rw [z, h] at e2
      cases e2
      exact b rfl
    · rw [z, h2] at e2
      cases e2
      exact a rfl
  refine ⟨⟨fun x y e => ?_, fun x y e => ?_⟩, ?_⟩
  · obtain ⟨a, b, c, d, e⟩ := out x y e
    rw [fo y c d]
    exact m.inv x y e
  · obtain ⟨a, b, c, d, e⟩ := out x y e
    exact (less_nb tok).mpr ⟨m.nb x y e, a, c⟩
  · have c1 : cnt n (fun x => f x = none) = cnt n (fun x => mt x = none ∨ x = p) + 1 := cnt_off qn (fun x _ => by
      by_cases a : x = p
      · rw [a, fp]; simp
      · by_cases b : x = q
        · rw [b, fq]; simp
        · rw [fo x a b]; simp [a, b]) (fun z => by
      rcases z with z | z
      · rw [h2] at z; cases z
      · exact ne z.symm)
    have c2 : cnt n (fun x => mt x = none ∨ x = p) = cnt n (fun x => mt x = none) + 1 := cnt_off pn (fun _ _ => Iff.rfl) (fun z => by rw [h] at z; cases z)
    show cnt n _ = cnt n _ + 2
    rw [c1, c2]
/-- a pair less, and the place again in a pair with one beside it -/
theorem swap_in {W : Web} {mt : Nat → Option Nat} (g : Great W mt) (ws : WebSym W) {p o z : Nat} (hp : mt p = none) (ho : o ∈ nbOf W p) (hz : mt o = some z) : Great W (upo (upo (upo mt z none) p (some o)) o (some p)) ∧ (upo (upo (upo mt z none) p (some o)) o (some p)) p = some o := by
  have po : p ≠ o := ws.irr p o ho
  have z2 := g.m.inv o z hz
  have pz : p ≠ z := fun e => by rw [e, z2] at hp; cases hp
  have oz : o ≠ z := ws.irr o z (g.m.nb o z hz)
  have oW := ws.lt p o ho
  have pW := ws.lt o p (ws.sym p o ho)
  have zW := ws.lt o z (g.m.nb o z hz)
  obtain ⟨f, hf⟩ : ∃ f, f = upo (upo (upo mt z none) p (some o)) o (some p) := ⟨_, rfl⟩
  rw [← hf]
  have fp : f p = some o := by rw [hf, upo_ne po, upo_eq]
  have fo : f o = some p := by rw [hf, upo_eq]
  have fz : f z = none := by rw [hf, upo_ne (Ne.symm oz), upo_ne (Ne.symm pz), upo_eq]
  have fx : ∀ x, x ≠ p → x ≠ o → x ≠ z → f x = mt x := fun x a b c => by rw [hf, upo_ne b, upo_ne a, upo_ne c]
  have out : ∀ x y, x ≠ p → x ≠ o → f x = some y → mt x = some y ∧ f y = some x := fun x y a b e => by
    have c : x ≠ z := fun e2 => by rw [e2, fz] at e; cases e
    rw [fx x a b c] at e
    have e2 := g.m.inv x y e
    refine ⟨e, ?_⟩
    rw [fx y (fun e3 => by rw [e3, hp] at e2; cases e2) (fun e3 => by
      rw [e3, hz] at e2
      cases e2
      exact c rfl) (fun e3 => by
      rw [e3, z2] at e2
      cases e2
      exact b rfl)]
    exact e2
  refine ⟨g.of ⟨fun x y e => ?_, fun x y e => ?_⟩ ?_, fp⟩
  · by_cases a : x = p
    · rw [a, fp] at e; cases e; rw [a]; exact fo
    · by_cases b : x = o
      · rw [b, fo] at e; cases e; rw [b]; exact fp
      · exact (out x y a b e).2
  · by_cases a : x = p
    · rw [a, fp] at e; cases e; rw [a]; exact ho
    · by_cases b : x = o
      · rw [b, fo] at e; cases e; rw [b]; exact ws.sym _ _ ho
      · exact g.m.nb x y (out x y a b e).1
  · have c1 : cnt W.size (fun x => f x = none) = cnt W.size (fun x => mt x = none ∧ x ≠ p) + 1 := cnt_off zW (fun x _ => by
      by_cases a : x = p
      · rw [a, fp]; simp [pz]
      · by_cases b : x = o
        · rw [b, fo, hz]; simp [oz]
        · by_cases c : x = z
          · rw [c, fz]; simp
          · rw [fx x a b c]; simp [a, c]) (fun h => by rw [z2] at h; cases h.1)
    have c2 : cnt W.size (fun x => mt x = none) = cnt W.size (fun x => mt x = none ∧ x ≠ p) + 1 := cnt_off pW (fun x _ => by
      by_cases a : x = p
      · rw [a, hp]; simp
      · simp [a]) (fun h => h.2 rfl)
    show cnt _ _ ≤ cnt _ _
    rw [c1, c2]
    exact Nat.le_refl _
theorem bound_of (tok : TiesOk n ps) {mt f : Nat → Option Nat} (g : Great (webOf n ps) mt) (gl : Great (webOf n (lessP p ps)) f) (h : ex (webOf n ps) f = ex (webOf n ps) mt + 2) : ¬ Missed (webOf n ps) p := fun ⟨_, mt2, g2, e⟩ => by
  have h1 := gl.le mt2 (less_down tok g2.m e)
  have h2 := g2.same g
  have h3 : ex (webOf n ps) f ≤ ex (webOf n ps) mt2 := h1
  omega
end
end OP
namespace OP
open PySem PySem.Spec PyProof.Rows L2 Evl
/-- ties as a law's net has them -/
structure PsOk (n : Nat) (ps : List (Nat × Nat)) : Prop where
  n1 : 1 ≤ n
  n40 : n ≤ 40
  tok : TiesOk n ps
  nd : ps.Nodup
  self : srtP ps = ps
  few : ps.length < 1000
section
variable {K : PySem.W.Frag} {σ : L2.St} {H H' : Hp} {ta tb tl te : TE} {t : TT} {vs : List Nat} {R R' : Rn} {D : Ends} {tz : TS}
theorem en_lcM {g : TG} (h : EvN tl σ H R) (k : ∀ v fs H1, Ex H H1 → (∀ p ∈ fs, H p = none) → R v fs H1 → EvN (tLc (iList K (fun _ G Q => Q v G)) g t te vs) σ H1 R') : EvN (tLc (iList K tl) g t te vs) σ H R' := fun H1 e Q q =>
  h H1 e _ fun v fs H2 e2 fr r => k v fs H2 (e.trans e2) (fun p hp => fresh_back e (fr p hp)) r H2 (Ex.refl H2) Q fun v fs H3 e3 fr3 r3 => q v fs H3 (e2.trans e3) (fun p hp => fresh_back e2 (fr3 p hp)) r3
theorem pairedZip {α β : Type} {F : α → β → Prop} : ∀ {as : List α} {bs : List β}, Paired F as bs → ∃ l : List (α × β), l.map (·.1) = as ∧ l.map (·.2) = bs ∧ ∀ p ∈ l, F p.1 p.2
  | _, _, .nil => ⟨[], rfl, rfl, fun p hp => nomatch hp⟩
  | a :: as, b :: bs, .cons r t => by
    obtain ⟨l, h1, h2, h3⟩ := pairedZip t
    exact ⟨(a, b) :: l, by rw [List.map_cons, h1], by rw [List.map_cons, h2], fun p hp => (List.mem_cons.mp hp).elim (fun e => by rw [e]; exact r) (h3 p)⟩
theorem zipPaired {α β : Type} {F : α → β → Prop} : ∀ {l : List (α × β)}, (∀ p ∈ l, F p.1 p.2) → Paired F (l.map (·.1)) (l.map (·.2))
  | [], _ => .nil
  | p :: l, h => .cons (h p List.mem_cons_self) (zipPaired fun q hq => h q (List.mem_cons_of_mem _ hq))
/-- [pair for pair in pairs if ..] -/
theorem en_filtP {l : Addr} {ps : List (Nat × Nat)} {j : Nat} (f : Nat × Nat → Bool) (h : Ev tl σ H (.ref l)) (hl : Prs H l ps) (few : ps.length ≤ 40000) (hw : ∀ x, wipe ((wipe σ vs).set j (some x)) vs = wipe σ vs) (hv : ∀ x, ((wipe σ vs).set j (some x))[j]? = some (some x))
    (ht : ∀ b p H1, Ex H H1 → p ∈ ps → Pr H1 b p → EvT t ((wipe σ vs).set j (some (.ref b))) H1 (f p)) : EvN (tLc (iList K tl) (gName j) t (tVar j) vs) σ H (fun v fs G => ∃ p, v = .ref p ∧ fs = [p] ∧ Prs G p (ps.filter f)) := by
  obtain ⟨as, hl1, hpr⟩ := hl
  obtain ⟨zs, z1, z2, z3⟩ := pairedZip hpr
  have zl : zs.length ≤ 40000 := by rw [← List.length_map (f := (·.2)) (as := zs), z2]; exact few
  refine EvN.imp (en_of_el (el_filt (K := K) (α := Addr × (Nat × Nat)) (l := zs) (g := fun z => V.ref z.1) (0, (0, 0)) (fun z => f z.2) (fun z => V.ref z.1) h (sq_of (by rw [hl1, ← z1, List.map_map]; rfl)) zl hw (fun z G g hz => ht z.1 z.2 G g (by rw [← z2]; exact List.mem_map_of_mem hz) (g _ _ (z3 z hz))) (fun z G g hz _ => ev_var (hv _)))) fun v fs G e r => ?_
  obtain ⟨p, rfl, rfl, hp⟩ := r
  refine ⟨p, rfl, rfl, (zs.filter fun z => f z.2).map (·.1), by rw [hp, List.map_map]; rfl, ?_⟩
  have := zipPaired (F := Pr G) (l := zs.filter fun z => f z.2) fun z hz => e _ _ (z3 z (List.mem_filter.mp hz).1)
  rw [show ps.filter f = (zs.filter fun z => f z.2).map (·.2) by rw [← z2, List.filter_map]; rfl]
  exact this
theorem q_dropC {sp : Sp} {dvs vs : List V} {E : XK} {tr : TA} (h : EvA tr σ H vs) (hs : ∀ H1, Ex H H1 → sp (vs ++ dvs) H1 (fun _ H2 => tz D σ H2) E) : tSeq (tDrop (tCall sp dvs E tr)) tz D σ H := h H (Ex.refl H) _ fun H1 e1 => hs H1 e1
end
end OP

/-! Lists of lists of pairs, changed and compared. -/
namespace OP
open PySem PySem.Spec PyProof.Rows L2 Evl
section
variable {K : PySem.W.Frag} {σ : L2.St} {H H' : Hp} {ta tb tl te : TE} {t : TT} {vs : List Nat} {R R' : Rn} {D : Ends} {tz : TS}
theorem psD_lay (x : List (Nat × Nat)) : (psD x).canLay0 = true := by
  simp only [psD, PyData.canLay0]
  exact lay_map pD_lay x
theorem psD_depth (x : List (Nat × Nat)) : (psD x).depth ≤ 5 := by
  have := depth_map pD_depth x
  simp only [psD, PyData.depth]
  omega
def pssD (zs : List (List (Nat × Nat))) : PyData := .list (zs.map psD)
theorem pssD_shaped (zs : List (List (Nat × Nat))) : SeqAt.shaped (pssD zs) = true := shaped_list (by decide) psD_lay psD_depth zs
theorem pssD_eqv (x y : List (List (Nat × Nat))) : PyData.eqv (pssD x) (pssD y) = decide (x = y) := by
  simp only [pssD, PyData.eqv]
  exact eqvAll_map psD_eqv x y
theorem dpAll_get {f : List (Nat × Nat) → PyData} : ∀ {xs : List V} {zs : List (List (Nat × Nat))}, xs.length = zs.length → (∀ (i : Nat) x z, xs[i]? = some x → zs[i]? = some z → Dp K H x (f z)) → DpAll K H xs (zs.map f)
  | [], [], _, _ => .nil
  | x :: xs, z :: zs, h, k => .cons (k 0 x z rfl rfl) (dpAll_get (Nat.succ.inj h) fun i x z h1 h2 => k (i + 1) x z h1 h2)
  | [], _ :: _, h, _ => nomatch h
  | _ :: _, [], h, _ => nomatch h
/-- [f(..), g(..)] -/
theorem en_lst2 {R1 R2 : Rn} (h1 : EvN ta σ H R1) (h2 : ∀ H1, Ex H H1 → EvN tb σ H1 R2) : EvN (tLst (tCons ta (tCons tb tNil))) σ H (fun v fs G => ∃ q x y f1 f2 G1 G2, v = .ref q ∧ fs = q :: (f1 ++ f2) ∧ G q = some (.lst [x, y]) ∧ R1 x f1 G1 ∧ Ex G1 G ∧ R2 y f2 G2 ∧ Ex G2 G ∧ ∀ u ∈ f2, G1 u = none) := fun H1 e Q q =>
  h1 H1 e _ fun x f1 G1 g1 fr1 r1 => h2 H1 e G1 g1 _ fun y f2 G2 g2 fr2 r2 => ⟨by show 2 ≤ sizeLine; decide, fun p hp => q _ (p :: (f1 ++ f2)) _ ((g1.trans g2).trans (Ex.new hp)) (fun u hu => by
    rcases List.mem_cons.mp hu with e | hu
    · rw [e]; exact fresh_back (g1.trans g2) hp
    · rcases List.mem_append.mp hu with hu | hu
      · exact fr1 u hu
      · exact fresh_back g1 (fr2 u hu)) ⟨p, x, y, f1, f2, G1, G2, rfl, rfl, upd_same, r1, g2.trans (Ex.new hp), r2, Ex.new hp, fr2⟩⟩
/-- row + [(x, y)] -/
theorem en_cat1 {l : Addr} {xs : List V} {x y : V} (h1 : Ev ta σ H (.ref l)) (hl : H l = some (.lst xs)) (h2 : EvU tb σ H [x, y]) (few : xs.length ≤ 90000) : EvN (tOp rCat ta (tLst (tCons tb tNil))) σ H (fun v fs G => ∃ b t, v = .ref b ∧ fs = [b, t] ∧ G b = some (.lst (xs ++ [.ref t])) ∧ G t = some (.tup [x, y])) := fun H1 e Q q =>
  h1 H1 e _ fun H2 e2 => h2 H2 (e.trans e2) _ fun t H3 ht e3 h3 => ⟨by show 1 ≤ sizeLine; decide, fun b hb => ⟨l, b, xs, [.ref t], rfl, rfl, (Ex.new hb) _ _ (e3 _ _ (e2 _ _ (e _ _ hl))), upd_same, sz_of (by simp; omega), fun p hp => q _ [p, t] _ ((e2.trans e3).trans ((Ex.new hb).trans (Ex.new hp))) (fun u hu => by
    simp only [List.mem_cons, List.mem_nil_iff, or_false] at hu
    rcases hu with e | e <;> rw [e]
    · exact fresh_back (e2.trans (e3.trans (Ex.new hb))) hp
    · exact fresh_back e2 ht) ⟨p, t, rfl, rfl, upd_same, (Ex.new hp) _ _ ((Ex.new hb) _ _ h3)⟩⟩⟩
end
/-- a row: its address, its pairs' addresses, its pairs -/
abbrev Row := Addr × List Addr × List (Nat × Nat)
def ZR (G : Hp) (z : Row) : Prop := G z.1 = some (.lst (z.2.1.map V.ref)) ∧ Paired (Pr G) z.2.1 z.2.2 ∧ z.2.2.length ≤ 40
def RowS : Rn := fun u fs G => (u = .non ∧ fs = []) ∨ (∃ q ps, u = .ref q ∧ fs = [q] ∧ Prs G q ps ∧ ps.length ≤ 40)
theorem ZR.go {G G' : Hp} {z : Row} (h : ZR G z) (e : Ex G G') : ZR G' z := ⟨e _ _ h.1, Paired.mapP h.2.1 fun _ _ w => e _ _ w, h.2.2⟩
theorem RowS.zs {u : V} {fs : List Addr} {G : Hp} (r : RowS u fs G) : ∃ zs : List Row, ((u = .non ∧ zs = []) ∨ ∃ z, zs = [z] ∧ u = .ref z.1) ∧ (∀ z ∈ zs, ZR G z) ∧ zs.map (·.1) = fs ∧ zs.length ≤ 1 := by
  rcases r with ⟨h1, h2⟩ | ⟨q, ps, h1, h2, ⟨as, h3, h4⟩, h5⟩
  · exact ⟨[], .inl ⟨h1, rfl⟩, fun z hz => (nomatch hz), h2.symm, Nat.zero_le _⟩
  · exact ⟨[(q, as, ps)], .inr ⟨_, rfl, h1⟩, fun z hz => by rw [List.mem_singleton.mp hz]; exact ⟨h3, h4, h5⟩, h2.symm, Nat.le_refl _⟩
end OP

/-! All pairings of a net, plainly; rows of pairings in the heap. -/
namespace OP
/-- a tie that may be put to a pairing -/
def frB (t : Nat × Nat) (qs : List (Nat × Nat)) : Bool := !(qs.any fun q => decide (t.1 ∈ [q.1, q.2]) || decide (t.2 ∈ [q.1, q.2]))
def allL : List (List (Nat × Nat)) → List (Nat × Nat) → List (List (Nat × Nat))
  | F, [] => F
  | F, t :: ps => allL (F ++ (F.filter (frB t)).map (· ++ [t])) ps
theorem frB_iff {t : Nat × Nat} {qs : List (Nat × Nat)} : frB t qs = true ↔ ∀ q ∈ qs, Apart q t := by
  unfold frB
  rw [Bool.not_eq_true', ← Bool.not_eq_true, List.any_eq_true]
  constructor
  · intro h q hq
    refine ⟨fun e => h ⟨q, hq, ?_⟩, fun e => h ⟨q, hq, ?_⟩, fun e => h ⟨q, hq, ?_⟩, fun e => h ⟨q, hq, ?_⟩⟩ <;> simp [e]
  · rintro h ⟨q, hq, e⟩
    obtain ⟨h1, h2, h3, h4⟩ := h q hq
    simp only [Bool.or_eq_true, decide_eq_true_iff, List.mem_cons, List.mem_nil_iff, or_false] at e
    rcases e with (e | e) | (e | e)
    · exact h1 e.symm
    · exact h3 e.symm
    · exact h2 e.symm
    · exact h4 e.symm
theorem allL_snoc (F : List (List (Nat × Nat))) (ps : List (Nat × Nat)) (t : Nat × Nat) : allL F (ps ++ [t]) = allL F ps ++ ((allL F ps).filter (frB t)).map (· ++ [t]) := by
  induction ps generalizing F with
  | nil => rfl
  | cons p ps ih => exact ih _
theorem mem_all (ps : List (Nat × Nat)) : ∀ qs, qs ∈ allL [[]] ps ↔ qs.Sublist ps ∧ qs.Pairwise Apart := by
  have key : ∀ k, k ≤ ps.length → ∀ qs, qs ∈ allL [[]] (ps.take k) ↔ qs.Sublist (ps.take k) ∧ qs.Pairwise Apart := fun k => by
    induction k with
    | zero =>
      intro _ qs
      rw [List.take_zero]
      show qs ∈ [[]] ↔ _
      rw [List.mem_singleton, List.sublist_nil]
      exact ⟨fun e => ⟨e, by rw [e]; exact .nil⟩, fun h => h.1⟩
    | succ k ih =>
      intro hk qs
      have hg : ps[k]? = some (ps.getD k (0, 0)) := getD_get _ hk
      have ih := ih (by omega)
      obtain ⟨t, ht⟩ : ∃ t, t = ps.getD k (0, 0) := ⟨_, rfl⟩
      rw [← ht] at hg
      rw [take_snoc hg, allL_snoc, List.mem_append, List.mem_map]
      constructor
      · rintro (h | ⟨a, ha, rfl⟩)
        · obtain ⟨h1, h2⟩ := (ih qs).mp h
          exact ⟨h1.trans (List.sublist_append_left _ _), h2⟩
        · obtain ⟨ha, hf⟩ := List.mem_filter.mp ha
          obtain ⟨h1, h2⟩ := (ih a).mp ha
          refine ⟨List.Sublist.append h1 (List.Sublist.refl _), List.pairwise_append.mpr ⟨h2, List.pairwise_singleton _ _, fun x hx y hy => ?_⟩⟩
          rw [List.mem_singleton.mp hy]
          exact frB_iff.mp hf x hx
      · rintro ⟨h1, h2⟩
        obtain ⟨a, b, rfl, ha, hb⟩ := List.sublist_append_iff.mp h1
        obtain ⟨p1, p2, p3⟩ := List.pairwise_append.mp h2
        match b, hb with
        | [], _ =>
          rw [List.append_nil]
          exact .inl ((ih a).mpr ⟨ha, p1⟩)
        | c :: d, hb =>
          have hl := hb.length_le
          have : c = t ∧ d = [] := by
            match d, hl with
            | [], _ => exact ⟨List.mem_singleton.mp (hb.subset List.mem_cons_self), rfl⟩
          obtain ⟨rfl, rfl⟩ := this
          exact .inr ⟨a, List.mem_filter.mpr ⟨(ih a).mpr ⟨ha, p1⟩, frB_iff.mpr fun q hq => p3 q hq c List.mem_cons_self⟩, rfl⟩
  intro qs
  have := key ps.length (Nat.le_refl _) qs
  rw [List.take_length] at this
  exact this
theorem allL_len : ∀ (ps : List (Nat × Nat)) (F : List (List (Nat × Nat))), (allL F ps).length ≤ F.length * 2 ^ ps.length
  | [], F => by simp [allL]
  | t :: ps, F => by
    have ih := allL_len ps (F ++ (F.filter (frB t)).map (· ++ [t]))
    have h1 := List.length_filter_le (frB t) F
    rw [List.length_append, List.length_map] at ih
    show (allL (F ++ (F.filter (frB t)).map (· ++ [t])) ps).length ≤ _
    have : (F.length + (F.filter (frB t)).length) * 2 ^ ps.length ≤ F.length * 2 ^ (ps.length + 1) := by
      rw [Nat.pow_succ, Nat.mul_comm (2 ^ ps.length) 2, ← Nat.mul_assoc]
      exact Nat.mul_le_mul_right _ (by omega)
    rw [List.length_cons]
    omega
section
variable {n : Nat} {ps : List (Nat × Nat)}
/-- ties, each once, in rising order -/
def UpT (ps : List (Nat × Nat)) : Prop := ps.Pairwise fun a b => a.1 < b.1 ∨ (a.1 = b.1 ∧ a.2 < b.2)
theorem sub_ok (tok : TiesOk n ps) {qs : List (Nat × Nat)} (h : qs.Sublist ps) (ap : qs.Pairwise Apart) : PairsOk (webOf n ps) qs :=
  ⟨fun q hq => by
    have hm := h.subset hq
    obtain ⟨h1, h2⟩ := tok q hm
    exact ⟨h1, h2, (nb_iff tok).mpr (.inl hm)⟩, ap⟩
/-- the ties of a pairing -/
def ofMt (ps : List (Nat × Nat)) (mt : Nat → Option Nat) : List (Nat × Nat) := ps.filter fun t => decide (mt t.1 = some t.2)
theorem ofMt_mem {mt : Nat → Option Nat} {t : Nat × Nat} : t ∈ ofMt ps mt ↔ t ∈ ps ∧ mt t.1 = some t.2 := by
  unfold ofMt
  rw [List.mem_filter, decide_eq_true_iff]
theorem ofMt_in (tok : TiesOk n ps) (up : UpT ps) {mt : Nat → Option Nat} (m : MtOk (webOf n ps) mt) : ofMt ps mt ∈ allL [[]] ps := by
  refine (mem_all ps _).mpr ⟨List.filter_sublist, ?_⟩
  have nd : (ofMt ps mt).Nodup := (up.imp (fun {a b} h e => by subst e; omega) : ps.Nodup).filter _
  refine List.Pairwise.imp_of_mem (fun {a b} ha hb ne => ?_) nd
  obtain ⟨a1, a2⟩ := ofMt_mem.mp ha
  obtain ⟨b1, b2⟩ := ofMt_mem.mp hb
  have a3 := m.inv _ _ a2
  have b3 := m.inv _ _ b2
  have := tok a a1
  have := tok b b1
  refine ⟨fun e => ?_, fun e => ?_, fun e => ?_, fun e => ?_⟩
  · rw [e, b2] at a2
    exact ne (Prod.ext e (Option.some.inj a2).symm)
  · rw [e, b3] at a2
    have := Option.some.inj a2
    omega
  · rw [e, b2] at a3
    have := Option.some.inj a3
    omega
  · rw [e, b3] at a3
    exact ne (Prod.ext (Option.some.inj a3).symm e)
theorem ofMt_mates (tok : TiesOk n ps) (up : UpT ps) {mt : Nat → Option Nat} (m : MtOk (webOf n ps) mt) : abF (mateL n (ofMt ps mt)) = mt := by
  have ws := webSym_of tok
  obtain ⟨h1, h2⟩ := (mem_all ps _).mp (ofMt_in tok up m)
  have ok := sub_ok tok h1 h2
  funext x
  cases e : mt x with
  | some y =>
    refine (mates_iff (W := webOf n ps) ok).mpr ⟨ws.irr x y (m.nb x y e), ofMt_mem.mpr ?_⟩
    unfold tieOf
    split
    · exact ⟨near_in tok ‹_› (m.nb x y e), e⟩
    · have : x ≠ y := ws.irr x y (m.nb x y e)
      exact ⟨near_in tok (by omega) (ws.sym _ _ (m.nb x y e)), m.inv x y e⟩
  | none =>
    cases e2 : abF (mateL n (ofMt ps mt)) x with
    | none => rfl
    | some y =>
      obtain ⟨ne, h3⟩ := (mates_iff (W := webOf n ps) ok).mp e2
      obtain ⟨h4, h5⟩ := ofMt_mem.mp h3
      unfold tieOf at h5
      split at h5
      · rw [e] at h5; cases h5
      · have := m.inv _ _ h5
        rw [e] at this
        cases this
theorem pairs_ex {qs : List (Nat × Nat)} (tok : TiesOk n ps) (ok : PairsOk (webOf n ps) qs) : ex (webOf n ps) (abF (mateL n qs)) + 2 * qs.length = n := by
  have h1 : (leftQ n qs).length + 2 * qs.length = n := leftQ_len (W := webOf n ps) ok
  have h2 : (leftQ n qs).length = ex (webOf n ps) (abF (mateL n qs)) := leftQ_exM (W := webOf n ps) ok
  omega
/-- the best of all pairings -/
def bestL (ps : List (Nat × Nat)) (k : Nat) : List (List (Nat × Nat)) := (allL [[]] ps).filter fun qs => decide (qs.length = k)
structure MostIs (ps : List (Nat × Nat)) (k : Nat) : Prop where
  some : ∃ qs ∈ allL [[]] ps, qs.length = k
  le : ∀ qs ∈ allL [[]] ps, qs.length ≤ k
theorem MostIs.great (tok : TiesOk n ps) (up : UpT ps) {k : Nat} (h : MostIs ps k) {qs : List (Nat × Nat)} (hq : qs ∈ bestL ps k) : PairsOk (webOf n ps) qs ∧ Great (webOf n ps) (abF (mateL n qs)) := by
  have ws := webSym_of tok
  obtain ⟨h1, h2⟩ := List.mem_filter.mp hq
  have h2 := of_decide_eq_true h2
  obtain ⟨s, a⟩ := (mem_all ps _).mp h1
  have ok := sub_ok tok s a
  refine ⟨ok, mtOk_mates (W := webOf n ps) ok ws, fun mt2 m2 => ?_⟩
  have h3 := ofMt_in tok up m2
  obtain ⟨s2, a2⟩ := (mem_all ps _).mp h3
  have h4 := pairs_ex tok (sub_ok tok s2 a2)
  rw [ofMt_mates tok up m2] at h4
  have h5 := pairs_ex tok ok
  have h6 := h.le _ h3
  show ex _ _ ≤ _
  have : ex (webOf n ps) (abF (mateL (webOf n ps).size qs)) = ex (webOf n ps) (abF (mateL n qs)) := rfl
  omega
theorem MostIs.in_best (tok : TiesOk n ps) (up : UpT ps) {k : Nat} (h : MostIs ps k) {mt : Nat → Option Nat} (g : Great (webOf n ps) mt) : ofMt ps mt ∈ bestL ps k := by
  have h3 := ofMt_in tok up g.m
  refine List.mem_filter.mpr ⟨h3, decide_eq_true ?_⟩
  obtain ⟨s2, a2⟩ := (mem_all ps _).mp h3
  have h4 := pairs_ex tok (sub_ok tok s2 a2)
  rw [ofMt_mates tok up g.m] at h4
  obtain ⟨qs, hq, hl⟩ := h.some
  obtain ⟨_, g2⟩ := h.great tok up (List.mem_filter.mpr ⟨hq, decide_eq_true hl⟩)
  obtain ⟨s, a⟩ := (mem_all ps _).mp hq
  have h5 := pairs_ex tok (sub_ok tok s a)
  have := g2.same g
  omega
/-- what most tells is one of them -/
theorem pairs_of_mt (tok : TiesOk n ps) (up : UpT ps) {ms : List (Option Nat)} (m : MtOk (webOf n ps) (abF ms)) : pairsOf ms = ofMt ps (abF ms) := by
  have ws := webSym_of tok
  have nd1 : (pairsOf ms).Nodup := (pairsOf_sorted ms).imp fun h e => by rw [e] at h; omega
  have nd2 : (ofMt ps (abF ms)).Nodup := (up.imp (fun {a b} h e => by subst e; omega) : ps.Nodup).filter _
  have pm : (pairsOf ms).Perm (ofMt ps (abF ms)) := (List.perm_ext_iff_of_nodup nd1 nd2).mpr fun t => by
    rw [pairsOf_at, ofMt_mem]
    constructor
    · rintro ⟨h1, h2⟩
      exact ⟨near_in tok h2 (m.nb _ _ h1), h1⟩
    · rintro ⟨h1, h2⟩
      exact ⟨h2, (tok t h1).1⟩
  have e1 := srtP_one pm ((pairsOf_sorted ms).imp fun h => leP_iff.mpr (.inl h))
  have e2 := srtP_one (List.Perm.refl (ofMt ps (abF ms))) ((List.Pairwise.filter _ up : (ofMt ps (abF ms)).Pairwise _).imp fun h => leP_iff.mpr (h.imp id fun z => ⟨z.1, Nat.le_of_lt z.2⟩))
  rw [e1, ← e2]
def hasB (x : Nat) (qs : List (Nat × Nat)) : Bool := qs.any fun q => decide (x ∈ [q.1, q.2])
theorem hasB_iff (tok : TiesOk n ps) {qs : List (Nat × Nat)} (ok : PairsOk (webOf n ps) qs) {x : Nat} (hx : x < n) : hasB x qs = true ↔ abF (mateL n qs) x ≠ none := by
  have h := leftQ_none (W := webOf n ps) ok (x := x)
  have h2 : x ∈ leftQ n qs ↔ x < n ∧ abF (mateL n qs) x = none := h
  rw [leftQ_mem] at h2
  unfold hasB
  rw [List.any_eq_true]
  constructor
  · rintro ⟨q, hq, e⟩ h3
    have e := of_decide_eq_true e
    simp only [List.mem_cons, List.mem_nil_iff, or_false] at e
    exact (h2.mpr ⟨hx, h3⟩).2 ⟨q, hq, e⟩
  · intro h3
    refine Classical.byContradiction fun h4 => h3 (h2.mp ⟨hx, fun ⟨q, hq, e⟩ => h4 ⟨q, hq, decide_eq_true ?_⟩⟩).2
    simp only [List.mem_cons, List.mem_nil_iff, or_false]
    exact e
theorem best_all (tok : TiesOk n ps) (up : UpT ps) {k : Nat} (h : MostIs ps k) {x : Nat} (hx : x < n) : ((bestL ps k).filter (hasB x)).length = (bestL ps k).length ↔ ¬ Missed (webOf n ps) x := by
  constructor
  · rintro e ⟨_, mt, g, hm⟩
    have hin := h.in_best tok up g
    obtain ⟨ok, _⟩ := h.great tok up hin
    have e2 : (bestL ps k).filter (hasB x) = bestL ps k := List.filter_sublist.eq_of_length e
    have := List.filter_eq_self.mp e2 _ hin
    rw [hasB_iff tok ok hx, ofMt_mates tok up g.m] at this
    exact this hm
  · intro nm
    rw [List.filter_eq_self.mpr fun qs hq => ?_]
    obtain ⟨ok, g⟩ := h.great tok up hq
    exact (hasB_iff tok ok hx).mpr fun e => nm ⟨hx, _, g, e⟩
theorem best_none (tok : TiesOk n ps) (up : UpT ps) {k : Nat} (h : MostIs ps k) {x : Nat} (hx : x < n) (mi : Missed (webOf n ps) x) : (bestL ps k).filter (hasB x) = [] ↔ nbOf (webOf n ps) x = [] := by
  have ws := webSym_of tok
  constructor
  · intro e
    obtain ⟨_, mt, g, hm⟩ := mi
    cases hn : nbOf (webOf n ps) x with
    | nil => rfl
    | cons o os =>
      have ho : o ∈ nbOf (webOf n ps) x := by rw [hn]; exact List.mem_cons_self
      cases hz : mt o with
      | none => exact absurd ho (g.free ws hm hz)
      | some z =>
        obtain ⟨g2, hx2⟩ := swap_in g ws hm ho hz
        have hin := h.in_best tok up g2
        obtain ⟨ok, _⟩ := h.great tok up hin
        have : hasB x (ofMt ps (upo (upo (upo mt z none) x (some o)) o (some x))) = true := by
          rw [hasB_iff tok ok hx, ofMt_mates tok up g2.m, hx2]
          exact fun e => nomatch e
        exact absurd (List.filter_eq_nil_iff.mp e _ hin) (by rw [this]; simp)
  · intro hn
    refine List.filter_eq_nil_iff.mpr fun qs hq e => ?_
    obtain ⟨ok, g⟩ := h.great tok up hq
    have := (hasB_iff tok ok hx).mp e
    cases c : abF (mateL n qs) x with
    | none => exact this c
    | some y =>
      have := g.m.nb x y c
      rw [hn] at this
      cases this
end
end OP
namespace OP
open PySem PySem.Spec PyProof.Rows L2 Evl
/-- a list of pairings -/
def Prss (H : Hp) (a : Addr) (zs : List (List (Nat × Nat))) : Prop := ∃ as : List Addr, H a = some (.lst (as.map V.ref)) ∧ Paired (Prs H) as zs
theorem Prss.go {H H' : Hp} {a : Addr} {zs : List (List (Nat × Nat))} (h : Prss H a zs) (e : Ex H H') : Prss H' a zs := by
  obtain ⟨as, h1, h2⟩ := h
  exact ⟨as, e _ _ h1, Paired.mapP h2 fun _ _ z => z.go e⟩
section
variable {K : PySem.W.Frag} {H : Hp}
theorem dp_prss {a : Addr} {zs : List (List (Nat × Nat))} (h : Prss H a zs) : Dp K H (.ref a) (pssD zs) := by
  obtain ⟨as, h1, h2⟩ := h
  exact .lst (sq_of h1) (dpAll_paired (fun _ _ r => dp_prs r) h2)
theorem rv_eqPss {a b : Addr} {x y : List (List (Nat × Nat))} (h1 : Prss H a x) (h2 : Prss H b y) : RV (rEqD K) (.ref a) (.ref b) H (.bl (decide (x = y))) := rv_eqD (fun _ e => ⟨dp_prss (h1.go e), dp_prss (h2.go e)⟩) (pssD_shaped _) (pssD_shaped _) (pssD_eqv _ _)
/-- pairs not in a list of pairings -/
theorem rv_niPs {p l : Addr} {q : List (Nat × Nat)} {zs : List (List (Nat × Nat))} (h1 : Prs H p q) (h2 : Prss H l zs) : RV (rNotInD K) (.ref p) (.ref l) H (.bl (!decide (q ∈ zs))) := fun H1 e Q k => by
  refine ⟨psD q, zs.map psD, dp_prs (h1.go e), dp_prss (h2.go e), ?_, pssD_shaped zs, ?_⟩
  · have := psD_depth q
    show ((psD q).canLay0 && decide ((psD q).depth ≤ 64)) = true
    rw [Bool.and_eq_true]
    exact ⟨psD_lay q, decide_eq_true (by omega)⟩
  · have : ((zs.map psD).any fun z => PyData.eqv z (psD q)) = decide (q ∈ zs) := by
      rw [List.any_map, Bool.eq_iff_iff, List.any_eq_true, decide_eq_true_iff]
      constructor
      · rintro ⟨y, hy, e⟩
        have e : PyData.eqv (psD y) (psD q) = true := e
        rw [psD_eqv] at e
        rw [← of_decide_eq_true e]
        exact hy
      · intro h
        exact ⟨q, h, by show PyData.eqv (psD q) (psD q) = true; rw [psD_eqv]; simp⟩
    rw [this]
    exact k H1 (Ex.refl H1)
end
end OP
namespace OP
open PySem PySem.Spec PyProof.Rows L2 Evl
section
variable {K : PySem.W.Frag} {σ : L2.St} {H : Hp} {ta tb tl te : TE} {R : Rn} {D : Ends}
theorem s_appN {l : Addr} {xs : List V} (hl : H l = some (.lst xs)) (ha : Ev ta σ H (.ref l)) (h : EvN te σ H R) (hz : xs.length < 100000) (k : ∀ v fs H1, Ex H H1 → (∀ p ∈ fs, H p = none) → R v fs H1 → D.nx σ (upd H1 l (.lst (xs ++ [v])))) : tDrop (tBM K "list" rAppend ta (tCons te tNil)) D σ H :=
  q_appN (tz := fun D => D.nx) hl ha h hz k
/-- pairs + [tie] -/
theorem en_catT {l b : Addr} {qs : List (Nat × Nat)} {t : Nat × Nat} (h1 : Ev ta σ H (.ref l)) (hl : Prs H l qs) (h2 : Ev tb σ H (.ref b)) (hb : Pr H b t) (few : qs.length ≤ 90000) : EvN (tOp rCat ta (tLst (tCons tb tNil))) σ H (fun v fs G => ∃ p, v = .ref p ∧ fs = [p] ∧ Prs G p (qs ++ [t])) := fun H1 e Q q => by
  obtain ⟨as, h3, h4⟩ := hl
  have len := paired_len h4
  refine EvN.imp (en_of_el (el_catV h1 h3 (el_lst (ea_cons h2 ea_nil) (by show 1 ≤ 100000; decide)) (by rw [List.length_map]; show _ + 1 ≤ _; omega))) (fun v fs G g ⟨p, e1, e2, e3⟩ => ?_) H1 e Q q
  exact ⟨p, e1, e2, as ++ [b], by rw [e3, List.map_append]; rfl, paired_app (Paired.mapP h4 fun _ _ z => g _ _ z) (.cons (g _ _ hb) .nil)⟩
theorem en_nest : EvN (tLst (tCons (tLst tNil) tNil)) σ H (fun v fs G => ∃ p, v = .ref p ∧ Prss G p [[]]) := fun H1 e Q q => ⟨by show 0 ≤ sizeLine; decide, fun b hb => ⟨by show 1 ≤ sizeLine; decide, fun p hp => q (.ref p) [] _ ((Ex.new hb).trans (Ex.new hp)) (fun _ h => nomatch h) ⟨p, rfl, [b], upd_same, .cons ⟨[], (Ex.new hp) _ _ upd_same, .nil⟩ .nil⟩⟩⟩
end
end OP

/-! xs.remove(x) on data; text * int; several except clauses, each with the same name. -/
namespace OP
open PySem PySem.Spec PyProof.Rows L2
section
variable {X : Cx}
/-- l.remove(y): the first equal one goes -/
def rRemD (K : PySem.W.Frag) : V → List V → Hp → VK → Prop := fun x xs H Q => ∃ (l : Addr) (y : V) (d : PyData) (vs : List V) (ds : List PyData) (j : Nat) (z : PyData), x = .ref l ∧ xs = [y] ∧ H l = some (.lst vs) ∧ DpAll K H vs ds ∧ Dp K H y d ∧
  SeqAt.shaped (.list ds) = true ∧ SeqAt.shaped d = true ∧ ds[j]? = some z ∧ PyData.eqv z d = true ∧ (∀ (m : Nat) (z' : PyData), m < j → ds[m]? = some z' → PyData.eqv z' d = false) ∧ Q .non (upd H l (.lst (vs.eraseIdx j)))
theorem mt_removeD (hu : X.A.units + 65 < cLine) : MtM X "list.remove" (rRemD X.K) := by
  intro pins s σ H x xs v us Q I rx rxs h
  obtain ⟨l, y, d, vs, ds, j, z, rfl, rfl, hH, hall, hy, sl, sd, hz, hzj, hno, q⟩ := h
  cases rx
  obtain ⟨uy, rfl, ry⟩ := Vals.one rxs
  obtain ⟨its, n, r, hl, e⟩ : ∃ its n, Vals vs its ∧ vs.length = its.length ∧ s.heap.get? l = some { cls := .type "list", data := .seq its.toArray n } ∧ vs.length ≤ sizeLine := by
    obtain ⟨z, its, n, r, hl, e⟩ := I.lstM hH
    exact ⟨its, n, r, hl, e, z⟩
  obtain ⟨e, z1⟩ := e
  obtain ⟨bs, r1⟩ := Dp.reads I d y uy hy ry
  obtain ⟨as, h4⟩ := Dp.readsAll I ds vs its hall r
  have lay : PyData.canLayAll0 ds = true := SeqAt.canLay_of_shaped sl
  have hn : its.length = ds.length := SeqAt.ReadsAll.length ds its as h4
  have hmap : its.map (SeqAt.readOf s.heap) = ds := SeqAt.readsAll_map ds its as lay h4
  have jd : j < ds.length := (List.getElem?_eq_some_iff.mp hz).1
  have jl : j < its.toArray.size := by rw [List.size_toArray]; omega
  have read : ∀ (m : Nat) (hm : m < its.toArray.size) (z' : PyData), ds[m]? = some z' → SeqAt.readOf s.heap its.toArray[m] = z' := by
    intro m hm z' hz'
    have hml : m < its.length := by simpa using hm
    rw [← hmap, List.getElem?_map, List.getElem?_eq_getElem hml] at hz'
    simpa using Option.some.inj hz'
  refine call_meets PySem.F.slot_list_remove ⟨_, e, rfl⟩ PySem.F.entry_list_remove (PySem.F.args_list_remove_2 _ _)
    (SeqAt.list_removeAt l its.toArray n none #[] uy (fun u => PyData.eqv (SeqAt.readOf s.heap u) d) j jl ?_ ?_ (by rw [List.size_toArray]; omega))
    ⟨e, SeqAt.items_eqAt (vs := its.toArray) (show ReadsAll s.heap its.toArray.toList ds as from h4) r1 lay (SeqAt.canLay_of_shaped sd) (room_in_shaped sd hu), ?_⟩
  · show PyData.eqv (SeqAt.readOf s.heap its.toArray[j]) d = true
    rw [read j jl z hz]
    exact hzj
  · intro m hm hmj
    have e3 : ds[m]? = some ds[m] := List.getElem?_eq_getElem (show m < ds.length by omega)
    show PyData.eqv (SeqAt.readOf s.heap its.toArray[m]) d = false
    rw [read m hm _ e3]
    exact hno m _ hmj e3
  · refine ⟨.non, _, I.lset (its' := its.eraseIdx j) (t' := s.toks) hH e ?_ (r.eraseIdx j) ?_, rfl, q⟩
    · show its.toArray.eraseIdxIfInBounds j = (its.eraseIdx j).toArray
      rw [List.eraseIdxIfInBounds_toArray]
    · have := List.length_eraseIdx_le vs j
      omega
/-- a text, once or not at all -/
def rMulS : R2 := fun x y H Q => ∃ (a : Str) (b : Bool), x = .str a ∧ y = .int (if b then 1 else 0) ∧ Q (.str (if b then a else Str.empty)) H
theorem op_mulS : OpR X (binaryOp .Mult) rMulS := by
  intro pins s σ H x y v u Q I rx ry h
  obtain ⟨a, b, rfl, rfl, q⟩ := h
  obtain ⟨t, rfl⟩ := rx
  obtain ⟨t2, rfl⟩ := ry
  cases b with
  | false => exact P.mul_str_none (by decide) (by decide) ⟨.str Str.empty, H, I.tok _, ⟨_, rfl⟩, q⟩
  | true =>
    refine P.mul_str (by decide) (fun _ z => absurd z (by simp)) (fun _ z => absurd z (by simp)) ?_
    rw [if_neg (show ¬ ((if true = true then (1 : Int) else 0) < 1) by decide), if_pos (by simp)]
    exact ⟨.str a, H, I, ⟨_, rfl⟩, q⟩
end
end OP

/-! try with several clauses `except C as n`, all with one name n. -/
namespace OP
open PySem PySem.Spec PyProof.Rows L2
/-- behind a clause its name is gone -/
def offE (i : Nat) (D : Ends) : Ends := { nx := fun σ H => D.nx (σ.set i none) H, rt := D.rt, bk := fun σ H => D.bk (σ.set i none) H, ct := fun σ H => D.ct (σ.set i none) H }
/-- one clause after the other is asked -/
def wNamed (K : PySem.W.Frag) (W0 : WX) (D : Ends) (i : Nat) : List (Value × (Addr → Value → Option Addr → TS)) → WX
  | [] => W0
  | (c, ts) :: l => fun cls d σ H => ∃ b, PySem.W.exmOne K cls c = some b ∧ (b = true → ∀ a, H a = none → ts a cls d (offE i D) (σ.set i (some (.ref a))) H) ∧ (b = false → wNamed K W0 D i l cls d σ H)
inductive Named (X : Cx) (n : Str) : List ExceptHandler → List (Value × (Addr → Value → Option Addr → TS)) → Prop
  | nil : Named X n [] []
  | cons {x : Str} {c : Value} {ts : Addr → Value → Option Addr → TS} {b₀ : Stmt} {suite : List Stmt} {np p : Pos} {hds : List ExceptHandler} {l : List (Value × (Addr → Value → Option Addr → TS))} (hc : Names X x c)
      (hsu : ∀ (a : Addr) (oe : Obj) (cls : Value) (d : Option Addr) (pn : List (Addr × Obj)), Zc cls d oe → (∃ vs, oe.data = .fields vs) → PSs (X.suite a ((a, oe) :: pn)) (b₀ :: suite) (ts a cls d)) (r : Named X n hds l) :
      Named X n (.ExceptHandler (some (.Name x np)) (some n) (b₀ :: suite) p :: hds) ((c, ts) :: l)
section
variable {X : Cx} {n : Str} {i : Nat} {body : List Stmt} {h₀ : ExceptHandler} {hds : List ExceptHandler} {l : List (Value × (Addr → Value → Option Addr → TS))} {pos : Pos} {tb : WX → TS} {W0 : WX}
theorem ps_try_named (hs : X.stack = X.env :: X.outer) (hf : X.env.frame = some X.env.locals) (hN : X.N.Nodup) (hi : X.N[i]? = some n) (hln : X.env.kindOf n = some .local) (tk : Takes X W0)
    (hb : ∀ (W : WX) (pn : List (Addr × Obj)) (xe : Value → Shared → Prop), Takes (X.tr pn xe) W → PassesOwn (model X.prog X.w) X.A X.env xe → PSs (X.tr pn xe) body (tb W))
    (hh : Named X n (h₀ :: hds) l) : PS X (.Try body (h₀ :: hds) [] [] pos) (fun D σ H => tb (wNamed X.K W0 D i l) D σ H) := by
  constructor
  intro pins s σ H D I h
  have ok := I.ok
  have fr : X.A.frames = some (X.env :: X.outer) := ok.frames.trans (congrArg some hs)
  apply wpAny_Try_except
  let xe : Value → Shared → Prop := fun e s1 => wpAny (model X.prog X.w) X.A (noteFrame e X.env) (fun _ s2 => wpAny (model X.prog X.w) X.A (setFlight e none) (fun _ s3 => wpAny (model X.prog X.w) X.A (handleBy e X.env (h₀ :: hds)) (SP X pins D) X.xe s3) X.xe s2) X.xe s1
  have took : Takes (X.tr (X.pn ++ pins) xe) (wNamed X.K W0 D i l) := by
    intro u s' hx
    obtain ⟨a, B, sI, pins', σ', H', cls, d, rfl, J', nb, up, sky, na, os, ag, asked⟩ := hx
    have J : Inv X pins σ' H' sI := J'.ofTry ok
    have sky2 : Sky B (X.env :: X.outer) a (Zc cls d) X.env.locals s'.heap := by
      rw [← hs]
      exact sky
    show wpAny (model X.prog X.w) X.A (noteFrame (.ref a) X.env) _ _ _
    apply Sky.land Zc.steady fr hf sky2
    intro h3 fl3 up3
    have up03 := up.trans up3
    -- the state in which the clauses are asked
    have J3 : Inv X pins σ' H' { s' with heap := h3 } := J.landed nb fl3.1 up03 os ag
    obtain ⟨oe, vs, he, hz, hd⟩ := fl3.there
    have out : a ∉ frs (X.env :: X.outer) := fun hm => by
      obtain ⟨_, o', e', hnf⟩ := fl3.2.2.1.mem hm
      rw [he] at e'
      cases e'
      exact hnf _ hd
    have nL : a ≠ X.env.locals := fun z => out (List.mem_filterMap.mpr ⟨X.env, List.mem_cons_self, by rw [hf, z]⟩)
    have nF : a ∉ X.fs := fun hm => by
      obtain ⟨e, he2, q⟩ := List.mem_filterMap.mp hm
      exact out (List.mem_filterMap.mpr ⟨e, List.mem_cons_of_mem _ he2, q⟩)
    have S3 := J3.suite he hd na nL nF
    have asks : ∀ {hs2 : List ExceptHandler} {l2 : List (Value × (Addr → Value → Option Addr → TS))}, Named X n hs2 l2 → wNamed X.K W0 D i l2 cls d σ' H' → wpAny (model X.prog X.w) X.A (handleBy (.ref a) X.env hs2) (SP X pins D) X.xe { s' with heap := h3 } := by
      intro hs2 l2 hk
      induction hk with
      | nil =>
        intro w
        apply wpAny_handleBy_nil
        obtain ⟨_, _, _, o1, vs1, T, _, _, he1, _, hd1, h1, _⟩ := id fl3
        unfold PySem.passOn
        refine wpAny_bind (wpAny_field he1 hd1 h1 ?_)
        have nn : ¬ ((Value.ref T == Value.none) = true) := by simp
        rw [if_neg nn]
        have on : wpAny (model X.prog X.w) X.A (setFlight (.ref a) X.env.frame) (fun _ s4 => wpAny (model X.prog X.w) X.A (throw (.ref a) : Sem Flow) (SP X pins D) X.xe s4) X.xe { s' with heap := h3 } := by
          rw [hf]
          exact HandSPX.setFlight_upZ fl3 fun h4 hh4 up4 => wpAny_throw (tk _ _ ⟨a, B, sI, pins, σ', H', cls, d, rfl, J, nb, up03.trans up4, .inr (.inr (by rw [hs]; exact hh4)), na, os, ag, w⟩)
        first
          | exact wpAny_bind (wpAny_pure (wpAny_bind on))
          | exact wpAny_bind on
      | @cons x c ts b₀ suite np p hs3 l3 hc hsu r ih =>
        rintro ⟨b, hb1, yes, no⟩
        apply wpAny_handleBy_cons
        · apply codeAny_handlers_test
          have looks : PySem.W.Looks (model X.prog X.w) h3 (typeOf (.ref a)) cls := fun A Q E s k q => wpAny_typeOf_ref (k _ _ he) (by rw [hz.1]; exact q)
          have meets := PySem.W.exm_one (M := model X.prog X.w) J3.kIn looks hb1
          have named : ∀ {Q E : Value → Shared → Prop}, Q c { s' with heap := h3 } → wpAny (model X.prog X.w) (X.A.mark (some (.ref a))) (eval (.Name x np) X.env) Q E { s' with heap := h3 } := by
            intro Q E q
            obtain ⟨hg, hdbg, hm | ⟨hm, hv, hnn⟩⟩ := hc
            · exact ld_glob (X := X.suite a ((a, oe) :: (X.pn ++ pins))) S3 hg hm q hdbg
            · exact ld_blt (X := X.suite a ((a, oe) :: (X.pn ++ pins))) S3 hg hm hv q hnn hdbg
          apply named
          apply meets.here
          cases b with
          | false => exact ih (no rfl)
          | true =>
            apply codeAny_handlers_suite_as
            apply HandSPX.lands_againZ fl3
            intro h4 fl4 up4
            have J4 : Inv X pins σ' H' { s' with heap := h4 } := J.landed nb fl4.1 (up03.trans up4) os ag
            obtain ⟨o4, vs4, he4, hz4, hd4⟩ := fl4.there
            refine store_ok (X := X.suite a ((a, o4) :: (X.pn ++ pins))) (v := .ref a) (J4.suite he4 hd4 na nL nF) hN hi (.inl hln) rfl (fun s5 S5 => ?_) (.inr hln)
            have ran := (hsu a o4 cls d (X.pn ++ pins) hz4 ⟨_, hd4⟩).run [] s5 _ H' _ S5 (yes rfl a na)
            refine wpAny_mono ran (fun f s6 hsp => ?_) (fun _ _ z => False.elim z)
            have gone : ∀ {σ6 : L2.St} {H6 : Hp} {Q : Shared → Prop}, Inv (X.suite a ((a, o4) :: (X.pn ++ pins))) [] σ6 H6 s6 → (∀ s7, Inv X pins (σ6.set i none) H6 s7 → Q s7) →
                wpAny (model X.prog X.w) X.A (do bindName X.env n .none; unbindBehindTheSuite X.env n p) (fun _ s7 => Q s7) X.xe s6 := fun S6 hq => gone_ok (S6.unsuite ok) hN hi hln hq
            rcases f with _ | _ | _ | u
            all_goals first
              | (obtain ⟨v6, σ6, H6, S6, r6, q6⟩ := hsp; exact gone S6 fun s7 J7 => ⟨_, _, _, J7, r6, q6⟩)
              | (obtain ⟨σ6, H6, S6, q6⟩ := hsp; exact gone S6 fun s7 J7 => ⟨_, _, J7, q6⟩)
        · intro q
          cases q
    exact asks hh asked
  refine wpAny_mono ((hb _ (X.pn ++ pins) xe took PassesOwn.looking).run [] s σ H D (I.toTry _) h) (fun f s1 hsp => ?_) (fun e s1 he => he)
  rcases f with _ | _ | _ | u
  all_goals first
    | (obtain ⟨v, σ', H', J', r, q⟩ := hsp; exact ⟨v, σ', H', J'.ofTry ok, r, q⟩)
    | (obtain ⟨σ', H', J', q⟩ := hsp; exact wpAny_execs_nil ⟨σ', H', J'.ofTry ok, q⟩)
    | (obtain ⟨σ', H', J', q⟩ := hsp; exact ⟨σ', H', J'.ofTry ok, q⟩)
end
end OP

/-! Ties put and cut, plainly: a greatest pairing stays greatest by one way. -/
namespace OP
section
variable {n : Nat} {ps qs : List (Nat × Nat)}
theorem webOf_congr (h : ∀ t, t ∈ ps ↔ t ∈ qs) : webOf n ps = webOf n qs := by
  have : nearOf n ps = nearOf n qs := by
    funext i
    unfold nearOf
    congr 1
    funext j
    rw [Bool.eq_iff_iff, Bool.or_eq_true, Bool.or_eq_true, List.contains_iff_mem, List.contains_iff_mem, List.contains_iff_mem, List.contains_iff_mem, h, h]
  unfold webOf
  rw [this]
theorem webOf_srt : webOf n (srtP ps) = webOf n ps := webOf_congr fun _ => (srtP_perm ps).mem_iff
theorem MtOk.mono (tok : TiesOk n ps) (tok2 : TiesOk n qs) (h : ∀ t ∈ ps, t ∈ qs) {mt : Nat → Option Nat} (m : MtOk (webOf n ps) mt) : MtOk (webOf n qs) mt :=
  ⟨m.inv, fun x y e => (nb_iff tok2).mpr (((nb_iff tok).mp (m.nb x y e)).imp (h _) (h _))⟩
theorem put_ok (tok : TiesOk n ps) {t : Nat × Nat} (h1 : t.1 < t.2) (h2 : t.2 < n) : TiesOk n (ps ++ [t]) := fun q hq => (List.mem_append.mp hq).elim (tok q) fun e => by
  rw [List.mem_singleton.mp e]
  exact ⟨h1, h2⟩
theorem put_nd (nd : ps.Nodup) {t : Nat × Nat} (h : t ∉ ps) : (ps ++ [t]).Nodup := by
  rw [List.nodup_append]
  refine ⟨nd, by simp, fun a ha b hb e => ?_⟩
  rw [List.mem_singleton.mp hb] at e
  rw [e] at ha
  exact h ha
theorem put_mt (tok : TiesOk n ps) {t : Nat × Nat} (h1 : t.1 < t.2) (h2 : t.2 < n) {mt : Nat → Option Nat} (m : MtOk (webOf n ps) mt) : MtOk (webOf n (ps ++ [t])) mt :=
  m.mono tok (put_ok tok h1 h2) fun _ h => List.mem_append_left _ h
/-- a tie more spares at most two places -/
theorem put_low (tok : TiesOk n ps) {t : Nat × Nat} (h1 : t.1 < t.2) (h2 : t.2 < n) {mt mt2 : Nat → Option Nat} (g : Great (webOf n ps) mt) (m2 : MtOk (webOf n (ps ++ [t])) mt2) : ex (webOf n ps) mt ≤ ex (webOf n (ps ++ [t])) mt2 + 2 := by
  have tok2 := put_ok tok h1 h2
  by_cases c : mt2 t.1 = some t.2
  · obtain ⟨a, b⟩ := off_pair tok2 m2 c
    have m3 : MtOk (webOf n ps) (upo (upo mt2 t.2 none) t.1 none) := a.mono (less_ok tok2) tok fun q hq => by
      obtain ⟨q1, q2, _⟩ := lessP_mem.mp hq
      rcases List.mem_append.mp q1 with h | h
      · exact h
      · rw [List.mem_singleton.mp h] at q2
        exact absurd rfl q2
    have := g.le _ m3
    have : ex (webOf n (ps ++ [t])) (upo (upo mt2 t.2 none) t.1 none) = ex (webOf n ps) (upo (upo mt2 t.2 none) t.1 none) := rfl
    omega
  · have m3 : MtOk (webOf n ps) mt2 := ⟨m2.inv, fun x y e => (nb_iff tok).mpr (by
      rcases (nb_iff tok2).mp (m2.nb x y e) with h | h
      · rcases List.mem_append.mp h with h | h
        · exact .inl h
        · have := List.mem_singleton.mp h
          rw [← this] at c
          exact absurd e c
      · rcases List.mem_append.mp h with h | h
        · exact .inr h
        · have := List.mem_singleton.mp h
          rw [← this] at c
          exact absurd (m2.inv _ _ e) c)⟩
    have := g.le _ m3
    have : ex (webOf n (ps ++ [t])) mt2 = ex (webOf n ps) mt2 := rfl
    omega
theorem put_great (tok : TiesOk n ps) {t : Nat × Nat} (h1 : t.1 < t.2) (h2 : t.2 < n) {mt mt2 : Nat → Option Nat} (g : Great (webOf n ps) mt) (m2 : MtOk (webOf n (ps ++ [t])) mt2) (h : ex (webOf n (ps ++ [t])) mt2 + 2 = ex (webOf n (ps ++ [t])) mt) : Great (webOf n (ps ++ [t])) mt2 :=
  ⟨m2, fun mt3 m3 => by
    have := put_low tok h1 h2 g m3
    have : ex (webOf n (ps ++ [t])) mt = ex (webOf n ps) mt := rfl
    omega⟩
theorem cut_ok (tok : TiesOk n ps) (t : Nat × Nat) : TiesOk n (ps.erase t) := fun q hq => tok q (List.mem_of_mem_erase hq)
theorem cut_mem (nd : ps.Nodup) {t q : Nat × Nat} : q ∈ ps.erase t ↔ q ∈ ps ∧ q ≠ t := by
  rw [nd.mem_erase_iff]
  exact And.comm
theorem cut_up (tok : TiesOk n ps) {t : Nat × Nat} {mt : Nat → Option Nat} (m : MtOk (webOf n (ps.erase t)) mt) : MtOk (webOf n ps) mt := m.mono (cut_ok tok t) tok fun _ h => List.mem_of_mem_erase h
theorem cut_stay (tok : TiesOk n ps) (nd : ps.Nodup) {t : Nat × Nat} {mt : Nat → Option Nat} (g : Great (webOf n ps) mt) (h : mt t.1 ≠ some t.2) : Great (webOf n (ps.erase t)) mt := by
  refine ⟨⟨g.m.inv, fun x y e => (nb_iff (cut_ok tok t)).mpr ?_⟩, fun mt2 m2 => g.le mt2 (cut_up tok m2)⟩
  rcases (nb_iff tok).mp (g.m.nb x y e) with w | w
  · refine .inl ((cut_mem nd).mpr ⟨w, fun z => h ?_⟩)
    rw [← z]
    exact e
  · refine .inr ((cut_mem nd).mpr ⟨w, fun z => h ?_⟩)
    rw [← z]
    exact g.m.inv _ _ e
theorem cut_off (tok : TiesOk n ps) (nd : ps.Nodup) {t : Nat × Nat} {mt : Nat → Option Nat} (g : Great (webOf n ps) mt) (h : mt t.1 = some t.2) : MtOk (webOf n (ps.erase t)) (upo (upo mt t.2 none) t.1 none) ∧ ex (webOf n (ps.erase t)) (upo (upo mt t.2 none) t.1 none) = ex (webOf n ps) mt + 2 := by
  obtain ⟨a, b⟩ := off_pair tok g.m h
  refine ⟨a.mono (less_ok tok) (cut_ok tok t) fun q hq => ?_, b⟩
  obtain ⟨q1, q2, _⟩ := lessP_mem.mp hq
  exact (cut_mem nd).mpr ⟨q1, fun e => q2 (by rw [e])⟩
theorem cut_great (tok : TiesOk n ps) {t : Nat × Nat} {mt mt2 : Nat → Option Nat} (g : Great (webOf n ps) mt) (m2 : MtOk (webOf n (ps.erase t)) mt2) (h : ex (webOf n (ps.erase t)) mt2 = ex (webOf n ps) mt) : Great (webOf n (ps.erase t)) mt2 :=
  ⟨m2, fun mt3 m3 => by
    have := g.le mt3 (cut_up tok m3)
    have : ex (webOf n (ps.erase t)) mt3 = ex (webOf n ps) mt3 := rfl
    omega⟩
theorem upo_swap {f : Nat → Option Nat} {a b : Nat} (ne : a ≠ b) (x y : Option Nat) : upo (upo f a x) b y = upo (upo f b y) a x := by
  funext z
  by_cases h1 : z = a
  · rw [h1, upo_ne ne, upo_eq, upo_eq]
  · by_cases h2 : z = b
    · rw [h2, upo_eq, upo_ne (Ne.symm ne), upo_eq]
    · rw [upo_ne h2, upo_ne h1, upo_ne h1, upo_ne h2]
end
/-- what a kept one knows -/
structure KeptOk (n : Nat) (ps : List (Nat × Nat)) (ms : List (Option Nat)) : Prop where
  n1 : 1 ≤ n
  n40 : n ≤ 40
  tok : TiesOk n ps
  nd : ps.Nodup
  few : ps.length ≤ 900
  len : ms.length = n
  g : Great (webOf n ps) (abF ms)
theorem KeptOk.many {n : Nat} {ps : List (Nat × Nat)} {ms : List (Option Nat)} (k : KeptOk n ps ms) : 2 * (pairsOf ms).length + ex (webOf n ps) (abF ms) = n := by
  have sym := webSym_of k.tok
  have l1 : (leftQ n (pairsOf ms)).length + 2 * (pairsOf ms).length = n := leftQ_len (W := webOf n ps) (pairsOf_ok k.g.m sym)
  have l2 : (leftQ n (pairsOf ms)).length = ex (webOf n ps) (abF ms) := leftQ_ex (W := webOf n ps) k.g.m sym
  omega
theorem keptOk_nil {n : Nat} (n1 : 1 ≤ n) (n40 : n ≤ 40) : KeptOk n [] (List.replicate n none) := by
  refine ⟨n1, n40, fun _ h => (nomatch h), .nil, Nat.zero_le _, by simp, ?_⟩
  have tok : TiesOk n [] := fun _ h => (nomatch h)
  refine ⟨⟨fun x y h => ?_, fun x y h => ?_⟩, fun mt m => ?_⟩
  · rw [abF_none] at h; cases h
  · rw [abF_none] at h; cases h
  · refine cnt_le fun x _ _ => ?_
    cases e : mt x with
    | none => rfl
    | some y =>
      have := (nb_iff tok).mp (m.nb x y e)
      rcases this with h | h <;> cases h
end OP

/-! What a call changes, and nothing else; a kept one in the heap; small rules for the deeds. -/
namespace OP
open PySem PySem.Spec PyProof.Rows L2 Evl
/-- all but what stands at ws is as it was, and nothing is gone -/
structure Fr (ws : List Addr) (H H' : Hp) : Prop where
  ex : Ex (cutH ws H) H'
  liv : ∀ p, H p ≠ none → H' p ≠ none
section
variable {ws vs ds ds' : List Addr} {H H1 H2 H' : Hp} {p : Addr} {o : HO}
theorem Fr.of (e : Ex H H') : Fr ws H H' := ⟨(cutH_ex ws H).trans e, fun p h h2 => h (fresh_back e h2)⟩
theorem Fr.at (f : Fr ws H H') (n : p ∉ ws) (h : H p = some o) : H' p = some o := f.ex _ _ (cutH_at n h)
theorem Fr.gone (f : Fr ws H H') (h : H' p = none) : H p = none := Classical.byContradiction fun c => f.liv p c h
theorem cut_of {p : Addr} (h : cutH ds H p = some o) : p ∉ ds ∧ H p = some o := by
  unfold cutH at h
  split at h
  · cases h
  · rename_i n
    exact ⟨n, h⟩
theorem Fr.trans (a : Fr ws H H1) (b : Fr ws H1 H2) : Fr ws H H2 := ⟨fun p o h => by
  obtain ⟨n, h⟩ := cut_of h
  exact b.at n (a.at n h), fun p h => b.liv p (a.liv p h)⟩
theorem Fr.then (a : Fr ws H H1) (e : Ex H1 H2) : Fr ws H H2 := a.trans (.of e)
theorem Fr.mono (a : Fr ws H H1) (s : ∀ x ∈ ws, x ∈ vs) : Fr vs H H1 := ⟨fun p o h => by
  obtain ⟨n, h⟩ := cut_of h
  exact a.at (fun z => n (s p z)) h, a.liv⟩
theorem Fr.upd (a : Fr ws H H1) (h : p ∈ ws ∨ H p = none) : Fr ws H (upd H1 p o) := ⟨fun q u z => by
  obtain ⟨n, z⟩ := cut_of z
  rw [upd_ne (fun w => by
    rw [w] at n z
    rcases h with h | h
    · exact n h
    · rw [h] at z; cases z)]
  exact a.at n z, fun q hq => by
  by_cases w : q = p
  · rw [w, upd_same]; exact fun z => nomatch z
  · rw [upd_ne w]; exact a.liv q hq⟩
theorem Fr.cut (f : Fr ws H H') (h1 : ∀ p ∈ ws, p ∈ ds ∨ H p = none) (h2 : ∀ p ∈ ds', p ∈ ds ∨ H p = none) : Ex (cutH ds H) (cutH ds' H') := fun p o h => by
  obtain ⟨n, h⟩ := cut_of h
  refine cutH_at (fun z => ?_) (f.at (fun z => ?_) h)
  · rcases h2 p z with w | w
    · exact n w
    · rw [w] at h; cases h
  · rcases h1 p z with w | w
    · exact n w
    · rw [w] at h; cases h
end
/-- they all stand in the heap -/
def Live (H : Hp) (ds : List Addr) : Prop := ∀ d ∈ ds, H d ≠ none
theorem Live.go {ws ds : List Addr} {H H' : Hp} (l : Live H ds) (f : Fr ws H H') : Live H' ds := fun d hd => f.liv d (l d hd)
theorem Live.ex {ds : List Addr} {H H' : Hp} (l : Live H ds) (e : Ex H H') : Live H' ds := l.go (ws := []) (.of e)
theorem Live.cons {ds : List Addr} {H : Hp} {m : Addr} (l : Live H ds) (h : H m ≠ none) : Live H (m :: ds) := fun d hd => by
  rcases List.mem_cons.mp hd with e | e
  · rw [e]; exact h
  · exact l d e
/-! ### a kept one -/
def keptF (w m : Addr) : List (Str × V) := [(("web" : Str), (.ref w : V)), (("mates" : Str), (.ref m : V))]
theorem kne : ¬ (("web" : Str) = "mates") := by decide +kernel
theorem keptF_web (w m : Addr) : (keptF w m).lookup ("web" : Str) = some (.ref w) := by
  unfold keptF
  rw [List.lookup_cons_self]
theorem keptF_mates (w m : Addr) : (keptF w m).lookup ("mates" : Str) = some (.ref m) := by
  unfold keptF
  rw [List.lookup_cons, show (("mates" : Str) == "web") = false by decide +kernel]
  dsimp only
  rw [List.lookup_cons_self]
theorem keptF_no (w m : Addr) {x : Str} (h1 : (x == ("web" : Str)) = false) (h2 : (x == ("mates" : Str)) = false) : (keptF w m).lookup x = none := by
  unfold keptF
  rw [List.lookup_cons, h1]
  dsimp only
  rw [List.lookup_cons, h2]
  rfl
theorem put_k1 (w m : Addr) : putF "mates" (.ref m) ([(("web" : Str), (.ref w : V))] : List (Str × V)) = keptF w m := by
  simp [putF, keptF, kne]
theorem put_kw (w m x : Addr) : putF "web" (.ref x) (keptF w m) = keptF x m := by
  simp [putF, keptF]
theorem put_km (w m x : Addr) : putF "mates" (.ref x) (keptF w m) = keptF w x := by
  simp [putF, keptF, kne]
/-- k is a Kept whose net and mates are so; all that may change stands at ds -/
structure KAt (C CN : Addr) (ds : List Addr) (H : Hp) (k m : Addr) (n : Nat) (ps : List (Nat × Nat)) (ms : List (Option Nat)) : Prop where
  ki : k ∈ ds
  mi : m ∈ ds
  km : k ≠ m
  web : ∃ dx wb, H k = some (.ins C dx (keptF wb m)) ∧ NetAt CN (cutH ds H) wb (webOf n ps)
  mts : Opts H m ms
theorem KAt.go {C CN : Addr} {ws ds ds' : List Addr} {H H' : Hp} {k m : Addr} {n : Nat} {ps : List (Nat × Nat)} {ms : List (Option Nat)} (x : KAt C CN ds H k m n ps ms) (f : Fr ws H H') (nk : k ∉ ws) (nm : m ∉ ws) (h1 : ∀ p ∈ ws, p ∈ ds ∨ H p = none) (sub : ∀ p ∈ ds, p ∈ ds') (h2 : ∀ p ∈ ds', p ∈ ds ∨ H p = none) : KAt C CN ds' H' k m n ps ms := by
  obtain ⟨ki, mi, km, ⟨dx, wb, hk, hn⟩, hm⟩ := x
  exact ⟨sub _ ki, sub _ mi, km, ⟨dx, wb, f.at nk hk, hn.go (f.cut h1 h2)⟩, f.at nm hm⟩
theorem KAt.ex {C CN : Addr} {ds : List Addr} {H H' : Hp} {k m : Addr} {n : Nat} {ps : List (Nat × Nat)} {ms : List (Option Nat)} (x : KAt C CN ds H k m n ps ms) (e : Ex H H') : KAt C CN ds H' k m n ps ms :=
  x.go (ws := []) (.of e) (fun z => nomatch z) (fun z => nomatch z) (fun _ z => nomatch z) (fun _ z => z) (fun _ z => .inl z)
theorem KAt.more {C CN : Addr} {ds : List Addr} {H : Hp} {k m : Addr} {n : Nat} {ps : List (Nat × Nat)} {ms : List (Option Nat)} (x : KAt C CN ds H k m n ps ms) : KAt C CN (m :: ds) H k m n ps ms :=
  x.go (ws := []) (.of (Ex.refl H)) (fun z => nomatch z) (fun z => nomatch z) (fun _ z => nomatch z) (fun _ z => List.mem_cons_of_mem _ z) (fun p z => .inl ((List.mem_cons.mp z).elim (fun e => by rw [e]; exact x.mi) id))
/-- a new net stands apart from all that lived -/
theorem NetNew.cut {CN : Addr} {ds : List Addr} {H G : Hp} {x : Addr} {W : Web} (net : NetNew CN H G x W) (hx : H x = none) (l : ∀ d ∈ ds, H d ≠ none) : NetAt CN (cutH ds G) x W := by
  obtain ⟨dx, r, as, h1, h2, h3, h4, h5⟩ := net
  have off : ∀ p, H p = none → p ∉ ds := fun p hp hd => l p hd hp
  refine ⟨dx, r, cutH_at (off x hx) h1, as, cutH_at (off r h2) h3, paired_imp h4 fun b hb r' z => ?_⟩
  exact cutH_at (off b (h5 b hb)) z
/-! ### ties -/
theorem nodup_subP : ∀ {l l2 : List (Nat × Nat)}, l.Nodup → (∀ x ∈ l, x ∈ l2) → l.length ≤ l2.length
  | [], _, _, _ => Nat.zero_le _
  | a :: l, l2, nd, sub => by
    obtain ⟨n1, n2⟩ := List.nodup_cons.mp nd
    have ha := sub a List.mem_cons_self
    have := nodup_subP (l := l) (l2 := l2.erase a) n2 fun x hx => (List.mem_erase_of_ne (fun e => n1 (by rw [← e]; exact hx))).mpr (sub x (List.mem_cons_of_mem _ hx))
    rw [List.length_erase_of_mem ha] at this
    have := List.length_pos_of_mem ha
    rw [List.length_cons]
    omega
def all40 : List (Nat × Nat) := (List.range 40).flatMap fun j => (List.range j).map fun i => (i, j)
theorem all40_len : all40.length = 780 := by decide +kernel
theorem few_ties {n : Nat} {ps : List (Nat × Nat)} (n40 : n ≤ 40) (tok : TiesOk n ps) (nd : ps.Nodup) : ps.length ≤ 780 := by
  rw [← all40_len]
  refine nodup_subP nd fun t ht => ?_
  obtain ⟨h1, h2⟩ := tok t ht
  exact List.mem_flatMap.mpr ⟨t.2, List.mem_range.mpr (by omega), List.mem_map.mpr ⟨t.1, List.mem_range.mpr h1, rfl⟩⟩
theorem srt_ok {n : Nat} {ps : List (Nat × Nat)} (tok : TiesOk n ps) : TiesOk n (srtP ps) := fun t ht => tok t ((srtP_perm ps).mem_iff.mp ht)
theorem srt_nd {ps : List (Nat × Nat)} (nd : ps.Nodup) : (srtP ps).Nodup := (srtP_perm ps).nodup_iff.mpr nd
theorem srt_self (ps : List (Nat × Nat)) : srtP (srtP ps) = srtP ps := (srtP_one (List.Perm.refl _) (srtP_le ps)).symm
theorem srt_len (ps : List (Nat × Nat)) : (srtP ps).length = ps.length := (srtP_perm ps).length_eq
theorem srt_mem {ps : List (Nat × Nat)} {t : Nat × Nat} : t ∈ srtP ps ↔ t ∈ ps := (srtP_perm ps).mem_iff
/-- the places beside one, as a law finds them among ties -/
theorem beside_eq {n p : Nat} {ps : List (Nat × Nat)} (tok : TiesOk n ps) (nd : ps.Nodup) : srt ((ps.filter fun t => decide (p = t.1 ∨ p = t.2)).map fun t => t.1 + t.2 - p) = nearOf n ps p := by
  refine (srt_one ?_ ((nearOf_le n ps p).imp Nat.le_of_lt)).symm
  refine (List.perm_ext_iff_of_nodup ((nearOf_le n ps p).imp Nat.ne_of_lt) ?_).mpr fun y => ?_
  · unfold List.Nodup
    rw [List.pairwise_map, List.pairwise_filter]
    refine nd.imp_of_mem fun {a b} ha hb ne pa pb e => ne ?_
    have pa := of_decide_eq_true pa
    have pb := of_decide_eq_true pb
    have a1 := tok a ha
    have b1 := tok b hb
    refine Prod.ext ?_ ?_ <;> omega
  · rw [mem_nearOf, List.mem_map]
    constructor
    · rintro ⟨h, h2⟩
      rcases h2 with h2 | h2
      · exact ⟨(p, y), List.mem_filter.mpr ⟨h2, by simp⟩, by dsimp only; omega⟩
      · exact ⟨(y, p), List.mem_filter.mpr ⟨h2, by simp⟩, by dsimp only; omega⟩
    · rintro ⟨t, ht, rfl⟩
      obtain ⟨h1, h2⟩ := List.mem_filter.mp ht
      have h2 := of_decide_eq_true h2
      have h3 := tok t h1
      refine ⟨by omega, ?_⟩
      rcases h2 with h2 | h2
      · refine .inl ?_
        rw [show (p, t.1 + t.2 - p) = t from Prod.ext h2 (by dsimp only; omega)]
        exact h1
      · refine .inr ?_
        rw [show (t.1 + t.2 - p, p) = t from Prod.ext (by dsimp only; omega) h2]
        exact h1
theorem erase_idx {ps : List (Nat × Nat)} {t : Nat × Nat} (h : t ∈ ps) : ∃ j, ps[j]? = some t ∧ (∀ (m : Nat) (q : Nat × Nat), m < j → ps[m]? = some q → q ≠ t) ∧ ps.eraseIdx j = ps.erase t := by
  induction ps with
  | nil => cases h
  | cons a ps ih =>
    by_cases e : a = t
    · refine ⟨0, by rw [e]; rfl, fun m _ h => absurd h (Nat.not_lt_zero _), ?_⟩
      rw [e, List.erase_cons_head]
      rfl
    · obtain ⟨j, h1, h2, h3⟩ := ih ((List.mem_cons.mp h).resolve_left (Ne.symm e))
      refine ⟨j + 1, by rw [List.getElem?_cons_succ]; exact h1, fun m q hm hq => ?_, ?_⟩
      · cases m with
        | zero =>
          rw [List.getElem?_cons_zero] at hq
          cases hq
          exact e
        | succ m =>
          rw [List.getElem?_cons_succ] at hq
          exact h2 m q (by omega) hq
      · rw [List.eraseIdx_cons_succ, h3, List.erase_cons_tail (by simpa using e)]
theorem paired_erase {α β : Type} {F : α → β → Prop} : ∀ {as : List α} {bs : List β} (j : Nat), Paired F as bs → Paired F (as.eraseIdx j) (bs.eraseIdx j)
  | _, _, _, .nil => .nil
  | _, _, 0, .cons _ t => t
  | _, _, j + 1, .cons r t => .cons r (paired_erase j t)
section
variable {K : PySem.W.Frag} {σ : L2.St} {H H' : Hp} {ta tb te tx : TE} {x y z v : V} {D : Ends} {tu tz : TS} {ps : List (Nat × Nat)}
theorem rcMin {x y : Nat} : RC (fun xs H Q => ∃ i j, xs = [.int i, .int j] ∧ Q (.int (if j < i then j else i)) H) [vn x, vn y] H (vn (tieOf x y).1) := fun H1 _ Q q => ⟨_, _, rfl, by
  have : (if (y : Int) < (x : Int) then (y : Int) else (x : Int)) = (((tieOf x y).1 : Nat) : Int) := by
    rcases tieOf_cases x y with ⟨e, h⟩ | ⟨e, h⟩ <;> rw [e] <;> dsimp only <;> split <;> omega
  rw [this]
  exact q H1 (Ex.refl H1)⟩
theorem rcMax {x y : Nat} : RC (fun xs H Q => ∃ i j, xs = [.int i, .int j] ∧ Q (.int (if j > i then j else i)) H) [vn x, vn y] H (vn (tieOf x y).2) := fun H1 _ Q q => ⟨_, _, rfl, by
  have : (if (y : Int) > (x : Int) then (y : Int) else (x : Int)) = (((tieOf x y).2 : Nat) : Int) := by
    rcases tieOf_cases x y with ⟨e, h⟩ | ⟨e, h⟩ <;> rw [e] <;> dsimp only <;> split <;> omega
  rw [this]
  exact q H1 (Ex.refl H1)⟩
/-- if not f(..): a call that may change things -/
theorem s_unless {sp : Sp} {dvs vs : List V} {E : XK} {tr : TA} (h : EvA tr σ H vs) (k : ∀ H1, Ex H H1 → ∀ Q : VK, (∀ G, D.nx σ G → Q (.bl true) G) → sp (vs ++ dvs) H1 Q E) : tIfS (tNot (tB (tCall sp dvs E tr))) tu tNext D σ H :=
  h H (Ex.refl H) _ fun H1 e1 => k H1 e1 _ fun G g => ⟨true, rfl, g⟩
theorem q_unless {sp : Sp} {dvs vs : List V} {E : XK} {tr : TA} (h : EvA tr σ H vs) (k : ∀ H1, Ex H H1 → ∀ Q : VK, (∀ G, tz D σ G → Q (.bl true) G) → sp (vs ++ dvs) H1 Q E) : tSeq (tIfS (tNot (tB (tCall sp dvs E tr))) tu tNext) tz D σ H :=
  s_unless (D := { D with nx := tz D }) h k
/-- a call whose promise is told to the end -/
theorem s_retC {sp : Sp} {dvs vs : List V} {E : XK} {tr : TA} (h : EvA tr σ H vs) (k : ∀ H1, Ex H H1 → sp (vs ++ dvs) H1 D.rt E) : tRet (tCall sp dvs E tr) D σ H := h H (Ex.refl H) _ k
theorem q_asgC {i : Nat} {sp : Sp} {dvs vs : List V} {E : XK} {tr : TA} (h : EvA tr σ H vs) (k : ∀ H1, Ex H H1 → sp (vs ++ dvs) H1 (fun v H2 => tz D (σ.set i (some v)) H2) E) : tSeq (tAsg (tCall sp dvs E tr) (gName i)) tz D σ H := h H (Ex.refl H) _ k
/-- o.f(..) -/
theorem meth_of {C : Addr} {sp : Sp} {dvs vs : List V} {E : XK} {tr : TA} {nm : Str} {Q : VK} {a dx : Addr} {fs : List (Str × V)} (h1 : Ev te σ H (.ref a)) (ha : H a = some (.ins C dx fs)) (hl : fs.lookup nm = none) (h : EvA tr σ H vs) (k : ∀ H1, Ex H H1 → sp (.ref a :: (vs ++ dvs)) H1 Q E) : tMeth C nm sp dvs E te tr σ H Q :=
  h1 H (Ex.refl H) _ fun H1 e1 => ⟨a, dx, fs, rfl, e1 _ _ ha, hl, h H1 e1 _ fun H2 e2 => k H2 (e1.trans e2)⟩
/-- ties + [tie], both made on the way -/
theorem en_catN {b : Addr} {t : Nat × Nat} (h1 : EvN ta σ H (fun v fs G => ∃ p, v = .ref p ∧ fs = [p] ∧ Prs G p ps)) (h2 : Ev tb σ H (.ref b)) (hb : Pr H b t) (few : ps.length ≤ 90000) : EvN (tOp rCat ta (tLst (tCons tb tNil))) σ H (fun v fs G => ∃ p, v = .ref p ∧ fs = [p] ∧ Prs G p (ps ++ [t])) := fun H1 e Q q =>
  h1 H1 e _ fun v fs H2 e2 fr r => by
    obtain ⟨l, rfl, _, hl⟩ := r
    exact en_catT (ta := fun _ G Q => Q (.ref l) G) (fun G1 _ Q q => q G1 (Ex.refl G1)) hl (h2.mono (e.trans e2)) ((e.trans e2) _ _ hb) few H2 (Ex.refl H2) Q fun v fs H3 e3 fr3 r3 => q v fs H3 (e2.trans e3) (fun p hp => fresh_back e2 (fr3 p hp)) r3
end
end OP

/-! sorted(set(xs)), xs a list of pairs of ints. -/
namespace OP
open PySem PySem.Spec PyProof.Rows L2
section
variable {P : Program} {w : World} {A : Around} {E : Value → Shared → Prop} {s : Shared}
theorem perm_back {α β : Type} [DecidableEq α] {f : α → β} : ∀ {out : List β} {l : List α}, out.Perm (l.map f) → ∃ bs : List α, bs.Perm l ∧ out = bs.map f := fun {out} => by
  induction out with
  | nil =>
    intro l h
    have := h.length_eq
    rw [List.length_map] at this
    exact ⟨[], by rw [List.eq_nil_of_length_eq_zero this.symm], rfl⟩
  | cons y ys ih =>
    intro l h
    obtain ⟨x, hx, e⟩ := List.mem_map.mp (h.mem_iff.mp List.mem_cons_self)
    have p := List.perm_cons_erase hx
    have h2 : (y :: ys).Perm (y :: (l.erase x).map f) := h.trans (by rw [← e]; exact p.map f)
    obtain ⟨bs, b1, b2⟩ := ih h2.cons_inv
    exact ⟨x :: bs, (List.Perm.cons x b1).trans p.symm, by rw [b2, List.map_cons, e]⟩
theorem pair_one {h : Heap} {v : Value} {x y x' y' : Int} (a : Srt.IsPair h v x y) (b : Srt.IsPair h v x' y') : x = x' ∧ y = y' := by
  obtain ⟨a1, o, t, u, n, e, ho, hc, hd⟩ := a
  obtain ⟨a2, o2, t2, u2, n2, e2, ho2, hc2, hd2⟩ := b
  rw [e] at e2
  cases e2
  rw [ho] at ho2
  cases ho2
  rw [hd] at hd2
  injection hd2 with h1 _
  have h1 := congrArg Array.toList h1
  injection h1 with h1 h2
  injection h2 with h2 _
  injection h1 with h1 _
  injection h2 with h2 _
  exact ⟨h1, h2⟩
/-- sorted(a), a a set of pairs of ints -/
theorem sorted_setT {a : Addr} {L : List (Addr × List Int)} {es : Array (Int × Value)} {ep : Nat} {t : SetTable} (R : Tp P w s.heap a L es ep t) (hh : A.handled = none) {Q : Value → Shared → Prop} {kf : Addr × List Int → Int × Int}
    (hp : ∀ p ∈ L, Srt.IsPair s.heap (.ref p.1) (kf p).1 (kf p).2)
    (hQ : ∀ s' d (bs : List (Addr × List Int)) (c : Nat), (∀ b o, s.heap.get? b = some o → s'.heap.get? b = some o) → s'.gens = s.gens → s'.os = s.os → s.heap.objs.size ≤ d → s'.heap.get? d = some (seqObj "list" (bs.map fun p => Value.ref p.1).toArray c) → bs.Perm L →
      bs.Pairwise (fun p q => SrtO.lexB (kf q) (kf p) = false) → Q (.ref d) s') :
    wpAny (model P w) A (call (.builtin "sorted") [.ref a]) Q E s := by
  obtain ⟨o, ho, hex, hd⟩ := R.obj
  refine Calls.call_function_entry kind_sorted plain_sorted entry_sorted (args_sorted1 _) ?_
  unfold Builtin.«sorted»
  refine wpAny_bind (m := checkCount "sorted" 1 1 _) (wpAny_pure ?_)
  have few := R.few
  refine wpAny_bind (collect_set (A := A.in1) hh ⟨o, ho, hex.1, hd⟩ R.fits (by rw [rows_size R.rows]; unfold scanBound; omega) R.tab.ris R.led fun s1 vs k1 hz g1 o1 pm => ?_)
  have pm2 : vs.Perm (L.map fun p => Value.ref p.1) := by
    refine pm.trans ?_
    rw [R.rows, rowsOf, List.map_map]
    exact List.Perm.refl _
  obtain ⟨cs, c1, rfl⟩ := perm_back pm2
  have cl : cs.length = L.length := c1.length_eq
  refine wpAny_bind (wpAny_newList ?_ (by rw [List.length_map, sizeLine_eq]; omega))
  have hoL : (s1.heap.push (seqObj "list" (cs.map fun p => Value.ref p.1).toArray 0)).get? s1.heap.objs.size = some (seqObj "list" (cs.map fun p => Value.ref p.1).toArray 0) := Heap.get?_push_size _ rfl
  obtain ⟨k, hk⟩ : ∃ k : Value → Int × Int, ∀ v q, Srt.IsPair s.heap v q.1 q.2 → k v = q := by
    refine ⟨fun v => Classical.epsilon fun q : Int × Int => Srt.IsPair s.heap v q.1 q.2, fun v q h => ?_⟩
    have := Classical.epsilon_spec (p := fun q : Int × Int => Srt.IsPair s.heap v q.1 q.2) ⟨q, h⟩
    obtain ⟨e1, e2⟩ := pair_one this h
    exact Prod.ext e1 e2
  have kb : ∀ p ∈ cs, k (.ref p.1) = kf p := fun p hp' => hk _ _ (hp p (c1.mem_iff.mp hp'))
  have hpv : ∀ v ∈ cs.map fun p => Value.ref p.1, Srt.IsPair (s1.heap.push (seqObj "list" (cs.map fun p => Value.ref p.1).toArray 0)) v (k v).1 (k v).2 := fun v hv => by
    obtain ⟨p, hp', rfl⟩ := List.mem_map.mp hv
    rw [kb p hp']
    exact (hp p (c1.mem_iff.mp hp')).keeps fun b o e _ => Heap.get?_push_of_some _ (k1 b o e)
  refine wpAny_bind (wpAny_holding (wpAny_call_entry slot_list_sort ⟨_, hoL, rfl⟩ entry_list_sort (SrtO.list_sort_ord (SrtO.swo_lex k) hoL (by rw [List.length_map, sizeLine_eq]; omega) (fun h2 => SrtO.pairs_sortableO (by omega) hpv fun o e => ?_) fun out hs hb => ⟨_, rfl, ?_⟩) (args_list_sort _)))
  · have e' : some o = some (seqObj "list" (cs.map fun p => Value.ref p.1).toArray 0) := e.symm.trans hoL
    cases e'
    intro c
    exact absurd (Value.type.inj c) (by decide)
  · obtain ⟨c, hc⟩ := sortedHeap_at (vs := cs.map fun p => Value.ref p.1) (out := out.toArray) hoL
    obtain ⟨bs, b1, rfl⟩ := perm_back hb.perm
    refine wpAny_pure ⟨_, rfl, hQ _ s1.heap.objs.size bs c (fun b u e => ?_) g1 o1 hz hc (b1.trans c1) ?_⟩
    · have q := k1 b u e
      have hlt := Heap.lt_size q
      show (sortedHeap (s1.heap.push (seqObj "list" (cs.map fun p => Value.ref p.1).toArray 0)) s1.heap.objs.size (cs.map fun p => Value.ref p.1) _).get? b = some u
      rw [sortedHeap_old (Nat.ne_of_lt hlt) (by rw [size_push']; exact Nat.lt_succ_of_lt hlt)]
      exact Heap.get?_push_of_some _ q
    · have hs2 := List.pairwise_map.mp hs
      refine hs2.imp_of_mem fun {p q} hp' hq' h => ?_
      have kp := kb p (b1.mem_iff.mp hp')
      have kq := kb q (b1.mem_iff.mp hq')
      have h : SrtO.lexB (k (.ref q.1)) (k (.ref p.1)) = false := h
      rw [kp, kq] at h
      exact h
end
section
variable {X : Cx}
/-- sorted(set(xs)): each once, rising -/
def tSortedSetT (K : PySem.W.Frag) (ta : TE) : TE := fun σ H Q => ta σ H fun x H1 => ∃ (l : Addr) (ks : List (Addr × List Int)), x = V.ref l ∧ SqL K H1 l (ks.map fun p => V.ref p.1) ∧ (∀ p ∈ ks, SqT K H1 p.1 (p.2.map V.int) ∧ ∃ i j, p.2 = [i, j]) ∧ ks.length < 1000 ∧
  ∀ (bs : List (Addr × List Int)) (d : Addr), H1 d = none → (∀ p ∈ bs, p ∈ ks) → (∀ x ∈ ks.map (·.2), x ∈ bs.map (·.2)) → (bs.map (·.2)).Nodup → bs.Pairwise (fun p q => SrtO.lexB (q.2.getD 0 0, q.2.getD 1 0) (p.2.getD 0 0, p.2.getD 1 0) = false) → Q (.ref d) (upd H1 d (.lst (bs.map fun p => V.ref p.1)))
theorem pe_sortedSetT {a : Expr} {ta : TE} {p p2 q pos : Pos} {k : Nat} (hr : Room k X.A) (hc : X.calm = true) (hg : Gl X "sorted") (hm : X.mg "sorted" = none) (hg2 : Gl X "set") (hm2 : X.mg "set" = none) (ha : PE X a ta)
    (na : starEach [a] X.env = (false, eval a X.env) :: starEach [] X.env := by rfl) : PE X (.Call (.Name "sorted" p) [.Call (.Name "set" p2) [a] [] q] [] pos) (tSortedSetT X.K ta) := by
  refine ⟨fun pins s σ H Q I h => ?_⟩
  refine Call_ (ld_blt I hg hm (show bootBuiltins "sorted" = some (.builtin "sorted") from by decide +kernel) ?_)
  refine PyProof.Rows.callWith_builtin1 (PyProof.Rows.args_cons ?_ rfl) rfl rfl
  refine Call_ (ld_blt I hg2 hm2 PyProof.Rows.boot_set ?_)
  refine PyProof.Rows.callWith_type1 (PyProof.Rows.args_cons (thn (ha.run pins s σ H _ I h) fun v s1 ⟨x, H1, I1, r1, q1⟩ => PyProof.Rows.args_nil ?_) na) na rfl
  obtain ⟨l, ks, rfl, hq, hk, few, q1⟩ := q1
  cases r1
  obtain ⟨its, r, pl, hz⟩ := I1.list hq
  have hu := hr.units
  refine make_set (P := X.prog) (w := X.w) ks (I1.ok.hd hc) pl.isList (by simpa using refs_of_vals r) (fun p hp => I1.isT (hk p hp).1) few (by omega) fun h' tk L es ep t T g kp => ?_
  refine PyProof.Rows.args_nil ?_
  have I2 : Inv X pins σ H1 { s1 with heap := h', toks := tk } := I1.kept fun b o e => kp b o e
  have sub : ∀ p ∈ L, p ∈ ks := fun p hp => by
    have := g.sub p hp
    rwa [List.take_length] at this
  refine sorted_setT (kf := fun p => (p.2.getD 0 0, p.2.getD 1 0)) T (I2.ok.hd hc) (fun p hp => ?_) fun s' d bs ep2 c gs os hd hat pm srt => ?_
  · obtain ⟨h1, i, j, e⟩ := hk p (sub p hp)
    obtain ⟨its2, r2, pl2, _⟩ := I2.tuple h1
    rw [e] at r2 ⊢
    obtain ⟨u1, u2, e2, ri, rj⟩ := vals2 r2
    obtain ⟨t1, rfl⟩ := ri
    obtain ⟨t2, rfl⟩ := rj
    subst e2
    obtain ⟨o, ho, hc', n, hd'⟩ := pl2
    exact ⟨p.1, o, t1, t2, n, rfl, ho, hc', hd'⟩
  · have hn : H1 d = none := I2.hok.fresh hd
    have bl : bs.length = L.length := pm.length_eq
    have bin : ∀ p ∈ bs, p ∈ ks := fun p hp => sub p (pm.mem_iff.mp hp)
    have hlen : (bs.map fun p => V.ref p.1).length ≤ sizeLine := by rw [List.length_map, bl, sizeLine_eq]; have := T.few; omega
    have vr : Vals (bs.map fun p => V.ref p.1) (bs.map fun p => Value.ref p.1) := by
      clear hat srt pm bl bin hlen
      induction bs with
      | nil => exact .nil
      | cons b bs ih => exact .cons rfl ih
    have J : Inv X pins σ (upd H1 d (.lst (bs.map fun p => V.ref p.1))) { ({ s1 with heap := h', toks := tk } : Shared) with heap := s'.heap, gens := s'.gens, drawn := s'.drawn, toks := s'.toks } :=
      I2.call (ch := []) (Un.laid c hd hn) (I2.hok.laid c hd ⟨hlen, bs.map fun p => Value.ref p.1, _, vr, hat⟩) (by rw [gs]; exact I2.bare) (fun _ z => nomatch z)
    have e : s' = { ({ s1 with heap := h', toks := tk } : Shared) with heap := s'.heap, gens := s'.gens, drawn := s'.drawn, toks := s'.toks } := by
      cases s'
      cases s1
      cases os
      rfl
    rw [e]
    refine ⟨.ref d, _, J, rfl, q1 bs d hn bin (fun x hx => ?_) ?_ srt⟩
    · obtain ⟨p, hp, rfl⟩ := List.mem_map.mp hx
      have h1 := g.all p (by rw [List.take_length]; exact hp)
      exact (pm.map (·.2)).mem_iff.mpr h1
    · exact (pm.map (·.2)).nodup_iff.mpr T.keys
end
end OP

/-! Nets as texts, plainly. -/
namespace OP
open PySem PySem.Builtin PySem.Builtin.Str SX L2
/-- a tie's word; a net's words; its text -/
def wordT (p : Nat × Nat) : List Nat := TL.numL p.1 ++ 45 :: TL.numL p.2
def wordsL (n : Nat) (ps : List (Nat × Nat)) : List (List Nat) := (TL.numL n ++ [58]) :: ps.map wordT
def textS (n : Nat) (ps : List (Nat × Nat)) : Str := S (TL.joinL [32] (wordsL n ps))
structure Valid (n : Nat) (ps : List (Nat × Nat)) : Prop where
  n1 : 1 ≤ n
  n40 : n ≤ 40
  tok : TiesOk n ps
  nd : ps.Nodup
  self : srtP ps = ps
theorem words_free {n : Nat} {ps : List (Nat × Nat)} : ∀ w ∈ wordsL n ps, 32 ∉ w := fun w hw => by
  rcases List.mem_cons.mp hw with e | hw
  · rw [e]
    intro h
    rcases List.mem_append.mp h with h | h
    · exact TL.numL_free (by omega) h
    · have := List.mem_singleton.mp h
      omega
  · obtain ⟨p, _, rfl⟩ := List.mem_map.mp hw
    intro h
    rcases List.mem_append.mp h with h | h
    · exact TL.numL_free (by omega) h
    · rcases List.mem_cons.mp h with h | h
      · omega
      · exact TL.numL_free (by omega) h
theorem split_text (n : Nat) (ps : List (Nat × Nat)) : Txt.split (textS n ps) (S [32]) = (wordsL n ps).map S := by
  unfold textS
  rw [split_S (by decide) (by decide), show TL.spl [32] 0 [] (TL.joinL [32] (wordsL n ps)) = wordsL n ps from spl_join (List.cons_ne_nil _ _) words_free]
theorem join_text (n : Nat) (ps : List (Nat × Nat)) : Txt.join (S [32]) ((wordsL n ps).map S) = textS n ps := join_S [32] (wordsL n ps)
theorem split_back (x : Str) : Txt.join (S [32]) (Txt.split x (S [32])) = x := by
  rw [TL.join_eq]
  exact StrLaws.join_split x (S [32])
/-! ### find -/
theorem find_at {p : List Nat} (q : List Nat) (h : 45 ∉ p) : Txt.find (S (p ++ 45 :: q)) (S [45]) = (p.length : Int) := by
  have e := partition_some (a := p ++ 45 :: q) (b := [45]) (by decide) (par_head (c := 45) (sep := []) q h)
  have b := PyProof.Rows.fact_find (S (p ++ 45 :: q)) (S [45])
  unfold Txt.find at b ⊢
  unfold Txt.partition at e
  revert e b
  cases Builtin.Str.occurrences (S (p ++ 45 :: q)) (S [45]) 0 (S (p ++ 45 :: q)).length 1 with
  | nil =>
    intro e _
    have e2 : Str.empty = S [45] := congrArg (fun z => z.2.1) e
    exact absurd (congrArg Str.length e2) (by decide)
  | cons i r =>
    intro e b
    have e1 := congrArg (fun z => TL.tl z.1) e
    have e1 : TL.tl (strSub (S (p ++ 45 :: q)) 0 i) = p := e1
    rw [TL.tl_strSub] at e1
    have hl := congrArg List.length e1
    rw [List.length_take, List.length_drop] at hl
    have l1 : (TL.tl (S (p ++ 45 :: q))).length = p.length + (q.length + 1) := by
      show (p ++ 45 :: q).length = _
      rw [List.length_append, List.length_cons]
    have l2 : (S (p ++ 45 :: q)).length = p.length + (q.length + 1) := by rw [S_len, List.length_append, List.length_cons]
    have l3 : (S [45]).length = 1 := rfl
    rw [l1] at hl
    show (i : Int) = _
    have b : (i : Int) = -1 ∨ (0 ≤ (i : Int) ∧ (i : Int) + ((S [45]).length : Int) ≤ ((S (p ++ 45 :: q)).length : Int)) := b
    rw [l2, l3] at b
    omega
theorem find_no {w : List Nat} (h : 45 ∉ w) : Txt.find (S w) (S [45]) = -1 := by
  have e := SX.partition_none (a := w) (b := [45]) (by decide) (par_head_none h)
  unfold Txt.find
  unfold Txt.partition at e
  revert e
  cases Builtin.Str.occurrences (S w) (S [45]) 0 (S w).length 1 with
  | nil => intro _; rfl
  | cons i r =>
    intro e
    have e2 : S [45] = S [] := congrArg (fun z => z.2.1) e
    exact absurd (congrArg Str.length e2) (by decide)
theorem find_cases (w : List Nat) : (45 ∉ w ∧ Txt.find (S w) (S [45]) = -1) ∨ ∃ p q, w = p ++ 45 :: q ∧ 45 ∉ p ∧ Txt.find (S w) (S [45]) = (p.length : Int) := by
  by_cases h : 45 ∈ w
  · obtain ⟨p, q, e, hp⟩ := List.eq_append_cons_of_mem h
    exact .inr ⟨p, q, e, hp, by rw [e]; exact find_at q hp⟩
  · exact .inl ⟨h, find_no h⟩
/-! ### slices -/
theorem cutS_slice (z : Str) (lo hi : Option Int) : cutS z lo hi = Txt.slice z lo hi := (sliceText_cut z lo hi).symm
theorem cut_to (a : List Nat) (i : Nat) : cutS (S a) none (some (i : Int)) = S (a.take i) := by
  rw [cutS_slice, slice_to (by omega)]
  rfl
theorem cut_from (a : List Nat) (i : Nat) : cutS (S a) (some (i : Int)) none = S (a.drop i) := by
  rw [cutS_slice, slice_from (by omega)]
  rfl
theorem cut_but (a : List Nat) : cutS (S a) none (some (-1)) = S (a.take (a.length - 1)) := by
  by_cases h : a = []
  · rw [h]
    decide
  · rw [cutS_slice, slice_butlast h]
theorem cut_last (a : List Nat) : cutS (S a) (some (-1)) none = S (a.drop (a.length - 1)) := by
  by_cases h : a = []
  · rw [h]
    decide
  · rw [cutS_slice, slice_last h]
/-! ### numbers -/
def numLaw (w : Str) : Option Nat := (List.range 100).find? fun k => decide (S (TL.numL k) = w)
theorem numLaw_of {w : Str} {k : Nat} (h : numLaw w = some k) : w = S (TL.numL k) ∧ k < 100 := by
  have h1 := List.find?_some h
  have h2 := List.mem_of_find?_eq_some h
  exact ⟨(of_decide_eq_true h1).symm, List.mem_range.mp h2⟩
theorem numLaw_num {k : Nat} (h : k < 100) : numLaw (S (TL.numL k)) = some k := by
  cases e : numLaw (S (TL.numL k)) with
  | none =>
    have := List.find?_eq_none.mp e k (List.mem_range.mpr h)
    simp at this
  | some j =>
    have := TL.numL_inj (S_inj (numLaw_of e).1)
    rw [this]
theorem numLaw_none {w : Str} (h : ∀ k, k < 100 → S (TL.numL k) ≠ w) : numLaw w = none := List.find?_eq_none.mpr fun k hk e => h k (List.mem_range.mp hk) (of_decide_eq_true e)
def digB (a : List Nat) : Bool := a.all fun c => decide (48 ≤ c) && decide (c ≤ 57)
def numP (a : List Nat) : Option Nat := if 1 ≤ a.length ∧ a.length ≤ 2 ∧ digB a = true then some (NumText.digitsVal a) else none
theorem numP_num {k : Nat} (h : k < 100) : numP (TL.numL k) = some k := by
  have h1 : 0 < (TL.numL k).length := List.length_pos_iff.mpr (TL.numL_ne k)
  have h2 := TL.numL_len (n := k) (k := 2) (by decide) h
  have h3 : digB (TL.numL k) = true := List.all_eq_true.mpr fun c hc => by
    have := TL.numL_digits k c hc
    simp [this.1, this.2]
  unfold numP
  rw [if_pos ⟨h1, h2, h3⟩, TL.numL_val]
/-! ### ties -/
def tieP (w : Str) : Option Nat × Option Nat := (numP (TL.tl (cutS w none (some (Txt.find w (S [45]))))), numP (TL.tl (cutS w (some (Txt.find w (S [45]) + 1)) none)))
theorem word_no {k : Nat} : 45 ∉ TL.numL k := TL.numL_free (by omega)
theorem word_find (p : Nat × Nat) : Txt.find (S (wordT p)) (S [45]) = ((TL.numL p.1).length : Int) := find_at _ word_no
theorem word_lo (p : Nat × Nat) : cutS (S (wordT p)) none (some (Txt.find (S (wordT p)) (S [45]))) = S (TL.numL p.1) := by
  rw [word_find, cut_to]
  exact congrArg S List.take_left
theorem word_hi (p : Nat × Nat) : cutS (S (wordT p)) (some (Txt.find (S (wordT p)) (S [45]) + 1)) none = S (TL.numL p.2) := by
  rw [word_find, show (((TL.numL p.1).length : Int) + 1) = (((TL.numL p.1).length + 1 : Nat) : Int) by omega, cut_from]
  refine congrArg S ?_
  unfold wordT
  rw [List.drop_append, List.drop_eq_nil_of_le (by omega)]
  simp
theorem tieP_word {p : Nat × Nat} (h1 : p.1 < 100) (h2 : p.2 < 100) : tieP (S (wordT p)) = (some p.1, some p.2) := by
  unfold tieP
  rw [word_lo, word_hi]
  exact Prod.ext (numP_num h1) (numP_num h2)
def tieLaw (n : Nat) (w : Str) : Option (Nat × Nat) :=
  if Txt.find w (S [45]) < 0 then none else
  match numLaw (cutS w none (some (Txt.find w (S [45])))), numLaw (cutS w (some (Txt.find w (S [45]) + 1)) none) with
  | some x, some y => if x < y ∧ y < n then some (x, y) else none
  | _, _ => none
theorem tieLaw_word {n : Nat} {p : Nat × Nat} (h1 : p.1 < p.2) (h2 : p.2 < n) (n100 : n ≤ 100) : tieLaw n (S (wordT p)) = some p := by
  have e := word_find p
  unfold tieLaw
  rw [if_neg (by rw [e]; omega), word_lo, word_hi, numLaw_num (by omega), numLaw_num (by omega)]
  show (if p.1 < p.2 ∧ p.2 < n then some (p.1, p.2) else none) = _
  rw [if_pos ⟨h1, h2⟩]
theorem tieLaw_back {n : Nat} {w : Str} {p : Nat × Nat} (h : tieLaw n w = some p) : w = S (wordT p) ∧ p.1 < p.2 ∧ p.2 < n := by
  obtain ⟨a, rfl⟩ : ∃ a, w = S a := ⟨TL.tl w, (S_tl w).symm⟩
  unfold tieLaw at h
  split at h
  · cases h
  · rename_i hn
    rcases find_cases a with ⟨_, e⟩ | ⟨u, v, rfl, hu, e⟩
    · rw [e] at hn
      exact absurd (by decide) hn
    · have lo : cutS (S (u ++ 45 :: v)) none (some (Txt.find (S (u ++ 45 :: v)) (S [45]))) = S u := by
        rw [e, cut_to]
        exact congrArg S List.take_left
      have hi : cutS (S (u ++ 45 :: v)) (some (Txt.find (S (u ++ 45 :: v)) (S [45]) + 1)) none = S v := by
        rw [e, show ((u.length : Int) + 1) = ((u.length + 1 : Nat) : Int) by omega, cut_from]
        refine congrArg S ?_
        rw [List.drop_append, List.drop_eq_nil_of_le (by omega)]
        simp
      rw [lo, hi] at h
      split at h
      · rename_i x y hx hy
        split at h
        · rename_i hxy
          cases h
          have ex := S_inj (numLaw_of hx).1
          have ey := S_inj (numLaw_of hy).1
          refine ⟨?_, hxy.1, hxy.2⟩
          unfold wordT
          rw [ex, ey]
        · cases h
      · cases h
/-! ### sizes -/
theorem sum_le {α : Type} {f : α → Nat} {k : Nat} : ∀ {l : List α}, (∀ x ∈ l, f x ≤ k) → (l.map f).sum ≤ k * l.length
  | [], _ => Nat.zero_le _
  | a :: l, h => by
    have h1 := h a List.mem_cons_self
    have h2 := sum_le (f := f) (k := k) (l := l) fun x hx => h x (List.mem_cons_of_mem _ hx)
    rw [List.map_cons, List.sum_cons, List.length_cons, Nat.mul_succ]
    omega
theorem word_len {n : Nat} {ps : List (Nat × Nat)} (v : Valid n ps) : ∀ w ∈ wordsL n ps, w.length ≤ 5 := fun w hw => by
  have n40 := v.n40
  rcases List.mem_cons.mp hw with e | hw
  · rw [e, List.length_append]
    have := TL.numL_len (n := n) (k := 2) (by decide) (by omega)
    show _ + 1 ≤ 5
    omega
  · obtain ⟨p, hp, rfl⟩ := List.mem_map.mp hw
    have t := v.tok p hp
    have h1 := TL.numL_len (n := p.1) (k := 2) (by decide) (by omega)
    have h2 := TL.numL_len (n := p.2) (k := 2) (by decide) (by omega)
    unfold wordT
    rw [List.length_append, List.length_cons]
    omega
theorem words_len (n : Nat) (ps : List (Nat × Nat)) : (wordsL n ps).length = ps.length + 1 := by
  unfold wordsL
  rw [List.length_cons, List.length_map]
theorem Valid.few {n : Nat} {ps : List (Nat × Nat)} (v : Valid n ps) : ps.length ≤ 780 := few_ties v.n40 v.tok v.nd
theorem words_sum {n : Nat} {ps : List (Nat × Nat)} (v : Valid n ps) : (((wordsL n ps).map S).map (·.length)).sum ≤ 5 * (ps.length + 1) := by
  rw [SX.lens, ← words_len n ps]
  exact sum_le (word_len v)
theorem text_len {n : Nat} {ps : List (Nat × Nat)} (v : Valid n ps) : (textS n ps).length ≤ 5000 := by
  rw [← join_text, TL.join_eq]
  refine Nat.le_trans (StrLaws.join_length_le _ _) ?_
  have h1 := words_sum v
  have h2 := v.few
  rw [List.length_map, words_len]
  have h3 : (S [32]).length = 1 := rfl
  rw [h3]
  omega
/-- words of a text: as many as its blanks, and one -/
def wcount (x : Str) : Nat := (Txt.split x (S [32])).length
theorem wcount_eq (x : Str) : wcount x = 1 + (TL.tl x).count 32 := by
  have h : ((Txt.split x (S [32])).length : Int) = 1 + PyProof.Rows.cnt 32 x.cps.toList := PyProof.Rows.split_len x 32
  have e : ∀ l : List Nat, PyProof.Rows.cnt 32 l = ((l.count 32 : Nat) : Int) := fun l => by
    induction l with
    | nil => rfl
    | cons a l ih =>
      rw [PyProof.Rows.cnt_cons, ih, List.count_cons]
      by_cases c : a = 32
      · rw [if_pos c, if_pos (by simpa using c)]; omega
      · rw [if_neg c, if_neg (by simpa using c)]; omega
  rw [e] at h
  show (Txt.split x (S [32])).length = 1 + x.cps.toList.count 32
  omega
theorem text_words {n : Nat} {ps : List (Nat × Nat)} (v : Valid n ps) : wcount (textS n ps) ≤ 781 := by
  unfold wcount
  rw [split_text, List.length_map, words_len]
  have := v.few
  omega
/-- one sign put in, put in a place, left out -/
theorem put_len (a s b : List Nat) : (S (a ++ s ++ b)).length = a.length + s.length + b.length := by rw [S_len, List.length_append, List.length_append]
theorem put_count {l s : List Nat} {i j : Nat} (hs : s.length ≤ 1) (hij : i ≤ j) : wcount (S (l.take i ++ s ++ l.drop j)) ≤ wcount (S l) + 1 := by
  rw [wcount_eq, wcount_eq]
  show 1 + (l.take i ++ s ++ l.drop j).count 32 ≤ 1 + l.count 32 + 1
  rw [List.count_append, List.count_append]
  have h1 : s.count 32 ≤ 1 := Nat.le_trans List.count_le_length hs
  have h2 : l.count 32 = (l.take i).count 32 + (l.drop i).count 32 := by rw [← List.count_append, List.take_append_drop]
  have h3 : (l.drop j).count 32 ≤ (l.drop i).count 32 := by
    have : l.drop j = (l.drop i).drop (j - i) := by rw [List.drop_drop, show i + (j - i) = j by omega]
    rw [this]
    exact (List.drop_sublist _ _).count_le 32
  omega
/-! ### the words read back -/
theorem head_back {h : Str} {n : Nat} (h1 : cutS h none (some (-1)) = S (TL.numL n)) (h2 : cutS h (some (-1)) none = S [58]) : h = S (TL.numL n ++ [58]) := by
  obtain ⟨a, rfl⟩ : ∃ a, h = S a := ⟨TL.tl h, (S_tl h).symm⟩
  rw [cut_but] at h1
  rw [cut_last] at h2
  have e1 := S_inj h1
  have e2 := S_inj h2
  refine congrArg S ?_
  rw [← e1, ← e2, List.take_append_drop]
theorem head_but (n : Nat) : cutS (S (TL.numL n ++ [58])) none (some (-1)) = S (TL.numL n) := by rw [cutS_slice, butlast_snoc]
theorem head_last (n : Nat) : cutS (S (TL.numL n ++ [58])) (some (-1)) none = S [58] := by rw [cutS_slice, last_snoc]
theorem ties_back {n : Nat} : ∀ {ws : List Str} {ps : List (Nat × Nat)}, ws.map (tieLaw n) = ps.map some → ws = ps.map (fun p => S (wordT p)) ∧ TiesOk n ps
  | [], [], _ => ⟨rfl, fun _ h => (nomatch h)⟩
  | [], _ :: _, h => by cases h
  | _ :: _, [], h => by cases h
  | w :: ws, p :: ps, h => by
    rw [List.map_cons, List.map_cons] at h
    injection h with h1 h2
    obtain ⟨e1, l1, l2⟩ := tieLaw_back h1
    obtain ⟨e2, t⟩ := ties_back h2
    refine ⟨by rw [e1, e2, List.map_cons], fun q hq => ?_⟩
    rcases List.mem_cons.mp hq with e | hq
    · rw [e]; exact ⟨l1, l2⟩
    · exact t q hq
theorem text_back {x h : Str} {r : List Str} {n : Nat} {ps : List (Nat × Nat)} (hx : Txt.split x (S [32]) = h :: r) (hh : h = S (TL.numL n ++ [58])) (hr : r = ps.map (fun p => S (wordT p))) : x = textS n ps := by
  rw [← split_back x, hx, hh, hr, ← join_text]
  unfold wordsL
  rw [List.map_cons, List.map_map]
  rfl
theorem sorted_valid {n : Nat} {ps : List (Nat × Nat)} (n1 : 1 ≤ n) (n40 : n ≤ 40) (tok : TiesOk n ps) (nd : ps.Nodup) : Valid n (srtP ps) := ⟨n1, n40, srt_ok tok, srt_nd nd, srt_self ps⟩
end OP

/-! Texts by the hand layer's rules. -/
namespace OP
open PySem PySem.Spec PyProof.Rows L2 Evl SX
section
variable {K : PySem.W.Frag} {σ : L2.St} {H H' : Hp} {ta tb tc te : TE} {z w a b c : Str}
theorem str_dash : ("-" : Str) = S [45] := by decide +kernel
theorem str_blank : (" " : Str) = S [32] := by decide +kernel
theorem str_colon : (":" : Str) = S [58] := by decide +kernel
theorem str_digits : ("0123456789" : Str) = S [48, 49, 50, 51, 52, 53, 54, 55, 56, 57] := by decide +kernel
theorem ev_slS {tl th : TO} {lo hi : Option Int} (h : Ev te σ H (.str z)) (h1 : EvO tl σ H lo) (h2 : EvO th σ H hi) (hz : z.length ≤ 100000) : Ev (tSl rSlS te tl th) σ H (.str (cutS z lo hi)) := fun H1 e Q q =>
  h H1 e _ fun H2 e2 => h1 H2 (e.trans e2) _ fun H3 e3 => h2 H3 ((e.trans e2).trans e3) _ fun H4 e4 => ⟨z, rfl, line_of hz, q H4 ((e2.trans e3).trans e4)⟩
theorem ev_find (h : Ev te σ H (.str z)) (h2 : Ev tb σ H (.str w)) : Ev (tM1 (fun x xs H Q => ∃ a b, x = .str a ∧ xs = [.str b] ∧ Q (.int (Txt.find a b)) H) te tb) σ H (.int (Txt.find z w)) := fun H1 e Q q =>
  h H1 e _ fun H2 e2 => ⟨⟨z, rfl⟩, h2 H2 (e.trans e2) _ fun H3 e3 => ⟨z, w, rfl, rfl, q H3 (e2.trans e3)⟩⟩
theorem el_split (h : Ev te σ H (.str z)) (h2 : Ev tb σ H (.str w)) (hw : (w.length == 0) = false) (hz : z.length ≤ 90000) :
    EvL (tM1 (fun x xs H Q => ∃ a b, x = .str a ∧ xs = [.str b] ∧ (b.length == 0) = false ∧ a.length + 2 ≤ sizeLine ∧ rNewStrs (Txt.split a b) H Q) te tb) σ H ((Txt.split z w).map V.str) := fun H1 e Q q =>
  h H1 e _ fun H2 e2 => ⟨⟨z, rfl⟩, h2 H2 (e.trans e2) _ fun H3 e3 => ⟨z, w, rfl, rfl, hw, line_of (by omega), fun p hp => q p _ (fresh_back (e2.trans e3) hp) ((e2.trans e3).trans (Ex.new hp)) upd_same⟩⟩
theorem ev_join {p : Addr} {ys : List Str} (h : Ev te σ H (.str a)) (h2 : Ev tb σ H (.ref p)) (hp : SqL K H p (ys.map V.str)) (hs : (ys.map (·.length)).sum + ys.length * a.length ≤ 16777216) :
    Ev (tM1 (fun x xs H Q => ∃ a p, ∃ ys : List Str, x = .str a ∧ xs = [.ref p] ∧ (SqL K H p (ys.map V.str) ∨ SqT K H p (ys.map V.str)) ∧ (ys.map (·.length)).sum + ys.length * a.length ≤ 16777216 ∧ Q (.str (Txt.join a ys)) H) te tb) σ H (.str (Txt.join a ys)) := fun H1 e Q q =>
  h H1 e _ fun H2 e2 => ⟨⟨a, rfl⟩, h2 H2 (e.trans e2) _ fun H3 e3 => ⟨a, p, ys, rfl, rfl, .inl (ex_l ((e.trans e2).trans e3) hp), hs, q H3 (e2.trans e3)⟩⟩
theorem rv_addS (h : a.length + b.length ≤ 100000) : RV (fun x y H Q => ∃ i j, x = .str i ∧ y = .str j ∧ i.length + j.length ≤ sizeLine ∧ Q (.str (i ++ j)) H) (.str a) (.str b) H (.str (a ++ b)) := fun H1 _ Q q => ⟨a, b, rfl, rfl, line_of h, q H1 (Ex.refl H1)⟩
theorem ev_lenS (h : Ev te σ H (.str z)) (hz : z.length ≤ 100000) : Ev (tCB (fun xs H Q => ∃ z, xs = [.str z] ∧ z.length ≤ sizeLine ∧ Q (.int z.length) H) (tCons te tNil)) σ H (.int z.length) := fun H1 e Q q =>
  h H1 e _ fun H2 e2 => ⟨z, rfl, line_of hz, q H2 e2⟩
theorem rv_inSign {n : Nat} : RV (fun x y H Q => ∃ (c : Nat) (z : Str), x = .str ⟨#[c]⟩ ∧ y = .str z ∧ Q (.bl (decide (c ∈ z.cps.toList))) H) (.str ⟨#[n]⟩) (.str z) H (.bl (decide (n ∈ z.cps.toList))) := fun H1 _ Q q => ⟨n, z, rfl, rfl, q H1 (Ex.refl H1)⟩
theorem ev_fmt {n : Nat} (h : Ev te σ H (vn n)) (hn : n ≤ 1000) : Ev (tFmt te) σ H (.str (S (TL.numL n))) := fun H1 e Q q =>
  h H1 e _ fun H2 e2 => .inr ⟨(n : Int), rfl, by
    rw [Int.natAbs_natCast]
    have : n.log2 ≤ n := by
      rcases Nat.eq_zero_or_pos n with h | h
      · rw [h]; decide
      · have := Nat.log2_lt (n := n) (k := n) (by omega) |>.mpr Nat.lt_two_pow_self
        omega
    omega, by
    rw [show (toString ((n : Nat) : Int) : Str) = S (TL.numL n) from num_S n]
    exact q H2 e2⟩
theorem empty_cat (a : Str) : Str.empty ++ a = a := TL.ext_tl (by rw [TL.tl_append]; rfl)
theorem ev_js2 {t1 t2 : TE} (h1 : Ev t1 σ H (.str a)) (h2 : Ev t2 σ H (.str b)) (h : a.length + b.length ≤ 100000) : Ev (fun σ H Q => tJs [t1, t2] Str.empty σ H fun out H1 => Q (.str out) H1) σ H (.str (a ++ b)) := fun H1 e Q q =>
  h1 H1 e _ fun H2 e2 => ⟨a, rfl, by rw [empty_cat]; exact line_of (by omega), by
    rw [empty_cat]
    exact h2 H2 (e.trans e2) _ fun H3 e3 => ⟨b, rfl, by rw [Str.length_append]; exact line_of h, q H3 (e2.trans e3)⟩⟩
theorem ev_js3 {t1 t2 t3 : TE} (h1 : Ev t1 σ H (.str a)) (h2 : Ev t2 σ H (.str b)) (h3 : Ev t3 σ H (.str c)) (h : a.length + b.length + c.length ≤ 100000) : Ev (fun σ H Q => tJs [t1, t2, t3] Str.empty σ H fun out H1 => Q (.str out) H1) σ H (.str (a ++ b ++ c)) := fun H1 e Q q =>
  h1 H1 e _ fun H2 e2 => ⟨a, rfl, by rw [empty_cat]; exact line_of (by omega), by
    rw [empty_cat]
    exact h2 H2 (e.trans e2) _ fun H3 e3 => ⟨b, rfl, by rw [Str.length_append]; exact line_of (by omega), h3 H3 ((e.trans e2).trans e3) _ fun H4 e4 => ⟨c, rfl, by rw [Str.length_append, Str.length_append]; exact line_of h, q H4 ((e2.trans e3).trans e4)⟩⟩⟩
/-- [e for sign in text] -/
theorem el_mapS {j : Nat} {vs : List Nat} (f : Nat → V) (h : Ev te σ H (.str (S (TL.tl z)))) (hz : z.length ≤ 40000) (hw : ∀ x, wipe ((wipe σ vs).set j (some x)) vs = wipe σ vs)
    (he : ∀ (n : Nat) H1, Ex H H1 → n ∈ TL.tl z → Ev tb ((wipe σ vs).set j (some (.str ⟨#[n]⟩))) H1 (f n)) : EvL (tLc (iStr te) (gName j) tYes tb vs) σ H ((TL.tl z).map f) := by
  have hl : z.length = (TL.tl z).length := TL.len_tl z
  have key : ∀ l : List Nat, given l.length (fun _ => true) (fun i => f (l.getD i 0)) = l.map f := fun l => by
    unfold given
    rw [List.filter_eq_self.mpr (by simp)]
    apply List.ext_getElem
    · simp
    · intro i h1 h2
      have h3 : i < l.length := by simpa using h2
      simp [List.getD_eq_getElem?_getD, h3]
  rw [← key]
  intro H0 e Q q
  refine h H0 e _ fun H1 e1 => ⟨S (TL.tl z), rfl, fun Dl hD => lc_it (walk_str (z := S (TL.tl z))) (Cw H1 (fun _ => true) (fun i => f ((TL.tl z).getD i 0)) Dl) ⟨hD, Ex.new hD, upd_same⟩ (fun _ _ _ _ => trivial) (fun i x G G' hi p y => ?_) (fun G p => ?_)⟩
  · obtain ⟨rfl, n, hn, rfl⟩ := y
    have hn' : (TL.tl z)[i]? = some n := by
      rw [← Array.getElem?_toList] at hn
      exact hn
    refine ⟨hw _, cw_turn p (by have := (List.getElem?_eq_some_iff.mp hn').1; omega) (fun G1 _ Q q => q G1 (Ex.refl G1)) fun _ => ?_⟩
    have : (TL.tl z).getD i 0 = n := by rw [List.getD_eq_getElem?_getD, hn']; rfl
    rw [this]
    exact he n H1 (e.trans e1) (List.mem_of_getElem? hn')
  · have hs : (S (TL.tl z)).cps.size = (TL.tl z).length := by simp [S]
    rw [hs] at p
    exact q Dl G (fresh_back e1 p.1) (e1.trans p.2.1) p.2.2
theorem ev_S (h : Ev te σ H (.str z)) : Ev te σ H (.str (S (TL.tl z))) := by
  rw [show S (TL.tl z) = z from S_tl z]
  exact h
theorem ev_intS {n : Nat} (h : Ev te σ H (.str z)) (hd : digB (TL.tl z) = true) (h0 : TL.tl z ≠ []) (hl : (TL.tl z).length ≤ 600) (hn : NumText.digitsVal (TL.tl z) = n) : Ev (tCB (fun xs H Q => ∃ a n, xs = [.str a] ∧ PySem.intText? a = some n ∧ a.length ≤ 640 ∧ Q (.int n) H) (tCons te tNil)) σ H (vn n) := fun H1 e Q q =>
  h H1 e _ fun H2 e2 => ⟨z, n, rfl, by
    have := int_S (a := TL.tl z) hd h0 (by omega)
    rw [show S (TL.tl z) = z from S_tl z, hn] at this
    exact this, by rw [TL.len_tl]; omega, q H2 e2⟩
end
end OP

namespace OP
open PySem PySem.Spec PyProof.Rows L2 Evl
open L2H (RoomH PinOk cxH inv_startH roomH_of)
def top (i : Nat) : Stmt := PySem.Challenge.pw_oddpairs_k12_texts.main.body.getD i (.Pass ⟨0, 0, 0, 0⟩)
abbrev s_is_whole : Stmt := top 11
abbrev N_is_whole : List Str := ["thing"]
theorem sc_is_whole : FnScope N_is_whole ["thing"] (defScope s_is_whole) := ⟨rfl, rfl, rfl, by decide +kernel, rfl, by decide +kernel, by decide +kernel⟩
abbrev s_is_place : Stmt := top 12
abbrev N_is_place : List Str := ["size", "thing"]
theorem sc_is_place : FnScope N_is_place ["size", "thing"] (defScope s_is_place) := ⟨rfl, rfl, rfl, by decide +kernel, rfl, by decide +kernel, by decide +kernel⟩
abbrev s_is_tie : Stmt := top 13
abbrev N_is_tie : List Str := ["size", "thing"]
theorem sc_is_tie : FnScope N_is_tie ["size", "thing"] (defScope s_is_tie) := ⟨rfl, rfl, rfl, by decide +kernel, rfl, by decide +kernel, by decide +kernel⟩
abbrev s_Net_init : Stmt := inClass (top 14) 0
abbrev N_Net_init : List Str := ["self", "size", "ties", "one", "other", "place", "row", "tie"]
theorem sc_Net_init : FnScope N_Net_init ["self", "size", "ties"] (defScope s_Net_init) := ⟨rfl, rfl, rfl, by decide +kernel, rfl, by decide +kernel, by decide +kernel⟩
abbrev s_Net_ties : Stmt := inClass (top 14) 1
abbrev N_Net_ties : List Str := ["self", "found", "one", "other"]
theorem sc_Net_ties : FnScope N_Net_ties ["self"] (defScope s_Net_ties) := ⟨rfl, rfl, rfl, by decide +kernel, rfl, by decide +kernel, by decide +kernel⟩
abbrev s_need_place : Stmt := top 15
abbrev N_need_place : List Str := ["net", "place"]
theorem sc_need_place : FnScope N_need_place ["net", "place"] (defScope s_need_place) := ⟨rfl, rfl, rfl, by decide +kernel, rfl, by decide +kernel, by decide +kernel⟩
abbrev s_Net_beside : Stmt := inClass (top 14) 2
abbrev N_Net_beside : List Str := ["self", "place"]
theorem sc_Net_beside : FnScope N_Net_beside ["self", "place"] (defScope s_Net_beside) := ⟨rfl, rfl, rfl, by decide +kernel, rfl, by decide +kernel, by decide +kernel⟩
abbrev s_part_of : Stmt := top 16
abbrev N_part_of : List Str := ["net", "place", "there", "met", "waiting", "here", "other"]
theorem sc_part_of : FnScope N_part_of ["net", "place", "there"] (defScope s_part_of) := ⟨rfl, rfl, rfl, by decide +kernel, rfl, by decide +kernel, by decide +kernel⟩
abbrev s_parts : Stmt := top 17
abbrev N_parts : List Str := ["net", "taken", "there", "place", "found", "met", "part", "other"]
theorem sc_parts : FnScope N_parts ["net", "taken"] (defScope s_parts) := ⟨rfl, rfl, rfl, by decide +kernel, rfl, by decide +kernel, by decide +kernel⟩
abbrev s_shown : Stmt := top 20
abbrev N_shown : List Str := ["net", "size", "words", "one", "other"]
theorem sc_shown : FnScope N_shown ["net"] (defScope s_shown) := ⟨rfl, rfl, rfl, by decide +kernel, rfl, by decide +kernel, by decide +kernel⟩
abbrev s_number_of : Stmt := top 21
abbrev N_number_of : List Str := ["figures", "sign"]
theorem sc_number_of : FnScope N_number_of ["figures"] (defScope s_number_of) := ⟨rfl, rfl, rfl, by decide +kernel, rfl, by decide +kernel, by decide +kernel⟩
abbrev s_tie_of : Stmt := top 22
abbrev N_tie_of : List Str := ["word", "at"]
theorem sc_tie_of : FnScope N_tie_of ["word"] (defScope s_tie_of) := ⟨rfl, rfl, rfl, by decide +kernel, rfl, by decide +kernel, by decide +kernel⟩
abbrev s_read : Stmt := top 23
abbrev N_read : List Str := ["line", "words", "net", "word"]
theorem sc_read : FnScope N_read ["line"] (defScope s_read) := ⟨rfl, rfl, rfl, by decide +kernel, rfl, by decide +kernel, by decide +kernel⟩
abbrev s_pairs_of : Stmt := top 25
abbrev N_pairs_of : List Str := ["mates", "place"]
theorem sc_pairs_of : FnScope N_pairs_of ["mates"] (defScope s_pairs_of) := ⟨rfl, rfl, rfl, by decide +kernel, rfl, by decide +kernel, by decide +kernel⟩
abbrev s_turned_mates : Stmt := top 26
abbrev N_turned_mates : List Str := ["mates", "way", "found", "at"]
theorem sc_turned_mates : FnScope N_turned_mates ["mates", "way"] (defScope s_turned_mates) := ⟨rfl, rfl, rfl, by decide +kernel, rfl, by decide +kernel, by decide +kernel⟩
abbrev s_Search_init : Stmt := inClass (top 28) 0
abbrev N_Search_init : List Str := ["self", "net", "mates", "root", "place"]
theorem sc_Search_init : FnScope N_Search_init ["self", "net", "mates", "root"] (defScope s_Search_init) := ⟨rfl, rfl, rfl, by decide +kernel, rfl, by decide +kernel, by decide +kernel⟩
abbrev s_Search_is_inner : Stmt := inClass (top 28) 1
abbrev N_Search_is_inner : List Str := ["self", "place"]
theorem sc_Search_is_inner : FnScope N_Search_is_inner ["self", "place"] (defScope s_Search_is_inner) := ⟨rfl, rfl, rfl, by decide +kernel, rfl, by decide +kernel, by decide +kernel⟩
abbrev s_Search_bases_up : Stmt := inClass (top 28) 2
abbrev N_Search_bases_up : List Str := ["self", "place", "found"]
theorem sc_Search_bases_up : FnScope N_Search_bases_up ["self", "place"] (defScope s_Search_bases_up) := ⟨rfl, rfl, rfl, by decide +kernel, rfl, by decide +kernel, by decide +kernel⟩
abbrev s_Search_meet : Stmt := inClass (top 28) 3
abbrev N_Search_meet : List Str := ["self", "one", "other", "up", "place"]
theorem sc_Search_meet : FnScope N_Search_meet ["self", "one", "other"] (defScope s_Search_meet) := ⟨rfl, rfl, rfl, by decide +kernel, rfl, by decide +kernel, by decide +kernel⟩
abbrev s_Search_mark : Stmt := inClass (top 28) 4
abbrev N_Search_mark : List Str := ["self", "place", "top", "child", "ring"]
theorem sc_Search_mark : FnScope N_Search_mark ["self", "place", "top", "child", "ring"] (defScope s_Search_mark) := ⟨rfl, rfl, rfl, by decide +kernel, rfl, by decide +kernel, by decide +kernel⟩
abbrev s_Search_close : Stmt := inClass (top 28) 5
abbrev N_Search_close : List Str := ["self", "one", "other", "top", "ring", "place"]
theorem sc_Search_close : FnScope N_Search_close ["self", "one", "other"] (defScope s_Search_close) := ⟨rfl, rfl, rfl, by decide +kernel, rfl, by decide +kernel, by decide +kernel⟩
abbrev s_Search_look : Stmt := inClass (top 28) 6
abbrev N_Search_look : List Str := ["self", "place", "other", "mate"]
theorem sc_Search_look : FnScope N_Search_look ["self", "place", "other"] (defScope s_Search_look) := ⟨rfl, rfl, rfl, by decide +kernel, rfl, by decide +kernel, by decide +kernel⟩
abbrev s_Search_end : Stmt := inClass (top 28) 7
abbrev N_Search_end : List Str := ["self", "at", "place", "other", "found"]
theorem sc_Search_end : FnScope N_Search_end ["self"] (defScope s_Search_end) := ⟨rfl, rfl, rfl, by decide +kernel, rfl, by decide +kernel, by decide +kernel⟩
abbrev s_Search_way : Stmt := inClass (top 28) 8
abbrev N_Search_way : List Str := ["self", "place", "found"]
theorem sc_Search_way : FnScope N_Search_way ["self"] (defScope s_Search_way) := ⟨rfl, rfl, rfl, by decide +kernel, rfl, by decide +kernel, by decide +kernel⟩
abbrev s_way_for : Stmt := top 29
abbrev N_way_for : List Str := ["net", "mates", "root", "found"]
theorem sc_way_for : FnScope N_way_for ["net", "mates"] (defScope s_way_for) := ⟨rfl, rfl, rfl, by decide +kernel, rfl, by decide +kernel, by decide +kernel⟩
abbrev s_met_outer : Stmt := top 30
abbrev N_met_outer : List Str := ["net", "mates", "found", "root", "search", "place"]
theorem sc_met_outer : FnScope N_met_outer ["net", "mates"] (defScope s_met_outer) := ⟨rfl, rfl, rfl, by decide +kernel, rfl, by decide +kernel, by decide +kernel⟩
abbrev s_grown : Stmt := top 31
abbrev N_grown : List Str := ["net", "mates", "way"]
theorem sc_grown : FnScope N_grown ["net", "mates"] (defScope s_grown) := ⟨rfl, rfl, rfl, by decide +kernel, rfl, by decide +kernel, by decide +kernel⟩
abbrev s_most : Stmt := top 32
abbrev N_most : List Str := ["net", "place"]
theorem sc_most : FnScope N_most ["net"] (defScope s_most) := ⟨rfl, rfl, rfl, by decide +kernel, rfl, by decide +kernel, by decide +kernel⟩
abbrev s_greatest : Stmt := top 34
abbrev N_greatest : List Str := ["net", "place"]
theorem sc_greatest : FnScope N_greatest ["net"] (defScope s_greatest) := ⟨rfl, rfl, rfl, by decide +kernel, rfl, by decide +kernel, by decide +kernel⟩
abbrev s_fence : Stmt := top 35
abbrev N_fence : List Str := ["net", "open_ones", "found", "place", "other"]
theorem sc_fence : FnScope N_fence ["net"] (defScope s_fence) := ⟨rfl, rfl, rfl, by decide +kernel, rfl, by decide +kernel, by decide +kernel⟩
abbrev s_l_sole : Stmt := top 37
abbrev N_l_sole : List Str := ["_law_error", "_law_many"]
theorem sc_l_sole : FnScope N_l_sole ["_law_error"] (defScope s_l_sole) := ⟨rfl, rfl, rfl, by decide +kernel, rfl, by decide +kernel, by decide +kernel⟩
abbrev s_l_cell_at : Stmt := top 39
abbrev N_l_cell_at : List Str := ["_law_script", "_law_k"]
theorem sc_l_cell_at : FnScope N_l_cell_at ["_law_script", "_law_k"] (defScope s_l_cell_at) := ⟨rfl, rfl, rfl, by decide +kernel, rfl, by decide +kernel, by decide +kernel⟩
abbrev s_l_tied : Stmt := top 40
abbrev N_l_tied : List Str := ["_law_kind", "_law_cell", "_law_one", "_law_other", "_law_size"]
theorem sc_l_tied : FnScope N_l_tied ["_law_kind", "_law_cell", "_law_one", "_law_other", "_law_size"] (defScope s_l_tied) := ⟨rfl, rfl, rfl, by decide +kernel, rfl, by decide +kernel, by decide +kernel⟩
abbrev s_l_ties_by : Stmt := top 41
abbrev N_l_ties_by : List Str := ["_law_script", "_law_size", "_law_kind", "_law_found", "_law_one", "_law_other", "_law_at", "_law_cell"]
theorem sc_l_ties_by : FnScope N_l_ties_by ["_law_script", "_law_size", "_law_kind"] (defScope s_l_ties_by) := ⟨rfl, rfl, rfl, by decide +kernel, rfl, by decide +kernel, by decide +kernel⟩
abbrev s_l_size_by : Stmt := top 42
abbrev N_l_size_by : List Str := ["_law_script", "_law_bound"]
theorem sc_l_size_by : FnScope N_l_size_by ["_law_script", "_law_bound"] (defScope s_l_size_by) := ⟨rfl, rfl, rfl, by decide +kernel, rfl, by decide +kernel, by decide +kernel⟩
abbrev s_l_kind_by : Stmt := top 43
abbrev N_l_kind_by : List Str := ["_law_script"]
theorem sc_l_kind_by : FnScope N_l_kind_by ["_law_script"] (defScope s_l_kind_by) := ⟨rfl, rfl, rfl, by decide +kernel, rfl, by decide +kernel, by decide +kernel⟩
abbrev s_l_great : Stmt := top 44
abbrev N_l_great : List Str := ["_law_script"]
theorem sc_l_great : FnScope N_l_great ["_law_script"] (defScope s_l_great) := ⟨rfl, rfl, rfl, by decide +kernel, rfl, by decide +kernel, by decide +kernel⟩
abbrev s_l_net_by : Stmt := top 45
abbrev N_l_net_by : List Str := ["_law_script", "_law_bound", "_law_size", "_law_kind"]
theorem sc_l_net_by : FnScope N_l_net_by ["_law_script", "_law_bound"] (defScope s_l_net_by) := ⟨rfl, rfl, rfl, by decide +kernel, rfl, by decide +kernel, by decide +kernel⟩
abbrev s_l_figures : Stmt := top 46
abbrev N_l_figures : List Str := ["_law_number_here"]
theorem sc_l_figures : FnScope N_l_figures ["_law_number_here"] (defScope s_l_figures) := ⟨rfl, rfl, rfl, by decide +kernel, rfl, by decide +kernel, by decide +kernel⟩
abbrev s_l_text : Stmt := top 47
abbrev N_l_text : List Str := ["_law_size", "_law_ties", "_law_words", "_law_one", "_law_other"]
theorem sc_l_text : FnScope N_l_text ["_law_size", "_law_ties"] (defScope s_l_text) := ⟨rfl, rfl, rfl, by decide +kernel, rfl, by decide +kernel, by decide +kernel⟩
abbrev s_l_number : Stmt := top 48
abbrev N_l_number : List Str := ["_law_word", "_law_number_here"]
theorem sc_l_number : FnScope N_l_number ["_law_word"] (defScope s_l_number) := ⟨rfl, rfl, rfl, by decide +kernel, rfl, by decide +kernel, by decide +kernel⟩
abbrev s_l_tie : Stmt := top 49
abbrev N_l_tie : List Str := ["_law_word", "_law_size", "_law_at", "_law_one", "_law_other"]
theorem sc_l_tie : FnScope N_l_tie ["_law_word", "_law_size"] (defScope s_l_tie) := ⟨rfl, rfl, rfl, by decide +kernel, rfl, by decide +kernel, by decide +kernel⟩
abbrev s_l_net_of : Stmt := top 50
abbrev N_l_net_of : List Str := ["_law_line", "_law_words", "_law_size", "_law_ties", "_law_word"]
theorem sc_l_net_of : FnScope N_l_net_of ["_law_line"] (defScope s_l_net_of) := ⟨rfl, rfl, rfl, by decide +kernel, rfl, by decide +kernel, by decide +kernel⟩
abbrev s_l_refused : Stmt := top 51
abbrev N_l_refused : List Str := ["_law_line", "_law_error"]
theorem sc_l_refused : FnScope N_l_refused ["_law_line"] (defScope s_l_refused) := ⟨rfl, rfl, rfl, by decide +kernel, rfl, by decide +kernel, by decide +kernel⟩
abbrev s_l_read_alike : Stmt := top 52
abbrev N_l_read_alike : List Str := ["_law_line", "_law_due", "_law_net", "_law_place", "_law_near", "_law_made", "_law_tie_here"]
theorem sc_l_read_alike : FnScope N_l_read_alike ["_law_line"] (defScope s_l_read_alike) := ⟨rfl, rfl, rfl, by decide +kernel, rfl, by decide +kernel, by decide +kernel⟩
abbrev s_l_changed : Stmt := top 53
abbrev N_l_changed : List Str := ["_law_line", "_law_cell", "_law_more", "_law_some", "_law_sign", "_law_at"]
theorem sc_l_changed : FnScope N_l_changed ["_law_line", "_law_cell", "_law_more"] (defScope s_l_changed) := ⟨rfl, rfl, rfl, by decide +kernel, rfl, by decide +kernel, by decide +kernel⟩
abbrev s_law : Stmt := top 54
abbrev N_law : List Str := ["_law_script", "_law_size", "_law_ties", "_law_net", "_law_line", "_law_some"]
theorem sc_law : FnScope N_law ["_law_script"] (defScope s_law) := ⟨rfl, rfl, rfl, by decide +kernel, rfl, by decide +kernel, by decide +kernel⟩
structure Txt (K : PySem.W.Frag) (mg : Str → Option Value) where
  C_NetError : Addr
  g_NetError : mg "NetError" = some (.ref C_NetError)
  C_BadNet : Addr
  g_BadNet : mg "BadNet" = some (.ref C_BadNet)
  C_NoPlace : Addr
  g_NoPlace : mg "NoPlace" = some (.ref C_NoPlace)
  C_BadPairs : Addr
  g_BadPairs : mg "BadPairs" = some (.ref C_BadPairs)
  C_BadWay : Addr
  g_BadWay : mg "BadWay" = some (.ref C_BadWay)
  C_TieThere : Addr
  g_TieThere : mg "TieThere" = some (.ref C_TieThere)
  C_NoTie : Addr
  g_NoTie : mg "NoTie" = some (.ref C_NoTie)
  C_OddRing : Addr
  g_OddRing : mg "OddRing" = some (.ref C_OddRing)
  C_Net : Addr
  g_Net : mg "Net" = some (.ref C_Net)
  C_Search : Addr
  g_Search : mg "Search" = some (.ref C_Search)
  x_NetError : PySem.W.excIn K C_NetError [.type "ValueError", .type "Exception", .type "BaseException", .type "object"] "ValueError.__new__" = true
  kp_NetError : PySem.W.keepIn K (.ref C_NetError) = true
  sb_NetError : PySem.W.subIn K (.ref C_NetError) (.type "BaseException") = some true
  ty_NetError : PySem.W.typeIn K (.ref C_NetError) = some (.type "type")
  ic_NetError : PySem.W.isClsIn K C_NetError = true
  ec_NetError : ExcC K C_NetError
  ve_NetError : PySem.W.kitOne K (.ref C_NetError) (.type "ValueError") = some true
  ki_NetError_NetError : PySem.W.kitOne K (.ref C_NetError) (.ref C_NetError) = some true
  em_NetError : PySem.W.exmOne K (.ref C_NetError) (.ref C_NetError) = some true
  x_BadNet : PySem.W.excIn K C_BadNet [.type "ValueError", .type "Exception", .type "BaseException", .type "object"] "ValueError.__new__" = true
  kp_BadNet : PySem.W.keepIn K (.ref C_BadNet) = true
  sb_BadNet : PySem.W.subIn K (.ref C_BadNet) (.type "BaseException") = some true
  ty_BadNet : PySem.W.typeIn K (.ref C_BadNet) = some (.type "type")
  ic_BadNet : PySem.W.isClsIn K C_BadNet = true
  ec_BadNet : ExcC K C_BadNet
  ve_BadNet : PySem.W.kitOne K (.ref C_BadNet) (.type "ValueError") = some true
  ki_BadNet_NetError : PySem.W.kitOne K (.ref C_BadNet) (.ref C_NetError) = some true
  ki_BadNet_BadNet : PySem.W.kitOne K (.ref C_BadNet) (.ref C_BadNet) = some true
  ki_BadNet_NoPlace : PySem.W.kitOne K (.ref C_BadNet) (.ref C_NoPlace) = some false
  ki_BadNet_BadPairs : PySem.W.kitOne K (.ref C_BadNet) (.ref C_BadPairs) = some false
  ki_BadNet_BadWay : PySem.W.kitOne K (.ref C_BadNet) (.ref C_BadWay) = some false
  ki_BadNet_TieThere : PySem.W.kitOne K (.ref C_BadNet) (.ref C_TieThere) = some false
  ki_BadNet_NoTie : PySem.W.kitOne K (.ref C_BadNet) (.ref C_NoTie) = some false
  ki_BadNet_OddRing : PySem.W.kitOne K (.ref C_BadNet) (.ref C_OddRing) = some false
  em_BadNet : PySem.W.exmOne K (.ref C_BadNet) (.ref C_BadNet) = some true
  x_NoPlace : PySem.W.excIn K C_NoPlace [.type "ValueError", .type "Exception", .type "BaseException", .type "object"] "ValueError.__new__" = true
  kp_NoPlace : PySem.W.keepIn K (.ref C_NoPlace) = true
  sb_NoPlace : PySem.W.subIn K (.ref C_NoPlace) (.type "BaseException") = some true
  ty_NoPlace : PySem.W.typeIn K (.ref C_NoPlace) = some (.type "type")
  ic_NoPlace : PySem.W.isClsIn K C_NoPlace = true
  ec_NoPlace : ExcC K C_NoPlace
  ve_NoPlace : PySem.W.kitOne K (.ref C_NoPlace) (.type "ValueError") = some true
  ki_NoPlace_NetError : PySem.W.kitOne K (.ref C_NoPlace) (.ref C_NetError) = some true
  ki_NoPlace_BadNet : PySem.W.kitOne K (.ref C_NoPlace) (.ref C_BadNet) = some false
  ki_NoPlace_NoPlace : PySem.W.kitOne K (.ref C_NoPlace) (.ref C_NoPlace) = some true
  ki_NoPlace_BadPairs : PySem.W.kitOne K (.ref C_NoPlace) (.ref C_BadPairs) = some false
  ki_NoPlace_BadWay : PySem.W.kitOne K (.ref C_NoPlace) (.ref C_BadWay) = some false
  ki_NoPlace_TieThere : PySem.W.kitOne K (.ref C_NoPlace) (.ref C_TieThere) = some false
  ki_NoPlace_NoTie : PySem.W.kitOne K (.ref C_NoPlace) (.ref C_NoTie) = some false
  ki_NoPlace_OddRing : PySem.W.kitOne K (.ref C_NoPlace) (.ref C_OddRing) = some false
  em_NoPlace : PySem.W.exmOne K (.ref C_NoPlace) (.ref C_NoPlace) = some true
  x_BadPairs : PySem.W.excIn K C_BadPairs [.type "ValueError", .type "Exception", .type "BaseException", .type "object"] "ValueError.__new__" = true
  kp_BadPairs : PySem.W.keepIn K (.ref C_BadPairs) = true
  sb_BadPairs : PySem.W.subIn K (.ref C_BadPairs) (.type "BaseException") = some true
  ty_BadPairs : PySem.W.typeIn K (.ref C_BadPairs) = some (.type "type")
  ic_BadPairs : PySem.W.isClsIn K C_BadPairs = true
  ec_BadPairs : ExcC K C_BadPairs
  ve_BadPairs : PySem.W.kitOne K (.ref C_BadPairs) (.type "ValueError") = some true
  ki_BadPairs_NetError : PySem.W.kitOne K (.ref C_BadPairs) (.ref C_NetError) = some true
  ki_BadPairs_BadNet : PySem.W.kitOne K (.ref C_BadPairs) (.ref C_BadNet) = some false
  ki_BadPairs_NoPlace : PySem.W.kitOne K (.ref C_BadPairs) (.ref C_NoPlace) = some false
  ki_BadPairs_BadPairs : PySem.W.kitOne K (.ref C_BadPairs) (.ref C_BadPairs) = some true
  ki_BadPairs_BadWay : PySem.W.kitOne K (.ref C_BadPairs) (.ref C_BadWay) = some false
  ki_BadPairs_TieThere : PySem.W.kitOne K (.ref C_BadPairs) (.ref C_TieThere) = some false
  ki_BadPairs_NoTie : PySem.W.kitOne K (.ref C_BadPairs) (.ref C_NoTie) = some false
  ki_BadPairs_OddRing : PySem.W.kitOne K (.ref C_BadPairs) (.ref C_OddRing) = some false
  em_BadPairs : PySem.W.exmOne K (.ref C_BadPairs) (.ref C_BadPairs) = some true
  x_BadWay : PySem.W.excIn K C_BadWay [.type "ValueError", .type "Exception", .type "BaseException", .type "object"] "ValueError.__new__" = true
  kp_BadWay : PySem.W.keepIn K (.ref C_BadWay) = true
  sb_BadWay : PySem.W.subIn K (.ref C_BadWay) (.type "BaseException") = some true
  ty_BadWay : PySem.W.typeIn K (.ref C_BadWay) = some (.type "type")
  ic_BadWay : PySem.W.isClsIn K C_BadWay = true
  ec_BadWay : ExcC K C_BadWay
  ve_BadWay : PySem.W.kitOne K (.ref C_BadWay) (.type "ValueError") = some true
  ki_BadWay_NetError : PySem.W.kitOne K (.ref C_BadWay) (.ref C_NetError) = some true
  ki_BadWay_BadNet : PySem.W.kitOne K (.ref C_BadWay) (.ref C_BadNet) = some false
  ki_BadWay_NoPlace : PySem.W.kitOne K (.ref C_BadWay) (.ref C_NoPlace) = some false
  ki_BadWay_BadPairs : PySem.W.kitOne K (.ref C_BadWay) (.ref C_BadPairs) = some false
  ki_BadWay_BadWay : PySem.W.kitOne K (.ref C_BadWay) (.ref C_BadWay) = some true
  ki_BadWay_TieThere : PySem.W.kitOne K (.ref C_BadWay) (.ref C_TieThere) = some false
  ki_BadWay_NoTie : PySem.W.kitOne K (.ref C_BadWay) (.ref C_NoTie) = some false
  ki_BadWay_OddRing : PySem.W.kitOne K (.ref C_BadWay) (.ref C_OddRing) = some false
  em_BadWay : PySem.W.exmOne K (.ref C_BadWay) (.ref C_BadWay) = some true
  x_TieThere : PySem.W.excIn K C_TieThere [.type "ValueError", .type "Exception", .type "BaseException", .type "object"] "ValueError.__new__" = true
  kp_TieThere : PySem.W.keepIn K (.ref C_TieThere) = true
  sb_TieThere : PySem.W.subIn K (.ref C_TieThere) (.type "BaseException") = some true
  ty_TieThere : PySem.W.typeIn K (.ref C_TieThere) = some (.type "type")
  ic_TieThere : PySem.W.isClsIn K C_TieThere = true
  ec_TieThere : ExcC K C_TieThere
  ve_TieThere : PySem.W.kitOne K (.ref C_TieThere) (.type "ValueError") = some true
  ki_TieThere_NetError : PySem.W.kitOne K (.ref C_TieThere) (.ref C_NetError) = some true
  ki_TieThere_BadNet : PySem.W.kitOne K (.ref C_TieThere) (.ref C_BadNet) = some false
  ki_TieThere_NoPlace : PySem.W.kitOne K (.ref C_TieThere) (.ref C_NoPlace) = some false
  ki_TieThere_BadPairs : PySem.W.kitOne K (.ref C_TieThere) (.ref C_BadPairs) = some false
  ki_TieThere_BadWay : PySem.W.kitOne K (.ref C_TieThere) (.ref C_BadWay) = some false
  ki_TieThere_TieThere : PySem.W.kitOne K (.ref C_TieThere) (.ref C_TieThere) = some true
  ki_TieThere_NoTie : PySem.W.kitOne K (.ref C_TieThere) (.ref C_NoTie) = some false
  ki_TieThere_OddRing : PySem.W.kitOne K (.ref C_TieThere) (.ref C_OddRing) = some false
  em_TieThere : PySem.W.exmOne K (.ref C_TieThere) (.ref C_TieThere) = some true
  x_NoTie : PySem.W.excIn K C_NoTie [.type "ValueError", .type "Exception", .type "BaseException", .type "object"] "ValueError.__new__" = true
  kp_NoTie : PySem.W.keepIn K (.ref C_NoTie) = true
  sb_NoTie : PySem.W.subIn K (.ref C_NoTie) (.type "BaseException") = some true
  ty_NoTie : PySem.W.typeIn K (.ref C_NoTie) = some (.type "type")
  ic_NoTie : PySem.W.isClsIn K C_NoTie = true
  ec_NoTie : ExcC K C_NoTie
  ve_NoTie : PySem.W.kitOne K (.ref C_NoTie) (.type "ValueError") = some true
  ki_NoTie_NetError : PySem.W.kitOne K (.ref C_NoTie) (.ref C_NetError) = some true
  ki_NoTie_BadNet : PySem.W.kitOne K (.ref C_NoTie) (.ref C_BadNet) = some false
  ki_NoTie_NoPlace : PySem.W.kitOne K (.ref C_NoTie) (.ref C_NoPlace) = some false
  ki_NoTie_BadPairs : PySem.W.kitOne K (.ref C_NoTie) (.ref C_BadPairs) = some false
  ki_NoTie_BadWay : PySem.W.kitOne K (.ref C_NoTie) (.ref C_BadWay) = some false
  ki_NoTie_TieThere : PySem.W.kitOne K (.ref C_NoTie) (.ref C_TieThere) = some false
  ki_NoTie_NoTie : PySem.W.kitOne K (.ref C_NoTie) (.ref C_NoTie) = some true
  ki_NoTie_OddRing : PySem.W.kitOne K (.ref C_NoTie) (.ref C_OddRing) = some false
  em_NoTie : PySem.W.exmOne K (.ref C_NoTie) (.ref C_NoTie) = some true
  x_OddRing : PySem.W.excIn K C_OddRing [.type "ValueError", .type "Exception", .type "BaseException", .type "object"] "ValueError.__new__" = true
  kp_OddRing : PySem.W.keepIn K (.ref C_OddRing) = true
  sb_OddRing : PySem.W.subIn K (.ref C_OddRing) (.type "BaseException") = some true
  ty_OddRing : PySem.W.typeIn K (.ref C_OddRing) = some (.type "type")
  ic_OddRing : PySem.W.isClsIn K C_OddRing = true
  ec_OddRing : ExcC K C_OddRing
  ve_OddRing : PySem.W.kitOne K (.ref C_OddRing) (.type "ValueError") = some true
  ki_OddRing_NetError : PySem.W.kitOne K (.ref C_OddRing) (.ref C_NetError) = some true
  ki_OddRing_BadNet : PySem.W.kitOne K (.ref C_OddRing) (.ref C_BadNet) = some false
  ki_OddRing_NoPlace : PySem.W.kitOne K (.ref C_OddRing) (.ref C_NoPlace) = some false
  ki_OddRing_BadPairs : PySem.W.kitOne K (.ref C_OddRing) (.ref C_BadPairs) = some false
  ki_OddRing_BadWay : PySem.W.kitOne K (.ref C_OddRing) (.ref C_BadWay) = some false
  ki_OddRing_TieThere : PySem.W.kitOne K (.ref C_OddRing) (.ref C_TieThere) = some false
  ki_OddRing_NoTie : PySem.W.kitOne K (.ref C_OddRing) (.ref C_NoTie) = some false
  ki_OddRing_OddRing : PySem.W.kitOne K (.ref C_OddRing) (.ref C_OddRing) = some true
  em_OddRing : PySem.W.exmOne K (.ref C_OddRing) (.ref C_OddRing) = some true
  cl_Net : Cls K C_Net
  na_Net_size : NoAttr K C_Net "size"
  na_Net_near : NoAttr K C_Net "near"
  oc_Net : PySem.W.findIn K (.ref C_Net) "__class__" = some (some (.builtin "object.__class__"))
  om_Net : PySem.W.mroIn K C_Net (.type "object") = some true
  cl_Search : Cls K C_Search
  na_Search_web : NoAttr K C_Search "web"
  na_Search_mates : NoAttr K C_Search "mates"
  na_Search_root : NoAttr K C_Search "root"
  na_Search_base : NoAttr K C_Search "base"
  na_Search_above : NoAttr K C_Search "above"
  na_Search_outer : NoAttr K C_Search "outer"
  f_is_whole : Addr
  fd_is_whole : FuncData
  F_is_whole : Fun K "is_whole" "is_whole" s_is_whole f_is_whole fd_is_whole
  b_is_whole : Binds K fd_is_whole ["thing"] []
  g_is_whole : mg "is_whole" = some (.ref f_is_whole)
  f_is_place : Addr
  fd_is_place : FuncData
  F_is_place : Fun K "is_place" "is_place" s_is_place f_is_place fd_is_place
  b_is_place : Binds K fd_is_place ["size", "thing"] []
  g_is_place : mg "is_place" = some (.ref f_is_place)
  f_is_tie : Addr
  fd_is_tie : FuncData
  F_is_tie : Fun K "is_tie" "is_tie" s_is_tie f_is_tie fd_is_tie
  b_is_tie : Binds K fd_is_tie ["size", "thing"] []
  g_is_tie : mg "is_tie" = some (.ref f_is_tie)
  f_Net_init : Addr
  fd_Net_init : FuncData
  F_Net_init : Fun K "__init__" "Net.__init__" s_Net_init f_Net_init fd_Net_init
  b_Net_init : Binds K fd_Net_init ["self", "size", "ties"] []
  mk_Net : L2.Mk K C_Net f_Net_init
  f_Net_ties : Addr
  fd_Net_ties : FuncData
  F_Net_ties : Fun K "ties" "Net.ties" s_Net_ties f_Net_ties fd_Net_ties
  b_Net_ties : Binds K fd_Net_ties ["self"] []
  m_Net_ties : Meth K C_Net "ties" f_Net_ties
  f_need_place : Addr
  fd_need_place : FuncData
  F_need_place : Fun K "need_place" "need_place" s_need_place f_need_place fd_need_place
  b_need_place : Binds K fd_need_place ["net", "place"] []
  g_need_place : mg "need_place" = some (.ref f_need_place)
  f_Net_beside : Addr
  fd_Net_beside : FuncData
  F_Net_beside : Fun K "beside" "Net.beside" s_Net_beside f_Net_beside fd_Net_beside
  b_Net_beside : Binds K fd_Net_beside ["self", "place"] []
  m_Net_beside : Meth K C_Net "beside" f_Net_beside
  f_part_of : Addr
  fd_part_of : FuncData
  F_part_of : Fun K "part_of" "part_of" s_part_of f_part_of fd_part_of
  b_part_of : Binds K fd_part_of ["net", "place", "there"] []
  g_part_of : mg "part_of" = some (.ref f_part_of)
  f_parts : Addr
  fd_parts : FuncData
  F_parts : Fun K "parts" "parts" s_parts f_parts fd_parts
  b_parts : Binds K fd_parts ["net", "taken"] []
  g_parts : mg "parts" = some (.ref f_parts)
  f_shown : Addr
  fd_shown : FuncData
  F_shown : Fun K "shown" "shown" s_shown f_shown fd_shown
  b_shown : Binds K fd_shown ["net"] []
  g_shown : mg "shown" = some (.ref f_shown)
  f_number_of : Addr
  fd_number_of : FuncData
  F_number_of : Fun K "number_of" "number_of" s_number_of f_number_of fd_number_of
  b_number_of : Binds K fd_number_of ["figures"] []
  g_number_of : mg "number_of" = some (.ref f_number_of)
  f_tie_of : Addr
  fd_tie_of : FuncData
  F_tie_of : Fun K "tie_of" "tie_of" s_tie_of f_tie_of fd_tie_of
  b_tie_of : Binds K fd_tie_of ["word"] []
  g_tie_of : mg "tie_of" = some (.ref f_tie_of)
  f_read : Addr
  fd_read : FuncData
  F_read : Fun K "read" "read" s_read f_read fd_read
  b_read : Binds K fd_read ["line"] []
  g_read : mg "read" = some (.ref f_read)
  f_pairs_of : Addr
  fd_pairs_of : FuncData
  F_pairs_of : Fun K "pairs_of" "pairs_of" s_pairs_of f_pairs_of fd_pairs_of
  b_pairs_of : Binds K fd_pairs_of ["mates"] []
  g_pairs_of : mg "pairs_of" = some (.ref f_pairs_of)
  f_turned_mates : Addr
  fd_turned_mates : FuncData
  F_turned_mates : Fun K "turned_mates" "turned_mates" s_turned_mates f_turned_mates fd_turned_mates
  b_turned_mates : Binds K fd_turned_mates ["mates", "way"] []
  g_turned_mates : mg "turned_mates" = some (.ref f_turned_mates)
  f_Search_init : Addr
  fd_Search_init : FuncData
  F_Search_init : Fun K "__init__" "Search.__init__" s_Search_init f_Search_init fd_Search_init
  b_Search_init : Binds K fd_Search_init ["self", "net", "mates", "root"] []
  mk_Search : L2.Mk K C_Search f_Search_init
  f_Search_is_inner : Addr
  fd_Search_is_inner : FuncData
  F_Search_is_inner : Fun K "is_inner" "Search.is_inner" s_Search_is_inner f_Search_is_inner fd_Search_is_inner
  b_Search_is_inner : Binds K fd_Search_is_inner ["self", "place"] []
  m_Search_is_inner : Meth K C_Search "is_inner" f_Search_is_inner
  f_Search_bases_up : Addr
  fd_Search_bases_up : FuncData
  F_Search_bases_up : Fun K "bases_up" "Search.bases_up" s_Search_bases_up f_Search_bases_up fd_Search_bases_up
  b_Search_bases_up : Binds K fd_Search_bases_up ["self", "place"] []
  m_Search_bases_up : Meth K C_Search "bases_up" f_Search_bases_up
  f_Search_meet : Addr
  fd_Search_meet : FuncData
  F_Search_meet : Fun K "meet" "Search.meet" s_Search_meet f_Search_meet fd_Search_meet
  b_Search_meet : Binds K fd_Search_meet ["self", "one", "other"] []
  m_Search_meet : Meth K C_Search "meet" f_Search_meet
  f_Search_mark : Addr
  fd_Search_mark : FuncData
  F_Search_mark : Fun K "mark" "Search.mark" s_Search_mark f_Search_mark fd_Search_mark
  b_Search_mark : Binds K fd_Search_mark ["self", "place", "top", "child", "ring"] []
  m_Search_mark : Meth K C_Search "mark" f_Search_mark
  f_Search_close : Addr
  fd_Search_close : FuncData
  F_Search_close : Fun K "close" "Search.close" s_Search_close f_Search_close fd_Search_close
  b_Search_close : Binds K fd_Search_close ["self", "one", "other"] []
  m_Search_close : Meth K C_Search "close" f_Search_close
  f_Search_look : Addr
  fd_Search_look : FuncData
  F_Search_look : Fun K "look" "Search.look" s_Search_look f_Search_look fd_Search_look
  b_Search_look : Binds K fd_Search_look ["self", "place", "other"] []
  m_Search_look : Meth K C_Search "look" f_Search_look
  f_Search_end : Addr
  fd_Search_end : FuncData
  F_Search_end : Fun K "end" "Search.end" s_Search_end f_Search_end fd_Search_end
  b_Search_end : Binds K fd_Search_end ["self"] []
  m_Search_end : Meth K C_Search "end" f_Search_end
  f_Search_way : Addr
  fd_Search_way : FuncData
  F_Search_way : Fun K "way" "Search.way" s_Search_way f_Search_way fd_Search_way
  b_Search_way : Binds K fd_Search_way ["self"] []
  m_Search_way : Meth K C_Search "way" f_Search_way
  f_way_for : Addr
  fd_way_for : FuncData
  F_way_for : Fun K "way_for" "way_for" s_way_for f_way_for fd_way_for
  b_way_for : Binds K fd_way_for ["net", "mates"] []
  g_way_for : mg "way_for" = some (.ref f_way_for)
  f_met_outer : Addr
  fd_met_outer : FuncData
  F_met_outer : Fun K "met_outer" "met_outer" s_met_outer f_met_outer fd_met_outer
  b_met_outer : Binds K fd_met_outer ["net", "mates"] []
  g_met_outer : mg "met_outer" = some (.ref f_met_outer)
  f_grown : Addr
  fd_grown : FuncData
  F_grown : Fun K "grown" "grown" s_grown f_grown fd_grown
  b_grown : Binds K fd_grown ["net", "mates"] []
  g_grown : mg "grown" = some (.ref f_grown)
  f_most : Addr
  fd_most : FuncData
  F_most : Fun K "most" "most" s_most f_most fd_most
  b_most : Binds K fd_most ["net"] []
  g_most : mg "most" = some (.ref f_most)
  f_greatest : Addr
  fd_greatest : FuncData
  F_greatest : Fun K "greatest" "greatest" s_greatest f_greatest fd_greatest
  b_greatest : Binds K fd_greatest ["net"] []
  g_greatest : mg "greatest" = some (.ref f_greatest)
  f_fence : Addr
  fd_fence : FuncData
  F_fence : Fun K "fence" "fence" s_fence f_fence fd_fence
  b_fence : Binds K fd_fence ["net"] []
  g_fence : mg "fence" = some (.ref f_fence)
  f_l_sole : Addr
  fd_l_sole : FuncData
  F_l_sole : Fun K "_law_sole" "_law_sole" s_l_sole f_l_sole fd_l_sole
  b_l_sole : Binds K fd_l_sole ["_law_error"] []
  g_l_sole : mg "_law_sole" = some (.ref f_l_sole)
  f_l_cell_at : Addr
  fd_l_cell_at : FuncData
  F_l_cell_at : Fun K "_law_cell_at" "_law_cell_at" s_l_cell_at f_l_cell_at fd_l_cell_at
  b_l_cell_at : Binds K fd_l_cell_at ["_law_script", "_law_k"] []
  g_l_cell_at : mg "_law_cell_at" = some (.ref f_l_cell_at)
  f_l_tied : Addr
  fd_l_tied : FuncData
  F_l_tied : Fun K "_law_tied" "_law_tied" s_l_tied f_l_tied fd_l_tied
  b_l_tied : Binds K fd_l_tied ["_law_kind", "_law_cell", "_law_one", "_law_other", "_law_size"] []
  g_l_tied : mg "_law_tied" = some (.ref f_l_tied)
  f_l_ties_by : Addr
  fd_l_ties_by : FuncData
  F_l_ties_by : Fun K "_law_ties_by" "_law_ties_by" s_l_ties_by f_l_ties_by fd_l_ties_by
  b_l_ties_by : Binds K fd_l_ties_by ["_law_script", "_law_size", "_law_kind"] []
  g_l_ties_by : mg "_law_ties_by" = some (.ref f_l_ties_by)
  f_l_size_by : Addr
  fd_l_size_by : FuncData
  F_l_size_by : Fun K "_law_size_by" "_law_size_by" s_l_size_by f_l_size_by fd_l_size_by
  b_l_size_by : Binds K fd_l_size_by ["_law_script", "_law_bound"] []
  g_l_size_by : mg "_law_size_by" = some (.ref f_l_size_by)
  f_l_kind_by : Addr
  fd_l_kind_by : FuncData
  F_l_kind_by : Fun K "_law_kind_by" "_law_kind_by" s_l_kind_by f_l_kind_by fd_l_kind_by
  b_l_kind_by : Binds K fd_l_kind_by ["_law_script"] []
  g_l_kind_by : mg "_law_kind_by" = some (.ref f_l_kind_by)
  f_l_great : Addr
  fd_l_great : FuncData
  F_l_great : Fun K "_law_great" "_law_great" s_l_great f_l_great fd_l_great
  b_l_great : Binds K fd_l_great ["_law_script"] []
  g_l_great : mg "_law_great" = some (.ref f_l_great)
  f_l_net_by : Addr
  fd_l_net_by : FuncData
  F_l_net_by : Fun K "_law_net_by" "_law_net_by" s_l_net_by f_l_net_by fd_l_net_by
  b_l_net_by : Binds K fd_l_net_by ["_law_script", "_law_bound"] []
  g_l_net_by : mg "_law_net_by" = some (.ref f_l_net_by)
  f_l_figures : Addr
  fd_l_figures : FuncData
  F_l_figures : Fun K "_law_figures" "_law_figures" s_l_figures f_l_figures fd_l_figures
  b_l_figures : Binds K fd_l_figures ["_law_number_here"] []
  g_l_figures : mg "_law_figures" = some (.ref f_l_figures)
  f_l_text : Addr
  fd_l_text : FuncData
  F_l_text : Fun K "_law_text" "_law_text" s_l_text f_l_text fd_l_text
  b_l_text : Binds K fd_l_text ["_law_size", "_law_ties"] []
  g_l_text : mg "_law_text" = some (.ref f_l_text)
  f_l_number : Addr
  fd_l_number : FuncData
  F_l_number : Fun K "_law_number" "_law_number" s_l_number f_l_number fd_l_number
  b_l_number : Binds K fd_l_number ["_law_word"] []
  g_l_number : mg "_law_number" = some (.ref f_l_number)
  f_l_tie : Addr
  fd_l_tie : FuncData
  F_l_tie : Fun K "_law_tie" "_law_tie" s_l_tie f_l_tie fd_l_tie
  b_l_tie : Binds K fd_l_tie ["_law_word", "_law_size"] []
  g_l_tie : mg "_law_tie" = some (.ref f_l_tie)
  f_l_net_of : Addr
  fd_l_net_of : FuncData
  F_l_net_of : Fun K "_law_net_of" "_law_net_of" s_l_net_of f_l_net_of fd_l_net_of
  b_l_net_of : Binds K fd_l_net_of ["_law_line"] []
  g_l_net_of : mg "_law_net_of" = some (.ref f_l_net_of)
  f_l_refused : Addr
  fd_l_refused : FuncData
  F_l_refused : Fun K "_law_refused" "_law_refused" s_l_refused f_l_refused fd_l_refused
  b_l_refused : Binds K fd_l_refused ["_law_line"] []
  g_l_refused : mg "_law_refused" = some (.ref f_l_refused)
  f_l_read_alike : Addr
  fd_l_read_alike : FuncData
  F_l_read_alike : Fun K "_law_read_alike" "_law_read_alike" s_l_read_alike f_l_read_alike fd_l_read_alike
  b_l_read_alike : Binds K fd_l_read_alike ["_law_line"] []
  g_l_read_alike : mg "_law_read_alike" = some (.ref f_l_read_alike)
  f_l_changed : Addr
  fd_l_changed : FuncData
  F_l_changed : Fun K "_law_changed" "_law_changed" s_l_changed f_l_changed fd_l_changed
  b_l_changed : Binds K fd_l_changed ["_law_line", "_law_cell", "_law_more"] []
  g_l_changed : mg "_law_changed" = some (.ref f_l_changed)
  f_law : Addr
  fd_law : FuncData
  F_law : Fun K "law" "law" s_law f_law fd_law
  b_law : Binds K fd_law ["_law_script"] []
  g_law : mg "law" = some (.ref f_law)
  g_MOST_PLACES : ∃ t, mg "MOST_PLACES" = some (.int 40 t)
  g_FIGURES : ∃ t, mg "FIGURES" = some (.str "0123456789" t)
  n_ValueError : mg "ValueError" = none
  n_all : mg "all" = none
  n_any : mg "any" = none
  n_bool : mg "bool" = none
  n_int : mg "int" = none
  n_isinstance : mg "isinstance" = none
  n_len : mg "len" = none
  n_list : mg "list" = none
  n_range : mg "range" = none
  n_set : mg "set" = none
  n_sorted : mg "sorted" = none
  n_str : mg "str" = none
  n_tuple : mg "tuple" = none
local macro_rules | `(tactic| walk_at "f") => `(tactic| first
  | with_reducible assumption
  | (with_reducible refine sq_of ?_; walk_at "f")
  | (with_reducible refine st_of ?_; walk_at "f")
  | (with_reducible refine ex_l (by with_reducible assumption) ?_; walk_at "f")
  | (with_reducible refine ex_t (by with_reducible assumption) ?_; walk_at "f")
  | (refine (by with_reducible assumption : Ex _ _) _ _ ?_; walk_at "f"))
local macro_rules | `(tactic| walk_at "ev") => `(tactic| repeat' (first
  | with_reducible exact ev_c
  | with_reducible exact ev_var rfl
  | exact ev_var rfl
  | with_reducible exact ea_nil
  | with_reducible refine ea_cons ?_ ?_
  | with_reducible refine ev_op ?_ ?_ rv_I0
  | with_reducible refine ev_op ?_ ?_ rv_isN
  | with_reducible refine ev_op ?_ ?_ rv_notN
  | with_reducible refine ev_op ?_ ?_ (rv_eq ?_)
  | with_reducible refine ev_op ?_ ?_ (rv_ne ?_)
  | with_reducible refine ev_op ?_ ?_ (rv_I ?_)
  | with_reducible refine ev_op ?_ ?_ (rv_ixL ?_ ?_)
  | with_reducible refine ev_op ?_ ?_ (rv_ixT ?_ ?_)
  | with_reducible refine ev_un ?_ ru_neg
  | with_reducible refine et_test ?_
  | with_reducible refine et_B ?_
  | with_reducible refine et_not ?_
  | with_reducible refine et_and ?_ (fun _ => ?_)
  | with_reducible refine et_or ?_ (fun _ => ?_)
  | with_reducible refine ev_andV ?_ (fun _ => ?_)
  | with_reducible refine ev_orV ?_ (fun _ => ?_)
  | with_reducible refine ev_notV ?_
  | with_reducible refine ev_call ?_ ?_
  | (refine ev_len ?_ ?_)
  | (with_reducible refine ev_cb ?_ ?_)))
section
variable {P : Program} {w : World} {K : PySem.W.Frag} {mg : Str → Option Value} {base : Heap}
/-! is_whole -/
def R_whole (K : PySem.W.Frag) (H : Hp) (v z : V) : Prop := (∃ i, v = .int i ∧ z = .bl true) ∨ (NonInt K H v ∧ z = .bl false)
def sp_is_whole (K : PySem.W.Frag) : Sp := pureSp fun H vs z => ∃ v, vs = [v] ∧ R_whole K H v z
theorem ok_is_whole (T : Txt K mg) : FnOk P w K mg base CX0 1 T.f_is_whole T.fd_is_whole ["thing"] (sp_is_whole K) := by
  refine T.F_is_whole.ok sc_is_whole (fun vs H Q E h => ?_) (fun cdv A outer s H vs Q E hr h => ?_)
  · obtain ⟨z, ⟨v, rfl, _⟩, _⟩ := h
    rfl
  · obtain ⟨z, ⟨v, rfl, r⟩, q⟩ := h
    refine ⟨_, (pss_one (ps_ret (pe_and (pe_callB (r := rIsi K) call_isi (by rfl) T.n_isinstance (by decide +kernel) (pa_cons (pv 0) (pa_cons (pe_bltn (v := .ty "int") (by rfl) T.n_int (by decide +kernel) rfl) pa_nil))) (pe_one (pe_not (pe_callB (r := rIsi K) call_isi (by rfl) T.n_isinstance (by decide +kernel) (pa_cons (pv 0) (pa_cons (pe_bltn (v := .ty "bool") (by rfl) T.n_bool (by decide +kernel) rfl) pa_nil)))))))), s_ret ?_ q⟩
    obtain ⟨t, b1, b2, ty, k1, k2, e⟩ : ∃ t b1 b2, TyX K H v t ∧ PySem.W.kitOne K t (.type "int") = some b1 ∧ PySem.W.kitOne K t (.type "bool") = some b2 ∧ z = .bl (b1 && !b2) := by
      rcases r with ⟨i, rfl, rfl⟩ | ⟨⟨t, b1, b2, ty, k1, k2, e⟩, rfl⟩
      · exact ⟨_, _, _, .base (.int i), kit_ty (by decide +kernel : _ = some true), kit_ty (by decide +kernel : _ = some false), rfl⟩
      · exact ⟨_, _, _, ty, k1, k2, by rw [e]⟩
    exact ev_is (ev_andV (ev_cb (ea_cons (ev_var rfl) (ea_cons ev_c ea_nil)) (rc_isi ty (.ty _) k1)) (fun _ => ev_notV (ev_cb (ea_cons (ev_var rfl) (ea_cons ev_c ea_nil)) (rc_isi ty (.ty _) k2)))) e.symm
theorem R_whole.go {H H' : Hp} {v z : V} (r : R_whole K H v z) (s : Ex H H') : R_whole K H' v z := r.imp id fun ⟨n, e⟩ => ⟨n.go s, e⟩
theorem spv_whole {H : Hp} {v z : V} (r : R_whole K H v z) : SpV (sp_is_whole K) [v] H z := spv_pure fun H1 e => ⟨v, rfl, r.go e⟩
/-! is_place -/
def isPl (n : Int) (v : V) : Bool := match v with | .int i => decide (0 ≤ i) && decide (i < n) | _ => false
/-- an int, or what is none -/
def Sca (K : PySem.W.Frag) (H : Hp) (v : V) : Prop := (∃ i, v = .int i) ∨ NonInt K H v ∧ ∀ i, v ≠ .int i
theorem Sca.go {H H' : Hp} {v : V} (r : Sca K H v) (s : Ex H H') : Sca K H' v := r.imp id fun ⟨n, e⟩ => ⟨n.go s, e⟩
theorem sca_int (H : Hp) (i : Int) : Sca K H (.int i) := .inl ⟨i, rfl⟩
theorem sca_bl (G : Hp) (b : Bool) : Sca K G (.bl b) := .inr ⟨nonInt_bl b, fun i z => by cases z⟩
theorem sca_str (G : Hp) (z : Str) : Sca K G (.str z) := .inr ⟨nonInt_str z, fun i z => by cases z⟩
theorem sca_non (G : Hp) : Sca K G .non := .inr ⟨nonInt_non, fun i z => by cases z⟩
def sp_is_place (K : PySem.W.Frag) : Sp := pureSp fun H vs z => ∃ n v, vs = [.int n, v] ∧ Sca K H v ∧ z = .bl (isPl n v)
theorem ok_is_place (T : Txt K mg) : FnOk P w K mg base CX0 2 T.f_is_place T.fd_is_place ["size", "thing"] (sp_is_place K) := by
  refine T.F_is_place.ok sc_is_place (fun vs H Q E h => ?_) (fun cdv A outer s H vs Q E hr h => ?_)
  · obtain ⟨z, ⟨n, v, rfl, _⟩, _⟩ := h
    rfl
  · obtain ⟨z, ⟨n, v, rfl, r, rfl⟩, q⟩ := h
    refine ⟨_, (pss_one (ps_ret (pe_and (pe_call (ok_is_whole T) (hr.mono (by decide)) (by rfl) T.g_is_whole T.F_is_whole.kp T.b_is_whole .nil pass0 (pa_cons (pv 1) pa_nil)) (pe_one (pe_chain op_le op_lt pe_int (pv 1) (pv 0)))))), s_ret ?_ q⟩
    rcases r with ⟨i, rfl⟩ | ⟨ni, no⟩
    · exact ev_is (ev_andV (a := true) (ev_call (ea_cons (ev_var rfl) ea_nil) (spv_whole (.inl ⟨i, rfl, rfl⟩))) (fun _ => ev_chain ev_c (ev_var rfl) rv_I0 (fun _ => ev_var rfl) (fun _ => rv_I0))) (by simp [isPl])
    · have e : isPl n v = false := by
        unfold isPl
        split
        · exact absurd rfl (no _)
        · rfl
      exact ev_is (ev_andV (a := false) (b := false) (ev_call (ea_cons (ev_var rfl) ea_nil) (spv_whole (.inr ⟨ni, rfl⟩))) (fun z => nomatch z)) (by rw [e]; rfl)
theorem spv_place {H : Hp} {n : Int} {v : V} (r : Sca K H v) : SpV (sp_is_place K) [.int n, v] H (.bl (isPl n v)) := spv_pure fun H1 e => ⟨n, v, rfl, r.go e, rfl⟩
def placeOf (v : V) : Nat := match v with | .int i => i.toNat | _ => 0
theorem isPl_of {n : Nat} {v : V} (h : isPl n v = true) : v = vn (placeOf v) ∧ placeOf v < n := by
  unfold isPl at h
  split at h
  · rename_i i
    simp at h
    refine ⟨?_, ?_⟩
    · show V.int i = V.int ((i.toNat : Nat) : Int)
      rw [Int.toNat_of_nonneg h.1]
    · show i.toNat < n
      omega
  · cases h
/-! is_tie -/
def ltV (x y : V) : Bool := match x, y with | .int i, .int j => decide (i < j) | _, _ => false
/-- is_tie's answer -/
def IsTie (K : PySem.W.Frag) (H : Hp) (n : Int) (v : V) (b : Bool) : Prop :=
  (Kind K H v "tuple" false ∧ b = false) ∨ (∃ a xs, v = .ref a ∧ SqT K H a xs ∧ Kind K H v "tuple" true ∧ xs.length ≠ 2 ∧ b = false) ∨
    (∃ a x y, v = .ref a ∧ SqT K H a [x, y] ∧ Kind K H v "tuple" true ∧ Sca K H x ∧ Sca K H y ∧ b = (isPl n x && isPl n y && ltV x y))
theorem IsTie.go {H H' : Hp} {n : Int} {v : V} {b : Bool} (r : IsTie K H n v b) (s : Ex H H') : IsTie K H' n v b := by
  rcases r with ⟨k, e⟩ | ⟨a, xs, e, h, k, l, f⟩ | ⟨a, x, y, e, h, k, s1, s2, f⟩
  · exact .inl ⟨k.go s, e⟩
  · exact .inr (.inl ⟨a, xs, e, ex_t s h, k.go s, l, f⟩)
  · exact .inr (.inr ⟨a, x, y, e, ex_t s h, k.go s, s1.go s, s2.go s, f⟩)
theorem kind_tup {H : Hp} {a : Addr} {xs : List V} (h : H a = some (.tup xs)) : Kind K H (.ref a) "tuple" true := kind_of (.base (.tup h)) (by decide +kernel)
theorem isTie_pair {H : Hp} {n : Int} {a : Addr} {i j : Int} (h : H a = some (.tup [.int i, .int j])) : IsTie K H n (.ref a) (decide (0 ≤ i) && decide (i < n) && (decide (0 ≤ j) && decide (j < n)) && decide (i < j)) :=
  .inr (.inr ⟨a, _, _, rfl, st_of h, kind_tup h, sca_int _ _, sca_int _ _, rfl⟩)
def sp_is_tie (K : PySem.W.Frag) : Sp := pureSp fun H vs z => ∃ n v b, vs = [.int n, v] ∧ IsTie K H n v b ∧ z = .bl b
theorem ok_is_tie (T : Txt K mg) : FnOk P w K mg base CX0 3 T.f_is_tie T.fd_is_tie ["size", "thing"] (sp_is_tie K) := by
  refine T.F_is_tie.ok sc_is_tie (fun vs H Q E h => ?_) (fun cdv A outer s H vs Q E hr h => ?_)
  · obtain ⟨z, ⟨n, v, b, rfl, _⟩, _⟩ := h
    rfl
  · obtain ⟨z, ⟨n, v, b, rfl, r, rfl⟩, q⟩ := h
    refine ⟨_, (pss_cons (ps_if (PW.pt (pw_or (pt_not (pt_val (pe_callB (r := rIsi K) call_isi (by rfl) T.n_isinstance (by decide +kernel) (pa_cons (pv 1) (pa_cons (pe_bltn (v := .ty "tuple") (by rfl) T.n_tuple (by decide +kernel) rfl) pa_nil))))) (pw_or1 (pt_cmpR op_ne (pe_callB (r := rLenS K) call_len_seq (by rfl) T.n_len (by decide +kernel) (pa_cons (pv 1) pa_nil)) pe_int (nomark _))))) (pss_one (ps_ret pe_bl)) pss_nil)
  (pss_one (ps_ret (pe_and (pe_call (ok_is_place T) (hr.mono (by decide)) (by rfl) T.g_is_place T.F_is_place.kp T.b_is_place .nil pass0 (pa_cons (pv 0) (pa_cons (pe_ix (r := rIxT K) ix_tup (pv 1) pe_int (fun _ _ => rfl)) pa_nil))) (pe_and (pe_call (ok_is_place T) (hr.mono (by decide)) (by rfl) T.g_is_place T.F_is_place.kp T.b_is_place .nil pass0 (pa_cons (pv 0) (pa_cons (pe_ix (r := rIxT K) ix_tup (pv 1) pe_int (fun _ _ => rfl)) pa_nil))) (pe_one (pe_cmpR op_lt (pe_ix (r := rIxT K) ix_tup (pv 1) pe_int (fun _ _ => rfl)) (pe_ix (r := rIxT K) ix_tup (pv 1) pe_int (fun _ _ => rfl)) (nomark _)))))))), ?_⟩
    have len : ∀ a (xs : List V), v = .ref a → SqT K H a xs → Ev (tCB (rLenS K) (tCons (tVar 1) tNil)) (start N_is_tie [.int n, v]) H (.int (xs.length : Nat)) := fun a xs e h => by
      subst e
      exact ev_cb (ea_cons (ev_var rfl) ea_nil) fun H1 e1 Q q => ⟨a, xs, rfl, .inr (ex_t e1 h), q H1 (Ex.refl H1)⟩
    rcases r with ⟨k, rfl⟩ | ⟨a, xs, ev, h, k, l, rfl⟩ | ⟨a, x, y, ev, h, k, s1, s2, rfl⟩
    · exact q_when (et_or (a := true) (b := true) (et_not (et_B (ev_cb (ea_cons (ev_var rfl) (ea_cons ev_c ea_nil)) (rc_kind k)))) (fun z => nomatch z)) (fun _ H1 e1 => s_ret ev_c fun H2 e2 => q H2 (e1.trans e2)) (fun z => nomatch z)
    · refine q_when (et_or (a := false) (b := true) (et_not (et_B (ev_cb (ea_cons (ev_var rfl) (ea_cons ev_c ea_nil)) (rc_kind k)))) (fun _ => et_is (et_test (ev_op (len a xs ev h) ev_c (rv_ne rfl))) ?_)) (fun _ H1 e1 => s_ret ev_c fun H2 e2 => q H2 (e1.trans e2)) (fun z => nomatch z)
      have : ¬ (V.int (xs.length : Nat) = V.int 2) := fun z => l (by injection z with z; omega)
      simp [this]
    · refine q_when (et_or (a := false) (b := false) (et_not (et_B (ev_cb (ea_cons (ev_var rfl) (ea_cons ev_c ea_nil)) (rc_kind k)))) (fun _ => et_is (et_test (ev_op (len a [x, y] ev h) ev_c (rv_ne rfl))) rfl)) (fun z => nomatch z) (fun _ H1 e1 => ?_)
      subst ev
      have i0 : ∀ H1, Ex H H1 → Ev (tOp (rIxT K) (tVar 1) (tC (.int 0))) (start N_is_tie [.int n, .ref a]) H1 x := fun H1 e1 => ev_op (ev_var rfl) ev_c (rv_ixT (K := K) (ex_t e1 h) (atI_nat (j := 0) rfl))
      have i1 : ∀ H1, Ex H H1 → Ev (tOp (rIxT K) (tVar 1) (tC (.int 1))) (start N_is_tie [.int n, .ref a]) H1 y := fun H1 e1 => ev_op (ev_var rfl) ev_c (rv_ixT (K := K) (ex_t e1 h) (atI_nat (j := 1) rfl))
      refine s_ret (ev_is (ev_andV (a := isPl n x) (ev_call (ea_cons (ev_var rfl) (ea_cons (i0 H1 e1) ea_nil)) (spv_place (s1.go e1))) (fun p1 => ev_andV (b := ltV x y) (ev_call (ea_cons (ev_var rfl) (ea_cons (i1 H1 e1) ea_nil)) (spv_place (s2.go e1))) (fun p2 => ?_))) (by rw [Bool.and_assoc])) fun H2 e2 => q H2 (e1.trans e2)
      unfold isPl at p1 p2
      split at p1
      · split at p2
        · exact ev_op (i0 H1 e1) (i1 H1 e1) rv_I0
        · cases p2
      · cases p1
theorem spv_tie {H : Hp} {n : Int} {v : V} {b : Bool} (r : IsTie K H n v b) : SpV (sp_is_tie K) [.int n, v] H (.bl b) := spv_pure fun H1 e => ⟨n, v, b, rfl, r.go e, rfl⟩
/-! Net.__init__ -/
def sp_Net_init (K : PySem.W.Frag) (C E1 : Addr) : Sp := fun vs H Q E => ∃ (p dx : Addr) (v u : V), vs = [.ref p, v, u] ∧ H p = some (.ins C dx []) ∧
  ((Sca K H v ∧ (∀ i, v = .int i → ¬ (1 ≤ i ∧ i ≤ 40)) ∧ ∀ H', Ex H H' → E (.ref E1) none H') ∨
  (∃ n : Nat, v = vn n ∧ 1 ≤ n ∧ n ≤ 40 ∧ Kind K H u "list" false ∧ ∀ H', Ex H H' → E (.ref E1) none H') ∨
  (∃ (n : Nat) (l : Addr) (xs : List V) (bs : List Bool), v = vn n ∧ 1 ≤ n ∧ n ≤ 40 ∧ u = .ref l ∧ H l = some (.lst xs) ∧ xs.length ≤ 30000 ∧ bs.length = xs.length ∧ (∀ (i : Nat) (x : V) (b : Bool), xs[i]? = some x → bs[i]? = some b → IsTie K H n x b) ∧ bs.all id = false ∧ ∀ H', Ex H H' → E (.ref E1) none H') ∨
  (∃ (n : Nat) (l : Addr) (ps : List (Nat × Nat)), v = vn n ∧ 1 ≤ n ∧ n ≤ 40 ∧ u = .ref l ∧ Prs H l ps ∧ TiesOk n ps ∧ ps.length < 1000 ∧ (¬ ps.Nodup → ∀ H', Ex H H' → E (.ref E1) none H') ∧
    (ps.Nodup → ∀ H', But [p] H H' → NetNew C H H' p (webOf n ps) → Q .non H')))
/-- what is no size, of what is an int or not -/
def badSize (v : V) : Bool := match v with | .int i => !(decide (1 ≤ i) && decide (i ≤ 40)) | _ => true
theorem kind_lst {H : Hp} {a : Addr} {xs : List V} (h : H a = some (.lst xs)) : Kind K H (.ref a) "list" true := kind_of (.base (.lst h)) (by decide +kernel)
theorem ok_Net_init (T : Txt K mg) : FnOk P w K mg base (L2.CX P w) 4 T.f_Net_init T.fd_Net_init ["self", "size", "ties"] (sp_Net_init K T.C_Net T.C_BadNet) := by
  refine T.F_Net_init.okX sc_Net_init (fun vs H Q E h => ?_) (fun cdv A outer s H vs Q E hr h => ?_)
  · obtain ⟨p, dx, v, u, rfl, _⟩ := h
    rfl
  · obtain ⟨p, dx, v, u, rfl, hp, h⟩ := h
    obtain ⟨tk, gK_MOST_PLACES⟩ := T.g_MOST_PLACES
    refine ⟨_, (pss_cons (ps_if (PW.pt (pw_or (pt_not (pt_val (pe_call (ok_is_whole T) (hr.mono (by decide)) (by rfl) T.g_is_whole T.F_is_whole.kp T.b_is_whole .nil pass0 (pa_cons (pv 1) pa_nil)))) (pw_or1 (pt_not (pt_chain op_le op_le pe_int (pv 1) (pe_glob (v := .int 40) rfl gK_MOST_PLACES ⟨_, rfl⟩)))))) (pss_one (ps_raise rfl (takes_of rfl rfl rfl rfl) (pmk_own PySem.F.excBase_ValueError T.x_BadNet T.g_BadNet T.kp_BadNet (raises_own T.sb_BadNet T.ty_BadNet) (by rfl)))) pss_nil)
  (pss_cons (ps_if (PW.pt (pw_or (pt_not (pt_val (pe_callB (r := rIsi K) call_isi (by rfl) T.n_isinstance (by decide +kernel) (pa_cons (pv 2) (pa_cons (pe_bltn (v := .ty "list") (by rfl) T.n_list (by decide +kernel) rfl) pa_nil))))) (pw_or1 (pt_not (pt_val (pe_callB (r := rAll K) (cr_all rfl) (by rfl) T.n_all (by decide +kernel) (pa_cons (pe_lc (own := [("tie", 7)]) (g := gName 7) (tt := tYes) rfl sc_Net_init.nd (pi_list (pv 2)) (blkOk_by (own := [("tie", 7)]) (N := N_Net_init) (sc := defScope s_Net_init) (by decide +kernel)) (fun _ _ _ _ _ => (pg_name (i := 7) sc_Net_init.nd rfl (Or.inl rfl))) (fun _ _ _ _ _ => pts_nil) (fun _ _ _ _ _ => (pe_call (ok_is_tie T) (hr.mono (by decide)) (by rfl) T.g_is_tie T.F_is_tie.kp T.b_is_tie .nil pass0 (pa_cons (pv 1) (pa_cons (pv 7) pa_nil))))) pa_nil))))))) (pss_one (ps_raise rfl (takes_of rfl rfl rfl rfl) (pmk_own PySem.F.excBase_ValueError T.x_BadNet T.g_BadNet T.kp_BadNet (raises_own T.sb_BadNet T.ty_BadNet) (by rfl)))) pss_nil)
  (pss_cons (ps_if (pt_cmpR op_lt (pe_lenSetT hr rfl (by rfl) T.n_len (by rfl) T.n_set (pv 2)) (pe_callB (r := rLenS K) call_len_seq (by rfl) T.n_len (by decide +kernel) (pa_cons (pv 2) pa_nil)) (nomark _)) (pss_one (ps_raise rfl (takes_of rfl rfl rfl rfl) (pmk_own PySem.F.excBase_ValueError T.x_BadNet T.g_BadNet T.kp_BadNet (raises_own T.sb_BadNet T.ty_BadNet) (by rfl)))) pss_nil)
  (pss_cons (ps_fld (pv 0) (pv 1) rfl)
  (pss_cons (ps_fld (pv 0) (pe_lc (own := [("place", 5)]) (g := gName 5) (tt := tYes) rfl sc_Net_init.nd (pi_range1 (by rfl) T.n_range (pa_cons (pv 1) pa_nil)) (blkOk_by (own := [("place", 5)]) (N := N_Net_init) (sc := defScope s_Net_init) (by decide +kernel)) (fun _ _ _ _ _ => (pg_name (i := 5) sc_Net_init.nd rfl (Or.inl rfl))) (fun _ _ _ _ _ => pts_nil) (fun _ _ _ _ _ => (pe_lst pa_nil))) rfl)
  (pss_cons (ps_for (passes_of rfl) rfl (pi_list (pe_callB (r := rSortedPO K) cr_sortedPO (by rfl) T.n_sorted (by decide +kernel) (pa_cons (pv 2) pa_nil))) (pg_tup rfl (pgs_cons (pg_name (i := 3) sc_Net_init.nd rfl (Or.inl rfl)) (pgs_cons (pg_name (i := 4) sc_Net_init.nd rfl (Or.inl rfl)) pgs_nil)))
    (pss_cons (ps_expr (pe_bm PySem.F.plainAttrs_list PySem.F.slot_list_append PySem.F.type_list_append mt_append (pe_ix (r := rIxL K) ix_list (pe_fldB (K := K) rfl (pv 0) rfl) (pv 3) (fun _ _ => rfl)) (pa_cons (pv 4) pa_nil)))
  (pss_one (ps_expr (pe_bm PySem.F.plainAttrs_list PySem.F.slot_list_append PySem.F.type_list_append mt_append (pe_ix (r := rIxL K) ix_list (pe_fldB (K := K) rfl (pv 0) rfl) (pv 4) (fun _ _ => rfl)) (pa_cons (pv 3) pa_nil))))))
  (pss_one (ps_fld (pv 0) (pe_lc (own := [("row", 6)]) (g := gName 6) (tt := tYes) rfl sc_Net_init.nd (pi_list (pe_fldB (K := K) rfl (pv 0) rfl)) (blkOk_by (own := [("row", 6)]) (N := N_Net_init) (sc := defScope s_Net_init) (by decide +kernel)) (fun _ _ _ _ _ => (pg_name (i := 6) sc_Net_init.nd rfl (Or.inl rfl))) (fun _ _ _ _ _ => pts_nil) (fun _ _ _ _ _ => (pe_callB (r := rSortedI K) cr_sortedI (by rfl) T.n_sorted (by decide +kernel) (pa_cons (pv 6) pa_nil)))) rfl)))))))), ?_⟩
    have e0 : start N_Net_init [.ref p, v, u] = [some (.ref p), some v, some u, none, none, none, none, none] := rfl
    rw [e0]
    have sc : Sca K H v := by
      rcases h with ⟨sc, _⟩ | ⟨n, rfl, _⟩ | ⟨n, l, xs, bs, rfl, _⟩ | ⟨n, l, ps, rfl, _⟩
      · exact sc
      · exact sca_int _ _
      · exact sca_int _ _
      · exact sca_int _ _
    refine q_when (b := badSize v) ?size ?bad ?good
    case size =>
      rcases sc with ⟨i, rfl⟩ | ⟨ni, hn⟩
      · refine et_is (et_or (a := false) (et_not (et_B (ev_call (ea_cons (ev_var rfl) ea_nil) (spv_whole (.inl ⟨i, rfl, rfl⟩))))) (fun _ => et_not (et_test (ev_chain ev_c (ev_var rfl) rv_I0 (fun _ => ev_c) (fun _ => rv_I0))))) ?_
        rfl
      · refine et_is (et_or (a := true) (b := true) (et_not (et_B (ev_call (ea_cons (ev_var rfl) ea_nil) (spv_whole (.inr ⟨ni, rfl⟩))))) (fun z => nomatch z)) ?_
        unfold badSize
        split
        · exact absurd rfl (hn _)
        · rfl
    case bad =>
      intro hb H1 e1
      have nob : ∀ n : Nat, 1 ≤ n → n ≤ 40 → badSize (vn n) = true → False := fun n h1 h2 h => by
        simp [badSize] at h
        omega
      rcases h with ⟨_, _, hE⟩ | ⟨n, rfl, n1, n40, _⟩ | ⟨n, l, xs, bs, rfl, n1, n40, _⟩ | ⟨n, l, ps, rfl, n1, n40, _⟩
      · exact hE H1 e1
      · exact (nob n n1 n40 hb).elim
      · exact (nob n n1 n40 hb).elim
      · exact (nob n n1 n40 hb).elim
    intro hgood H1 e1
    rcases h with ⟨sc, no, hE⟩ | ⟨n, rfl, n1, n40, k, hE⟩ | ⟨n, l, xs, bs, rfl, n1, n40, rfl, hl, few, len, ties, bad, hE⟩ | ⟨n, l, ps, rfl, n1, n40, rfl, hl, tok, few, dup, good⟩
    · exfalso
      unfold badSize at hgood
      split at hgood
      · rename_i _ i _
        refine no i rfl ?_
        simp at hgood
        omega
      · cases hgood
    · exact q_when (et_or (a := true) (b := true) (et_not (et_B (ev_cb (ea_cons (ev_var rfl) (ea_cons ev_c ea_nil)) (rc_kind (k.go e1))))) (fun z => nomatch z)) (fun _ H2 e2 => hE H2 (e1.trans e2)) (fun z => nomatch z)
    · have h1 := e1 _ _ hl
      refine q_when (b := true) ?_ (fun _ H2 e2 => hE H2 (e1.trans e2)) (fun z => nomatch z)
      refine et_is (et_or (a := false) (et_not (et_B (ev_cb (ea_cons (ev_var rfl) (ea_cons ev_c ea_nil)) (rc_kind (kind_lst h1))))) (fun _ => et_not (et_B (ev_all (el_map (xs := xs) (ev_var rfl) (sq_of h1) (by omega) (fun _ => rfl) (by rw [List.length_map, len]) (fun i x y H2 e2 hx hy => ?_)))))) (by rw [bad]; rfl)
      obtain ⟨b, hb, rfl⟩ := map_get hy
      exact ev_call (ea_cons (ev_var rfl) (ea_cons (ev_var rfl) ea_nil)) (spv_tie ((ties i x b hx hb).go (e1.trans e2)))
    · have P1 := hl.go e1
      obtain ⟨as, ha, hpr⟩ := P1
      have P1 : Prs H1 l ps := ⟨as, ha, hpr⟩
      refine q_when (b := false) ?_ (fun z => nomatch z) (fun _ H2 e2 => ?_)
      · refine et_is (et_or (a := false) (et_not (et_B (ev_cb (ea_cons (ev_var rfl) (ea_cons ev_c ea_nil)) (rc_kind (kind_lst ha))))) (fun _ => et_not (et_B (ev_all (bs := ps.map fun _ => true) (el_map (xs := as.map V.ref) (ev_var rfl) (sq_of ha) (by rw [List.length_map, paired_len hpr]; omega) (fun _ => rfl) (by rw [List.length_map, List.length_map, List.length_map, paired_len hpr]) (fun i x y H2 e2 hx hy => ?_)))))) ?_
        · obtain ⟨b, hb, rfl⟩ := map_get hx
          obtain ⟨q, hq, rq⟩ := paired_get' hpr hb
          obtain ⟨b1, hb1, rfl⟩ := map_get hy
          obtain ⟨b2, hb2, rfl⟩ := map_get hb1
          have ok := tok q (List.mem_of_getElem? hq)
          have := (isTie_pair (K := K) (n := n) rq).go e2
          rw [decide_eq_true (by omega), decide_eq_true (by omega), decide_eq_true (by omega), decide_eq_true (by omega), decide_eq_true (by omega)] at this
          exact ev_call (ea_cons (ev_var rfl) (ea_cons (ev_var rfl) ea_nil)) (spv_tie this)
        · simp
      have P2 := P1.go e2
      refine q_when (et_dup (ev_var rfl) P2 few (ev_lenP (ev_var rfl) P2)) (fun c H3 e3 => dup (by simpa using c) H3 ((e1.trans e2).trans e3)) (fun c H3 e3 => ?_)
      have nd : ps.Nodup := by simpa using c
      have e03 := (e1.trans e2).trans e3
      have hp3 := e03 _ _ hp
      -- self.size = size
      refine q_fld (ev_var rfl) (ev_var rfl) hp3 T.cl_Net T.na_Net_size (by show 0 < 1000; decide) fun H4 e4 => ?_
      rw [put_size]
      obtain ⟨H5, eH5⟩ : ∃ H5, H5 = upd H4 p (.ins T.C_Net dx [("size", vn n)]) := ⟨_, rfl⟩
      rw [← eH5]
      have hp5 : H5 p = some (.ins T.C_Net dx [("size", vn n)]) := by rw [eH5, upd_same]
      have b5 : But [p] H H5 := by
        rw [eH5]
        exact (But.of (e03.trans e4)).trans (But.set List.mem_cons_self)
      -- self.near = [[] for place in range(size)]
      refine q_fldN (en_blank (n := n) (ea_cons (ev_var rfl) ea_nil) (by omega) (fun _ => rfl)) (ev_var rfl) hp5 T.cl_Net T.na_Net_near (by show 1 < 1000; decide) fun v gs H6 e6 fr r H7 e7 => ?_
      obtain ⟨D, rs, rfl, rfl, ndD, lrs, hD, hrs⟩ := r
      rw [put_near]
      have pD : D ≠ p := fun z => by
        have := fr D List.mem_cons_self
        rw [z, hp5] at this
        cases this
      have prs : ∀ b ∈ rs, b ≠ p := fun b hb z => by
        have := fr b (List.mem_cons_of_mem _ hb)
        rw [z, hp5] at this
        cases this
      obtain ⟨H8, eH8⟩ : ∃ H8, H8 = upd H7 p (.ins T.C_Net dx (netF n D)) := ⟨_, rfl⟩
      rw [← eH8]
      have hp8 : H8 p = some (.ins T.C_Net dx (netF n D)) := by rw [eH8, upd_same]
      have b8 : But [p] H H8 := by
        rw [eH8]
        exact (b5.then (e6.trans e7)).trans (But.set List.mem_cons_self)
      have at8 : ∀ b o, b ≠ p → H6 b = some o → H8 b = some o := fun b o hb hh => by
        rw [eH8, upd_ne hb]
        exact e7 _ _ hh
      have fr0 : ∀ b ∈ D :: rs, H b = none := fun b hb => by
        have hb5 := fr b hb
        cases q : H b with
        | none => rfl
        | some o =>
          have nb : b ∉ [p] := fun z => by
            have := List.mem_singleton.mp z
            rw [this, hp5] at hb5
            cases hb5
          rw [b5 b o nb q] at hb5
          cases hb5
      have tup : ∀ (G : Hp), But [p] H G → ∀ b q, Pr H b q → Pr G b q := fun G hG b q hh => hG b _ (fun z => by
        have := List.mem_singleton.mp z
        have hh' : H b = _ := hh
        rw [this, hp] at hh'
        cases hh') hh
      have lp : l ≠ p := fun z => by
        obtain ⟨as0, h0, _⟩ := hl
        rw [z, hp] at h0
        cases h0
      obtain ⟨as0, hl0, hpr0⟩ := hl
      have P8 : Prs H8 l ps := ⟨as0, b8 l _ (fun z => lp (List.mem_singleton.mp z)) hl0, Paired.mapP hpr0 fun b q hh => tup H8 b8 b q hh⟩
      -- for one, other in sorted(ties)
      refine (en_sortedP (K := K) (ta := tCons (tVar 2) tNil) (σ := [some (.ref p), some (vn n), some (.ref l), none, none, none, none, none]) (ea_cons (ev_var rfl) ea_nil) P8) H8 (Ex.refl H8) _ fun v fs H9 e9 fr9 r9 => ?_
      obtain ⟨sr, bs, rfl, rfl, hsr, hbs⟩ := r9
      have okq : ∀ q ∈ srtP ps, q.1 < q.2 ∧ q.2 < n := fun q hq => tok q ((srtP_perm ps).mem_iff.mp hq)
      have srD : sr ∉ D :: rs := fun z => by
        have h1 := fr9 sr List.mem_cons_self
        rcases List.mem_cons.mp z with z | z
        · rw [z, at8 D _ pD hD] at h1; cases h1
        · rw [at8 sr _ (prs sr z) (hrs sr z)] at h1; cases h1
      have srp : sr ≠ p := fun z => by
        have h1 := fr9 sr List.mem_cons_self
        rw [z, hp8] at h1
        cases h1
      have hlen : (bs.map V.ref).length = ps.length := by rw [List.length_map, paired_len hbs, (srtP_perm ps).length_eq]
      refine ⟨sr, rfl, ⟨_, sq_of hsr⟩, for_list (K := K) (a := sr) (xs := bs.map V.ref) (fun i σ' H' => ∃ x3 x4, σ' = [some (.ref p), some (vn n), some (.ref l), x3, x4, none, none, none] ∧ But [p] H H' ∧ H' p = some (.ins T.C_Net dx (netF n D)) ∧ H' D = some (.lst (rs.map V.ref)) ∧
          H' sr = some (.lst (bs.map V.ref)) ∧ Paired (Pr H') bs (srtP ps) ∧ ∀ j b, rs[j]? = some b → Ints H' b (rowBy j ((srtP ps).take i)))
          ⟨none, none, rfl, b8.then e9, e9 _ _ hp8, e9 _ _ (at8 D _ pD hD), hsr, Paired.mapP hbs fun b q hh => e9 _ _ hh, fun j b hb => e9 _ _ (at8 b _ (prs b (List.mem_of_getElem? hb)) (hrs b (List.mem_of_getElem? hb)))⟩
        (fun i σ' H' _ ⟨_, _, _, _, _, _, h, _⟩ => sq_of h) ?_ ?_⟩
      · rintro i y σ' G hy ⟨x3, x4, rfl, bG, gp, gD, gs, gt, grows⟩
        obtain ⟨b, hb, rfl⟩ := map_get hy
        obtain ⟨q, hq, rq⟩ := paired_get' gt hb
        obtain ⟨q1, q2⟩ := okq q (List.mem_of_getElem? hq)
        have hi : i < ps.length := by
          have := (List.getElem?_eq_some_iff.mp hb).1
          rw [← List.length_map (f := V.ref), hlen] at this
          exact this
        obtain ⟨r1, hr1⟩ : ∃ r, rs[q.1]? = some r := ⟨_, List.getElem?_eq_getElem (by omega)⟩
        obtain ⟨r2, hr2⟩ : ∃ r, rs[q.2]? = some r := ⟨_, List.getElem?_eq_getElem (by omega)⟩
        have ndr := (List.nodup_cons.mp ndD).2
        have r12 : r1 ≠ r2 := fun z => by
          rw [z] at hr1
          have := nd_ix ndr hr1 hr2
          omega
        have Drs := (List.nodup_cons.mp ndD).1
        have rD : ∀ {j : Nat} {r : Addr}, rs[j]? = some r → r ≠ D := fun h z => Drs (by rw [← z]; exact List.mem_of_getElem? h)
        have rp : ∀ {j : Nat} {r : Addr}, rs[j]? = some r → r ≠ p := fun h => prs _ (List.mem_of_getElem? h)
        have rsr : ∀ {j : Nat} {r : Addr}, rs[j]? = some r → r ≠ sr := fun h z => srD (by rw [← z]; exact List.mem_cons_of_mem _ (List.mem_of_getElem? h))
        have g1 := grows _ _ hr1
        have g2 := grows _ _ hr2
        have l1 := rowBy_len q.1 ((srtP ps).take i)
        have l2 := rowBy_len q.2 ((srtP ps).take i)
        have lt : ((srtP ps).take i).length ≤ i := by rw [List.length_take]; omega
        -- one, other = the pair
        refine ⟨b, [vn q.1, vn q.2], rfl, st_of rq, rfl, _, _, rfl, _, _, rfl, rfl, ?_⟩
        show tSeq _ _ _ [some (.ref p), some (vn n), some (.ref l), some (vn q.1), some (vn q.2), none, none, none] G
        -- self.near[one].append(other)
        refine q_app (l := r1) g1 (ev_op (ev_fld (ev_var rfl) gp T.cl_Net T.na_Net_near (netF_near n D)) (ev_var rfl) (rv_ixL (sq_of gD) (atI_nat (map_get' hr1)))) (ev_var rfl) (by rw [List.length_map]; omega) fun G1 e10 => ?_
        obtain ⟨G2, eG2⟩ : ∃ G2, G2 = upd G1 r1 (.lst ((rowBy q.1 ((srtP ps).take i)).map vn ++ [vn q.2])) := ⟨_, rfl⟩
        rw [← eG2]
        have k2 : ∀ c o, c ≠ r1 → G c = some o → G2 c = some o := fun c o hc ho => by rw [eG2, upd_ne hc]; exact e10 _ _ ho
        have gp2 := k2 p _ (rp hr1).symm gp
        have gD2 := k2 D _ (rD hr1).symm gD
        -- self.near[other].append(one)
        refine s_app (l := r2) (k2 r2 _ r12.symm g2) (ev_op (ev_fld (ev_var rfl) gp2 T.cl_Net T.na_Net_near (netF_near n D)) (ev_var rfl) (rv_ixL (sq_of gD2) (atI_nat (map_get' hr2)))) (ev_var rfl) (by rw [List.length_map]; omega) fun G3 e11 => ?_
        obtain ⟨G4, eG4⟩ : ∃ G4, G4 = upd G3 r2 (.lst ((rowBy q.2 ((srtP ps).take i)).map vn ++ [vn q.1])) := ⟨_, rfl⟩
        rw [← eG4]
        have k4 : ∀ c o, c ≠ r2 → G2 c = some o → G4 c = some o := fun c o hc ho => by rw [eG4, upd_ne hc]; exact e11 _ _ ho
        have kt : ∀ c o, c ≠ r1 → c ≠ r2 → G c = some o → G4 c = some o := fun c o h1 h2 ho => k4 c o h2 (k2 c o h1 ho)
        have f1 : H r1 = none := fr0 r1 (List.mem_cons_of_mem _ (List.mem_of_getElem? hr1))
        have f2 : H r2 = none := fr0 r2 (List.mem_cons_of_mem _ (List.mem_of_getElem? hr2))
        refine ⟨_, _, rfl, fun c o hc ho => kt c o (ne_of_none ho f1) (ne_of_none ho f2) (bG c o hc ho), kt _ _ (rp hr1).symm (rp hr2).symm gp, kt _ _ (rD hr1).symm (rD hr2).symm gD, kt _ _ (rsr hr1).symm (rsr hr2).symm gs,
          Paired.mapP gt fun c z hc => kt _ _ (ne_of hc g1 (by intro w; cases w)) (ne_of hc g2 (by intro w; cases w)) hc, fun j c hc => ?_⟩
        rw [take_snoc hq, rowBy_snoc]
        by_cases j1 : q.1 = j
        · rw [if_pos j1]
          subst j1
          have : c = r1 := Option.some.inj (hc.symm.trans hr1)
          subst this
          refine k4 _ _ r12 ?_
          rw [eG2, upd_same, List.map_append]
          rfl
        · rw [if_neg j1]
          by_cases j2 : q.2 = j
          · rw [if_pos j2]
            subst j2
            have : c = r2 := Option.some.inj (hc.symm.trans hr2)
            subst this
            show G4 c = _
            rw [eG4, upd_same, List.map_append]
            rfl
          · rw [if_neg j2, List.append_nil]
            refine kt _ _ (fun w => j1 ?_) (fun w => j2 ?_) (grows j c hc)
            · rw [w] at hc; exact nd_ix ndr hr1 hc
            · rw [w] at hc; exact nd_ix ndr hr2 hc
      · rintro σ' G ⟨x3, x4, rfl, bG, gp, gD, gs, gt, grows⟩
        have full : (srtP ps).take (bs.map V.ref).length = srtP ps := by rw [hlen, ← (srtP_perm ps).length_eq]; exact List.take_length
        rw [full] at grows
        -- self.near = [sorted(row) for row in self.near]
        refine s_fldN (en_map (F := fun k v fs G => ∃ b, v = .ref b ∧ fs = [b] ∧ Ints G b (srt (rowBy k (srtP ps)))) (fun k v fs G G' hk ⟨b, e1, e2, e3⟩ => ⟨b, e1, e2, hk b (by rw [e2]; exact List.mem_cons_self) _ e3⟩) (xs := rs.map V.ref) (ev_fld (ev_var rfl) gp T.cl_Net T.na_Net_near (netF_near n D)) (sq_of gD) (by rw [List.length_map]; omega) (fun _ => rfl) (fun k x H1 e1 hx => ?_))
          (ev_var rfl) gp T.cl_Net T.na_Net_near (by show 2 < 1000; decide) fun v gs' G1 e10 fr1 r G2 e11 => ?_
        · obtain ⟨b, hb, rfl⟩ := map_get hx
          exact (en_of_el (el_sorted (K := K) (a := b) (l := rowBy k (srtP ps)) (ea_cons (ev_var rfl) ea_nil) (sq_of (e1 _ _ (grows k b hb))))).imp fun v fs H2 _ ⟨c, h1, h2, h3⟩ => ⟨c, h1, h2, h3⟩
        · obtain ⟨D2, ys, fss, rfl, rfl, hD2, ly, lf, hF⟩ := r
          rw [put_near2]
          have fr0 : ∀ b, G b = none → H b = none := fun b hb => by
            cases hh : H b with
            | none => rfl
            | some o =>
              have nb : b ∉ [p] := fun z => by
                have := List.mem_singleton.mp z
                rw [this, gp] at hb
                cases hb
              rw [bG b o nb hh] at hb
              cases hb
          have D2p : D2 ≠ p := fun z => by
            have := fr1 D2 List.mem_cons_self
            rw [z, gp] at this
            cases this
          have each : ∀ (k : Nat) (y : V), ys[k]? = some y → ∃ b, y = .ref b ∧ Ints G1 b (srt (rowBy k (srtP ps))) ∧ b ≠ p ∧ H b = none := fun k y hy => by
            obtain ⟨fs, hfs⟩ : ∃ fs, fss[k]? = some fs := ⟨_, List.getElem?_eq_getElem (by have := (List.getElem?_eq_some_iff.mp hy).1; omega)⟩
            obtain ⟨b, h1, h2, h3⟩ := hF k y fs hy hfs
            have hb := fr1 b (List.mem_cons_of_mem _ (List.mem_flatten.mpr ⟨fs, List.mem_of_getElem? hfs, by rw [h2]; exact List.mem_cons_self⟩))
            refine ⟨b, h1, h3, fun z => ?_, fr0 b hb⟩
            rw [z, gp] at hb
            cases hb
          obtain ⟨as, ey, hp2⟩ := rows_of (f := nearOf n ps) (ys := ys) (G := upd G2 p (.ins T.C_Net dx (netF n D2))) fun k y hy => by
            obtain ⟨b, h1, h2, h3, _⟩ := each k y hy
            refine ⟨b, h1, ?_⟩
            rw [row_is tok nd (srtP_perm ps)] at h2
            show upd _ _ _ b = _
            rw [upd_ne h3]
            exact e11 _ _ h2
          refine good nd _ (fun c o hc ho => ?_) ⟨dx, D2, as, upd_same, fr0 D2 (fr1 D2 List.mem_cons_self), ?_, ?_, fun b hb => ?_⟩
          · rw [upd_ne (fun z => hc (by rw [z]; exact List.mem_cons_self))]
            exact e11 _ _ (e10 _ _ (bG c o hc ho))
          · rw [upd_ne D2p, ← ey]
            exact e11 _ _ hD2
          · rw [ly, List.length_map, lrs] at hp2
            exact hp2
          · obtain ⟨k, hk⟩ := List.getElem?_of_mem hb
            obtain ⟨b', h1, _, _, h4⟩ := each k (.ref b) (by rw [ey]; exact map_get' hk)
            cases h1
            exact h4
theorem en_net {σ : L2.St} {H : Hp} {ta tb : TE} {C E1 : Addr} {n : Nat} {ps : List (Nat × Nat)} {as : List Addr} (n1 : 1 ≤ n) (n40 : n ≤ 40) (tok : TiesOk n ps) (nd : ps.Nodup) (few : ps.length < 1000) (hp : Paired (Pr H) as ps) (h1 : Ev ta σ H (vn n)) (h2 : EvL tb σ H (as.map V.ref)) :
    EvN (tMake C (sp_Net_init K C E1) [] E0 (tCons ta (tCons tb tNil))) σ H (fun v fs G => ∃ x, v = .ref x ∧ NetNew C H G x (webOf n ps)) := fun H1 e Q q =>
  h1 H1 e _ fun H2 e2 => h2 H2 (e.trans e2) _ fun p H3 hp3 e3 h3 x dx hx hdx hne => by
    have e4 := own_ins (C := C) hx hdx hne
    have e04 := ((e.trans e2).trans e3).trans e4
    refine ⟨x, dx, vn n, .ref p, rfl, upd_same, .inr (.inr (.inr ⟨n, p, ps, rfl, n1, n40, rfl, ⟨as, e4 _ _ h3, Paired.mapP hp fun _ _ z => e04 _ _ z⟩, tok, few, fun z => absurd nd z, fun _ H5 b5 net => ⟨rfl, q (.ref x) [] H5 (fun b o hb => ?_) (fun r hr => nomatch hr) ⟨x, rfl, net.back e04⟩⟩⟩))⟩
    have hb3 := e3 _ _ (e2 _ _ hb)
    exact b5 b o (fun z => by
      have := List.mem_singleton.mp z
      rw [this, hx] at hb3
      cases hb3) (e4 _ _ hb3)
/-! Net.ties -/
def sp_Net_ties (C : Addr) : Sp := newSp fun H vs S => ∃ a W, vs = [.ref a] ∧ NetAt C H a W ∧ WebOk W ∧ S = fun v fs G => ∃ p, v = .ref p ∧ fs = [p] ∧ Prs G p (tiesOf W)
theorem ok_Net_ties (T : Txt K mg) : FnOk P w K mg base CX0 1 T.f_Net_ties T.fd_Net_ties ["self"] (sp_Net_ties T.C_Net) := by
  refine T.F_Net_ties.ok sc_Net_ties (fun vs H Q E h => ?_) (fun cdv A outer s H vs Q E hr h => ?_)
  · obtain ⟨S, ⟨a, W, rfl, _⟩, _⟩ := h
    rfl
  · obtain ⟨S, ⟨a, W, rfl, hn, ok, rfl⟩, q⟩ := h
    refine ⟨_, (pss_cons (ps_set (i := 1) sc_Net_ties.nd rfl (Or.inl rfl) (pe_lst pa_nil))
  (pss_cons (ps_for PassesOwn.never rfl (pi_range1 (by rfl) T.n_range (pa_cons (pe_fldB (K := K) rfl (pv 0) rfl) pa_nil)) (pg_name (i := 2) sc_Net_ties.nd rfl (Or.inl rfl))
    (pss_one (ps_for PassesOwn.never rfl (pi_list (pe_ix (r := rIxL K) ix_list (pe_fldB (K := K) rfl (pv 0) rfl) (pv 2) (fun _ _ => rfl))) (pg_name (i := 3) sc_Net_ties.nd rfl (Or.inl rfl))
    (pss_one (ps_if (pt_cmpR op_lt (pv 2) (pv 3) (nomark _)) (pss_one (ps_expr (pe_bm PySem.F.plainAttrs_list PySem.F.slot_list_append PySem.F.type_list_append mt_append (pv 1) (pa_cons (pe_tup (pa_cons (pv 2) (pa_cons (pv 3) pa_nil))) pa_nil)))) pss_nil)))))
  (pss_one (ps_ret (pv 1))))), ?_⟩
    have e0 : start N_Net_ties [.ref a] = [some (.ref a), none, none, none] := rfl
    rw [e0]
    refine q_asgL (el_lst ea_nil (by decide)) fun l H1 hl e1 hl1 => ?_
    have n1 := hn.go e1
    refine q_forR1 (n := (W.size : Nat)) (ea_cons (ev_size n1 T.cl_Net T.na_Net_size (ev_var rfl)) ea_nil) (by have := ok.small; omega)
      (fun i σ' H' => ∃ x2 x3 as, σ' = [some (.ref a), some (.ref l), x2, x3] ∧ Ex H H' ∧ H' l = some (.lst (as.map V.ref)) ∧ Paired (Pr H') as ((List.range i).flatMap (upOf W)))
      (fun H2 e2 => ⟨none, none, [], rfl, e1.trans e2, e2 _ _ hl1, .nil⟩) ?_ ?_
    · rintro i σ' G hi ⟨x2, x3, as, rfl, eG, gl, gp⟩
      obtain ⟨r, hr⟩ : ∃ r, W.near[i]? = some r := ⟨_, List.getElem?_eq_getElem (by have := ok.len; omega)⟩
      have upi : upOf W i = (r.filter fun j => decide (i < j)).map fun j => (i, j) := by
        unfold upOf
        rw [List.getD_eq_getElem?_getD, hr]
        rfl
      obtain ⟨b, hb, eb⟩ := ev_near (ta := tVar 0) (tb := tVar 2) (σ := [some (.ref a), some (.ref l), some (vn i), x3]) (hn.go eG) T.cl_Net T.na_Net_near (ev_var rfl) (ev_var rfl) hr
      have flat := flat_len (upOf_len ok) i
      have rl := (ok.row r (List.mem_of_getElem? hr)).1
      have sm := ok.small
      refine s_forLn (a := b) (xs := r.map vn) eb (sq_of hb)
        (fun k σ' H' => ∃ x3 bs, σ' = [some (.ref a), some (.ref l), some (vn i), x3] ∧ Ex H H' ∧ H' l = some (.lst (bs.map V.ref)) ∧ Ints H' b r ∧ Paired (Pr H') bs ((List.range i).flatMap (upOf W) ++ ((r.take k).filter fun j => decide (i < j)).map fun j => (i, j)))
        (fun H2 e2 => ⟨x3, as, rfl, eG.trans e2, e2 _ _ gl, hb.go e2, by simpa using Paired.mapP gp fun c z hc => e2 _ _ hc⟩) (fun k σ' H' _ ⟨_, _, _, _, _, h, _⟩ => sq_of h) ?_ ?_
      · rintro k y σ' G' hy ⟨x3, bs, rfl, eG', gl', hb', gp'⟩
        obtain ⟨j, hj, rfl⟩ := map_get hy
        have bl := paired_len gp'
        have fl : (((r.take k).filter fun j => decide (i < j)).map fun j => (i, j)).length ≤ 40 := by
          rw [List.length_map]
          refine Nat.le_trans (List.length_filter_le _ _) ?_
          rw [List.length_take]
          omega
        rw [List.length_append] at bl
        refine s_when (et_test (ev_op (ev_var rfl) (ev_var rfl) rv_I0)) (fun c G1 e3 => ?_) (fun c G1 e3 => ?_)
        · have c : i < j := by simpa using c
          refine s_appU (l := l) (e3 _ _ gl') (ev_var rfl) (eu_tup (ea_cons (ev_var rfl) (ea_cons (ev_var rfl) ea_nil)) (by show 2 ≤ 100000; decide)) (by rw [List.length_map]; omega) fun t G2 ht e4 ht2 => ?_
          have tl : t ≠ l := fun z => by rw [z, e3 _ _ gl'] at ht; cases ht
          refine ⟨_, bs ++ [t], rfl, ((eG'.trans e3).trans e4).mut hl, by rw [upd_same, List.map_append]; rfl, ?_, ?_⟩
          · show upd _ _ _ b = _
            rw [upd_ne (fun z => by rw [z] at hb'; have := hb'.symm.trans gl'; injection this with this; injection this with this; cases r <;> cases bs <;> simp at this hj)]
            exact e4 _ _ (e3 _ _ hb')
          · rw [take_snoc hj, List.filter_append, List.map_append, ← List.append_assoc]
            refine paired_app (Paired.mapP gp' fun c' z hc => ?_) ?_
            · show upd _ _ _ c' = _
              rw [upd_ne (ne_of hc gl' (by intro z; cases z))]
              exact e4 _ _ (e3 _ _ hc)
            · simp only [List.filter_cons, List.filter_nil, c, decide_true, if_true, List.map_cons, List.map_nil]
              refine .cons ?_ .nil
              show upd _ _ _ t = _
              rw [upd_ne tl]
              exact ht2
        · have c : ¬ i < j := by simpa using c
          refine ⟨_, bs, rfl, eG'.trans e3, e3 _ _ gl', hb'.go e3, ?_⟩
          rw [take_snoc hj, List.filter_append]
          simp only [List.filter_cons, List.filter_nil, c, decide_false, Bool.false_eq_true, if_false, List.append_nil]
          exact Paired.mapP gp' fun c' z hc => e3 _ _ hc
      · rintro σ' G' ⟨x3, bs, rfl, eG', gl', hb', gp'⟩
        refine ⟨_, x3, bs, rfl, eG', gl', ?_⟩
        rw [List.length_map, List.take_length] at gp'
        rw [List.range_succ, List.flatMap_append]
        simp only [List.flatMap_cons, List.flatMap_nil, List.append_nil]
        rw [upi]
        exact gp'
    · rintro σ' G ⟨x2, x3, as, rfl, eG, gl, gp⟩
      refine s_ret (ev_var rfl) fun H2 e2 => q _ [l] H2 (eG.trans e2) (fun r hr => by rw [List.mem_singleton.mp hr]; exact hl) ⟨l, rfl, rfl, as, e2 _ _ gl, Paired.mapP gp fun c z hc => e2 _ _ hc⟩
theorem en_ties {σ : L2.St} {G : Hp} {te : TE} {C x : Addr} {n : Nat} {ps : List (Nat × Nat)} {E : XK} (n40 : n ≤ 40) (tok : TiesOk n ps) (nd : ps.Nodup) (self : srtP ps = ps) (hev : Ev te σ G (.ref x)) (hna : NetAt C G x (webOf n ps)) : EvN (tMeth C "ties" (sp_Net_ties C) [] E te tNil) σ G (fun v fs G' => ∃ p, v = .ref p ∧ fs = [p] ∧ Prs G' p ps) := fun G1 e Q q => hev G1 e _ fun G2 e2 => by
  obtain ⟨dx', l', h1, h2⟩ := id hna
  refine ⟨x, dx', _, rfl, e2 _ _ (e _ _ h1), netF_no _ _ (by decide +kernel) (by decide +kernel), _, ⟨x, webOf n ps, rfl, (hna.go e).go e2, webOk_of ps n40, rfl⟩, fun v fs G3 e3 fr r => ?_⟩
  obtain ⟨p, rfl, rfl, hp⟩ := r
  rw [tiesOf_web tok nd, self] at hp
  exact q _ [p] G3 (e2.trans e3) (fun r hr => fresh_back e2 (fr r hr)) ⟨p, rfl, rfl, hp⟩
/-! need_place -/
def sp_need_place (K : PySem.W.Frag) (C E1 : Addr) : Sp := fun vs H Q E => ∃ a W v, vs = [.ref a, v] ∧ NetAt C H a W ∧ Sca K H v ∧ (isPl W.size v = false → ∀ H', Ex H H' → E (.ref E1) none H') ∧ (isPl W.size v = true → ∀ H', Ex H H' → Q v H')
theorem ok_need_place (T : Txt K mg) : FnOk P w K mg base (L2.CX P w) 3 T.f_need_place T.fd_need_place ["net", "place"] (sp_need_place K T.C_Net T.C_NoPlace) := by
  refine T.F_need_place.okX sc_need_place (fun vs H Q E h => ?_) (fun cdv A outer s H vs Q E hr h => ?_)
  · obtain ⟨a, W, v, rfl, _⟩ := h
    rfl
  · obtain ⟨a, W, v, rfl, hn, sc, no, yes⟩ := h
    refine ⟨_, (pss_cons (ps_if (pt_not (pt_val (pe_call (ok_is_place T) (hr.mono (by decide)) (by rfl) T.g_is_place T.F_is_place.kp T.b_is_place .nil pass0 (pa_cons (pe_fldB (K := K) rfl (pv 0) rfl) (pa_cons (pv 1) pa_nil))))) (pss_one (ps_raise rfl (takes_of rfl rfl rfl rfl) (pmk_own PySem.F.excBase_ValueError T.x_NoPlace T.g_NoPlace T.kp_NoPlace (raises_own T.sb_NoPlace T.ty_NoPlace) (by rfl)))) pss_nil)
  (pss_one (ps_ret (pv 1)))), ?_⟩
    refine q_when (et_not (et_B (ev_call (ea_cons (ev_size hn T.cl_Net T.na_Net_size (ev_var rfl)) (ea_cons (ev_var rfl) ea_nil)) (spv_place sc)))) (fun c H1 e1 => no (by simpa using c) H1 e1) (fun c H1 e1 => ?_)
    exact s_ret (ev_var rfl) fun H2 e2 => yes (by simpa using c) H2 (e1.trans e2)
/-! Net.beside -/
def sp_Net_beside (K : PySem.W.Frag) (C E1 : Addr) : Sp := fun vs H Q E => ∃ a W v, vs = [.ref a, v] ∧ NetAt C H a W ∧ WebOk W ∧ Sca K H v ∧ (isPl W.size v = false → ∀ H', Ex H H' → E (.ref E1) none H') ∧
  (isPl W.size v = true → ∀ p H', Ex H H' → H p = none → Ints H' p (W.near.getD (placeOf v) []) → Q (.ref p) H')
theorem ok_Net_beside (T : Txt K mg) : FnOk P w K mg base (L2.CX P w) 4 T.f_Net_beside T.fd_Net_beside ["self", "place"] (sp_Net_beside K T.C_Net T.C_NoPlace) := by
  refine T.F_Net_beside.okX sc_Net_beside (fun vs H Q E h => ?_) (fun cdv A outer s H vs Q E hr h => ?_)
  · obtain ⟨a, W, v, rfl, _⟩ := h
    rfl
  · obtain ⟨a, W, v, rfl, hn, ok, sc, no, yes⟩ := h
    refine ⟨_, (pss_one (ps_ret (pe_callTy (r := rListS K) call_list_of (by rfl) T.n_list (by decide +kernel) (pa_cons (pe_ix (r := rIxL K) ix_list (pe_fldB (K := K) rfl (pv 0) rfl) (pe_call (ok_need_place T) (hr.mono (by decide)) (by rfl) T.g_need_place T.F_need_place.kp T.b_need_place .nil (passes_call (takes_of rfl rfl rfl rfl) (fun _ _ _ _ h => h)) (pa_cons (pv 0) (pa_cons (pv 1) pa_nil))) (fun _ _ => rfl)) pa_nil)))), ?_⟩
    obtain ⟨dx, l, h1, as, h2, h3⟩ := id hn
    refine ⟨_, rfl, a, _, dx, _, _, rfl, h1, T.cl_Net, T.na_Net_near, netF_near _ _, _, rfl, _, rfl, a, W, v, rfl, hn, sc, no, fun c H1 e1 => ?_⟩
    obtain ⟨ev, hlt⟩ := isPl_of c
    obtain ⟨r, hr⟩ : ∃ r, W.near[placeOf v]? = some r := ⟨_, List.getElem?_eq_getElem (by rw [ok.len]; exact hlt)⟩
    obtain ⟨b, hb, hi⟩ := paired_get h3 hr
    refine ⟨l, as.map V.ref, _, .ref b, rfl, ev, sq_of (e1 _ _ h2), atI_nat (map_get' hb), b, _, rfl, .inl (sq_of (e1 _ _ hi)), fun p hp => ?_⟩
    refine yes c p _ (e1.trans (Ex.new hp)) (fresh_back e1 hp) ?_
    show upd _ _ _ p = _
    rw [upd_same, List.getD_eq_getElem?_getD, hr]
    rfl
theorem el_beside {σ : L2.St} {H : Hp} {ta tb : TE} {C E1 a : Addr} {W : Web} {i : Nat} {E : XK} (hn : NetAt C H a W) (ok : WebOk W) (h1 : Ev ta σ H (.ref a)) (h2 : Ev tb σ H (vn i)) (hi : i < W.size) : EvL (tMeth C "beside" (sp_Net_beside K C E1) [] E ta (tCons tb tNil)) σ H ((W.near.getD i []).map vn) := fun H1 e Q q =>
  h1 H1 e _ fun H2 e2 => by
    obtain ⟨dx, l, h, r⟩ := id hn
    refine ⟨a, dx, _, rfl, e2 _ _ (e _ _ h), netF_no _ _ (by decide +kernel) (by decide +kernel), h2 H2 (e.trans e2) _ fun H3 e3 => ⟨a, W, vn i, rfl, hn.go ((e.trans e2).trans e3), ok, sca_int _ _, fun c => ?_, fun _ p H4 e4 hp hr => ?_⟩⟩
    · simp [isPl] at c
      omega
    · exact q p H4 (fresh_back (e2.trans e3) hp) ((e2.trans e3).trans e4) hr
/-! part_of -/
def sp_part_of (C : Addr) : Sp := newSp fun H vs S => ∃ a W s d ks, vs = [.ref a, vn s, .ref d] ∧ NetAt C H a W ∧ WebOk W ∧ Keys H d ks ∧ s < W.size ∧ S = fun v fs G => ∃ p, v = .ref p ∧ fs = [p] ∧ Ints G p (partL W.size (nbOf W) (inK ks) s)
theorem ok_part_of (T : Txt K mg) : FnOk P w K mg base CX0 1 T.f_part_of T.fd_part_of ["net", "place", "there"] (sp_part_of T.C_Net) := by
  refine T.F_part_of.ok sc_part_of (fun vs H Q E h => ?_) (fun cdv A outer s H vs Q E hr h => ?_)
  · obtain ⟨S, ⟨a, W, s, d, ks, rfl, _⟩, _⟩ := h
    rfl
  · obtain ⟨S, ⟨a, W, s, d, ks, rfl, hn, ok, hd, hs, rfl⟩, q⟩ := h
    refine ⟨_, (pss_cons (ps_set (i := 3) sc_part_of.nd rfl (Or.inl rfl) (pe_disp (pps_cons (pv 1) pe_bl pps_nil) (by rfl) (by rfl) (fun z => by cases z) (by decide)))
  (pss_cons (ps_set (i := 4) sc_part_of.nd rfl (Or.inl rfl) (pe_lst (pa_cons (pv 1) pa_nil)))
  (pss_cons (ps_while PassesOwn.never (pt_cmpR (r := rNeD K) (op_neD hr.units) (pv 4) (pe_lst pa_nil) (nomark _)) (pss_cons (ps_set (i := 5) sc_part_of.nd rfl (Or.inl rfl) (pe_bm0 PySem.F.plainAttrs_list PySem.F.slot_list_pop PySem.F.type_list_pop mt_pop (pv 4)))
  (pss_one (ps_for PassesOwn.never rfl (pi_list (pe_ix (r := rIxL K) ix_list (pe_fldB (K := K) rfl (pv 0) rfl) (pv 5) (fun _ _ => rfl))) (pg_name (i := 6) sc_part_of.nd rfl (Or.inl rfl))
    (pss_one (ps_if (PW.pt (pw_and (pt_cmp (pc_din (hu_of hr) (pv 6) (pv 2))) (pw_and1 (pt_cmp (pc_dnotin (hu_of hr) (pv 6) (pv 3)))))) (pss_cons (ps_dput (hu_of hr) (pv 3) (pv 6) pe_bl rfl)
  (pss_one (ps_expr (pe_bm PySem.F.plainAttrs_list PySem.F.slot_list_append PySem.F.type_list_append mt_append (pv 4) (pa_cons (pv 6) pa_nil))))) pss_nil))))))
  (pss_one (ps_ret (pe_callB (r := rSortedDI K) (call_sortedDI rfl) (by rfl) T.n_sorted (by decide +kernel) (pa_cons (pv 3) pa_nil))))))), ?_⟩
    have e0 : start N_part_of [.ref a, vn s, .ref d] = [some (.ref a), some (vn s), some (.ref d), none, none, none, none] := rfl
    rw [e0]
    refine q_asgN (en_disp1 (ev_var rfl) ev_c) fun v fs H1 e1 fr r => ?_
    obtain ⟨m, rfl, rfl, hm⟩ := r
    have mF := fr m List.mem_cons_self
    refine q_asgL (el_lst (ea_cons (ev_var rfl) ea_nil) (by show 1 ≤ 100000; decide)) fun l H2 hl e2 hl2 => ?_
    have lF : H l = none := fresh_back e1 hl
    have sm := ok.small
    refine q_while (fun μ σ' G => ∃ x5 x6 ms ws, σ' = [some (.ref a), some (vn s), some (.ref d), some (.ref m), some (.ref l), x5, x6] ∧ Ex H G ∧ Keys G m ms ∧ Ints G l ws ∧ Dfs W.size (nbOf W) (inK ks) s ms ws ∧ μ = 2 * (W.size - ms.length) + ws.length ∧ 2 * (W.size - ms.length) + ws.length ≤ 80) (2 * (W.size - 1) + 1)
      ⟨none, none, [s], [s], rfl, e1.trans e2, hm.go e2, hl2, dfs_init hs, rfl, by show 2 * (W.size - 1) + 1 ≤ 80; omega⟩ ?_
    rintro μ σ' G ⟨x5, x6, ms, ws, rfl, eG, hm', hl', dfs, rfl, top⟩
    obtain ⟨ms0, hms0⟩ : ∃ ms0, ms0 = ms := ⟨_, rfl⟩
    subst hms0
    have few := few_of dfs.nd dfs.lt
    refine ⟨!decide (ws = []), et_test (ev_opL (xs := []) (ev_var rfl) (el_lst ea_nil (by decide)) fun p G' hp eG' => rv_neI (y := []) (hl'.go eG') hp), fun c G1 e3 => ?_, fun c G1 e3 => ?_⟩
    · have ne : ws ≠ [] := by simpa using c
      obtain ⟨ws0, h, rfl⟩ : ∃ ws' h, ws = ws' ++ [h] := ⟨ws.dropLast, ws.getLast ne, (List.dropLast_concat_getLast ne).symm⟩
      have dm := dfs_pop dfs
      have hh : h < W.size := dfs.lt h dm.here
      obtain ⟨r, hr, er, rl, rlt⟩ := ok.nb hh
      refine ⟨_, fun σ2 G2 hN => hN, ?_⟩
      refine q_popAsg (ev_var rfl) (hl'.go e3) fun G2 e4 => ?_
      obtain ⟨G3, hG3⟩ : ∃ G3, G3 = upd G2 l (.lst (ws0.map vn)) := ⟨_, rfl⟩
      rw [← hG3]
      have ml : m ≠ l := fun z => by
        have h1 : G m = _ := hm'
        rw [z, show G l = _ from hl'] at h1
        cases h1
      have eG3 : Ex H G3 := by rw [hG3]; exact ((eG.trans e3).trans e4).mut lF
      have m3 : Keys G3 m ms0 := by show G3 m = _; rw [hG3, upd_ne ml]; exact e4 _ _ (e3 _ _ hm')
      have l3 : Ints G3 l ws0 := by show G3 l = _; rw [hG3, upd_same]
      obtain ⟨b, hb, eb⟩ := ev_near (ta := tVar 0) (tb := tVar 5) (σ := [some (.ref a), some (vn s), some (.ref d), some (.ref m), some (.ref l), some (vn h), x6]) hn T.cl_Net T.na_Net_near (ev_var rfl) (ev_var rfl) hr
      refine s_forLn (a := b) (xs := r.map vn) (eb.mono eG3) (sq_of (eG3 _ _ hb))
        (fun k σ' G => ∃ x6 ms ws, σ' = [some (.ref a), some (vn s), some (.ref d), some (.ref m), some (.ref l), some (vn h), x6] ∧ Ex H G ∧ Keys G m ms ∧ Ints G l ws ∧ DfsM W.size (nbOf W) (inK ks) s ms ws h k ∧ 2 * (W.size - ms.length) + ws.length < 2 * (W.size - ms0.length) + (ws0 ++ [h]).length)
        (fun G4 e5 => ⟨x6, ms0, ws0, rfl, eG3.trans e5, m3.go e5, l3.go e5, dm, by simp⟩) (fun k σ' G _ ⟨_, _, _, _, eh, _⟩ => sq_of (eh _ _ hb)) ?_ ?_
      · rintro k y σ' G4 hy ⟨x6, ms, ws, rfl, eG4, m4, l4, dm, lt⟩
        obtain ⟨o, ho, rfl⟩ := map_get hy
        have ho' : (nbOf W h)[k]? = some o := by rw [er]; exact ho
        have on : o < W.size := rlt o (List.mem_of_getElem? ho)
        have few := few_of dm.nd dm.lt
        refine s_when (et_and (et_B (ev_din (ev_var rfl) (ev_var rfl) (hd.go eG4))) fun _ => et_B (ev_dnotin (ev_var rfl) (ev_var rfl) m4)) (fun c G5 e5 => ?_) (fun c G5 e5 => ?_)
        · have c : o ∈ ks ∧ o ∉ ms := by simpa using c
          have dm' := dfs_yes dm ho' (decide_eq_true c.1) c.2 on
          have few' := few_of dm'.nd dm'.lt
          rw [List.length_append] at few'
          simp only [List.length_singleton] at few'
          refine q_dput (ev_var rfl) (ev_var rfl) ev_c (m4.go e5) (by omega) fun G6 e6 => ?_
          rw [addK, if_neg c.2]
          obtain ⟨G7, hG7⟩ : ∃ G7, G7 = upd G6 m (.dK ((ms ++ [o]).map keyP)) := ⟨_, rfl⟩
          rw [← hG7]
          have l7 : Ints G7 l ws := by show G7 l = _; rw [hG7, upd_ne (fun z => ml z.symm)]; exact e6 _ _ (e5 _ _ l4)
          have eG7 : Ex H G7 := by rw [hG7]; exact ((eG4.trans e5).trans e6).mut mF
          have m7 : Keys G7 m (ms ++ [o]) := by show G7 m = _; rw [hG7, upd_same]
          have wl : ws.length ≤ 100 := by omega
          refine s_app (l := l) l7 (ev_var rfl) (ev_var rfl) (by rw [List.length_map]; omega) fun G8 e8 => ⟨_, ms ++ [o], ws ++ [o], rfl, (eG7.trans e8).mut lF, ?_, ?_, dm', ?_⟩
          · show upd _ _ _ m = _
            rw [upd_ne ml]
            exact e8 _ _ m7
          · show upd _ _ _ l = _
            rw [upd_same, List.map_append]
            rfl
          · simp only [List.length_append, List.length_singleton] at lt ⊢
            omega
        · have c : o ∈ ks → o ∈ ms := by simpa using c
          exact ⟨_, ms, ws, rfl, eG4.trans e5, m4.go e5, l4.go e5, dfs_no dm ho' (fun z => c (of_decide_eq_true z)), lt⟩
      · rintro σ' G4 ⟨x6, ms, ws, rfl, eG4, m4, l4, dm, lt⟩
        rw [List.length_map, ← er] at dm
        exact ⟨_, lt, _, _, ms, ws, rfl, eG4, m4, l4, dfs_done dm, rfl, by omega⟩
    · have : ws = [] := by simpa using c
      subst this
      have end_ := dfs_end dfs
      refine s_retL (el_sortedD (ea_cons (ev_var rfl) ea_nil) (hm'.go e3) (by omega)) fun p G2 hp e4 hp2 => q _ [p] G2 ((eG.trans e3).trans e4) (fun r hr => ?_) ⟨p, rfl, rfl, ?_⟩
      · rw [List.mem_singleton.mp hr]
        exact fresh_back (eG.trans e3) hp
      · show G2 p = _
        rw [hp2, end_]
theorem spn_part_of {H : Hp} {C a d : Addr} {W : Web} {s : Nat} {ks : List Nat} (hn : NetAt C H a W) (ok : WebOk W) (hd : Keys H d ks) (hs : s < W.size) : SpN (sp_part_of C) [.ref a, vn s, .ref d] H (fun v fs G => ∃ p, v = .ref p ∧ fs = [p] ∧ Ints G p (partL W.size (nbOf W) (inK ks) s)) :=
  spn_new fun H1 e => ⟨a, W, s, d, ks, rfl, hn.go e, ok, hd.go e, hs, rfl⟩
/-! parts -/
def sp_parts (K : PySem.W.Frag) (C E1 : Addr) : Sp := fun vs H Q E => ∃ a W l xs, vs = [.ref a, .ref l] ∧ NetAt C H a W ∧ WebOk W ∧ H l = some (.lst xs) ∧ xs.length ≤ 30000 ∧ (∀ x ∈ xs, Sca K H x) ∧
  ((∃ x ∈ xs, isPl W.size x = false) → ∀ H', Ex H H' → E (.ref E1) none H') ∧
  ((∀ x ∈ xs, isPl W.size x = true) → ∀ p as H', Ex H H' → H p = none → as.Nodup → (∀ b ∈ as, H b = none) → H' p = some (.lst (as.map V.ref)) → Paired (fun b r => Ints H' b r) as (partsL W.size (nbOf W) (thOf W.size (xs.map placeOf))) → Q (.ref p) H')
theorem ok_parts (T : Txt K mg) : FnOk P w K mg base (L2.CX P w) 4 T.f_parts T.fd_parts ["net", "taken"] (sp_parts K T.C_Net T.C_NoPlace) := by
  refine T.F_parts.okX sc_parts (fun vs H Q E h => ?_) (fun cdv A outer s H vs Q E hr h => ?_)
  · obtain ⟨a, W, l, xs, rfl, _⟩ := h
    rfl
  · obtain ⟨a, W, l, xs, rfl, hn, ok, hl, hlen, sc, bad, good⟩ := h
    refine ⟨_, (pss_cons (ps_set (i := 2) sc_parts.nd rfl (Or.inl rfl) pe_dnewK)
  (pss_cons (ps_for (passes_of rfl) rfl (pi_range1 (by rfl) T.n_range (pa_cons (pe_fldB (K := K) rfl (pv 0) rfl) pa_nil)) (pg_name (i := 3) sc_parts.nd rfl (Or.inl rfl))
    (pss_one (ps_dput (hu_of hr) (pv 2) (pv 3) pe_bl rfl)))
  (pss_cons (ps_for (passes_of rfl) rfl (pi_list (pv 1)) (pg_name (i := 3) sc_parts.nd rfl (Or.inl rfl))
    (pss_one (ps_expr (pe_dpop2 (pv 2) (pe_call (ok_need_place T) (hr.mono (by decide)) (by rfl) T.g_need_place T.F_need_place.kp T.b_need_place .nil (passes_call (takes_of rfl rfl rfl rfl) (fun _ _ _ _ h => h)) (pa_cons (pv 0) (pa_cons (pv 3) pa_nil))) pe_non ⟨by rfl, by rfl, by rfl, by rfl⟩))))
  (pss_cons (ps_set (i := 4) sc_parts.nd rfl (Or.inl rfl) (pe_lst pa_nil))
  (pss_cons (ps_set (i := 5) sc_parts.nd rfl (Or.inl rfl) pe_dnewK)
  (pss_cons (ps_for (passes_of rfl) rfl (pi_range1 (by rfl) T.n_range (pa_cons (pe_fldB (K := K) rfl (pv 0) rfl) pa_nil)) (pg_name (i := 3) sc_parts.nd rfl (Or.inl rfl))
    (pss_one (ps_if (PW.pt (pw_and (pt_cmp (pc_din (hu_of hr) (pv 3) (pv 2))) (pw_and1 (pt_cmp (pc_dnotin (hu_of hr) (pv 3) (pv 5)))))) (pss_cons (ps_set (i := 6) sc_parts.nd rfl (Or.inl rfl) (pe_call (ok_part_of T) (hr.mono (by decide)) (by rfl) T.g_part_of T.F_part_of.kp T.b_part_of .nil pass0 (pa_cons (pv 0) (pa_cons (pv 3) (pa_cons (pv 2) pa_nil)))))
  (pss_cons (ps_expr (pe_bm PySem.F.plainAttrs_list PySem.F.slot_list_append PySem.F.type_list_append mt_append (pv 4) (pa_cons (pv 6) pa_nil)))
  (pss_one (ps_for (passes_of rfl) rfl (pi_list (pv 6)) (pg_name (i := 7) sc_parts.nd rfl (Or.inl rfl))
    (pss_one (ps_dput (hu_of hr) (pv 5) (pv 7) pe_bl rfl)))))) pss_nil)))
  (pss_one (ps_ret (pv 4))))))))), ?_⟩
    have e0 : start N_parts [.ref a, .ref l] = [some (.ref a), some (.ref l), none, none, none, none, none, none] := rfl
    rw [e0]
    have sm := ok.small
    refine q_asgN en_dnew fun v fs H1 e1 fr r => ?_
    obtain ⟨d, rfl, rfl, hd⟩ := r
    have dF := fr d List.mem_cons_self
    have sz : ∀ {σ : L2.St} {G : Hp} {te : TE}, Ev te σ G (.ref a) → NetAt T.C_Net G a W → Ev (tFld K te "size") σ G (vn W.size) := fun h hna => ev_size hna T.cl_Net T.na_Net_size h
    -- there = all
    refine q_forR1 (n := (W.size : Nat)) (ea_cons (sz (ev_var rfl) (hn.go e1)) ea_nil) (by omega)
      (fun i σ' G => ∃ x3, σ' = [some (.ref a), some (.ref l), some (.ref d), x3, none, none, none, none] ∧ Ex H G ∧ Keys G d (List.range i)) (fun H2 e2 => ⟨none, rfl, e1.trans e2, hd.go e2⟩) ?_ ?_
    · rintro i σ' G hi ⟨x3, rfl, eG, hk⟩
      refine s_dput (ev_var rfl) (ev_var rfl) ev_c hk (by rw [List.length_range]; omega) fun G1 g1 => ⟨_, rfl, (eG.trans g1).mut dF, ?_⟩
      show upd _ _ _ d = _
      rw [upd_same, addK, if_neg (by simp), List.range_succ]
    rintro σ' G ⟨x3, rfl, eG, hk⟩
    -- .. less those taken
    refine q_forLn (a := l) (xs := xs) (ev_var rfl) (sq_of (eG _ _ hl))
      (fun k σ' G => ∃ x3 ks, σ' = [some (.ref a), some (.ref l), some (.ref d), x3, none, none, none, none] ∧ Ex H G ∧ Keys G d ks ∧ (∀ x, x ∈ ks ↔ x < W.size ∧ x ∉ (xs.take k).map placeOf) ∧ ∀ y ∈ xs.take k, isPl W.size y = true)
      (fun G1 g1 => ⟨x3, _, rfl, eG.trans g1, hk.go g1, fun x => by simp, fun y hy => by simp at hy⟩) (fun k σ' G _ ⟨_, _, _, eh, _⟩ => sq_of (eh _ _ hl)) ?_ ?_
    · rintro k y σ' G1 hy ⟨x3, ks, rfl, eG1, hk, mem, pls⟩
      have hm := List.mem_of_getElem? hy
      have ca : ∀ G2, Ex G1 G2 → NetAt T.C_Net G2 a W := fun G2 g => (hn.go eG1).go g
      cases c : isPl W.size y with
      | false =>
        refine s_dpopX (ev_var rfl) hk fun G2 g2 => x_call (vs := [.ref a, y]) (ea_cons (ev_var rfl) (ea_cons (ev_var rfl) ea_nil)) fun G3 g3 Q' => ⟨a, W, y, rfl, (ca G2 g2).go g3, ((sc y hm).go eG1).go (g2.trans g3), fun _ G4 g4 => bad ⟨y, hm, c⟩ G4 (((eG1.trans g2).trans g3).trans g4), fun z => ?_⟩
        rw [c] at z
        cases z
      | true =>
        obtain ⟨ey, ylt⟩ := isPl_of c
        have pls' : ∀ z ∈ xs.take (k + 1), isPl W.size z = true := fun z hz => by
          rw [take_snoc hy] at hz
          rcases List.mem_append.mp hz with q | q
          · exact pls z q
          · rw [List.mem_singleton.mp q]; exact c
        have mem' : ∀ x, x ∈ (ks.filter fun z => decide (z ≠ placeOf y)) ↔ x < W.size ∧ x ∉ (xs.take (k + 1)).map placeOf := fun x => by
          rw [List.mem_filter, mem, take_snoc hy, List.map_append, List.mem_append]
          simp
          constructor
          · rintro ⟨⟨h1, h2⟩, h3⟩
            exact ⟨h1, h2, h3⟩
          · rintro ⟨h1, h2, h3⟩
            exact ⟨⟨h1, h2⟩, h3⟩
        refine s_dpop (k := placeOf y) (ev_var rfl) (ev_call (vs := [.ref a, y]) (ea_cons (ev_var rfl) (ea_cons (ev_var rfl) ea_nil)) fun G2 g2 Q' q' E' => ⟨a, W, y, rfl, ca G2 g2, ((sc y hm).go eG1).go g2, (fun z => by rw [c] at z; cases z), fun _ G3 g3 => by rw [ey]; exact q' G3 g3⟩) hk (fun G2 g2 => ?_) (fun G2 g2 hk2 => ?_)
        · exact ⟨_, _, rfl, (eG1.trans g2).mut dF, upd_same, mem', pls'⟩
        · exact ⟨_, _, rfl, eG1.trans g2, hk2, mem', pls'⟩
    rintro σ' G1 ⟨x3, ks, rfl, eG1, hk, mem, pls⟩
    rw [List.take_length] at mem pls
    have thE := thOf_of mem
    refine q_asgL (el_lst ea_nil (by decide)) fun f G2 hf g2 hf2 => ?_
    refine q_asgN en_dnew fun v fs G3 g3 fr3 r => ?_
    obtain ⟨m, rfl, rfl, hm⟩ := r
    have fF : H f = none := fresh_back eG1 hf
    have mF : H m = none := fresh_back (eG1.trans g2) (fr3 m List.mem_cons_self)
    have e3 := (eG1.trans g2).trans g3
    have fm : f ≠ m := fun z => by
      have h1 := g3 _ _ hf2
      rw [z] at h1
      have h2 := h1.symm.trans hm
      cases h2
    have fd : f ≠ d := fun z => by rw [z] at hf; rw [hk] at hf; cases hf
    have md : m ≠ d := fun z => by
      have := fr3 m List.mem_cons_self
      rw [z, g2 _ _ hk] at this
      cases this
    refine q_forR1 (n := (W.size : Nat)) (ea_cons (sz (ev_var rfl) (hn.go e3)) ea_nil) (by omega)
      (fun i σ' G => ∃ x3 x6 x7 as ms, σ' = [some (.ref a), some (.ref l), some (.ref d), x3, some (.ref f), some (.ref m), x6, x7] ∧ Ex H G ∧ Keys G d ks ∧ G f = some (.lst (as.map V.ref)) ∧ Keys G m ms ∧ as.Nodup ∧ (∀ b ∈ as, H b = none ∧ b ≠ f ∧ b ≠ m) ∧ Paired (fun b r => Ints G b r) as (partsPre W.size (nbOf W) (thOf W.size (xs.map placeOf)) i) ∧
        ms.Nodup ∧ (∀ x ∈ ms, x < W.size) ∧ ∀ x, x ∈ ms ↔ x ∈ (partsPre W.size (nbOf W) (thOf W.size (xs.map placeOf)) i).flatten)
      (fun G4 g4 => ⟨x3, none, none, [], [], rfl, e3.trans g4, ((hk.go g2).go g3).go g4, g4 _ _ (g3 _ _ hf2), hm.go g4, by simp, fun b hb => by simp at hb, .nil, by simp, fun x hx => by simp at hx, fun x => Iff.rfl⟩) ?_ ?_
    · rintro i σ' G hi ⟨x3, x6, x7, as, ms, rfl, eG, hd', hf', hm', nda, asF, pr, ndm, ltm, memm⟩
      have hi : i < W.size := by omega
      have pl := partsPre_len (n := W.size) (nb := nbOf W) (th := thOf W.size (xs.map placeOf)) i
      have al := paired_len pr
      refine s_when (et_and (et_B (ev_din (ev_var rfl) (ev_var rfl) hd')) fun _ => et_B (ev_dnotin (ev_var rfl) (ev_var rfl) hm')) (fun c G4 g4 => ?_) (fun c G4 g4 => ?_)
      · have c : i ∈ ks ∧ i ∉ ms := by simpa using c
        have yes : thOf W.size (xs.map placeOf) i = true ∧ i ∉ (partsPre W.size (nbOf W) (thOf W.size (xs.map placeOf)) i).flatten := ⟨by rw [← thE]; exact decide_eq_true c.1, fun z => c.2 ((memm i).mpr z)⟩
        have eG4 := eG.trans g4
        refine q_asgN (en_call (ea_cons (ev_var rfl) (ea_cons (ev_var rfl) (ea_cons (ev_var rfl) ea_nil))) (spn_part_of (hn.go eG4) ok (hd'.go g4) hi)) fun v fs G5 g5 fr5 r => ?_
        obtain ⟨p, rfl, rfl, hp⟩ := r
        have p4 := fr5 p List.mem_cons_self
        rw [thE] at hp
        have pf : p ≠ f := fun z => by rw [z, g4 _ _ hf'] at p4; cases p4
        have pm : p ≠ m := fun z => by rw [z, g4 _ _ hm'] at p4; cases p4
        have pH : H p = none := fresh_back eG4 p4
        have pas : p ∉ as := fun z => by
          obtain ⟨k, hk'⟩ := List.getElem?_of_mem z
          obtain ⟨r, _, hr⟩ := paired_get' pr hk'
          rw [g4 _ _ hr] at p4
          cases p4
        refine q_app (l := f) (g5 _ _ (g4 _ _ hf')) (ev_var rfl) (ev_var rfl) (by rw [List.length_map]; omega) fun G6 g6 => ?_
        obtain ⟨G7, hG7⟩ : ∃ G7, G7 = upd G6 f (.lst (as.map V.ref ++ [.ref p])) := ⟨_, rfl⟩
        rw [← hG7]
        have g46 := (g4.trans g5).trans g6
        have k7 : ∀ b o, b ≠ f → G6 b = some o → G7 b = some o := fun b o hb ho => by rw [hG7, upd_ne hb]; exact ho
        have eG7 : Ex H G7 := by rw [hG7]; exact ((eG4.trans g5).trans g6).mut fF
        have pl' := partL_few (n := W.size) (nb := nbOf W) (th := thOf W.size (xs.map placeOf)) (s := i)
        have hp7 : Ints G7 p (partL W.size (nbOf W) (thOf W.size (xs.map placeOf)) i) := k7 p _ pf (g6 _ _ hp)
        refine s_forLn (a := p) (xs := (partL W.size (nbOf W) (thOf W.size (xs.map placeOf)) i).map vn) (ev_var rfl) (sq_of hp7)
          (fun k σ' G => ∃ x7 ms', σ' = [some (.ref a), some (.ref l), some (.ref d), some (vn i), some (.ref f), some (.ref m), some (.ref p), x7] ∧ Ex H G ∧ Keys G m ms' ∧ (∀ b o, b ≠ m → G7 b = some o → G b = some o) ∧ ms'.Nodup ∧ (∀ x ∈ ms', x < W.size) ∧ ∀ x, x ∈ ms' ↔ x ∈ ms ∨ x ∈ (partL W.size (nbOf W) (thOf W.size (xs.map placeOf)) i).take k)
          (fun G8 g8 => ⟨x7, ms, rfl, eG7.trans g8, g8 _ _ (k7 m _ fm.symm (g46 _ _ hm')), fun b o _ ho => g8 _ _ ho, ndm, ltm, fun x => by simp⟩) (fun k σ' G _ ⟨_, _, _, _, _, kp, _⟩ => sq_of (kp _ _ pm hp7)) ?_ ?_
        · rintro k y σ' G8 hy ⟨x7, ms', rfl, eG8, hm8, kp, nd8, lt8, mem8⟩
          obtain ⟨o, ho, rfl⟩ := map_get hy
          have few := few_of nd8 lt8
          refine s_dput (ev_var rfl) (ev_var rfl) ev_c hm8 (by omega) fun G9 g9 => ⟨_, addK ms' o, rfl, (eG8.trans g9).mut mF, upd_same, fun b o' hb ho' => ?_, addK_nodup nd8, fun x hx => ?_, fun x => ?_⟩
          · rw [upd_ne hb]
            exact g9 _ _ (kp b o' hb ho')
          · rcases mem_addK.mp hx with c | c
            · exact lt8 x c
            · rw [c]; exact (mem_partL.mp (List.mem_of_getElem? ho)).1
          · rw [mem_addK, mem8, take_snoc ho, List.mem_append, List.mem_singleton, or_assoc]
        · rintro σ' G8 ⟨x7, ms', rfl, eG8, hm8, kp, nd8, lt8, mem8⟩
          rw [List.length_map, List.take_length] at mem8
          refine ⟨_, _, x7, as ++ [p], ms', rfl, eG8, kp _ _ md.symm (k7 _ _ fd.symm (g46 _ _ hd')), ?_, hm8, ?_, ?_, ?_, nd8, lt8, ?_⟩
          · rw [List.map_append]
            exact kp f _ fm (by rw [hG7, upd_same]; rfl)
          · exact List.nodup_append.mpr ⟨nda, by simp, fun x hx y hy z => pas (by rw [List.mem_singleton.mp hy] at z; rw [← z]; exact hx)⟩
          · intro b hb
            rcases List.mem_append.mp hb with c | c
            · exact asF b c
            · rw [List.mem_singleton.mp c]; exact ⟨pH, pf, pm⟩
          · rw [partsPre_yes yes]
            refine paired_app (paired_imp pr fun b hb r z => ?_) (.cons (kp p _ pm hp7) .nil)
            obtain ⟨_, b1, b2⟩ := asF b hb
            exact kp b _ b2 (k7 b _ b1 (g46 _ _ z))
          · intro x
            rw [mem8, memm, partsPre_yes yes, List.flatten_append, List.mem_append]
            simp
      · have no : ¬ (thOf W.size (xs.map placeOf) i = true ∧ i ∉ (partsPre W.size (nbOf W) (thOf W.size (xs.map placeOf)) i).flatten) := fun z => by
          have h1 : i ∈ ks := by have := z.1; rw [← thE] at this; exact of_decide_eq_true this
          have h2 : i ∉ ms := fun w => z.2 ((memm i).mp w)
          simp [h1, h2] at c
        rw [partsPre_no no]
        exact ⟨_, x6, x7, as, ms, rfl, eG.trans g4, hd'.go g4, g4 _ _ hf', hm'.go g4, nda, asF, Paired.mapP pr fun _ _ z => g4 _ _ z, ndm, ltm, memm⟩
    · rintro σ' G ⟨x3, x6, x7, as, ms, rfl, eG, hd', hf', hm', nda, asF, pr, ndm, ltm, memm⟩
      exact s_ret (ev_var rfl) fun G4 g4 => good pls f as G4 (eG.trans g4) fF nda (fun b hb => (asF b hb).1) (g4 _ _ hf') (Paired.mapP pr fun _ _ z => g4 _ _ z)
/-! shown -/
theorem wordsL_snoc {n : Nat} {qs : List (Nat × Nat)} {q : Nat × Nat} : wordsL n (qs ++ [q]) = wordsL n qs ++ [wordT q] := by
  unfold wordsL
  rw [List.map_append]
  rfl
theorem S_word (q : Nat × Nat) : SX.S (TL.numL q.1) ++ ("-" : Str) ++ SX.S (TL.numL q.2) = SX.S (wordT q) := by
  rw [str_dash, SX.S_cat, SX.S_cat]
  unfold wordT
  rw [List.append_assoc]
  rfl
theorem S_head (n : Nat) : SX.S (TL.numL n) ++ (":" : Str) = SX.S (TL.numL n ++ [58]) := by rw [str_colon, SX.S_cat]
theorem num_short {n : Nat} (h : n < 100) : (SX.S (TL.numL n)).length ≤ 2 := by
  rw [SX.S_len]
  exact TL.numL_len (by decide) h
def sp_shown (CN : Addr) : Sp := pureSp fun H vs z => ∃ x n ps, vs = [.ref x] ∧ NetAt CN H x (webOf n ps) ∧ 1 ≤ n ∧ n ≤ 40 ∧ TiesOk n ps ∧ ps.Nodup ∧ z = .str (textS n (srtP ps))
theorem ok_shown (T : Txt K mg) : FnOk P w K mg base CX0 2 T.f_shown T.fd_shown ["net"] (sp_shown T.C_Net) := by
  refine T.F_shown.ok sc_shown (fun vs H Q E h => ?_) (fun cdv A outer s H vs Q E hr h => ?_)
  · obtain ⟨z, ⟨x, n, ps, rfl, _⟩, _⟩ := h
    rfl
  · obtain ⟨z, ⟨x, n, ps, rfl, hn, n1, n40, tok, nd, rfl⟩, q⟩ := h
    refine ⟨_, (pss_cons (ps_set (i := 1) sc_shown.nd rfl (Or.inl rfl) (pe_fldB (K := K) rfl (pv 0) rfl))
  (pss_cons (ps_set (i := 2) sc_shown.nd rfl (Or.inl rfl) (pe_lst (pa_cons (pe_joined (.cons (pe_fmt (pv 1)) (.cons pe_str .nil))) pa_nil)))
  (pss_cons (ps_for PassesOwn.never rfl (pi_list (pe_meth0 (pv 0) T.cl_Net T.m_Net_ties (ok_Net_ties T) (hr.mono (by decide)) T.b_Net_ties .nil pass0)) (pg_tup rfl (pgs_cons (pg_name (i := 3) sc_shown.nd rfl (Or.inl rfl)) (pgs_cons (pg_name (i := 4) sc_shown.nd rfl (Or.inl rfl)) pgs_nil)))
    (pss_one (ps_expr (pe_bm PySem.F.plainAttrs_list PySem.F.slot_list_append PySem.F.type_list_append mt_append (pv 2) (pa_cons (pe_joined (.cons (pe_fmt (pv 3)) (.cons pe_str (.cons (pe_fmt (pv 4)) .nil)))) pa_nil)))))
  (pss_one (ps_ret (pe_join pe_str (pv 2))))))), ?_⟩
    have e0 : start N_shown [.ref x] = [some (.ref x), none, none, none, none] := rfl
    rw [e0]
    have v := sorted_valid n1 n40 tok nd
    obtain ⟨qs, hqs⟩ : ∃ qs, qs = srtP ps := ⟨_, rfl⟩
    have vf := v.few
    have vt := v.tok
    rw [← hqs] at q v vf vt
    have hn : NetAt T.C_Net H x (webOf n qs) := by rw [hqs, webOf_srt]; exact hn
    have dl : ("-" : Str).length = 1 := by rw [str_dash]; rfl
    have cl : (":" : Str).length = 1 := by rw [str_colon]; rfl
    refine q_asg (ev_size hn T.cl_Net T.na_Net_size (ev_var rfl)) fun H1 e1 => ?_
    refine q_asgL (xs := [.str (SX.S (TL.numL n ++ [58]))]) (el_lst (ea_cons (ev_is (ev_js2 (ev_fmt (n := n) (ev_var rfl) (by omega)) ev_c (by have := num_short (n := n) (by omega); omega)) (by rw [S_head])) ea_nil) (by show 1 ≤ 100000; decide)) fun wl H2 hwl e2 hw2 => ?_
    have e02 := e1.trans e2
    have wN : H wl = none := fresh_back e1 hwl
    refine q_forNg (en_ties n40 vt v.nd v.self (ev_var rfl) (hn.go e02)) fun v' fs H3 e3 fr3 r3 => ?_
    obtain ⟨p, rfl, rfl, hp⟩ := r3
    have pN : H2 p = none := fr3 p List.mem_cons_self
    obtain ⟨as, hp1, hp2⟩ := hp
    have pwl : p ≠ wl := fun z => by rw [z, hw2] at pN; cases pN
    refine ⟨p, as.map V.ref, rfl, sq_of hp1, fun i σ' G => ∃ x3 x4, σ' = [some (.ref x), some (vn n), some (.ref wl), x3, x4] ∧ Ex H G ∧ G p = some (.lst (as.map V.ref)) ∧ Paired (Pr G) as qs ∧ G wl = some (.lst (((wordsL n (qs.take i)).map SX.S).map V.str)), ⟨none, none, rfl, e02.trans e3, hp1, hp2, e3 _ _ hw2⟩, fun i σ' G _ ⟨_, _, _, _, h, _⟩ => sq_of h, ?_, ?_⟩
    · rintro i y σ' G hy ⟨x3, x4, rfl, eG, hpG, hqG, hwG⟩
      obtain ⟨b, hb, rfl⟩ := map_get hy
      obtain ⟨t, ht, hbt⟩ := paired_get' hqG hb
      have tt := vt t (List.mem_of_getElem? ht)
      have il : i < qs.length := (List.getElem?_eq_some_iff.mp ht).1
      refine ⟨b, [vn t.1, vn t.2], rfl, st_of hbt, rfl, _, _, rfl, _, _, rfl, rfl, ?_⟩
      show tDrop _ _ [some (.ref x), some (vn n), some (.ref wl), some (vn t.1), some (vn t.2)] G
      refine s_app (l := wl) (v := .str (SX.S (wordT t))) hwG (ev_var rfl) (ev_is (ev_js3 (ev_fmt (n := t.1) (ev_var rfl) (by omega)) ev_c (ev_fmt (n := t.2) (ev_var rfl) (by omega)) (by
        have h1 := num_short (n := t.1) (by omega)
        have h2 := num_short (n := t.2) (by omega)
        omega)) (by rw [S_word])) (by rw [List.length_map, List.length_map, words_len, List.length_take]; omega) fun G1 g1 => ?_
      refine ⟨_, _, rfl, (eG.trans g1).mut wN, ?_, Paired.mapP hqG fun c z hc => ?_, ?_⟩
      · rw [upd_ne pwl]
        exact g1 _ _ hpG
      · show upd _ _ _ c = _
        rw [upd_ne (ne_of hc hwG (by intro z; cases z))]
        exact g1 _ _ hc
      · rw [upd_same, take_snoc ht, wordsL_snoc, List.map_append, List.map_append]
        rfl
    · rintro σ' G ⟨x3, x4, rfl, eG, hpG, hqG, hwG⟩
      rw [List.length_map, paired_len hqG, List.take_length] at hwG
      have sm := words_sum v
      exact s_ret (ev_is (ev_join (K := K) (a := " ") (ys := (wordsL n qs).map SX.S) ev_c (ev_var rfl) (sq_of hwG) (by
        have : (" " : Str).length = 1 := by rw [str_blank]; rfl
        rw [this, List.length_map, words_len]
        omega)) (by rw [str_blank, join_text])) fun G1 g1 => q G1 (eG.trans g1)
theorem ev_shown {σ : L2.St} {H : Hp} {ta : TE} {C x : Addr} {n : Nat} {ps : List (Nat × Nat)} {E : XK} (hn : NetAt C H x (webOf n ps)) (n1 : 1 ≤ n) (n40 : n ≤ 40) (tok : TiesOk n ps) (nd : ps.Nodup) (h : Ev ta σ H (.ref x)) : Ev (tCall (sp_shown C) [] E (tCons ta tNil)) σ H (.str (textS n (srtP ps))) :=
  ev_call (ea_cons h ea_nil) (spv_pure fun G g => ⟨x, n, ps, rfl, hn.go g, n1, n40, tok, nd, rfl⟩)
/-! number_of -/
theorem dig_iff (n : Nat) : decide (n ∈ ("0123456789" : Str).cps.toList) = (decide (48 ≤ n) && decide (n ≤ 57)) := by
  rw [str_digits]
  show decide (n ∈ [48, 49, 50, 51, 52, 53, 54, 55, 56, 57]) = _
  rw [Bool.eq_iff_iff, decide_eq_true_iff, Bool.and_eq_true, decide_eq_true_iff, decide_eq_true_iff]
  simp only [List.mem_cons, List.mem_nil_iff, or_false]
  omega
def sp_number_of : Sp := pureSp fun _ vs z => ∃ x, vs = [.str x] ∧ x.length ≤ 90000 ∧ z = vo (numP (TL.tl x))
theorem ok_number_of (T : Txt K mg) : FnOk P w K mg base CX0 1 T.f_number_of T.fd_number_of ["figures"] sp_number_of := by
  refine T.F_number_of.ok sc_number_of (fun vs H Q E h => ?_) (fun cdv A outer s H vs Q E hr h => ?_)
  · obtain ⟨z, ⟨x, rfl, _⟩, _⟩ := h
    rfl
  · obtain ⟨z, ⟨x, rfl, xl, rfl⟩, q⟩ := h
    obtain ⟨tk, gK_FIGURES⟩ := T.g_FIGURES
    refine ⟨_, (pss_cons (ps_if (PW.pt (pw_or (pt_not (pt_chain op_le op_le pe_int (pe_callB call_len_str (by rfl) T.n_len (by decide +kernel) (pa_cons (pv 0) pa_nil)) pe_int)) (pw_or1 (pt_not (pt_val (pe_callB (r := rAll K) (cr_all rfl) (by rfl) T.n_all (by decide +kernel) (pa_cons (pe_lc (own := [("sign", 1)]) (g := gName 1) (tt := tYes) rfl sc_number_of.nd (pi_str (pv 0)) (blkOk_by (own := [("sign", 1)]) (N := N_number_of) (sc := defScope s_number_of) (by decide +kernel)) (fun _ _ _ _ _ => (pg_name (i := 1) sc_number_of.nd rfl (Or.inl rfl))) (fun _ _ _ _ _ => pts_nil) (fun _ _ _ _ _ => (pe_cmpR op_in_sign (pv 1) (pe_glob (v := .str "0123456789") rfl gK_FIGURES ⟨_, rfl⟩) (by with_unfolding_all rfl)))) pa_nil))))))) (pss_one (ps_ret pe_non)) pss_nil)
  (pss_one (ps_ret (pe_callTy call_int_str (by rfl) T.n_int (by decide +kernel) (pa_cons (pv 0) pa_nil))))), ?_⟩
    have e0 : start N_number_of [.str x] = [some (.str x), none] := rfl
    rw [e0]
    obtain ⟨l, hl⟩ : ∃ l, l = TL.tl x := ⟨_, rfl⟩
    have len : x.length = l.length := by rw [hl]; exact TL.len_tl x
    rw [← hl] at q
    refine q_when (b := !(decide ((1 : Int) ≤ x.length) && decide ((x.length : Int) ≤ 2)) || !digB l) (et_or (et_not (et_test (ev_chain ev_c (ev_lenS (ev_var rfl) (by omega)) rv_I0 (fun _ => ev_c) (fun _ => rv_I0)))) fun ha => et_not (et_B (ev_is (ev_all (bs := l.map fun c => decide (48 ≤ c) && decide (c ≤ 57)) (el_is (el_mapS (z := x) (fun c => .bl (decide (48 ≤ c) && decide (c ≤ 57))) (ev_S (ev_var rfl)) ?_ (fun _ => rfl) fun c G g hc => ?_) ?_)) ?_))) (fun c H1 e1 => ?_) (fun c H1 e1 => ?_)
    · rw [Bool.not_eq_false', Bool.and_eq_true, decide_eq_true_iff, decide_eq_true_iff] at ha
      omega
    · exact ev_is (ev_op (ev_var rfl) ev_c (rv_inSign (n := c))) (by rw [dig_iff])
    · rw [← hl, List.map_map]
      rfl
    · unfold digB
      rw [List.all_map]
      rfl
    · have : numP l = none := by
        unfold numP
        rw [if_neg]
        rintro ⟨h1, h2, h3⟩
        rw [h3, len, decide_eq_true (by omega), decide_eq_true (by omega)] at c
        cases c
      rw [this] at q
      exact s_ret ev_c fun H2 e2 => q H2 (e1.trans e2)
    · rw [Bool.or_eq_false_iff, Bool.not_eq_false', Bool.not_eq_false', Bool.and_eq_true, decide_eq_true_iff, decide_eq_true_iff] at c
      obtain ⟨⟨h1, h2⟩, h3⟩ := c
      have : numP l = some (NumText.digitsVal l) := by
        unfold numP
        rw [if_pos ⟨by omega, by omega, h3⟩]
      rw [this] at q
      exact s_ret (ev_intS (n := NumText.digitsVal l) (ev_var rfl) (by rw [← hl]; exact h3) (by rw [← hl]; intro z; rw [z] at len; simp at len; omega) (by rw [← hl]; omega) (by rw [← hl])) fun H2 e2 => q H2 (e1.trans e2)
theorem spv_number {H : Hp} {x : Str} (xl : x.length ≤ 90000) : SpV sp_number_of [.str x] H (vo (numP (TL.tl x))) := spv_pure fun _ _ => ⟨x, rfl, xl, rfl⟩
/-! tie_of -/
def sp_tie_of : Sp := newSp fun H vs S => ∃ x, vs = [.str x] ∧ x.length ≤ 90000 ∧ S = fun v fs G => ∃ p, v = .ref p ∧ fs = [p] ∧ G p = some (.tup [vo (tieP x).1, vo (tieP x).2])
theorem ok_tie_of (T : Txt K mg) : FnOk P w K mg base CX0 2 T.f_tie_of T.fd_tie_of ["word"] sp_tie_of := by
  refine T.F_tie_of.ok sc_tie_of (fun vs H Q E h => ?_) (fun cdv A outer s H vs Q E hr h => ?_)
  · obtain ⟨S, ⟨x, rfl, _⟩, _⟩ := h
    rfl
  · obtain ⟨S, ⟨x, rfl, xl, rfl⟩, q⟩ := h
    refine ⟨_, (pss_cons (ps_set (i := 1) sc_tie_of.nd rfl (Or.inl rfl) (pe_m1 PySem.F.slot_str_find PySem.F.type_str_find mt_find (pv 0) pe_str))
  (pss_one (ps_ret (pe_tup (pa_cons (pe_call (ok_number_of T) (hr.mono (by decide)) (by rfl) T.g_number_of T.F_number_of.kp T.b_number_of .nil pass0 (pa_cons (pe_slice sl_str (pv 0) po_none (po_some (pv 1))) pa_nil)) (pa_cons (pe_call (ok_number_of T) (hr.mono (by decide)) (by rfl) T.g_number_of T.F_number_of.kp T.b_number_of .nil pass0 (pa_cons (pe_slice sl_str (pv 0) (po_some (pe_op op_add (pv 1) pe_int)) po_none) pa_nil)) pa_nil)))))), ?_⟩
    have e0 : start N_tie_of [.str x] = [some (.str x), none] := rfl
    rw [e0]
    refine q_asg (v := .int (Txt.find x (SX.S [45]))) (ev_is (ev_find (ev_var rfl) ev_c) (by rw [str_dash])) fun H1 e1 => ?_
    have s1 := cutS_length x none (some (Txt.find x (SX.S [45])))
    have s2 := cutS_length x (some (Txt.find x (SX.S [45]) + 1)) none
    refine s_retU (eu_tup (ea_cons (ev_call (ea_cons (ev_slS (ev_var rfl) eo_none (eo_some (ev_var rfl)) (by omega)) ea_nil) (spv_number (by omega))) (ea_cons (ev_call (ea_cons (ev_slS (ev_var rfl) (eo_some (ev_op (ev_var rfl) ev_c rv_I0)) eo_none (by omega)) ea_nil) (spv_number (by omega))) ea_nil)) (by show 2 ≤ 100000; decide)) fun p H2 hp e2 h2 => q _ [p] H2 (e1.trans e2) (fun r hr => by rw [List.mem_singleton.mp hr]; exact fresh_back e1 hp) ⟨p, rfl, rfl, h2⟩
/-! read -/
theorem make_ag {C : Addr} {sp : Sp} {dvs : List V} {E : XK} {tr : TA} {σ : L2.St} {H : Hp} {Q : VK} (h : tr σ H fun vs H1 => ∀ x dx, H1 x = none → H1 dx = none → dx ≠ x → sp (.ref x :: (vs ++ dvs)) (upd (upd H1 dx (.own x)) x (.ins C dx [])) (fun v H2 => v = .non ∧ Q (.ref x) H2) E) : tMake C sp dvs E tr σ H Q := h
theorem made_pairs {α : Type} {F : Addr → α → Prop} : ∀ {ys : List V} {r : List α}, ys.length = r.length → (∀ (i : Nat) y w, ys[i]? = some y → r[i]? = some w → ∃ b, y = .ref b ∧ F b w) → ∃ as : List Addr, ys = as.map V.ref ∧ Paired F as r
  | [], [], _, _ => ⟨[], rfl, .nil⟩
  | y :: ys, w :: r, l, h => by
    obtain ⟨b, e, f⟩ := h 0 y w rfl rfl
    obtain ⟨as, e2, p⟩ := made_pairs (F := F) (ys := ys) (r := r) (Nat.succ.inj l) fun i y w h1 h2 => h (i + 1) y w h1 h2
    exact ⟨b :: as, by rw [e, e2, List.map_cons], .cons f p⟩
  | [], _ :: _, l, _ => nomatch l
  | _ :: _, [], l, _ => nomatch l
def okPair (n : Nat) (o : Option Nat × Option Nat) : Bool := match o with
  | (some x, some y) => decide (x < y) && decide (y < n)
  | _ => false
theorem sca_vo (H : Hp) (o : Option Nat) : Sca K H (vo o) := by
  cases o with
  | none => exact sca_non H
  | some x => exact sca_int H x
theorem okPair_tie {H : Hp} {n : Nat} {b : Addr} {o : Option Nat × Option Nat} (h : H b = some (.tup [vo o.1, vo o.2])) : IsTie K H n (.ref b) (okPair n o) := by
  refine .inr (.inr ⟨b, vo o.1, vo o.2, rfl, st_of h, kind_tup h, sca_vo H _, sca_vo H _, ?_⟩)
  obtain ⟨x, y⟩ := o
  cases x with
  | none => simp [okPair, vo, isPl]
  | some x =>
    cases y with
    | none => simp [okPair, vo, isPl]
    | some y =>
      simp only [okPair, vo, isPl, ltV]
      rw [Bool.eq_iff_iff]
      simp only [Bool.and_eq_true, decide_eq_true_iff]
      omega
def gotPair (o : Option Nat × Option Nat) : Nat × Nat := (o.1.getD 0, o.2.getD 0)
theorem okPair_got {n : Nat} {o : Option Nat × Option Nat} (h : okPair n o = true) : o = (some (gotPair o).1, some (gotPair o).2) ∧ (gotPair o).1 < (gotPair o).2 ∧ (gotPair o).2 < n := by
  obtain ⟨x, y⟩ := o
  cases x with
  | none => cases h
  | some x =>
    cases y with
    | none => cases h
    | some y =>
      simp only [okPair, Bool.and_eq_true, decide_eq_true_iff] at h
      exact ⟨rfl, h.1, h.2⟩
/-- what the words of a net's text write -/
theorem prog_text {n : Nat} {ps : List (Nat × Nat)} {h : Str} {r : List Str} (v : Valid n ps) (hr : Txt.split (textS n ps) (SX.S [32]) = h :: r) : numP (TL.tl (cutS h none (some (-1)))) = some n ∧ r.map tieP = ps.map (fun p => (some p.1, some p.2)) := by
  rw [split_text] at hr
  unfold wordsL at hr
  rw [List.map_cons] at hr
  injection hr with h1 h2
  have n40 := v.n40
  refine ⟨?_, ?_⟩
  · rw [← h1, head_but]
    exact numP_num (by omega)
  · rw [← h2, List.map_map, List.map_map]
    refine List.map_congr_left fun p hp => ?_
    have := v.tok p hp
    exact tieP_word (by omega) (by omega)
def sp_read (K : PySem.W.Frag) (C E1 : Addr) : Sp := fun vs H Q E => ∃ v, vs = [v] ∧ ((Kind K H v "str" false ∧ ∀ H', Ex H H' → E (.ref E1) none H') ∨
  (∃ x, v = .str x ∧ x.length ≤ 80000 ∧ wcount x ≤ 900 ∧ ((∀ n ps, Valid n ps → x ≠ textS n ps) → ∀ H', Ex H H' → E (.ref E1) none H') ∧
    (∀ n ps, Valid n ps → x = textS n ps → ∀ y H', Ex H H' → H y = none → NetNew C H H' y (webOf n ps) → Q (.ref y) H')))
theorem en_ties_of {σ : L2.St} {H : Hp} {tl : TE} {j : Nat} {vs : List Nat} {E : XK} {r : List Str} (h : EvN tl σ H (fun v fs G => ∃ p, v = .ref p ∧ G p = some (.lst (r.map V.str)))) (few : r.length ≤ 40000) (short : ∀ w ∈ r, w.length ≤ 90000) (hw : ∀ x, wipe ((wipe σ vs).set j (some x)) vs = wipe σ vs) (hv : ∀ x, ((wipe σ vs).set j (some x))[j]? = some (some x)) :
    EvN (tLc (iList K tl) (gName j) tYes (tCall sp_tie_of [] E (tCons (tVar j) tNil)) vs) σ H (fun v fs G => ∃ p as, v = .ref p ∧ G p = some (.lst (as.map V.ref)) ∧ Paired (fun b w => G b = some (.tup [vo (tieP w).1, vo (tieP w).2])) as r) :=
  en_lcM h fun v fs G g fr rr => by
    obtain ⟨p, rfl, hp⟩ := rr
    refine EvN.imp (en_map (K := K) (F := fun i v fs G => ∃ b w, r[i]? = some w ∧ v = .ref b ∧ fs = [b] ∧ G b = some (.tup [vo (tieP w).1, vo (tieP w).2])) (fun i v fs G G' hk ⟨b, w, h1, h2, h3, h4⟩ => ⟨b, w, h1, h2, h3, hk b (by rw [h3]; exact List.mem_cons_self) _ h4⟩) (a := p) (xs := r.map V.str) (fun G1 _ Q q => q G1 (Ex.refl G1)) (sq_of hp) (by rw [List.length_map]; exact few) hw fun i x G1 g1 hx => ?_) fun v fs G1 g1 m => ?_
    · obtain ⟨w, hw', rfl⟩ := map_get hx
      exact EvN.imp (en_call (ea_cons (ev_var (hv _)) ea_nil) (spn_new (R := fun v fs G => ∃ p, v = .ref p ∧ fs = [p] ∧ G p = some (.tup [vo (tieP w).1, vo (tieP w).2])) fun G2 g2 => ⟨w, rfl, short w (List.mem_of_getElem? hw'), rfl⟩)) fun v fs G2 g2 ⟨b, h1, h2, h3⟩ => ⟨b, w, hw', h1, h2, h3⟩
    · obtain ⟨D, ys, fss, rfl, _, hD, yl, fl, hF⟩ := m
      rw [List.length_map] at yl fl
      obtain ⟨as, rfl, hp2⟩ := made_pairs (F := fun b w => G1 b = some (.tup [vo (tieP w).1, vo (tieP w).2])) (ys := ys) (r := r) yl fun i y w hy hw' => by
        have il : i < fss.length := by rw [fl, ← yl]; exact (List.getElem?_eq_some_iff.mp hy).1
        obtain ⟨b, w2, h1, h2, _, h4⟩ := hF i y _ hy (List.getElem?_eq_getElem il)
        rw [hw'] at h1
        cases h1
        exact ⟨b, h2, h4⟩
      exact ⟨D, as, rfl, hD, hp2⟩
theorem ok_read (T : Txt K mg) : FnOk P w K mg base (L2.CX P w) 6 T.f_read T.fd_read ["line"] (sp_read K T.C_Net T.C_BadNet) := by
  refine T.F_read.okX sc_read (fun vs H Q E h => ?_) (fun cdv A outer s H vs Q E hr h => ?_)
  · obtain ⟨v, rfl, _⟩ := h
    rfl
  · obtain ⟨v, rfl, h⟩ := h
    refine ⟨_, (pss_cons (ps_if (pt_not (pt_val (pe_callB (r := rIsi K) call_isi (by rfl) T.n_isinstance (by decide +kernel) (pa_cons (pv 0) (pa_cons (pe_bltn (v := .ty "str") (by rfl) T.n_str (by decide +kernel) rfl) pa_nil))))) (pss_one (ps_raise rfl (takes_of rfl rfl rfl rfl) (pmk_own PySem.F.excBase_ValueError T.x_BadNet T.g_BadNet T.kp_BadNet (raises_own T.sb_BadNet T.ty_BadNet) (by rfl)))) pss_nil)
  (pss_cons (ps_set (i := 1) sc_read.nd rfl (Or.inl rfl) (pe_split (pv 0) pe_str))
  (pss_cons (ps_set (i := 2) sc_read.nd rfl (Or.inl rfl) (pe_make T.mk_Net (ok_Net_init T) (hr.mono (by decide)) (by rfl) T.g_Net T.b_Net_init .nil (passes_call (takes_of rfl rfl rfl rfl) (fun _ _ _ _ h => h)) (pa_cons (pe_call (ok_number_of T) (hr.mono (by decide)) (by rfl) T.g_number_of T.F_number_of.kp T.b_number_of .nil pass0 (pa_cons (pe_slice sl_str (pe_ix (r := rIxL K) ix_list (pv 1) pe_int (fun _ _ => rfl)) po_none (po_some (pe_un un_neg pe_int))) pa_nil)) (pa_cons (pe_lc (own := [("word", 3)]) (g := gName 3) (tt := tYes) rfl sc_read.nd (pi_list (pe_slice (r := rSlL K) sl_list (pv 1) (po_some pe_int) po_none)) (blkOk_by (own := [("word", 3)]) (N := N_read) (sc := defScope s_read) (by decide +kernel)) (fun _ _ _ _ _ => (pg_name (i := 3) sc_read.nd rfl (Or.inl rfl))) (fun _ _ _ _ _ => pts_nil) (fun _ _ _ _ _ => (pe_call (ok_tie_of T) (hr.mono (by decide)) (by rfl) T.g_tie_of T.F_tie_of.kp T.b_tie_of .nil pass0 (pa_cons (pv 3) pa_nil)))) pa_nil))))
  (pss_cons (ps_if (pt_cmpR op_ne (pe_call (ok_shown T) (hr.mono (by decide)) (by rfl) T.g_shown T.F_shown.kp T.b_shown .nil pass0 (pa_cons (pv 2) pa_nil)) (pv 0) (nomark _)) (pss_one (ps_raise rfl (takes_of rfl rfl rfl rfl) (pmk_own PySem.F.excBase_ValueError T.x_BadNet T.g_BadNet T.kp_BadNet (raises_own T.sb_BadNet T.ty_BadNet) (by rfl)))) pss_nil)
  (pss_one (ps_ret (pv 2))))))), ?_⟩
    have e0 : start N_read [v] = [some v, none, none, none] := rfl
    rw [e0]
    rcases h with ⟨ks, bad⟩ | ⟨x, rfl, xl, wc, bad, good⟩
    · exact q_when (b := true) (et_is (et_not (et_B (ev_cb (ea_cons (ev_var rfl) (ea_cons ev_c ea_nil)) (rc_kind ks)))) rfl) (fun _ H1 e1 => bad H1 e1) (fun z => nomatch z)
    refine q_when (b := false) (et_is (et_not (et_B (ev_cb (ea_cons (ev_var rfl) (ea_cons ev_c ea_nil)) (rc_kind (kind_of (.base (.str x)) (by decide +kernel : _ = some true)))))) rfl) (fun z => nomatch z) (fun _ H1 e1 => ?_)
    refine q_asgL (el_split (w := SX.S [32]) (ev_var rfl) (ev_is ev_c (by rw [str_blank])) (by decide) (by omega)) fun wl H2 hwl e2 hw2 => ?_
    have e02 := e1.trans e2
    obtain ⟨h, r, hsp⟩ : ∃ h r, Txt.split x (SX.S [32]) = h :: r := by
      have := PyProof.Rows.split_pos x (SX.S [32])
      cases hs : Txt.split x (SX.S [32]) with
      | nil => rw [hs] at this; simp at this
      | cons h r => exact ⟨h, r, rfl⟩
    have wl' : r.length + 1 ≤ 900 := by
      have : wcount x = r.length + 1 := by
        unfold wcount
        rw [hsp, List.length_cons]
      omega
    have short : ∀ w ∈ h :: r, w.length ≤ 80000 := fun w hw => by
      have := PyProof.Rows.part_short (x := x) (y := SX.S [32]) (a := w) (by rw [hsp]; exact hw)
      omega
    rw [hsp] at hw2
    have hl := short h List.mem_cons_self
    have cl := cutS_length h none (some (-1))
    -- what a net's text would write
    have prog : ∀ n ps, Valid n ps → x = textS n ps → numP (TL.tl (cutS h none (some (-1)))) = some n ∧ r.map tieP = ps.map (fun p => (some p.1, some p.2)) := fun n ps v e => prog_text v (by rw [← e]; exact hsp)
    obtain ⟨so, hso⟩ : ∃ so, so = numP (TL.tl (cutS h none (some (-1)))) := ⟨_, rfl⟩
    obtain ⟨os, hos⟩ : ∃ os, os = r.map tieP := ⟨_, rfl⟩
    rw [← hso, ← hos] at prog
    refine q_asg_x (make_ag (ag_ev (v := vo so) (ev_is (ev_call (ea_cons (ev_slS (z := h) (ev_op (ev_var rfl) ev_c (rv_ixL (K := K) (sq_of hw2) (atI_nat (j := 0) rfl))) eo_none (eo_some (ev_un ev_c ru_neg)) (by omega)) ea_nil) (spv_number (by omega))) (by rw [hso])) fun H3 e3 => ag_en (en_ties_of (K := K) (r := r) (EvN.imp (en_of_el (el_is (el_sl (K := K) (lo := some ((1 : Nat) : Int)) (hi := none) (ev_var rfl) (eo_some ev_c) eo_none (sq_of (e3 _ _ hw2))) (by rw [cut_drop1]; rfl : _ = r.map V.str))) fun v fs G e ⟨p, h1, _, h3⟩ => ⟨p, h1, h3⟩) (by omega) (fun w hw => by have := short w (List.mem_cons_of_mem _ hw); omega) (fun _ => rfl) (fun _ => rfl)) fun v fs H4 e4 fr4 r4 => ag_nil fun y dy hy hdy ne => ?_))
    obtain ⟨p, as, rfl, hp, hpr⟩ := r4
    have al := paired_len hpr
    have e04 := (e02.trans e3).trans e4
    have e5 := own_ins (C := T.C_Net) hy hdy ne
    have e05 := e04.trans e5
    have yN : H y = none := fresh_back e04 hy
    have hpr5 : Paired (fun b w => (upd (upd H4 dy (.own y)) y (.ins T.C_Net dy [])) b = some (.tup [vo (tieP w).1, vo (tieP w).2])) as r := Paired.mapP hpr fun _ _ z => e5 _ _ z
    have hp5 := e5 _ _ hp
    refine ⟨y, dy, vo so, .ref p, rfl, upd_same, ?_⟩
    by_cases gs : ∃ n, so = some n ∧ 1 ≤ n ∧ n ≤ 40
    case neg =>
      refine .inl ⟨sca_vo _ _, fun i hi hb => ?_, fun H6 e6 => bad (fun n ps v e => gs ⟨n, (prog n ps v e).1, v.n1, v.n40⟩) H6 (e05.trans e6)⟩
      cases hs : so with
      | none => rw [hs] at hi; cases hi
      | some k =>
        rw [hs] at hi
        injection hi with hi
        exact gs ⟨k, hs, by omega, by omega⟩
    obtain ⟨n, hn, n1, n40⟩ := gs
    rw [hn]
    by_cases ga : os.all (okPair n) = true
    case neg =>
      refine .inr (.inr (.inl ⟨n, p, as.map V.ref, os.map (okPair n), rfl, n1, n40, rfl, hp5, by rw [List.length_map]; omega, by rw [List.length_map, List.length_map, hos, List.length_map, al], fun i z b hz hb => ?_, ?_, fun H6 e6 => bad (fun n' ps v e => ga ?_) H6 (e05.trans e6)⟩))
      · obtain ⟨b', hb', rfl⟩ := map_get hz
        obtain ⟨o, ho, rfl⟩ := map_get hb
        rw [hos] at ho
        obtain ⟨w', hw', rfl⟩ := map_get ho
        exact okPair_tie (paired_at' (F := fun b w => (upd (upd H4 dy (.own y)) y (.ins T.C_Net dy [])) b = some (.tup [vo (tieP w).1, vo (tieP w).2])) hpr5 hb' hw')
      · rw [List.all_map]
        rw [Bool.not_eq_true] at ga
        exact ga
      · obtain ⟨g1, g2⟩ := prog n' ps v e
        rw [hn] at g1
        cases g1
        rw [g2, List.all_eq_true]
        intro o ho
        obtain ⟨t, ht, rfl⟩ := List.mem_map.mp ho
        have := v.tok t ht
        simp [okPair, this.1, this.2]
    obtain ⟨ps, hps⟩ : ∃ ps, ps = os.map gotPair := ⟨_, rfl⟩
    have okp : ∀ o ∈ os, okPair n o = true := List.all_eq_true.mp ga
    have tok : TiesOk n ps := fun t ht => by
      rw [hps] at ht
      obtain ⟨o, ho, rfl⟩ := List.mem_map.mp ht
      exact (okPair_got (okp o ho)).2
    have prs : Paired (Pr (upd (upd H4 dy (.own y)) y (.ins T.C_Net dy []))) as ps := by
      rw [hps, hos, List.map_map]
      have aux : ∀ {as : List Addr} {r : List Str}, (∀ w ∈ r, okPair n (tieP w) = true) → Paired (fun b w => (upd (upd H4 dy (.own y)) y (.ins T.C_Net dy [])) b = some (.tup [vo (tieP w).1, vo (tieP w).2])) as r → Paired (Pr (upd (upd H4 dy (.own y)) y (.ins T.C_Net dy []))) as (r.map (gotPair ∘ tieP)) := fun {as r} hk hq => by
        induction hq with
        | nil => exact .nil
        | @cons b w as r hb _ ih =>
          refine .cons ?_ (ih fun w hw => hk w (List.mem_cons_of_mem _ hw))
          have := (okPair_got (hk w List.mem_cons_self)).1
          rw [this] at hb
          exact hb
      exact aux (fun w hw => okp _ (by rw [hos]; exact List.mem_map_of_mem hw)) hpr5
    have pl : ps.length = r.length := by rw [hps, hos, List.length_map, List.length_map]
    have back : ∀ n' ps', Valid n' ps' → x = textS n' ps' → n' = n ∧ ps' = ps := fun n' ps' v e => by
      obtain ⟨g1, g2⟩ := prog n' ps' v e
      rw [hn] at g1
      cases g1
      refine ⟨rfl, ?_⟩
      rw [hps, g2, List.map_map]
      exact (List.map_id ps').symm
    refine .inr (.inr (.inr ⟨n, p, ps, rfl, n1, n40, rfl, ⟨as, hp5, prs⟩, tok, by omega, fun dup H6 e6 => bad (fun n' ps' v e => dup ?_) H6 (e05.trans e6), fun nd H6 b6 net => ⟨rfl, ?_⟩⟩))
    · rw [← (back n' ps' v e).2]
      exact v.nd
    have e06 : Ex H H6 := fun b o hb => b6 b o (fun z => by rw [List.mem_singleton.mp z, yN] at hb; cases hb) (e05 _ _ hb)
    have net6 := net.at
    show tSeq _ _ _ [some (.str x), some (.ref wl), some (.ref y), none] H6
    refine q_when (b := !decide (textS n (srtP ps) = x)) (et_is (et_test (ev_op (ev_shown net6 n1 n40 tok nd (ev_var rfl)) (ev_var rfl) (rv_ne rfl))) (by
      congr 1
      exact decide_eq_decide.mpr ⟨fun h => by injection h, fun h => by rw [h]⟩)) (fun c H7 e7 => ?_) (fun c H7 e7 => ?_)
    · refine bad (fun n' ps' v e => ?_) H7 (e06.trans e7)
      obtain ⟨rfl, rfl⟩ := back n' ps' v e
      rw [v.self, ← e] at c
      simp at c
    · have c : textS n (srtP ps) = x := by simpa using c
      refine s_ret (ev_var rfl) fun H8 e8 => good n (srtP ps) (sorted_valid n1 n40 tok nd) c.symm y H8 ((e06.trans e7).trans e8) yN ?_
      rw [webOf_srt]
      exact (net.go (e7.trans e8)).back e05
/-! pairs_of -/
theorem vo_nonP {o : Option Nat} : decide (vo o = .non) = decide (o = none) := by cases o <;> simp [vo]
def sp_pairs_of : Sp := newSp fun H vs S => ∃ m ms, vs = [.ref m] ∧ Opts H m ms ∧ ms.length ≤ 1000 ∧ S = fun v fs G => ∃ p, v = .ref p ∧ fs = [p] ∧ Prs G p (pairsOf ms)
theorem ok_pairs_of (T : Txt K mg) : FnOk P w K mg base CX0 1 T.f_pairs_of T.fd_pairs_of ["mates"] sp_pairs_of := by
  refine T.F_pairs_of.ok sc_pairs_of (fun vs H Q E h => ?_) (fun cdv A outer s H vs Q E hr h => ?_)
  · obtain ⟨S, ⟨m, ms, rfl, _⟩, _⟩ := h
    rfl
  · obtain ⟨S, ⟨m, ms, rfl, hm, few, rfl⟩, q⟩ := h
    refine ⟨_, (pss_one (ps_ret (pe_lc (own := [("place", 1)]) (g := gName 1) rfl sc_pairs_of.nd (pi_range1 (by rfl) T.n_range (pa_cons (pe_callB (r := rLenS K) call_len_seq (by rfl) T.n_len (by decide +kernel) (pa_cons (pv 0) pa_nil)) pa_nil)) (blkOk_by (own := [("place", 1)]) (N := N_pairs_of) (sc := defScope s_pairs_of) (by decide +kernel)) (fun _ _ _ _ _ => (pg_name (i := 1) sc_pairs_of.nd rfl (Or.inl rfl))) (fun _ _ _ _ _ => (pts_one (PW.pt (pw_and (pt_cmpR op_notN (pe_ix (r := rIxL K) ix_list (pv 0) (pv 1) (fun _ _ => rfl)) pe_non (nomark _)) (pw_and1 (pt_cmpR op_lt (pv 1) (pe_ix (r := rIxL K) ix_list (pv 0) (pv 1) (fun _ _ => rfl)) (nomark _))))))) (fun _ _ _ _ _ => (pe_tup (pa_cons (pv 1) (pa_cons (pe_ix (r := rIxL K) ix_list (pv 0) (pv 1) (fun _ _ => rfl)) pa_nil))))))), ?_⟩
    have e0 : start N_pairs_of [.ref m] = [some (.ref m), none] := rfl
    rw [e0]
    have at_ : ∀ (i : Nat), i < ms.length → ∀ {σ : L2.St} {G : Hp} {t1 t2 : TE}, Ex H G → Ev t1 σ G (.ref m) → Ev t2 σ G (vn i) → Ev (tOp (rIxL K) t1 t2) σ G (vo (ms.getD i none)) := fun i hi σ G t1 t2 e h1 h2 => ev_op h1 h2 (rv_ixL (K := K) (sq_of (e _ _ hm)) (atI_nat (map_get' (by rw [List.getD_eq_getElem?_getD, List.getElem?_eq_getElem hi]; rfl))))
    refine s_retN (en_pairsNew (n := ms.length) (upB ms) (fun i => (i, (ms.getD i none).getD 0)) (ea_cons (ev_is (ev_len (K := K) (ev_var rfl) (sq_of hm)) (by rw [List.length_map])) ea_nil) (by omega) (fun _ => rfl) (fun i G g hi => ?_) (fun i G g hi hu => ?_)) fun v fs G g fr r => ?_
    · refine et_is (et_and (a := !decide (ms.getD i none = none)) (b := upB ms i) (et_is (et_test (ev_op (at_ i hi g (ev_var rfl) (ev_var rfl)) ev_c rv_notN)) (by rw [vo_nonP])) fun c => ?_) ?_
      · cases e : ms.getD i none with
        | none => rw [e] at c; simp at c
        | some j =>
          have h := at_ i hi (σ := [some (.ref m), some (vn i)]) (t1 := tVar 0) (t2 := tVar 1) g (ev_var rfl) (ev_var rfl)
          rw [e] at h
          refine et_is (et_test (ev_op (ev_var rfl) h rv_I0)) ?_
          unfold upB
          rw [e]
          show decide ((i : Int) < (j : Int)) = decide (i < j)
          by_cases c2 : i < j
          · rw [decide_eq_true c2, decide_eq_true (by omega)]
          · rw [decide_eq_false c2, decide_eq_false (by omega)]
      · unfold upB
        cases e : ms.getD i none <;> simp
    · cases e : ms.getD i none with
      | none => unfold upB at hu; rw [e] at hu; cases hu
      | some j =>
        have h := at_ i hi (σ := [some (.ref m), some (vn i)]) (t1 := tVar 0) (t2 := tVar 1) g (ev_var rfl) (ev_var rfl)
        rw [e] at h
        exact eu_tup (ea_cons (ev_var rfl) (ea_cons h ea_nil)) (by show 2 ≤ 100000; decide)
    · obtain ⟨D, as, rfl, rfl, hD, hp⟩ := r
      exact q _ [D] G g (fun r hr => by rw [List.mem_singleton.mp hr]; exact fr D List.mem_cons_self) ⟨D, rfl, rfl, as, hD, hp⟩
/-! turned_mates -/
def sp_turned_mates : Sp := newSp fun H vs S => ∃ m ms l ns, vs = [.ref m, .ref l] ∧ Opts H m ms ∧ ms.length ≤ 1000 ∧ Ints H l ns ∧ ns.length % 2 = 0 ∧ ns.length ≤ 3000 ∧ (∀ x ∈ ns, x < ms.length) ∧ S = fun v fs G => ∃ p, v = .ref p ∧ fs = [p] ∧ Opts G p (turnL ms ns)
theorem ok_turned_mates (T : Txt K mg) : FnOk P w K mg base CX0 1 T.f_turned_mates T.fd_turned_mates ["mates", "way"] sp_turned_mates := by
  refine T.F_turned_mates.ok sc_turned_mates (fun vs H Q E h => ?_) (fun cdv A outer s H vs Q E hr h => ?_)
  · obtain ⟨S, ⟨m, ms, l, ns, rfl, _⟩, _⟩ := h
    rfl
  · obtain ⟨S, ⟨m, ms, l, ns, rfl, hm, ml, hl, ev, few, lt, rfl⟩, q⟩ := h
    refine ⟨_, (pss_cons (ps_set (i := 2) sc_turned_mates.nd rfl (Or.inl rfl) (pe_callTy (r := rListS K) call_list_of (by rfl) T.n_list (by decide +kernel) (pa_cons (pv 0) pa_nil)))
  (pss_cons (ps_for PassesOwn.never rfl (pi_range3 (by rfl) T.n_range (pa_cons pe_int (pa_cons (pe_callB (r := rLenS K) call_len_seq (by rfl) T.n_len (by decide +kernel) (pa_cons (pv 1) pa_nil)) (pa_cons pe_int pa_nil)))) (pg_name (i := 3) sc_turned_mates.nd rfl (Or.inl rfl))
    (pss_cons (ps_asg (pe_ix (r := rIxL K) ix_list (pv 1) (pe_op op_add (pv 3) pe_int) (fun _ _ => rfl)) (pg_sub (pv 2) (pe_ix (r := rIxL K) ix_list (pv 1) (pv 3) (fun _ _ => rfl)) set_list))
  (pss_one (ps_asg (pe_ix (r := rIxL K) ix_list (pv 1) (pv 3) (fun _ _ => rfl)) (pg_sub (pv 2) (pe_ix (r := rIxL K) ix_list (pv 1) (pe_op op_add (pv 3) pe_int) (fun _ _ => rfl)) set_list)))))
  (pss_one (ps_ret (pv 2))))), ?_⟩
    have e0 : start N_turned_mates [.ref m, .ref l] = [some (.ref m), some (.ref l), none, none] := rfl
    rw [e0]
    refine q_asgL (el_list (K := K) (ev_var rfl) (sq_of hm)) fun f H1 hf e1 hf1 => ?_
    obtain ⟨h, hh⟩ : ∃ h, h = ns.length / 2 := ⟨_, rfl⟩
    have n2 : ns.length = 2 * h := by omega
    refine q_forR3 (k := h) (ea_cons ev_c (ea_cons (ev_is (ev_len (K := K) (ev_var rfl) (sq_of (e1 _ _ hl))) (by rw [List.length_map, n2])) (ea_cons ev_c ea_nil))) (by omega)
      (fun k σ' G => ∃ x3, σ' = [some (.ref m), some (.ref l), some (.ref f), x3] ∧ Ex H G ∧ Opts G f (turnK ms ns k)) (fun G g => ⟨none, rfl, e1.trans g, g _ _ hf1⟩) ?_ ?_
    · rintro k σ' G hk ⟨x3, rfl, eG, hf'⟩
      have a0 : ns[2 * k]? = some (ns.getD (2 * k) 0) := getD_get 0 (by omega)
      have a1 : ns[2 * k + 1]? = some (ns.getD (2 * k + 1) 0) := getD_get 0 (by omega)
      have l0 := lt _ (List.mem_of_getElem? a0)
      have l1 := lt _ (List.mem_of_getElem? a1)
      obtain ⟨x, hx⟩ : ∃ x, x = ns.getD (2 * k) 0 := ⟨_, rfl⟩
      obtain ⟨y, hy⟩ : ∃ y, y = ns.getD (2 * k + 1) 0 := ⟨_, rfl⟩
      rw [← hx] at a0 l0
      rw [← hy] at a1 l1
      have E0 : ∀ {σ : L2.St} {G1 : Hp} {te tb : TE}, Ex H G1 → Ev te σ G1 (.ref l) → Ev tb σ G1 (vn (2 * k)) → Ev (tOp (rIxL K) te tb) σ G1 (vn x) := fun g h1 h2 => ev_op h1 h2 (rv_ixL (K := K) (sq_of (g _ _ hl)) (atI_nat (map_get' a0)))
      have E1 : ∀ {σ : L2.St} {G1 : Hp} {te tb : TE}, Ex H G1 → Ev te σ G1 (.ref l) → Ev tb σ G1 (vn (2 * k)) → Ev (tOp (rIxL K) te (tOp (rI0 fun i j => .int (i + j)) tb (tC (.int 1)))) σ G1 (vn y) := fun g h1 h2 => ev_op h1 (ev_is (ev_op h2 ev_c rv_I0) (rfl : _ = vn (2 * k + 1))) (rv_ixL (K := K) (sq_of (g _ _ hl)) (atI_nat (map_get' a1)))
      have tl : ((turnK ms ns k).map vo).length = ms.length := by rw [List.length_map, turnK_len]
      refine q_setL (l := f) hf' (E1 eG (ev_var rfl) (ev_var rfl)) (ev_var rfl) (E0 eG (ev_var rfl) (ev_var rfl)) (by omega) fun G1 g1 => ?_
      obtain ⟨G2, hG2⟩ : ∃ G2, G2 = upd G1 f (.lst (((turnK ms ns k).map vo).set x (vn y))) := ⟨_, rfl⟩
      rw [← hG2]
      have f2 : G2 f = some (.lst (((turnK ms ns k).map vo).set x (vn y))) := by rw [hG2, upd_same]
      have e2 : Ex H G2 := by rw [hG2]; exact (eG.trans g1).mut hf
      refine s_setL (l := f) f2 (E0 e2 (ev_var rfl) (ev_var rfl)) (ev_var rfl) (E1 e2 (ev_var rfl) (ev_var rfl)) (by rw [List.length_set]; omega) fun G3 g3 => ⟨_, rfl, (e2.trans g3).mut hf, ?_⟩
      show upd _ _ _ f = _
      rw [upd_same, turnK, ← hx, ← hy, List.map_set, List.map_set]
      rfl
    · rintro σ' G ⟨x3, rfl, eG, hf'⟩
      exact s_ret (ev_var rfl) fun G1 g1 => q _ [f] G1 (eG.trans g1) (fun r hr => by rw [List.mem_singleton.mp hr]; exact hf) ⟨f, rfl, rfl, by rw [turnL, ← hh]; exact hf'.go g1⟩
/-! Search.is_inner -/
def srF (a m : Addr) (r : Nat) (bl al ol : Addr) : List (Str × V) := [(("web" : Str), (.ref a : V)), (("mates" : Str), (.ref m : V)), (("root" : Str), (vn r : V)), (("base" : Str), (.ref bl : V)), (("above" : Str), (.ref al : V)), (("outer" : Str), (.ref ol : V))]
theorem srF_web (a m : Addr) (r : Nat) (bl al ol : Addr) : (srF a m r bl al ol).lookup ("web" : Str) = some (.ref a) := by
  show List.lookup ("web" : Str) [(("web" : Str), (.ref a : V)), (("mates" : Str), (.ref m : V)), (("root" : Str), (vn r : V)), (("base" : Str), (.ref bl : V)), (("above" : Str), (.ref al : V)), (("outer" : Str), (.ref ol : V))] = _
  rw [List.lookup_cons, beq_self_eq_true]
theorem srF_mates (a m : Addr) (r : Nat) (bl al ol : Addr) : (srF a m r bl al ol).lookup ("mates" : Str) = some (.ref m) := by
  show List.lookup ("mates" : Str) [(("web" : Str), (.ref a : V)), (("mates" : Str), (.ref m : V)), (("root" : Str), (vn r : V)), (("base" : Str), (.ref bl : V)), (("above" : Str), (.ref al : V)), (("outer" : Str), (.ref ol : V))] = _
  rw [List.lookup_cons, show (("mates" : Str) == ("web" : Str)) = false by decide +kernel, List.lookup_cons, beq_self_eq_true]
theorem srF_root (a m : Addr) (r : Nat) (bl al ol : Addr) : (srF a m r bl al ol).lookup ("root" : Str) = some (vn r) := by
  show List.lookup ("root" : Str) [(("web" : Str), (.ref a : V)), (("mates" : Str), (.ref m : V)), (("root" : Str), (vn r : V)), (("base" : Str), (.ref bl : V)), (("above" : Str), (.ref al : V)), (("outer" : Str), (.ref ol : V))] = _
  rw [List.lookup_cons, show (("root" : Str) == ("web" : Str)) = false by decide +kernel, List.lookup_cons, show (("root" : Str) == ("mates" : Str)) = false by decide +kernel, List.lookup_cons, beq_self_eq_true]
theorem srF_base (a m : Addr) (r : Nat) (bl al ol : Addr) : (srF a m r bl al ol).lookup ("base" : Str) = some (.ref bl) := by
  show List.lookup ("base" : Str) [(("web" : Str), (.ref a : V)), (("mates" : Str), (.ref m : V)), (("root" : Str), (vn r : V)), (("base" : Str), (.ref bl : V)), (("above" : Str), (.ref al : V)), (("outer" : Str), (.ref ol : V))] = _
  rw [List.lookup_cons, show (("base" : Str) == ("web" : Str)) = false by decide +kernel, List.lookup_cons, show (("base" : Str) == ("mates" : Str)) = false by decide +kernel, List.lookup_cons, show (("base" : Str) == ("root" : Str)) = false by decide +kernel, List.lookup_cons, beq_self_eq_true]
theorem srF_above (a m : Addr) (r : Nat) (bl al ol : Addr) : (srF a m r bl al ol).lookup ("above" : Str) = some (.ref al) := by
  show List.lookup ("above" : Str) [(("web" : Str), (.ref a : V)), (("mates" : Str), (.ref m : V)), (("root" : Str), (vn r : V)), (("base" : Str), (.ref bl : V)), (("above" : Str), (.ref al : V)), (("outer" : Str), (.ref ol : V))] = _
  rw [List.lookup_cons, show (("above" : Str) == ("web" : Str)) = false by decide +kernel, List.lookup_cons, show (("above" : Str) == ("mates" : Str)) = false by decide +kernel, List.lookup_cons, show (("above" : Str) == ("root" : Str)) = false by decide +kernel, List.lookup_cons, show (("above" : Str) == ("base" : Str)) = false by decide +kernel, List.lookup_cons, beq_self_eq_true]
theorem srF_outer (a m : Addr) (r : Nat) (bl al ol : Addr) : (srF a m r bl al ol).lookup ("outer" : Str) = some (.ref ol) := by
  show List.lookup ("outer" : Str) [(("web" : Str), (.ref a : V)), (("mates" : Str), (.ref m : V)), (("root" : Str), (vn r : V)), (("base" : Str), (.ref bl : V)), (("above" : Str), (.ref al : V)), (("outer" : Str), (.ref ol : V))] = _
  rw [List.lookup_cons, show (("outer" : Str) == ("web" : Str)) = false by decide +kernel, List.lookup_cons, show (("outer" : Str) == ("mates" : Str)) = false by decide +kernel, List.lookup_cons, show (("outer" : Str) == ("root" : Str)) = false by decide +kernel, List.lookup_cons, show (("outer" : Str) == ("base" : Str)) = false by decide +kernel, List.lookup_cons, show (("outer" : Str) == ("above" : Str)) = false by decide +kernel, List.lookup_cons, beq_self_eq_true]
theorem srF_no (a m : Addr) (r : Nat) (bl al ol : Addr) {x : Str} (h0 : (x == ("web" : Str)) = false) (h1 : (x == ("mates" : Str)) = false) (h2 : (x == ("root" : Str)) = false) (h3 : (x == ("base" : Str)) = false) (h4 : (x == ("above" : Str)) = false) (h5 : (x == ("outer" : Str)) = false) : (srF a m r bl al ol).lookup x = none := by
  show List.lookup x [(("web" : Str), (.ref a : V)), (("mates" : Str), (.ref m : V)), (("root" : Str), (vn r : V)), (("base" : Str), (.ref bl : V)), (("above" : Str), (.ref al : V)), (("outer" : Str), (.ref ol : V))] = none
  rw [List.lookup_cons, h0, List.lookup_cons, h1, List.lookup_cons, h2, List.lookup_cons, h3, List.lookup_cons, h4, List.lookup_cons, h5]
  rfl
theorem ne_web_mates : ¬ (("web" : Str) = "mates") := by decide +kernel
theorem ne_web_root : ¬ (("web" : Str) = "root") := by decide +kernel
theorem ne_web_base : ¬ (("web" : Str) = "base") := by decide +kernel
theorem ne_web_above : ¬ (("web" : Str) = "above") := by decide +kernel
theorem ne_web_outer : ¬ (("web" : Str) = "outer") := by decide +kernel
theorem ne_mates_root : ¬ (("mates" : Str) = "root") := by decide +kernel
theorem ne_mates_base : ¬ (("mates" : Str) = "base") := by decide +kernel
theorem ne_mates_above : ¬ (("mates" : Str) = "above") := by decide +kernel
theorem ne_mates_outer : ¬ (("mates" : Str) = "outer") := by decide +kernel
theorem ne_root_base : ¬ (("root" : Str) = "base") := by decide +kernel
theorem ne_root_above : ¬ (("root" : Str) = "above") := by decide +kernel
theorem ne_root_outer : ¬ (("root" : Str) = "outer") := by decide +kernel
theorem ne_base_above : ¬ (("base" : Str) = "above") := by decide +kernel
theorem ne_base_outer : ¬ (("base" : Str) = "outer") := by decide +kernel
theorem ne_above_outer : ¬ (("above" : Str) = "outer") := by decide +kernel
def srP0 (a m : Addr) (r : Nat) (bl al ol : Addr) : List (Str × V) := []
def srP1 (a m : Addr) (r : Nat) (bl al ol : Addr) : List (Str × V) := [(("web" : Str), (.ref a : V))]
def srP2 (a m : Addr) (r : Nat) (bl al ol : Addr) : List (Str × V) := [(("web" : Str), (.ref a : V)), (("mates" : Str), (.ref m : V))]
def srP3 (a m : Addr) (r : Nat) (bl al ol : Addr) : List (Str × V) := [(("web" : Str), (.ref a : V)), (("mates" : Str), (.ref m : V)), (("root" : Str), (vn r : V))]
def srP4 (a m : Addr) (r : Nat) (bl al ol : Addr) : List (Str × V) := [(("web" : Str), (.ref a : V)), (("mates" : Str), (.ref m : V)), (("root" : Str), (vn r : V)), (("base" : Str), (.ref bl : V))]
def srP5 (a m : Addr) (r : Nat) (bl al ol : Addr) : List (Str × V) := [(("web" : Str), (.ref a : V)), (("mates" : Str), (.ref m : V)), (("root" : Str), (vn r : V)), (("base" : Str), (.ref bl : V)), (("above" : Str), (.ref al : V))]
theorem putS0 (a m : Addr) (r : Nat) (bl al ol : Addr) : putF "web" (.ref a) (srP0 a m r bl al ol) = srP1 a m r bl al ol := by
  simp [putF, srP0, srP1, ne_web_mates, ne_web_root, ne_web_base, ne_web_above, ne_web_outer, ne_mates_root, ne_mates_base, ne_mates_above, ne_mates_outer, ne_root_base, ne_root_above, ne_root_outer, ne_base_above, ne_base_outer, ne_above_outer]
theorem putS1 (a m : Addr) (r : Nat) (bl al ol : Addr) : putF "mates" (.ref m) (srP1 a m r bl al ol) = srP2 a m r bl al ol := by
  simp [putF, srP1, srP2, ne_web_mates, ne_web_root, ne_web_base, ne_web_above, ne_web_outer, ne_mates_root, ne_mates_base, ne_mates_above, ne_mates_outer, ne_root_base, ne_root_above, ne_root_outer, ne_base_above, ne_base_outer, ne_above_outer]
theorem putS2 (a m : Addr) (r : Nat) (bl al ol : Addr) : putF "root" (vn r) (srP2 a m r bl al ol) = srP3 a m r bl al ol := by
  simp [putF, srP2, srP3, ne_web_mates, ne_web_root, ne_web_base, ne_web_above, ne_web_outer, ne_mates_root, ne_mates_base, ne_mates_above, ne_mates_outer, ne_root_base, ne_root_above, ne_root_outer, ne_base_above, ne_base_outer, ne_above_outer]
theorem putS3 (a m : Addr) (r : Nat) (bl al ol : Addr) : putF "base" (.ref bl) (srP3 a m r bl al ol) = srP4 a m r bl al ol := by
  simp [putF, srP3, srP4, ne_web_mates, ne_web_root, ne_web_base, ne_web_above, ne_web_outer, ne_mates_root, ne_mates_base, ne_mates_above, ne_mates_outer, ne_root_base, ne_root_above, ne_root_outer, ne_base_above, ne_base_outer, ne_above_outer]
theorem putS4 (a m : Addr) (r : Nat) (bl al ol : Addr) : putF "above" (.ref al) (srP4 a m r bl al ol) = srP5 a m r bl al ol := by
  simp [putF, srP4, srP5, ne_web_mates, ne_web_root, ne_web_base, ne_web_above, ne_web_outer, ne_mates_root, ne_mates_base, ne_mates_above, ne_mates_outer, ne_root_base, ne_root_above, ne_root_outer, ne_base_above, ne_base_outer, ne_above_outer]
theorem putS5 (a m : Addr) (r : Nat) (bl al ol : Addr) : putF "outer" (.ref ol) (srP5 a m r bl al ol) = srF a m r bl al ol := by
  simp [putF, srP5, srF, ne_web_mates, ne_web_root, ne_web_base, ne_web_above, ne_web_outer, ne_mates_root, ne_mates_base, ne_mates_above, ne_mates_outer, ne_root_base, ne_root_above, ne_root_outer, ne_base_above, ne_base_outer, ne_above_outer]
structure SrAt (CS CN : Addr) (H : Hp) (q a m bl al ol : Addr) (W : Web) (ms : List (Option Nat)) (root : Nat) : Prop where
  ins : ∃ dx, H q = some (.ins CS dx (srF a m root bl al ol))
  net : NetAt CN H a W
  mts : Opts H m ms
  n1 : bl ≠ al
  n2 : bl ≠ ol
  n3 : al ≠ ol
theorem SrAt.go {CS CN : Addr} {H H' : Hp} {q a m bl al ol : Addr} {W : Web} {ms : List (Option Nat)} {root : Nat} (x : SrAt CS CN H q a m bl al ol W ms root) (e : Ex H H') : SrAt CS CN H' q a m bl al ol W ms root := by
  obtain ⟨dx, h⟩ := x.ins
  exact ⟨⟨dx, e _ _ h⟩, x.net.go e, x.mts.go e, x.n1, x.n2, x.n3⟩
structure SrSt (H : Hp) (bl al ol : Addr) (bsl : List Nat) (abl : List (Option Nat)) (outl : List Nat) : Prop where
  bs : Ints H bl bsl
  ab : Opts H al abl
  out : Ints H ol outl
theorem SrSt.go {H H' : Hp} {bl al ol : Addr} {bsl outl : List Nat} {abl : List (Option Nat)} (x : SrSt H bl al ol bsl abl outl) (e : Ex H H') : SrSt H' bl al ol bsl abl outl := ⟨x.bs.go e, x.ab.go e, x.out.go e⟩
structure PWs (W : Web) (ms : List (Option Nat)) (root : Nat) : Prop where
  ok : WebOk W
  sym : WebSym W
  m : MtOk W (abF ms)
  ml : ms.length = W.size
  rt : root < W.size
structure PS (W : Web) (ms : List (Option Nat)) (root : Nat) (bsl : List Nat) (abl : List (Option Nat)) (outl : List Nat) (rk : Nat → Nat) : Prop where
  si : SI W (abF ms) root (bsF bsl) (abF abl) (fun x => x ∈ outl) rk
  nd : outl.Nodup
  bl : bsl.length = W.size
  al : abl.length = W.size
structure SrOk (CS CN : Addr) (H : Hp) (q a m bl al ol : Addr) (W : Web) (ms : List (Option Nat)) (root : Nat) (bsl : List Nat) (abl : List (Option Nat)) (outl : List Nat) (rk : Nat → Nat) : Prop where
  at_ : SrAt CS CN (cutH [bl, al, ol] H) q a m bl al ol W ms root
  st : SrSt H bl al ol bsl abl outl
  pw : PWs W ms root
  ps : PS W ms root bsl abl outl rk
section
variable {CS CN : Addr} {H H' : Hp} {q a m bl al ol : Addr} {W : Web} {ms abl : List (Option Nat)} {root : Nat} {bsl outl : List Nat} {rk : Nat → Nat} {σ : L2.St} {te tb : TE}
theorem SrOk.go (x : SrOk CS CN H q a m bl al ol W ms root bsl abl outl rk) (e : Ex H H') : SrOk CS CN H' q a m bl al ol W ms root bsl abl outl rk := ⟨x.at_.go (cutH_mono _ e), x.st.go e, x.pw, x.ps⟩
theorem SrOk.here (x : SrOk CS CN H q a m bl al ol W ms root bsl abl outl rk) : SrAt CS CN H q a m bl al ol W ms root := x.at_.go (cutH_ex _ _)
theorem SrOk.lt (x : SrOk CS CN H q a m bl al ol W ms root bsl abl outl rk) {v : Nat} (h : v ∈ outl) : v < W.size := x.ps.si.lt x.pw.m x.pw.sym x.pw.rt h
theorem SrOk.ltb (x : SrOk CS CN H q a m bl al ol W ms root bsl abl outl rk) {v : Nat} (h : v < W.size) : bsF bsl v < W.size := by
  by_cases c : v ∈ outl
  · exact x.lt (x.ps.si.bo v c)
  · rw [x.ps.si.non v c]
    exact h
theorem ev_sbase (x : SrAt CS CN H q a m bl al ol W ms root) (cT : Cls K CS) (na : NoAttr K CS "base") (h : Ev te σ H (.ref q)) : Ev (tFld K te "base") σ H (.ref bl) := by
  obtain ⟨dx, h1⟩ := x.ins
  exact ev_fld h h1 cT na (srF_base ..)
theorem ev_sabove (x : SrAt CS CN H q a m bl al ol W ms root) (cT : Cls K CS) (na : NoAttr K CS "above") (h : Ev te σ H (.ref q)) : Ev (tFld K te "above") σ H (.ref al) := by
  obtain ⟨dx, h1⟩ := x.ins
  exact ev_fld h h1 cT na (srF_above ..)
theorem ev_souter (x : SrAt CS CN H q a m bl al ol W ms root) (cT : Cls K CS) (na : NoAttr K CS "outer") (h : Ev te σ H (.ref q)) : Ev (tFld K te "outer") σ H (.ref ol) := by
  obtain ⟨dx, h1⟩ := x.ins
  exact ev_fld h h1 cT na (srF_outer ..)
theorem ev_smates (x : SrAt CS CN H q a m bl al ol W ms root) (cT : Cls K CS) (na : NoAttr K CS "mates") (h : Ev te σ H (.ref q)) : Ev (tFld K te "mates") σ H (.ref m) := by
  obtain ⟨dx, h1⟩ := x.ins
  exact ev_fld h h1 cT na (srF_mates ..)
theorem ev_sweb (x : SrAt CS CN H q a m bl al ol W ms root) (cT : Cls K CS) (na : NoAttr K CS "web") (h : Ev te σ H (.ref q)) : Ev (tFld K te "web") σ H (.ref a) := by
  obtain ⟨dx, h1⟩ := x.ins
  exact ev_fld h h1 cT na (srF_web ..)
theorem ev_sroot (x : SrAt CS CN H q a m bl al ol W ms root) (cT : Cls K CS) (na : NoAttr K CS "root") (h : Ev te σ H (.ref q)) : Ev (tFld K te "root") σ H (vn root) := by
  obtain ⟨dx, h1⟩ := x.ins
  exact ev_fld h h1 cT na (srF_root ..)
theorem ev_sbaseAt (x : SrAt CS CN H q a m bl al ol W ms root) (hs : Ints H bl bsl) (cT : Cls K CS) (na : NoAttr K CS "base") (h : Ev te σ H (.ref q)) {i : Nat} (hi : Ev tb σ H (vn i)) (lt : i < bsl.length) : Ev (tOp (rIxL K) (tFld K te "base") tb) σ H (vn (bsF bsl i)) :=
  ev_op (ev_sbase x cT na h) hi (rv_ixL (K := K) (sq_of hs) (atI_nat (map_get' (get_bsF lt))))
theorem ev_saboveAt (x : SrAt CS CN H q a m bl al ol W ms root) (hs : Opts H al abl) (cT : Cls K CS) (na : NoAttr K CS "above") (h : Ev te σ H (.ref q)) {i : Nat} (hi : Ev tb σ H (vn i)) (lt : i < abl.length) : Ev (tOp (rIxL K) (tFld K te "above") tb) σ H (vo (abF abl i)) :=
  ev_op (ev_sabove x cT na h) hi (rv_ixL (K := K) (sq_of hs) (atI_nat (map_get' (get_abF lt))))
theorem ev_smatesAt (x : SrAt CS CN H q a m bl al ol W ms root) (cT : Cls K CS) (na : NoAttr K CS "mates") (h : Ev te σ H (.ref q)) {i : Nat} (hi : Ev tb σ H (vn i)) (lt : i < ms.length) : Ev (tOp (rIxL K) (tFld K te "mates") tb) σ H (vo (abF ms i)) :=
  ev_op (ev_smates x cT na h) hi (rv_ixL (K := K) (sq_of x.mts) (atI_nat (map_get' (get_abF lt))))
end
theorem dec_voN (o : Option Nat) : decide (vo o = .non) = o.isNone := by cases o <;> simp [vo]
def sp_Search_is_inner (CS CN : Addr) : Sp := pureSp fun H vs z => ∃ q a m bl al ol W ms root bsl abl outl rk p, vs = [.ref q, vn p] ∧ SrOk CS CN H q a m bl al ol W ms root bsl abl outl rk ∧ p < W.size ∧ z = .bl (abF abl p).isSome
theorem ok_Search_is_inner (T : Txt K mg) : FnOk P w K mg base CX0 1 T.f_Search_is_inner T.fd_Search_is_inner ["self", "place"] (sp_Search_is_inner T.C_Search T.C_Net) := by
  refine T.F_Search_is_inner.ok sc_Search_is_inner (fun vs H Q E h => ?_) (fun cdv A outer s H vs Q E hr h => ?_)
  · obtain ⟨z, ⟨q, a, m, bl, al, ol, W, ms, root, bsl, abl, outl, rk, p, rfl, _⟩, _⟩ := h
    rfl
  · obtain ⟨z, ⟨q, a, m, bl, al, ol, W, ms, root, bsl, abl, outl, rk, p, rfl, x, hp, rfl⟩, k⟩ := h
    refine ⟨_, (pss_one (ps_ret (pe_cmpR op_notN (pe_ix (r := rIxL K) ix_list (pe_fldB (K := K) rfl (pv 0) rfl) (pv 1) (fun _ _ => rfl)) pe_non (nomark _)))), ?_⟩
    have e0 : start N_Search_is_inner [.ref q, vn p] = [some (.ref q), some (vn p)] := rfl
    rw [e0]
    exact s_ret (ev_is (ev_op (ev_saboveAt x.here x.st.ab T.cl_Search T.na_Search_above (ev_var rfl) (ev_var rfl) (by rw [x.ps.al]; exact hp)) ev_c rv_notN) (by rw [dec_voN]; cases abF abl p <;> rfl)) k
/-! Search.bases_up -/
def sp_Search_bases_up (CS CN : Addr) : Sp := newSp fun H vs S => ∃ q a m bl al ol W ms root bsl abl outl rk p, vs = [.ref q, vn p] ∧ SrOk CS CN H q a m bl al ol W ms root bsl abl outl rk ∧ p ∈ outl ∧ S = fun u fs G => ∃ l xs, u = .ref l ∧ fs = [l] ∧ Ints G l xs ∧ UpL (abF ms) (abF abl) (bsF bsl) (bsF bsl p) xs ∧ xs.length ≤ W.size
theorem ok_Search_bases_up (T : Txt K mg) : FnOk P w K mg base CX0 1 T.f_Search_bases_up T.fd_Search_bases_up ["self", "place"] (sp_Search_bases_up T.C_Search T.C_Net) := by
  refine T.F_Search_bases_up.ok sc_Search_bases_up (fun vs H Q E h => ?_) (fun cdv A outer s H vs Q E hr h => ?_)
  · obtain ⟨S, ⟨q, a, m, bl, al, ol, W, ms, root, bsl, abl, outl, rk, p, rfl, _⟩, _⟩ := h
    rfl
  · obtain ⟨S, ⟨q, a, m, bl, al, ol, W, ms, root, bsl, abl, outl, rk, p, rfl, x, hp, rfl⟩, k⟩ := h
    refine ⟨_, (pss_cons (ps_set (i := 2) sc_Search_bases_up.nd rfl (Or.inl rfl) (pe_lst (pa_cons (pe_ix (r := rIxL K) ix_list (pe_fldB (K := K) rfl (pv 0) rfl) (pv 1) (fun _ _ => rfl)) pa_nil)))
  (pss_cons (ps_while PassesOwn.never (pt_cmpR op_notN (pe_ix (r := rIxL K) ix_list (pe_fldB (K := K) rfl (pv 0) rfl) (pe_ix (r := rIxL K) ix_list (pv 2) (pe_un un_neg pe_int) (fun _ _ => rfl)) (fun _ _ => rfl)) pe_non (nomark _)) (pss_one (ps_expr (pe_bm PySem.F.plainAttrs_list PySem.F.slot_list_append PySem.F.type_list_append mt_append (pv 2) (pa_cons (pe_ix (r := rIxL K) ix_list (pe_fldB (K := K) rfl (pv 0) rfl) (pe_ix (r := rIxL K) ix_list (pe_fldB (K := K) rfl (pv 0) rfl) (pe_ix (r := rIxL K) ix_list (pe_fldB (K := K) rfl (pv 0) rfl) (pe_ix (r := rIxL K) ix_list (pv 2) (pe_un un_neg pe_int) (fun _ _ => rfl)) (fun _ _ => rfl)) (fun _ _ => rfl)) (fun _ _ => rfl)) pa_nil)))))
  (pss_one (ps_ret (pv 2))))), ?_⟩
    have e0 : start N_Search_bases_up [.ref q, vn p] = [some (.ref q), some (vn p), none] := rfl
    rw [e0]
    have pl := x.lt hp
    have sm := x.pw.ok.small
    have bE : ∀ {σ : L2.St} {G : Hp} {te tb : TE} {i : Nat}, Ex H G → Ev te σ G (.ref q) → Ev tb σ G (vn i) → i < W.size → Ev (tOp (rIxL K) (tFld K te "base") tb) σ G (vn (bsF bsl i)) := fun e h h2 lt => ev_sbaseAt (x.here.go e) (x.st.bs.go e) T.cl_Search T.na_Search_base h h2 (by rw [x.ps.bl]; exact lt)
    have mE : ∀ {σ : L2.St} {G : Hp} {te tb : TE} {i : Nat}, Ex H G → Ev te σ G (.ref q) → Ev tb σ G (vn i) → i < W.size → Ev (tOp (rIxL K) (tFld K te "mates") tb) σ G (vo (abF ms i)) := fun e h h2 lt => ev_smatesAt (x.here.go e) T.cl_Search T.na_Search_mates h h2 (by rw [x.pw.ml]; exact lt)
    have aE : ∀ {σ : L2.St} {G : Hp} {te tb : TE} {i : Nat}, Ex H G → Ev te σ G (.ref q) → Ev tb σ G (vn i) → i < W.size → Ev (tOp (rIxL K) (tFld K te "above") tb) σ G (vo (abF abl i)) := fun e h h2 lt => ev_saboveAt (x.here.go e) (x.st.ab.go e) T.cl_Search T.na_Search_above h h2 (by rw [x.ps.al]; exact lt)
    refine q_asgL (xs := [bsF bsl p].map vn) (el_lst (ea_cons (bE (Ex.refl H) (ev_var rfl) (ev_var rfl) pl) ea_nil) (by show 1 ≤ 100000; decide)) fun l H1 hl e1 hl1 => ?_
    have b0 := x.ps.si.isB hp
    refine q_while (fun μ σ' G => ∃ xs b, σ' = [some (.ref q), some (vn p), some (.ref l)] ∧ Ex H G ∧ Ints G l (xs ++ [b]) ∧ IsB (bsF bsl) (fun x => x ∈ outl) b ∧ μ = rk b ∧ (xs ++ [b]).Nodup ∧ (∀ y ∈ xs ++ [b], y < W.size ∧ rk b ≤ rk y) ∧ ∀ ys, UpL (abF ms) (abF abl) (bsF bsl) b ys → UpL (abF ms) (abF abl) (bsF bsl) (bsF bsl p) (xs ++ ys)) (rk (bsF bsl p))
      ⟨[], bsF bsl p, rfl, e1, hl1, b0, rfl, by simp, fun y hy => by rw [List.mem_singleton.mp hy]; exact ⟨x.lt b0.1, Nat.le_refl _⟩, fun ys h => h⟩ ?_
    rintro μ σ' G ⟨xs, b, rfl, eG, hl', ib, rfl, nd, lts, up⟩
    have few := few_of nd fun y hy => (lts y hy).1
    have bW := x.lt ib.1
    have lastE : ∀ {G1 : Hp}, Ex G G1 → Ev (tOp (rIxL K) (tVar 2) (tUn (rU fun i => .int (-i)) (tC (.int 1)))) [some (.ref q), some (vn p), some (.ref l)] G1 (vn b) := fun e => ev_op (ev_var rfl) (ev_un ev_c ru_neg) (rv_ixL (K := K) (sq_of (hl'.go e)) (by rw [List.map_append]; exact atI_last))
    refine ⟨!(abF ms b).isNone, et_is (et_test (ev_op (mE eG (ev_var rfl) (lastE (Ex.refl G)) bW) ev_c rv_notN)) (by rw [dec_voN]), fun c G1 g1 => ?_, fun c G1 g1 => ?_⟩
    · obtain ⟨w, hw⟩ : ∃ w, abF ms b = some w := by
        cases h : abF ms b with
        | none => rw [h] at c; simp at c
        | some w => exact ⟨w, rfl⟩
      have nr : b ≠ root := fun e => by rw [e, x.ps.si.rootN] at hw; cases hw
      obtain ⟨w', y, u1, u2, u3, u4, u5⟩ := x.ps.si.up b ib.1 ib.2 nr
      rw [hw] at u1
      cases u1
      have wW : w < W.size := x.pw.sym.lt b w (x.pw.m.nb b w hw)
      have yW := x.lt u4
      have e1G := eG.trans g1
      refine ⟨_, fun σ2 G2 hN => hN, ?_⟩
      refine s_app (l := l) (v := vn (bsF bsl y)) (g1 _ _ hl') (ev_var rfl) (bE e1G (ev_var rfl) (ev_is (aE e1G (ev_var rfl) (ev_is (mE e1G (ev_var rfl) (lastE g1) bW) (by rw [hw]; rfl)) wW) (by rw [u3]; rfl)) yW) (by rw [List.length_map]; omega) fun G2 g2 => ?_
      have ib2 := x.ps.si.isB u4
      refine ⟨rk (bsF bsl y), u5, xs ++ [b], bsF bsl y, rfl, (e1G.trans g2).mut hl, ?_, ib2, rfl, List.nodup_append.mpr ⟨nd, by simp, fun z hz z' hz' e => ?_⟩, fun z hz => ?_, fun ys hys => ?_⟩
      · show upd _ _ _ l = _
        rw [upd_same]
        simp
      · have := (lts z hz).2
        rw [e, List.mem_singleton.mp hz'] at this
        omega
      · rcases List.mem_append.mp hz with h | h
        · exact ⟨(lts z h).1, by have := (lts z h).2; omega⟩
        · rw [List.mem_singleton.mp h]; exact ⟨x.lt ib2.1, Nat.le_refl _⟩
      · rw [List.append_assoc]
        exact up _ (.step hw u3 hys)
    · have hn : abF ms b = none := by
        cases h : abF ms b with
        | none => rfl
        | some w => rw [h] at c; simp at c
      exact s_ret (ev_var rfl) fun G2 g2 => k _ [l] G2 ((eG.trans g1).trans g2) (fun r hr => by rw [List.mem_singleton.mp hr]; exact hl) ⟨l, xs ++ [b], rfl, rfl, (hl'.go g1).go g2, up _ (.top hn), few⟩
/-! Search.meet -/
def sp_Search_meet (CS CN : Addr) : Sp := newSp fun H vs S => ∃ q a m bl al ol W ms root bsl abl outl rk one other, vs = [.ref q, vn one, vn other] ∧ SrOk CS CN H q a m bl al ol W ms root bsl abl outl rk ∧ one ∈ outl ∧ other ∈ outl ∧
  S = fun u fs G => ∃ top, u = vn top ∧ Anc (abF ms) (abF abl) (bsF bsl) (bsF bsl one) top ∧ Anc (abF ms) (abF abl) (bsF bsl) (bsF bsl other) top ∧ ∀ c, Anc (abF ms) (abF abl) (bsF bsl) (bsF bsl one) c → Anc (abF ms) (abF abl) (bsF bsl) (bsF bsl other) c → Anc (abF ms) (abF abl) (bsF bsl) top c
theorem ok_Search_meet (T : Txt K mg) : FnOk P w K mg base CX0 2 T.f_Search_meet T.fd_Search_meet ["self", "one", "other"] (sp_Search_meet T.C_Search T.C_Net) := by
  refine T.F_Search_meet.ok sc_Search_meet (fun vs H Q E h => ?_) (fun cdv A outer s H vs Q E hr h => ?_)
  · obtain ⟨S, ⟨q, a, m, bl, al, ol, W, ms, root, bsl, abl, outl, rk, one, other, rfl, _⟩, _⟩ := h
    rfl
  · obtain ⟨S, ⟨q, a, m, bl, al, ol, W, ms, root, bsl, abl, outl, rk, one, other, rfl, x, h1, h2, rfl⟩, k⟩ := h
    refine ⟨_, (pss_cons (ps_set (i := 3) sc_Search_meet.nd rfl (Or.inr rfl) (pe_meth (pv 0) T.cl_Search T.m_Search_bases_up (ok_Search_bases_up T) (hr.mono (by decide)) T.b_Search_bases_up .nil pass0 (pa_cons (pv 1) pa_nil)))
  (pss_one (ps_ret (pe_ix (r := rIxL K) ix_list (pe_lc (own := [("place", 4)]) (g := gName 4) rfl sc_Search_meet.nd (pi_list (pe_meth (pv 0) T.cl_Search T.m_Search_bases_up (ok_Search_bases_up T) (hr.mono (by decide)) T.b_Search_bases_up .nil pass0 (pa_cons (pv 2) pa_nil))) (blkOk_by (own := [("place", 4)]) (N := N_Search_meet) (sc := defScope s_Search_meet) (by decide +kernel)) (fun _ _ _ _ _ => (pg_name (i := 4) sc_Search_meet.nd rfl (Or.inl rfl))) (fun _ _ _ _ _ => (pts_one (pt_cmpR (r := rIn K false) op_in_seq (pv 4) (pv 3) (by with_unfolding_all rfl)))) (fun _ _ _ _ _ => (pv 4))) pe_int (fun _ _ => rfl))))), ?_⟩
    have e0 : start N_Search_meet [.ref q, vn one, vn other] = [some (.ref q), some (vn one), some (vn other), none, none] := rfl
    rw [e0]
    have sm := x.pw.ok.small
    have upE : ∀ {σ : L2.St} {G : Hp} {te tb : TE} (p : Nat), p ∈ outl → Ex H G → Ev te σ G (.ref q) → Ev tb σ G (vn p) → EvN (tMeth T.C_Search "bases_up" (sp_Search_bases_up T.C_Search T.C_Net) [] E0 te (tCons tb tNil)) σ G (fun u fs G => ∃ l xs, u = .ref l ∧ fs = [l] ∧ Ints G l xs ∧ UpL (abF ms) (abF abl) (bsF bsl) (bsF bsl p) xs ∧ xs.length ≤ W.size) := fun p hp e h h2 => by
      obtain ⟨dx, hq⟩ := (x.here.go e).ins
      exact en_meth (vs := [vn p]) h hq (srF_no _ _ _ _ _ _ (by decide +kernel) (by decide +kernel) (by decide +kernel) (by decide +kernel) (by decide +kernel) (by decide +kernel)) (ea_cons h2 ea_nil) fun G1 g1 => ⟨q, a, m, bl, al, ol, W, ms, root, bsl, abl, outl, rk, p, rfl, (x.go e).go g1, hp, rfl⟩
    refine q_asgN (upE one h1 (Ex.refl H) (ev_var rfl) (ev_var rfl)) fun v fs H1 e1 fr r => ?_
    obtain ⟨l1, xs, rfl, rfl, hl1, u1, f1⟩ := r
    refine s_retN (R := fun v fs G => ∃ top, v = vn top ∧ Anc (abF ms) (abF abl) (bsF bsl) (bsF bsl one) top ∧ Anc (abF ms) (abF abl) (bsF bsl) (bsF bsl other) top ∧ ∀ c, Anc (abF ms) (abF abl) (bsF bsl) (bsF bsl one) c → Anc (abF ms) (abF abl) (bsF bsl) (bsF bsl other) c → Anc (abF ms) (abF abl) (bsF bsl) top c) (fun G g Q' kk => ?_) fun v fs G g fr r => k v fs G (e1.trans g) (fun p hp => fresh_back e1 (fr p hp)) r
    unfold tOp
    refine upE other h2 (e1.trans g) (ev_var rfl) (ev_var rfl) G (Ex.refl G) _ fun v fs G1 g1 fr r => ?_
    obtain ⟨l2, ys, rfl, rfl, hl2, u2, f2⟩ := r
    have rt := x.ps.si.to_root _ _ (Nat.le_refl _) (x.ps.si.isB h1)
    have rt2 := x.ps.si.to_root _ _ (Nat.le_refl _) (x.ps.si.isB h2)
    obtain ⟨top, t1, t2, t3, t4⟩ := meet_of u1 u2 root ((u1.mem root).mpr rt) ((u2.mem root).mpr rt2)
    have hl1' := (hl1.go g).go g1
    have hf : EvL (tLc (iList K (fun _ G Q => Q (.ref l2) G)) (gName 4) (tTest (tOp (rIn K false) (tVar 4) (tVar 3))) (tVar 4) [4]) [some (.ref q), some (vn one), some (vn other), some (.ref l1), none] G1 ((ys.filter fun z => decide (z ∈ xs)).map vn) := el_filt (K := K) (tl := fun _ G Q => Q (.ref l2) G) (l := ys) (g := vn) 0 (fun z => decide (z ∈ xs)) vn (fun G _ Q q => q G (Ex.refl G)) (sq_of hl2) (by omega) (fun _ => rfl) (fun z G2 g2 hz => et_is (et_test (ev_op (ev_var rfl) (ev_var rfl) (rv_in (sq_of (hl1'.go g2)) rfl (flat_nats xs) rfl))) (by simp [inV_nat])) (fun z G2 g2 hz _ => ev_var rfl)
    refine hf G1 (Ex.refl G1) (fun x H1 => tC (.int 0) [some (.ref q), some (vn one), some (vn other), some (.ref l1), none] H1 fun y H2 => rIxL K x y H2 Q') fun p G2 hp g2 hpl => ?_
    refine (ev_c : Ev (tC (.int 0)) [some (.ref q), some (vn one), some (vn other), some (.ref l1), none] G2 (.int 0)) G2 (Ex.refl G2) _ fun G3 g3 => ?_
    exact rv_ixL (K := K) (p := p) (sq_of (g3 _ _ hpl)) (atI_nat (j := 0) (map_get' t1)) G3 (Ex.refl G3) _ fun G4 g4 => kk (vn top) [] G4 (((g1.trans g2).trans g3).trans g4) (fun _ h => nomatch h) ⟨top, rfl, t2, t3, t4⟩
/-! Search.mark -/
def sp_Search_mark (CS CN : Addr) : Sp := fun vs H Q _ => ∃ q a m bl al ol W ms root ring place top child bsl abl ks S t, vs = [.ref q, vn place, vn top, vn child, .ref ring] ∧ SrAt CS CN (cutH [al, ring] H) q a m bl al ol W ms root ∧ Ints (cutH [al, ring] H) bl bsl ∧ Opts H al abl ∧ Keys H ring ks ∧ W.size ≤ 40 ∧ ms.length = W.size ∧ bsl.length = W.size ∧ abl.length = W.size ∧
  MK (abF ms) (abF abl) (bsF bsl) top place S t ∧ S.Nodup ∧ (∀ x ∈ S, x < W.size ∧ bsF bsl x < W.size) ∧ t < W.size ∧ ks.Nodup ∧ (∀ k ∈ ks, k < W.size) ∧
  ∀ H' abl' ks', Ex (cutH [al, ring] H) H' → Opts H' al abl' → abl'.length = W.size → abF abl' = mkAb (abF abl) S child → Keys H' ring ks' → ks'.Nodup → (∀ k ∈ ks', k < W.size) → (∀ b, b ∈ ks' ↔ b ∈ ks ∨ ∃ y ∈ S, bsF bsl y = b) → Q .non H'
theorem mk_start {mt ab : Nat → Option Nat} {bs : Nat → Nat} {top v t : Nat} {S : List Nat} (k : MK mt ab bs top v S t) {n : Nat} (h : ∀ x ∈ S, x < n) (ht : t < n) : v < n := by
  cases k with
  | done _ => exact ht
  | step _ _ _ _ => exact h v (by simp)
theorem addK_nd {ks : List Nat} {k : Nat} (h : ks.Nodup) : (addK ks k).Nodup := by
  unfold addK
  split
  · exact h
  · rename_i n
    exact List.nodup_append.mpr ⟨h, by simp, fun a ha b hb e => n (by rw [List.mem_singleton.mp hb] at e; rw [← e]; exact ha)⟩
theorem ok_Search_mark (T : Txt K mg) : FnOk P w K mg base CX0 1 T.f_Search_mark T.fd_Search_mark ["self", "place", "top", "child", "ring"] (sp_Search_mark T.C_Search T.C_Net) := by
  refine T.F_Search_mark.ok sc_Search_mark (fun vs H Q E h => ?_) (fun cdv A outer s H vs Q E hr h => ?_)
  · obtain ⟨q, a, m, bl, al, ol, W, ms, root, ring, place, top, child, bsl, abl, ks, S, t, rfl, _⟩ := h
    rfl
  · obtain ⟨q, a, m, bl, al, ol, W, ms, root, ring, place, top, child, bsl, abl, ks, S, t, rfl, x, hbs, hab, hk, sm, ml, bll, all, mk, ndS, ltS, ltt, ndk, ltk, k⟩ := h
    refine ⟨_, (pss_one (ps_while PassesOwn.never (pt_cmpR op_ne (pe_ix (r := rIxL K) ix_list (pe_fldB (K := K) rfl (pv 0) rfl) (pv 1) (fun _ _ => rfl)) (pv 2) (nomark _)) (pss_cons (ps_dput (hu_of hr) (pv 4) (pe_ix (r := rIxL K) ix_list (pe_fldB (K := K) rfl (pv 0) rfl) (pv 1) (fun _ _ => rfl)) pe_bl rfl)
  (pss_cons (ps_dput (hu_of hr) (pv 4) (pe_ix (r := rIxL K) ix_list (pe_fldB (K := K) rfl (pv 0) rfl) (pe_ix (r := rIxL K) ix_list (pe_fldB (K := K) rfl (pv 0) rfl) (pv 1) (fun _ _ => rfl)) (fun _ _ => rfl)) pe_bl rfl)
  (pss_cons (ps_asg (pv 3) (pg_sub (pe_fldB (K := K) rfl (pv 0) rfl) (pv 1) set_list))
  (pss_cons (ps_set (i := 3) sc_Search_mark.nd rfl (Or.inl rfl) (pe_ix (r := rIxL K) ix_list (pe_fldB (K := K) rfl (pv 0) rfl) (pv 1) (fun _ _ => rfl)))
  (pss_one (ps_set (i := 1) sc_Search_mark.nd rfl (Or.inl rfl) (pe_ix (r := rIxL K) ix_list (pe_fldB (K := K) rfl (pv 0) rfl) (pv 3) (fun _ _ => rfl)))))))))), ?_⟩
    have e0 : start N_Search_mark [.ref q, vn place, vn top, vn child, .ref ring] = [some (.ref q), some (vn place), some (vn top), some (vn child), some (.ref ring)] := rfl
    rw [e0]
    obtain ⟨B, hB⟩ : ∃ B, B = cutH [al, ring] H := ⟨_, rfl⟩
    rw [← hB] at x hbs k
    have alN : B al = none := by rw [hB]; exact cutH_none (by simp)
    have rN : B ring = none := by rw [hB]; exact cutH_none (by simp)
    have eB : Ex B H := by rw [hB]; exact cutH_ex _ _
    have alr : al ≠ ring := fun z => by
      have h1 : H al = _ := hab
      rw [z, show H ring = _ from hk] at h1
      cases h1
    refine s_while (fun μ σ' G => ∃ v c abl' ks' S', σ' = [some (.ref q), some (vn v), some (vn top), some (vn c), some (.ref ring)] ∧ Ex B G ∧ Opts G al abl' ∧ Keys G ring ks' ∧ abl'.length = W.size ∧ MK (abF ms) (abF abl') (bsF bsl) top v S' t ∧ S'.Nodup ∧ (∀ x ∈ S', x < W.size ∧ bsF bsl x < W.size) ∧ ks'.Nodup ∧ (∀ k ∈ ks', k < W.size) ∧
        mkAb (abF abl') S' c = mkAb (abF abl) S child ∧ (∀ b, (b ∈ ks' ∨ ∃ y ∈ S', bsF bsl y = b) ↔ (b ∈ ks ∨ ∃ y ∈ S, bsF bsl y = b)) ∧ μ = S'.length) S.length
      ⟨place, child, abl, ks, S, rfl, eB, hab, hk, all, mk, ndS, ltS, ndk, ltk, rfl, fun b => Iff.rfl, rfl⟩ ?_
    rintro μ σ' G ⟨v, c, abl', ks', S', rfl, eG, hab', hk', all', mk', nd', lt', ndk', ltk', eq, mem, rfl⟩
    have vW : v < W.size := mk_start mk' (fun x hx => (lt' x hx).1) ltt
    have bE : ∀ {σ : L2.St} {G : Hp} {te tb : TE} {i : Nat}, Ex B G → Ev te σ G (.ref q) → Ev tb σ G (vn i) → i < W.size → Ev (tOp (rIxL K) (tFld K te "base") tb) σ G (vn (bsF bsl i)) := fun e h h2 lt => ev_sbaseAt (x.go e) (hbs.go e) T.cl_Search T.na_Search_base h h2 (by rw [bll]; exact lt)
    have mE : ∀ {σ : L2.St} {G : Hp} {te tb : TE} {i : Nat}, Ex B G → Ev te σ G (.ref q) → Ev tb σ G (vn i) → i < W.size → Ev (tOp (rIxL K) (tFld K te "mates") tb) σ G (vo (abF ms i)) := fun e h h2 lt => ev_smatesAt (x.go e) T.cl_Search T.na_Search_mates h h2 (by rw [ml]; exact lt)
    refine ⟨!decide (bsF bsl v = top), et_is (et_test (ev_op (bE eG (ev_var rfl) (ev_var rfl) vW) (ev_var rfl) (rv_ne rfl))) (by rw [dec_nat]), fun cc G1 g1 => ?_, fun cc G1 g1 => ?_⟩
    · have ne : bsF bsl v ≠ top := by simpa using cc
      cases mk' with
      | done e => exact absurd e ne
      | @step _ w z _ S2 h0 h1 h2 mk2 =>
        have wl := lt' w (by simp)
        obtain ⟨n1, n2⟩ := List.nodup_cons.mp nd'
        obtain ⟨n3, n4⟩ := List.nodup_cons.mp n2
        have fewk := few_of ndk' ltk'
        have eG1 := eG.trans g1
        refine ⟨_, fun σ2 G2 hN => hN, ?_⟩
        refine q_dput (ev_var rfl) (bE eG1 (ev_var rfl) (ev_var rfl) vW) ev_c (hk'.go g1) (by omega) fun G2 g2 => ?_
        obtain ⟨G3, hG3⟩ : ∃ G3, G3 = upd G2 ring (.dK ((addK ks' (bsF bsl v)).map keyP)) := ⟨_, rfl⟩
        rw [← hG3]
        have eG3 : Ex B G3 := by rw [hG3]; exact (eG1.trans g2).mut rN
        have a3 : Opts G3 al abl' := by show G3 al = _; rw [hG3, upd_ne alr]; exact g2 _ _ (g1 _ _ hab')
        have k3 : Keys G3 ring (addK ks' (bsF bsl v)) := by show G3 ring = _; rw [hG3, upd_same]
        have nd3 := addK_nd (k := bsF bsl v) ndk'
        have vb := (lt' v (by simp)).2
        have lt3 : ∀ k ∈ addK ks' (bsF bsl v), k < W.size := fun k hk => (mem_addK.mp hk).elim (ltk' k) fun e => by rw [e]; exact vb
        have few3 := few_of nd3 lt3
        refine q_dput (ev_var rfl) (bE eG3 (ev_var rfl) (ev_is (mE eG3 (ev_var rfl) (ev_var rfl) vW) (by rw [h1]; rfl)) wl.1) ev_c k3 (by omega) fun G4 g4 => ?_
        obtain ⟨G5, hG5⟩ : ∃ G5, G5 = upd G4 ring (.dK ((addK (addK ks' (bsF bsl v)) (bsF bsl w)).map keyP)) := ⟨_, rfl⟩
        rw [← hG5]
        have eG5 : Ex B G5 := by rw [hG5]; exact (eG3.trans g4).mut rN
        have a5 : G5 al = some (.lst (abl'.map vo)) := by rw [hG5, upd_ne alr]; exact g4 _ _ a3
        have k5 : Keys G5 ring (addK (addK ks' (bsF bsl v)) (bsF bsl w)) := by show G5 ring = _; rw [hG5, upd_same]
        have nd5 := addK_nd (k := bsF bsl w) nd3
        have lt5 : ∀ k ∈ addK (addK ks' (bsF bsl v)) (bsF bsl w), k < W.size := fun k hk => (mem_addK.mp hk).elim (lt3 k) fun e => by rw [e]; exact wl.2
        refine q_setL (l := al) (v := vn c) a5 (ev_var rfl) (ev_sabove (x.go eG5) T.cl_Search T.na_Search_above (ev_var rfl)) (ev_var rfl) (by rw [List.length_map, all']; exact vW) fun G6 g6 => ?_
        have m1 : (abl'.map vo).set v (vn c) = (abl'.set v (some c)).map vo := by rw [List.map_set]; rfl
        rw [m1]
        obtain ⟨G7, hG7⟩ : ∃ G7, G7 = upd G6 al (.lst ((abl'.set v (some c)).map vo)) := ⟨_, rfl⟩
        rw [← hG7]
        have eG7 : Ex B G7 := by rw [hG7]; exact (eG5.trans g6).mut alN
        have a7 : Opts G7 al (abl'.set v (some c)) := by show G7 al = _; rw [hG7, upd_same]
        have k7 : Keys G7 ring (addK (addK ks' (bsF bsl v)) (bsF bsl w)) := by show G7 ring = _; rw [hG7, upd_ne (Ne.symm alr)]; exact g6 _ _ k5
        have al7 : (abl'.set v (some c)).length = W.size := by rw [List.length_set]; exact all'
        have f7 : abF (abl'.set v (some c)) = upo (abF abl') v (some c) := abF_set (by rw [all']; exact vW)
        refine q_asg (v := vn w) (ev_is (mE eG7 (ev_var rfl) (ev_var rfl) vW) (by rw [h1]; rfl)) fun G8 g8 => ?_
        have eG8 := eG7.trans g8
        have wv : w ≠ v := fun e => n1 (by rw [e]; simp)
        refine s_asg (v := vn z) (ev_is (ev_saboveAt (x.go eG8) (a7.go g8) T.cl_Search T.na_Search_above (ev_var rfl) (ev_var rfl) (by rw [al7]; exact wl.1)) (by rw [f7, upo_ne wv, h2]; rfl)) fun G9 g9 => ?_
        refine ⟨S2.length, by simp; omega, z, w, _, _, S2, rfl, eG8.trans g9, (a7.go g8).go g9, (k7.go g8).go g9, al7, ?_, n4, fun y hy => lt' y (by simp [hy]), nd5, lt5, ?_, fun b => ?_, rfl⟩
        · rw [f7]
          refine mk2.same fun y hy => upo_ne fun e => n1 ?_
          rw [← e]
          simp [odds_mem hy]
        · rw [f7, ← eq]
          rfl
        · rw [← mem b, mem_addK, mem_addK]
          constructor
          · rintro (((h | h) | h) | ⟨y, hy, h⟩)
            · exact .inl h
            · exact .inr ⟨v, by simp, h.symm⟩
            · exact .inr ⟨w, by simp, h.symm⟩
            · exact .inr ⟨y, by simp [hy], h⟩
          · rintro (h | ⟨y, hy, h⟩)
            · exact .inl (.inl (.inl h))
            · simp only [List.mem_cons] at hy
              rcases hy with e | e | e
              · exact .inl (.inl (.inr (by rw [← h, e])))
              · exact .inl (.inr (by rw [← h, e]))
              · exact .inr ⟨y, e, h⟩
    · have e : bsF bsl v = top := by simpa using cc
      cases mk' with
      | step h0 _ _ _ => exact absurd e h0
      | done _ =>
        refine k G1 abl' ks' (eG.trans g1) (hab'.go g1) all' eq (hk'.go g1) ndk' ltk' fun b => ?_
        rw [← mem b]
        exact ⟨.inl, fun h => h.elim id fun ⟨y, hy, _⟩ => nomatch hy⟩
/-! Search.close -/
structure Adv (bsl : List Nat) (abl : List (Option Nat)) (outl : List Nat) (bsl' : List Nat) (abl' : List (Option Nat)) (outl' : List Nat) : Prop where
  bs : ∀ x y, bsF bsl x = bsF bsl y → bsF bsl' x = bsF bsl' y
  ab : ∀ x, abF abl x ≠ none → abF abl' x ≠ none
  out : ∃ more, outl' = outl ++ more
theorem Adv.refl (bsl : List Nat) (abl : List (Option Nat)) (outl : List Nat) : Adv bsl abl outl bsl abl outl := ⟨fun _ _ h => h, fun _ h => h, [], (List.append_nil _).symm⟩
theorem q_dropMeth {σ : L2.St} {H : Hp} {ta : TE} {tr : TA} {D : Ends} {tz : TS} {C a dx : Addr} {m : Str} {sp : Sp} {dvs : List V} {E : XK} {fs : List (Str × V)} (ho : Ev ta σ H (.ref a)) (ha : H a = some (.ins C dx fs)) (no : fs.lookup m = none) (k : ∀ H1, Ex H H1 → tr σ H1 fun vs H2 => sp (.ref a :: (vs ++ dvs)) H2 (fun _ H3 => tz D σ H3) E) :
    tSeq (tDrop (tMeth C m sp dvs E ta tr)) tz D σ H := s_dropMeth (D := { D with nx := tz D }) ho ha no k
def sp_Search_close (CS CN : Addr) : Sp := fun vs H Q _ => ∃ q a m bl al ol W ms root bsl abl outl rk one other, vs = [.ref q, vn one, vn other] ∧ SrOk CS CN H q a m bl al ol W ms root bsl abl outl rk ∧ one ∈ outl ∧ other ∈ outl ∧ other ∈ nbOf W one ∧
  ∀ H' bsl' abl' outl', Ex (cutH [bl, al, ol] H) H' → SrOk CS CN H' q a m bl al ol W ms root bsl' abl' outl' rk → Adv bsl abl outl bsl' abl' outl' → bsF bsl' one = bsF bsl' other → Q .non H'
theorem ok_Search_close (T : Txt K mg) : FnOk P w K mg base CX0 3 T.f_Search_close T.fd_Search_close ["self", "one", "other"] (sp_Search_close T.C_Search T.C_Net) := by
  refine T.F_Search_close.ok sc_Search_close (fun vs H Q E h => ?_) (fun cdv A outer s H vs Q E hr h => ?_)
  · obtain ⟨q, a, m, bl, al, ol, W, ms, root, bsl, abl, outl, rk, one, other, rfl, _⟩ := h
    rfl
  · obtain ⟨q, a, m, bl, al, ol, W, ms, root, bsl, abl, outl, rk, one, other, rfl, x, h1, h2, tie, k⟩ := h
    refine ⟨_, (pss_cons (ps_set (i := 3) sc_Search_close.nd rfl (Or.inl rfl) (pe_meth (pv 0) T.cl_Search T.m_Search_meet (ok_Search_meet T) (hr.mono (by decide)) T.b_Search_meet .nil pass0 (pa_cons (pv 1) (pa_cons (pv 2) pa_nil))))
  (pss_cons (ps_set (i := 4) sc_Search_close.nd rfl (Or.inl rfl) pe_dnewK)
  (pss_cons (ps_expr (pe_meth (pv 0) T.cl_Search T.m_Search_mark (ok_Search_mark T) (hr.mono (by decide)) T.b_Search_mark .nil pass0 (pa_cons (pv 1) (pa_cons (pv 3) (pa_cons (pv 2) (pa_cons (pv 4) pa_nil))))))
  (pss_cons (ps_expr (pe_meth (pv 0) T.cl_Search T.m_Search_mark (ok_Search_mark T) (hr.mono (by decide)) T.b_Search_mark .nil pass0 (pa_cons (pv 2) (pa_cons (pv 3) (pa_cons (pv 1) (pa_cons (pv 4) pa_nil))))))
  (pss_one (ps_for PassesOwn.never rfl (pi_range1 (by rfl) T.n_range (pa_cons (pe_fldB (K := K) rfl (pe_fldB (K := K) rfl (pv 0) rfl) rfl) pa_nil)) (pg_name (i := 5) sc_Search_close.nd rfl (Or.inl rfl))
    (pss_one (ps_if (pt_cmp (pc_din (hu_of hr) (pe_ix (r := rIxL K) ix_list (pe_fldB (K := K) rfl (pv 0) rfl) (pv 5) (fun _ _ => rfl)) (pv 4))) (pss_cons (ps_asg (pv 3) (pg_sub (pe_fldB (K := K) rfl (pv 0) rfl) (pv 5) set_list))
  (pss_one (ps_if (pt_cmpR (r := rIn K true) op_notIn_seq (pv 5) (pe_fldB (K := K) rfl (pv 0) rfl) (by with_unfolding_all rfl)) (pss_one (ps_expr (pe_bm PySem.F.plainAttrs_list PySem.F.slot_list_append PySem.F.type_list_append mt_append (pe_fldB (K := K) rfl (pv 0) rfl) (pa_cons (pv 5) pa_nil)))) pss_nil))) pss_nil)))))))), ?_⟩
    have e0 : start N_Search_close [.ref q, vn one, vn other] = [some (.ref q), some (vn one), some (vn other), none, none, none] := rfl
    rw [e0]
    have sm := x.pw.ok.small
    obtain ⟨B, hB⟩ : ∃ B, B = cutH [bl, al, ol] H := ⟨_, rfl⟩
    have xB := x.at_
    rw [← hB] at xB k
    have blN : B bl = none := by rw [hB]; exact cutH_none (by simp)
    have alN : B al = none := by rw [hB]; exact cutH_none (by simp)
    have olN : B ol = none := by rw [hB]; exact cutH_none (by simp)
    have eB : Ex B H := by rw [hB]; exact cutH_ex _ _
    have no6 : ∀ {s : Str}, (s == ("web" : Str)) = false → (s == ("mates" : Str)) = false → (s == ("root" : Str)) = false → (s == ("base" : Str)) = false → (s == ("above" : Str)) = false → (s == ("outer" : Str)) = false → (srF a m root bl al ol).lookup s = none := fun a1 a2 a3 a4 a5 a6 => srF_no _ _ _ _ _ _ a1 a2 a3 a4 a5 a6
    obtain ⟨dx, hq⟩ := x.here.ins
    refine q_asgN (en_meth (vs := [vn one, vn other]) (ev_var rfl) hq (no6 (by decide +kernel) (by decide +kernel) (by decide +kernel) (by decide +kernel) (by decide +kernel) (by decide +kernel)) (ea_cons (ev_var rfl) (ea_cons (ev_var rfl) ea_nil)) fun G1 g1 => ⟨q, a, m, bl, al, ol, W, ms, root, bsl, abl, outl, rk, one, other, rfl, x.go g1, h1, h2, rfl⟩) fun v fs H1 e1 fr r => ?_
    obtain ⟨top, rfl, a1, a2, a3⟩ := r
    have ib1 := x.ps.si.isB h1
    have ib2 := x.ps.si.isB h2
    obtain ⟨S, t, k1⟩ := x.ps.si.mkEx x.pw.m _ one (Nat.le_refl _) h1 a1
    obtain ⟨S', t', k2⟩ := x.ps.si.mkEx x.pw.m _ other (Nat.le_refl _) h2 a2
    obtain ⟨si', dis⟩ := x.ps.si.close x.pw.m x.pw.sym h1 h2 tie a1 a2 a3 k1 k2
    have itop := (x.ps.si.anc a1 ib1).1
    have topW := x.lt itop.1
    have ltS : ∀ {v S t}, Sd (abF ms) (abF abl) (bsF bsl) (fun x => x ∈ outl) top v S t → ∀ y ∈ S, y < W.size ∧ bsF bsl y < W.size := fun kk y hy => by
      obtain ⟨b, b1, _, _, _, b5⟩ := kk.bel y hy
      have yW : y < W.size := by
        rcases b5 with ⟨b5, _⟩ | ⟨_, b5⟩
        · exact x.lt b5
        · exact x.pw.sym.lt b y (x.pw.m.nb b y b5)
      exact ⟨yW, x.ltb yW⟩
    -- ring
    refine q_asgN en_dnew fun v fs H2 e2 fr2 r => ?_
    obtain ⟨ring, rfl, rfl, hring⟩ := r
    have e02 := e1.trans e2
    have eB2 := eB.trans e02
    have rN : B ring = none := fresh_back (eB.trans e1) (fr2 ring List.mem_cons_self)
    have st2 := x.st.go e02
    have nr : ∀ {d : Addr} {ys : List V}, H2 d = some (.lst ys) → d ≠ ring := fun h z => by
      rw [z, show H2 ring = _ from hring] at h
      cases h
    have blr := nr st2.bs
    have alr := nr st2.ab
    have olr := nr st2.out
    have cutE : ∀ {G}, Ex B G → Ex B (cutH [al, ring] G) := fun e => ex_cut e fun d hd => by
      simp only [List.mem_cons, List.mem_nil_iff, or_false] at hd
      rcases hd with rfl | rfl
      · exact alN
      · exact rN
    have nbl : bl ∉ [al, ring] := by simp [x.at_.n1, blr]
    have nol : ol ∉ [al, ring] := by simp [Ne.symm x.at_.n3, olr]
    -- mark one
    refine q_dropMeth (ev_var rfl) (e02 _ _ hq) (no6 (by decide +kernel) (by decide +kernel) (by decide +kernel) (by decide +kernel) (by decide +kernel) (by decide +kernel)) fun G1 g1 => ag_ev (ev_var rfl) fun G2 g2 => ag_ev (ev_var rfl) fun G3 g3 => ag_ev (ev_var rfl) fun G4 g4 => ag_ev (ev_var rfl) fun G5 g5 => ag_nil ?_
    have e25 := (g1.trans g2).trans ((g3.trans g4).trans g5)
    have eB5 := eB2.trans e25
    have st5 := st2.go e25
    refine ⟨q, a, m, bl, al, ol, W, ms, root, ring, one, top, other, bsl, abl, [], S, t, rfl, xB.go (cutE eB5), st5.bs.cut nbl, st5.ab, hring.go e25, sm, x.pw.ml, x.ps.bl, x.ps.al, k1.k, k1.nd, ltS k1, x.lt k1.ot, by simp, fun k hk => (by cases hk), fun H3 abl1 ks1 c3 ab3 al3 f3 kr3 nd3 lt3 mem3 => ?_⟩
    have eB3 := (cutE eB5).trans c3
    have bs3 : Ints H3 bl bsl := (st5.bs.cut nbl).go c3
    have out3 : Ints H3 ol outl := (st5.out.cut nol).go c3
    -- mark other
    obtain ⟨dx3, hq3⟩ := (xB.go eB3).ins
    refine q_dropMeth (ev_var rfl) hq3 (no6 (by decide +kernel) (by decide +kernel) (by decide +kernel) (by decide +kernel) (by decide +kernel) (by decide +kernel)) fun G1 g1 => ag_ev (ev_var rfl) fun G2 g2 => ag_ev (ev_var rfl) fun G3 g3 => ag_ev (ev_var rfl) fun G4 g4 => ag_ev (ev_var rfl) fun G5 g5 => ag_nil ?_
    have e35 := (g1.trans g2).trans ((g3.trans g4).trans g5)
    have eB35 := eB3.trans e35
    have mk2 : MK (abF ms) (abF abl1) (bsF bsl) top other S' t' := k2.k.same fun y hy => by rw [f3, mkAb_out (fun h => dis y h (odds_mem hy))]
    refine ⟨q, a, m, bl, al, ol, W, ms, root, ring, other, top, one, bsl, abl1, ks1, S', t', rfl, xB.go (cutE eB35), (bs3.go e35).cut nbl, ab3.go e35, kr3.go e35, sm, x.pw.ml, x.ps.bl, al3, mk2, k2.nd, ltS k2, x.lt k2.ot, nd3, lt3, fun H4 abl2 ks2 c4 ab4 al4 f4 kr4 nd4 lt4 mem4 => ?_⟩
    have eB4 := (cutE eB35).trans c4
    have bs4 : Ints H4 bl bsl := ((bs3.go e35).cut nbl).go c4
    have out4 : Ints H4 ol outl := ((out3.go e35).cut nol).go c4
    have memR : ∀ b, b ∈ ks2 ↔ Rg (bsF bsl) S S' b := fun b => by
      rw [mem4, mem3]
      constructor
      · rintro ((h | ⟨y, hy, e⟩) | ⟨y, hy, e⟩)
        · cases h
        · exact ⟨y, .inl hy, e⟩
        · exact ⟨y, .inr hy, e⟩
      · rintro ⟨y, hy | hy, e⟩
        · exact .inl (.inr ⟨y, hy, e⟩)
        · exact .inr ⟨y, hy, e⟩
    have fab : abF abl2 = mkAb (mkAb (abF abl) S other) S' one := by rw [f4, f3]
    have szE : ∀ {σ : L2.St} {G : Hp} {te : TE}, Ex B G → Ev te σ G (.ref q) → Ev (tFld K (tFld K te "web") "size") σ G (vn W.size) := fun e h => ev_size (xB.go e).net T.cl_Net T.na_Net_size (ev_sweb (xB.go e) T.cl_Search T.na_Search_web h)
    refine s_forR1 (n := (W.size : Nat)) (ea_cons (szE eB4 (ev_var rfl)) ea_nil) (by omega)
      (fun i σ' G => ∃ x5 bsi more, σ' = [some (.ref q), some (vn one), some (vn other), some (vn top), some (.ref ring), x5] ∧ Ex B G ∧ Ints G bl bsi ∧ Opts G al abl2 ∧ Ints G ol (outl ++ more) ∧ Keys G ring ks2 ∧ bsi.length = W.size ∧ (∀ v, v < i → bsF bsi v = bsC (bsF bsl) S S' top v) ∧ (∀ v, i ≤ v → bsF bsi v = bsF bsl v) ∧ (outl ++ more).Nodup ∧ ∀ y, y ∈ outl ++ more ↔ y ∈ outl ∨ (y < i ∧ Rg (bsF bsl) S S' (bsF bsl y)))
      (fun G g => ⟨none, bsl, [], rfl, eB4.trans g, bs4.go g, ab4.go g, by rw [List.append_nil]; exact out4.go g, kr4.go g, x.ps.bl, fun v hv => absurd hv (Nat.not_lt_zero _), fun _ _ => rfl, by rw [List.append_nil]; exact x.ps.nd, fun y => by simp⟩) ?_ ?_
    · rintro i σ' G hi ⟨x5, bsi, more, rfl, eG, bsG, abG, outG, krG, bli, lo, hi', nd, mem⟩
      have hi : i < W.size := by omega
      have atI : bsF bsi i = bsF bsl i := hi' i (Nat.le_refl _)
      have fewo : (outl ++ more).length ≤ W.size := few_of nd fun y hy => ((mem y).mp hy).elim (x.lt) fun h => by omega
      have bEv : ∀ {σ : L2.St} {G1 : Hp} {te tb : TE}, Ex G G1 → Ev te σ G1 (.ref q) → Ev tb σ G1 (vn i) → Ev (tOp (rIxL K) (tFld K te "base") tb) σ G1 (vn (bsF bsl i)) := fun e h h2 => ev_is (ev_sbaseAt (xB.go (eG.trans e)) (bsG.go e) T.cl_Search T.na_Search_base h h2 (by rw [bli]; exact hi)) (by rw [atI])
      refine s_when (b := decide (bsF bsl i ∈ ks2)) (et_B (ev_din (bEv (Ex.refl G) (ev_var rfl) (ev_var rfl)) (ev_var rfl) krG)) (fun c G1 g1 => ?_) (fun c G1 g1 => ?_)
      · have rg := (memR _).mp (of_decide_eq_true c)
        have b1 : G1 bl = _ := bsG.go g1
        refine q_setL (l := bl) (v := vn top) b1 (ev_var rfl) (ev_sbase (xB.go (eG.trans g1)) T.cl_Search T.na_Search_base (ev_var rfl)) (ev_var rfl) (by rw [List.length_map, bli]; exact hi) fun G2 g2 => ?_
        have m1 : (bsi.map vn).set i (vn top) = (bsi.set i top).map vn := by rw [List.map_set]
        rw [m1]
        obtain ⟨G3, hG3⟩ : ∃ G3, G3 = upd G2 bl (.lst ((bsi.set i top).map vn)) := ⟨_, rfl⟩
        rw [← hG3]
        have g12 := g1.trans g2
        have eG3 : Ex B G3 := by rw [hG3]; exact (eG.trans g12).mut blN
        have bs3' : Ints G3 bl (bsi.set i top) := by show G3 bl = _; rw [hG3, upd_same]
        have ab3' : Opts G3 al abl2 := by show G3 al = _; rw [hG3, upd_ne (Ne.symm x.at_.n1)]; exact g12 _ _ abG
        have out3' : Ints G3 ol (outl ++ more) := by show G3 ol = _; rw [hG3, upd_ne (Ne.symm x.at_.n2)]; exact g12 _ _ outG
        have kr3' : Keys G3 ring ks2 := by show G3 ring = _; rw [hG3, upd_ne (Ne.symm blr)]; exact g12 _ _ krG
        have bl3 : (bsi.set i top).length = W.size := by rw [List.length_set]; exact bli
        have f3' := bsF_set (l := bsi) (x := top) (by rw [bli]; exact hi)
        have lo3 : ∀ v, v < i + 1 → bsF (bsi.set i top) v = bsC (bsF bsl) S S' top v := fun v hv => by
          rw [f3']
          by_cases e : v = i
          · rw [e, upf_eq, bsC, if_pos rg]
          · rw [upf_ne e]; exact lo v (by omega)
        have hi3 : ∀ v, i + 1 ≤ v → bsF (bsi.set i top) v = bsF bsl v := fun v hv => by
          rw [f3', upf_ne (by omega)]
          exact hi' v (by omega)
        refine s_when (b := !decide (i ∈ outl ++ more)) (et_is (et_test (ev_op (ev_var rfl) (ev_souter (xB.go eG3) T.cl_Search T.na_Search_outer (ev_var rfl)) (rv_niL (sq_of out3') rfl (flat_nats _)))) (by rw [inV_nat])) (fun c2 G4 g4 => ?_) (fun c2 G4 g4 => ?_)
        · have ni : i ∉ outl ++ more := of_decide_eq_false (by rw [Bool.not_eq_true'] at c2; exact c2)
          refine s_app (l := ol) (v := vn i) (g4 _ _ out3') (ev_souter (xB.go (eG3.trans g4)) T.cl_Search T.na_Search_outer (ev_var rfl)) (ev_var rfl) (by rw [List.length_map]; omega) fun G5 g5 => ?_
          have g45 := g4.trans g5
          refine ⟨_, bsi.set i top, more ++ [i], rfl, (eG3.trans g45).mut olN, ?_, ?_, ?_, ?_, bl3, lo3, hi3, ?_, fun y => ?_⟩
          · show upd _ _ _ bl = _
            rw [upd_ne x.at_.n2]
            exact g45 _ _ bs3'
          · show upd _ _ _ al = _
            rw [upd_ne x.at_.n3]
            exact g45 _ _ ab3'
          · show upd _ _ _ ol = _
            rw [upd_same]
            simp
          · show upd _ _ _ ring = _
            rw [upd_ne (Ne.symm olr)]
            exact g45 _ _ kr3'
          · rw [← List.append_assoc]
            exact List.nodup_append.mpr ⟨nd, by simp, fun a ha b hb e => ni (by rw [List.mem_singleton.mp hb] at e; rw [← e]; exact ha)⟩
          · rw [← List.append_assoc, List.mem_append, mem, List.mem_singleton]
            constructor
            · rintro ((h | h) | h)
              · exact .inl h
              · exact .inr ⟨by omega, h.2⟩
              · rw [h]; exact .inr ⟨by omega, rg⟩
            · rintro (h | h)
              · exact .inl (.inl h)
              · by_cases e : y = i
                · exact .inr e
                · exact .inl (.inr ⟨by omega, h.2⟩)
        · have yi : i ∈ outl ++ more := of_decide_eq_true (by rw [Bool.not_eq_false'] at c2; exact c2)
          refine ⟨_, bsi.set i top, more, rfl, eG3.trans g4, bs3'.go g4, ab3'.go g4, out3'.go g4, kr3'.go g4, bl3, lo3, hi3, nd, fun y => ?_⟩
          rw [mem]
          constructor
          · rintro (h | h)
            · exact .inl h
            · exact .inr ⟨by omega, h.2⟩
          · rintro (h | h)
            · exact .inl h
            · by_cases e : y = i
              · rw [e]; exact (mem i).mp yi
              · exact .inr ⟨by omega, h.2⟩
      · have nrg : ¬ Rg (bsF bsl) S S' (bsF bsl i) := fun h => of_decide_eq_false c ((memR _).mpr h)
        refine ⟨_, bsi, more, rfl, eG.trans g1, bsG.go g1, abG.go g1, outG.go g1, krG.go g1, bli, fun v hv => ?_, fun v hv => hi' v (by omega), nd, fun y => ?_⟩
        · by_cases e : v = i
          · rw [e, atI, bsC, if_neg nrg]
          · exact lo v (by omega)
        · rw [mem]
          constructor
          · rintro (h | h)
            · exact .inl h
            · exact .inr ⟨by omega, h.2⟩
          · rintro (h | h)
            · exact .inl h
            · by_cases e : y = i
              · exact absurd (by rw [← e]; exact h.2) nrg
              · exact .inr ⟨by omega, h.2⟩
    · rintro σ' G ⟨x5, bsi, more, rfl, eG, bsG, abG, outG, krG, bli, lo, hi', nd, mem⟩
      rw [Int.toNat_natCast] at lo mem
      have ltR : ∀ {y}, Rg (bsF bsl) S S' (bsF bsl y) → y < W.size := fun {y} ⟨z, hz, e⟩ => by
        apply Nat.lt_of_not_le
        intro ge
        have by_ : bsF bsl y = y := by
          unfold bsF
          rw [List.getElem?_eq_none (by rw [x.ps.bl]; exact ge)]
          rfl
        have zl : bsF bsl z < W.size := hz.elim (fun h => (ltS k1 z h).2) fun h => (ltS k2 z h).2
        rw [e, by_] at zl
        omega
      have fbs : bsF bsi = bsC (bsF bsl) S S' top := by
        funext v
        by_cases c : v < W.size
        · exact lo v c
        · rw [hi' v (by omega), bsC, if_neg (fun h => c (ltR h))]
      have mem2 : (fun y => y ∈ outl ++ more) = fun y => y ∈ outl ∨ Rg (bsF bsl) S S' (bsF bsl y) := by
        funext y
        rw [mem]
        exact propext ⟨fun h => h.imp id fun z => z.2, fun h => h.imp id fun z => ⟨ltR z, z⟩⟩
      have eBC : Ex B (cutH [bl, al, ol] G) := ex_cut eG fun d hd => by
        simp only [List.mem_cons, List.mem_nil_iff, or_false] at hd
        rcases hd with rfl | rfl | rfl
        · exact blN
        · exact alN
        · exact olN
      refine k G bsi abl2 (outl ++ more) eG ⟨xB.go eBC, ⟨bsG, abG, outG⟩, x.pw, ⟨?_, nd, bli, al4⟩⟩ ⟨fun u v h => ?_, fun v h => ?_, more, rfl⟩ ?_
      · rw [fbs, fab, mem2]
        exact si'
      · rw [fbs]
        exact bsC_eq h
      · rw [fab]
        exact mkAb_some (mkAb_some h)
      · rw [fbs, bsC_one (.inl k1), bsC_one (.inr k2)]
/-! Search.look -/
theorem Adv.go {b1 o1 b2 o2 b3 o3 : List Nat} {a1 a2 a3 : List (Option Nat)} (x : Adv b1 a1 o1 b2 a2 o2) (y : Adv b2 a2 o2 b3 a3 o3) : Adv b1 a1 o1 b3 a3 o3 := by
  obtain ⟨m, rfl⟩ := x.out
  obtain ⟨m2, rfl⟩ := y.out
  exact ⟨fun u v h => y.bs u v (x.bs u v h), fun u h => y.ab u (x.ab u h), m ++ m2, by rw [List.append_assoc]⟩
/-- looked at: same class, a pair, or an inner one -/
def Seen (W : Web) (ms : List (Option Nat)) (bsl : List Nat) (abl : List (Option Nat)) (outl : List Nat) (place other : Nat) : Prop := bsF bsl place = bsF bsl other ∨ abF ms place = some other ∨ (other ∉ outl ∧ abF abl other ≠ none)
def sp_Search_look (CS CN : Addr) : Sp := fun vs H Q _ => ∃ q a m bl al ol W ms root bsl abl outl rk place other, vs = [.ref q, vn place, vn other] ∧ SrOk CS CN H q a m bl al ol W ms root bsl abl outl rk ∧ place ∈ outl ∧ other ∈ nbOf W place ∧
  (∀ H' bsl' abl' outl' rk', Ex (cutH [bl, al, ol] H) H' → SrOk CS CN H' q a m bl al ol W ms root bsl' abl' outl' rk' → Adv bsl abl outl bsl' abl' outl' → Seen W ms bsl' abl' outl' place other → Q .non H') ∧
  (∀ H', Ex (cutH [bl, al, ol] H) H' → SrSt H' bl al ol bsl (abl.set other (some place)) outl → other ∉ outl → abF ms other = none → Q (vn other) H')
theorem dec_vnv (o : Option Nat) (x : Nat) : decide (vo o = vn x) = decide (o = some x) := by
  cases o with
  | none => simp [vo]
  | some y =>
    show decide (vn y = vn x) = _
    rw [dec_nat]
    simp
theorem ok_Search_look (T : Txt K mg) : FnOk P w K mg base CX0 4 T.f_Search_look T.fd_Search_look ["self", "place", "other"] (sp_Search_look T.C_Search T.C_Net) := by
  refine T.F_Search_look.ok sc_Search_look (fun vs H Q E h => ?_) (fun cdv A outer s H vs Q E hr h => ?_)
  · obtain ⟨q, a, m, bl, al, ol, W, ms, root, bsl, abl, outl, rk, place, other, rfl, _⟩ := h
    rfl
  · obtain ⟨q, a, m, bl, al, ol, W, ms, root, bsl, abl, outl, rk, place, other, rfl, x, hp, tie, k1, k2⟩ := h
    refine ⟨_, (pss_cons (ps_if (PW.pt (pw_or (pt_cmpR op_eq (pe_ix (r := rIxL K) ix_list (pe_fldB (K := K) rfl (pv 0) rfl) (pv 1) (fun _ _ => rfl)) (pe_ix (r := rIxL K) ix_list (pe_fldB (K := K) rfl (pv 0) rfl) (pv 2) (fun _ _ => rfl)) (nomark _)) (pw_or1 (pt_cmpR op_eq (pe_ix (r := rIxL K) ix_list (pe_fldB (K := K) rfl (pv 0) rfl) (pv 1) (fun _ _ => rfl)) (pv 2) (nomark _))))) (pss_one (ps_ret pe_non)) pss_nil)
  (pss_cons (ps_set (i := 3) sc_Search_look.nd rfl (Or.inl rfl) (pe_ix (r := rIxL K) ix_list (pe_fldB (K := K) rfl (pv 0) rfl) (pv 2) (fun _ _ => rfl)))
  (pss_cons (ps_if (PW.pt (pw_or (pt_cmpR op_eq (pv 2) (pe_fldB (K := K) rfl (pv 0) rfl) (nomark _)) (pw_or1 (PW.pt (pw_and (pt_cmpR op_notN (pv 3) pe_non (nomark _)) (pw_and1 (pt_val (pe_meth (pv 0) T.cl_Search T.m_Search_is_inner (ok_Search_is_inner T) (hr.mono (by decide)) T.b_Search_is_inner .nil pass0 (pa_cons (pv 3) pa_nil))))))))) (pss_cons (ps_expr (pe_meth (pv 0) T.cl_Search T.m_Search_close (ok_Search_close T) (hr.mono (by decide)) T.b_Search_close .nil pass0 (pa_cons (pv 1) (pa_cons (pv 2) pa_nil))))
  (pss_one (ps_ret pe_non))) pss_nil)
  (pss_cons (ps_if (pt_val (pe_meth (pv 0) T.cl_Search T.m_Search_is_inner (ok_Search_is_inner T) (hr.mono (by decide)) T.b_Search_is_inner .nil pass0 (pa_cons (pv 2) pa_nil))) (pss_one (ps_ret pe_non)) pss_nil)
  (pss_cons (ps_asg (pv 1) (pg_sub (pe_fldB (K := K) rfl (pv 0) rfl) (pv 2) set_list))
  (pss_cons (ps_if (pt_cmpR op_isN (pv 3) pe_non (nomark _)) (pss_one (ps_ret (pv 2))) pss_nil)
  (pss_cons (ps_expr (pe_bm PySem.F.plainAttrs_list PySem.F.slot_list_append PySem.F.type_list_append mt_append (pe_fldB (K := K) rfl (pv 0) rfl) (pa_cons (pv 3) pa_nil)))
  (pss_one (ps_ret pe_non))))))))), ?_⟩
    have e0 : start N_Search_look [.ref q, vn place, vn other] = [some (.ref q), some (vn place), some (vn other), none] := rfl
    rw [e0]
    have sm := x.pw.ok.small
    have pW := x.lt hp
    have oW : other < W.size := x.pw.sym.lt _ _ tie
    obtain ⟨B, hB⟩ : ∃ B, B = cutH [bl, al, ol] H := ⟨_, rfl⟩
    have xB := x.at_
    rw [← hB] at xB k1 k2
    have alN : B al = none := by rw [hB]; exact cutH_none (by simp)
    have olN : B ol = none := by rw [hB]; exact cutH_none (by simp)
    have eB : Ex B H := by rw [hB]; exact cutH_ex _ _
    have no6 : ∀ {s : Str}, (s == ("web" : Str)) = false → (s == ("mates" : Str)) = false → (s == ("root" : Str)) = false → (s == ("base" : Str)) = false → (s == ("above" : Str)) = false → (s == ("outer" : Str)) = false → (srF a m root bl al ol).lookup s = none := fun a1 a2 a3 a4 a5 a6 => srF_no _ _ _ _ _ _ a1 a2 a3 a4 a5 a6
    obtain ⟨dx, hq⟩ := x.here.ins
    have bE : ∀ {σ : L2.St} {G : Hp} {te tb : TE} {i : Nat}, Ex H G → Ev te σ G (.ref q) → Ev tb σ G (vn i) → i < W.size → Ev (tOp (rIxL K) (tFld K te "base") tb) σ G (vn (bsF bsl i)) := fun e h h2 lt => ev_sbaseAt (x.here.go e) (x.st.bs.go e) T.cl_Search T.na_Search_base h h2 (by rw [x.ps.bl]; exact lt)
    have mE : ∀ {σ : L2.St} {G : Hp} {te tb : TE} {i : Nat}, Ex H G → Ev te σ G (.ref q) → Ev tb σ G (vn i) → i < W.size → Ev (tOp (rIxL K) (tFld K te "mates") tb) σ G (vo (abF ms i)) := fun e h h2 lt => ev_smatesAt (x.here.go e) T.cl_Search T.na_Search_mates h h2 (by rw [x.pw.ml]; exact lt)
    have stay : ∀ {G}, Ex H G → Seen W ms bsl abl outl place other → Q .non G := fun e s => k1 _ bsl abl outl rk (eB.trans e) (x.go e) (Adv.refl _ _ _) s
    refine q_when (b := decide (bsF bsl place = bsF bsl other) || decide (abF ms place = some other)) (et_or (et_is (et_test (ev_op (bE (Ex.refl H) (ev_var rfl) (ev_var rfl) pW) (bE (Ex.refl H) (ev_var rfl) (ev_var rfl) oW) (rv_eq rfl))) (dec_nat _ _)) fun _ => et_is (et_test (ev_op (mE (Ex.refl H) (ev_var rfl) (ev_var rfl) pW) (ev_var rfl) (rv_eq (by cases abF ms place <;> rfl)))) (dec_vnv _ _)) (fun c H1 e1 => ?_) (fun c H1 e1 => ?_)
    · refine s_ret ev_c fun G g => stay (e1.trans g) ?_
      rcases (Bool.or_eq_true _ _).mp c with h | h
      · exact .inl (of_decide_eq_true h)
      · exact .inr (.inl (of_decide_eq_true h))
    rw [Bool.or_eq_false_iff] at c
    have c1 := of_decide_eq_false c.1
    have c2 := of_decide_eq_false c.2
    refine q_asg (mE e1 (ev_var rfl) (ev_var rfl) oW) fun H2 e2 => ?_
    have e02 := e1.trans e2
    have x2 := x.go e02
    have innE : ∀ {σ : L2.St} {G : Hp} {te tb : TE} {i : Nat}, Ex H G → Ev te σ G (.ref q) → Ev tb σ G (vn i) → i < W.size → Ev (tMeth T.C_Search "is_inner" (sp_Search_is_inner T.C_Search T.C_Net) [] E0 te (tCons tb tNil)) σ G (.bl (abF abl i).isSome) := fun {σ G te tb i} e h h2 lt G1 g1 Q' q' => h G1 g1 _ fun G2 g2 => by
      obtain ⟨dx, hq⟩ := (x.here.go ((e.trans g1).trans g2)).ins
      exact ⟨q, dx, _, rfl, hq, no6 (by decide +kernel) (by decide +kernel) (by decide +kernel) (by decide +kernel) (by decide +kernel) (by decide +kernel), ag_ev (h2.mono (g1.trans g2)) fun G3 g3 => ag_nil ⟨_, ⟨q, a, m, bl, al, ol, W, ms, root, bsl, abl, outl, rk, i, rfl, x.go (((e.trans g1).trans g2).trans g3), lt, rfl⟩, fun G4 g4 => q' G4 ((g2.trans g3).trans g4)⟩⟩
    have isO := x.ps.si.outer_iff x.pw.m (x := other)
    have rtE : ∀ {σ : L2.St} {G : Hp} {te : TE}, Ex H G → Ev te σ G (.ref q) → Ev (tFld K te "root") σ G (vn root) := fun e h => ev_sroot (x.here.go e) T.cl_Search T.na_Search_root h
    have matE : ∀ {mate}, abF ms other = some mate → mate < W.size := fun {mate} h => x.pw.sym.lt _ _ (x.pw.m.nb _ _ h)
    refine q_when (b := decide (other ∈ outl)) (et_is (et_or (a := decide (other = root)) (b := (abF ms other).any fun z => (abF abl z).isSome) (et_is (et_test (ev_op (ev_var rfl) (rtE e02 (ev_var rfl)) (rv_eq rfl))) (dec_nat _ _)) fun _ => et_is (et_and (a := !(abF ms other).isNone) (b := (abF ms other).any fun z => (abF abl z).isSome) (et_is (et_test (ev_op (ev_var rfl) ev_c rv_notN)) (by rw [dec_voN])) fun hs => ?_) (by cases abF ms other <;> simp)) ?_) (fun c H3 e3 => ?_) (fun c H3 e3 => ?_)
    · obtain ⟨mate, hm⟩ : ∃ mate, abF ms other = some mate := by
        cases h : abF ms other with
        | none => rw [h] at hs; simp at hs
        | some z => exact ⟨z, rfl⟩
      exact et_is (et_B (innE (i := mate) e02 (ev_var rfl) (ev_var (by rw [hm]; rfl)) (matE hm))) (by rw [hm]; rfl)
    · rw [Bool.eq_iff_iff, Bool.or_eq_true, decide_eq_true_iff, decide_eq_true_iff, isO]
      refine or_congr_right ?_
      cases h : abF ms other with
      | none => simp
      | some z =>
        simp only [Option.any_some, Option.some.injEq, Option.isSome_iff_exists]
        constructor
        · rintro ⟨y, hy⟩
          exact ⟨z, y, rfl, hy⟩
        · rintro ⟨y, u, e, hu⟩
          rw [e]
          exact ⟨u, hu⟩
    · have oo := of_decide_eq_true c
      have e03 := e02.trans e3
      refine q_dropMeth (ev_var rfl) (e03 _ _ hq) (no6 (by decide +kernel) (by decide +kernel) (by decide +kernel) (by decide +kernel) (by decide +kernel) (by decide +kernel)) fun G1 g1 => ag_ev (ev_var rfl) fun G2 g2 => ag_ev (ev_var rfl) fun G3 g3 => ag_nil ?_
      have eG3 := e03.trans ((g1.trans g2).trans g3)
      refine ⟨q, a, m, bl, al, ol, W, ms, root, bsl, abl, outl, rk, place, other, rfl, x.go eG3, hp, oo, tie, fun H' bsl' abl' outl' ex' x' adv eqb => ?_⟩
      have eBH : Ex B H' := by
        refine Ex.trans ?_ ex'
        rw [hB]
        exact cutH_mono _ eG3
      exact s_ret ev_c fun G g => k1 G bsl' abl' outl' rk (eBH.trans g) (x'.go g) adv (.inl eqb)
    have no := of_decide_eq_false c
    have e03 := e02.trans e3
    refine q_when (b := (abF abl other).isSome) (et_B (innE e03 (ev_var rfl) (ev_var rfl) oW)) (fun c H4 e4 => ?_) (fun c H4 e4 => ?_)
    · exact s_ret ev_c fun G g => stay ((e03.trans e4).trans g) (.inr (.inr ⟨no, fun h => by rw [h] at c; cases c⟩))
    have an : abF abl other = none := by
      cases h : abF abl other with
      | none => rfl
      | some z => rw [h] at c; cases c
    have e04 := e03.trans e4
    have a4 : H4 al = _ := x.st.ab.go e04
    refine q_setL (l := al) (v := vn place) a4 (ev_var rfl) (ev_sabove (x.here.go e04) T.cl_Search T.na_Search_above (ev_var rfl)) (ev_var rfl) (by rw [List.length_map, x.ps.al]; exact oW) fun H5 e5 => ?_
    have m1 : (abl.map vo).set other (vn place) = (abl.set other (some place)).map vo := by rw [List.map_set]; rfl
    rw [m1]
    obtain ⟨H6, hH6⟩ : ∃ H6, H6 = upd H5 al (.lst ((abl.set other (some place)).map vo)) := ⟨_, rfl⟩
    rw [← hH6]
    have e05 := e04.trans e5
    have eB6 : Ex B H6 := by rw [hH6]; exact (eB.trans e05).mut alN
    have bs6 : Ints H6 bl bsl := by show H6 bl = _; rw [hH6, upd_ne xB.n1]; exact e05 _ _ x.st.bs
    have ab6 : Opts H6 al (abl.set other (some place)) := by show H6 al = _; rw [hH6, upd_same]
    have out6 : Ints H6 ol outl := by show H6 ol = _; rw [hH6, upd_ne (Ne.symm xB.n3)]; exact e05 _ _ x.st.out
    refine q_when (b := (abF ms other).isNone) (et_is (et_test (ev_op (ev_var rfl) ev_c rv_isN)) (dec_voN _)) (fun c H7 e7 => ?_) (fun c H7 e7 => ?_)
    · have mn : abF ms other = none := by
        cases h : abF ms other with
        | none => rfl
        | some z => rw [h] at c; cases c
      exact s_ret (ev_var rfl) fun G g => k2 G ((eB6.trans e7).trans g) ⟨(bs6.go e7).go g, (ab6.go e7).go g, (out6.go e7).go g⟩ no mn
    obtain ⟨mate, hm⟩ : ∃ mate, abF ms other = some mate := by
      cases h : abF ms other with
      | none => rw [h] at c; cases c
      | some z => exact ⟨z, rfl⟩
    obtain ⟨nz, si'⟩ := x.ps.si.grow x.pw.m x.pw.sym hp tie no an hm
    have few : outl.length ≤ W.size := few_of x.ps.nd fun y hy => x.lt hy
    refine q_app (l := ol) (v := vn mate) (e7 _ _ out6) (ev_souter (xB.go (eB6.trans e7)) T.cl_Search T.na_Search_outer (ev_var rfl)) (ev_var (by rw [hm]; rfl)) (by rw [List.length_map]; omega) fun H8 e8 => ?_
    obtain ⟨H9, hH9⟩ : ∃ H9, H9 = upd H8 ol (.lst (outl.map vn ++ [vn mate])) := ⟨_, rfl⟩
    rw [← hH9]
    have e78 := e7.trans e8
    have eB9 : Ex B H9 := by rw [hH9]; exact (eB6.trans e78).mut olN
    have st9 : SrSt H9 bl al ol bsl (abl.set other (some place)) (outl ++ [mate]) := by
      refine ⟨?_, ?_, ?_⟩
      · show H9 bl = _; rw [hH9, upd_ne xB.n2]; exact e78 _ _ bs6
      · show H9 al = _; rw [hH9, upd_ne xB.n3]; exact e78 _ _ ab6
      · show H9 ol = _; rw [hH9, upd_same, List.map_append]; rfl
    have fa : abF (abl.set other (some place)) = upo (abF abl) other (some place) := abF_set (by rw [x.ps.al]; exact oW)
    have eBC : Ex B (cutH [bl, al, ol] H9) := ex_cut eB9 fun d hd => by
      rw [hB]
      exact cutH_none hd
    have mem2 : (fun y => y ∈ outl ++ [mate]) = fun y => y ∈ outl ∨ y = mate := by
      funext y
      rw [List.mem_append, List.mem_singleton]
    have x9 : SrOk T.C_Search T.C_Net H9 q a m bl al ol W ms root bsl (abl.set other (some place)) (outl ++ [mate]) (upf rk mate (rk (bsF bsl place) + 1)) := by
      refine ⟨xB.go eBC, st9, x.pw, ⟨?_, List.nodup_append.mpr ⟨x.ps.nd, by simp, fun a ha b hb e => nz (by rw [List.mem_singleton.mp hb] at e; rw [← e]; exact ha)⟩, x.ps.bl, by rw [List.length_set]; exact x.ps.al⟩⟩
      rw [fa, mem2]
      exact si'
    refine s_ret ev_c fun G g => k1 G bsl _ _ _ (eB9.trans g) (x9.go g) ⟨fun _ _ h => h, fun v h => ?_, [mate], rfl⟩ (.inr (.inr ⟨fun h => ?_, ?_⟩))
    · rw [fa]
      by_cases e : v = other
      · rw [e, upo_eq]; exact fun z => nomatch z
      · rw [upo_ne e]; exact h
    · rcases List.mem_append.mp h with h | h
      · exact no h
      · have em := List.mem_singleton.mp h
        have := x.pw.m.nb _ _ hm
        rw [← em] at this
        exact x.pw.sym.irr _ _ this rfl
    · rw [fa, upo_eq]
      exact fun z => nomatch z
/-! Search.end -/
theorem q_asgMeth {σ : L2.St} {H : Hp} {ta : TE} {tr : TA} {D : Ends} {tz : TS} {i : Nat} {C a dx : Addr} {m : Str} {sp : Sp} {dvs : List V} {E : XK} {fs : List (Str × V)} (ho : Ev ta σ H (.ref a)) (ha : H a = some (.ins C dx fs)) (no : fs.lookup m = none) (k : ∀ H1, Ex H H1 → tr σ H1 fun vs H2 => sp (.ref a :: (vs ++ dvs)) H2 (fun v H3 => tz D (σ.set i (some v)) H3) E) :
    tSeq (tAsg (tMeth C m sp dvs E ta tr) (gName i)) tz D σ H := ho H (Ex.refl H) _ fun H1 e => ⟨a, dx, fs, rfl, e _ _ ha, no, k H1 e⟩
def sp_Search_end (CS CN : Addr) : Sp := fun vs H Q _ => ∃ q a m bl al ol W ms root bsl abl outl rk, vs = [.ref q] ∧ SrOk CS CN H q a m bl al ol W ms root bsl abl outl rk ∧
  (∀ H' bsl' abl' outl' rk', Ex (cutH [bl, al, ol] H) H' → SrOk CS CN H' q a m bl al ol W ms root bsl' abl' outl' rk' → (∀ v ∈ outl', ∀ u ∈ nbOf W v, Lkd (abF ms) (abF abl') (bsF bsl') (fun x => x ∈ outl') (fun x => x ∈ outl') v u) → Q .non H') ∧
  (∀ H' bsl' abl' outl' rk' place other, Ex (cutH [bl, al, ol] H) H' → SrSt H' bl al ol bsl' (abl'.set other (some place)) outl' → PS W ms root bsl' abl' outl' rk' → place ∈ outl' → other ∈ nbOf W place → other ∉ outl' → abF ms other = none → Q (vn other) H')
theorem seen_lkd {W : Web} {ms : List (Option Nat)} {bsl outl : List Nat} {abl : List (Option Nat)} {root : Nat} {rk : Nat → Nat} (s : SI W (abF ms) root (bsF bsl) (abF abl) (fun x => x ∈ outl) rk) {P : Nat → Prop} (sub : ∀ x, P x → x ∈ outl) {place other : Nat} (hp : place ∈ outl) (h : Seen W ms bsl abl outl place other) : Lkd (abF ms) (abF abl) (bsF bsl) (fun x => x ∈ outl) P place other := by
  rcases h with h | h | h
  · exact ⟨fun _ => .inl h, fun n => absurd (s.cls hp h.symm) n⟩
  · exact ⟨fun _ => .inr h, fun _ => .inl h⟩
  · exact ⟨fun p => absurd (sub _ p) h.1, fun _ => .inr h.2⟩
theorem Adv.mem {b1 o1 b2 o2 : List Nat} {a1 a2 : List (Option Nat)} (x : Adv b1 a1 o1 b2 a2 o2) : ∀ y, y ∈ o1 → y ∈ o2 := fun y hy => by
  obtain ⟨m, rfl⟩ := x.out
  exact List.mem_append_left _ hy
theorem ok_Search_end (T : Txt K mg) : FnOk P w K mg base CX0 5 T.f_Search_end T.fd_Search_end ["self"] (sp_Search_end T.C_Search T.C_Net) := by
  refine T.F_Search_end.ok sc_Search_end (fun vs H Q E h => ?_) (fun cdv A outer s H vs Q E hr h => ?_)
  · obtain ⟨q, a, m, bl, al, ol, W, ms, root, bsl, abl, outl, rk, rfl, _⟩ := h
    rfl
  · obtain ⟨q, a, m, bl, al, ol, W, ms, root, bsl, abl, outl, rk, rfl, x, k1, k2⟩ := h
    refine ⟨_, (pss_cons (ps_set (i := 1) sc_Search_end.nd rfl (Or.inl rfl) pe_int)
  (pss_cons (ps_while PassesOwn.never (pt_cmpR op_lt (pv 1) (pe_callB (r := rLenS K) call_len_seq (by rfl) T.n_len (by decide +kernel) (pa_cons (pe_fldB (K := K) rfl (pv 0) rfl) pa_nil)) (nomark _)) (pss_cons (ps_set (i := 2) sc_Search_end.nd rfl (Or.inl rfl) (pe_ix (r := rIxL K) ix_list (pe_fldB (K := K) rfl (pv 0) rfl) (pv 1) (fun _ _ => rfl)))
  (pss_cons (ps_aug (i := 1) sc_Search_end.nd rfl (Or.inl rfl) pe_int ip_add)
  (pss_one (ps_for PassesOwn.never rfl (pi_list (pe_ix (r := rIxL K) ix_list (pe_fldB (K := K) rfl (pe_fldB (K := K) rfl (pv 0) rfl) rfl) (pv 2) (fun _ _ => rfl))) (pg_name (i := 3) sc_Search_end.nd rfl (Or.inl rfl))
    (pss_cons (ps_set (i := 4) sc_Search_end.nd rfl (Or.inl rfl) (pe_meth (pv 0) T.cl_Search T.m_Search_look (ok_Search_look T) (hr.mono (by decide)) T.b_Search_look .nil pass0 (pa_cons (pv 2) (pa_cons (pv 3) pa_nil))))
  (pss_one (ps_if (pt_cmpR op_notN (pv 4) pe_non (nomark _)) (pss_one (ps_ret (pv 4))) pss_nil))))))))
  (pss_one (ps_ret pe_non)))), ?_⟩
    have e0 : start N_Search_end [.ref q] = [some (.ref q), none, none, none, none] := rfl
    rw [e0]
    have sm := x.pw.ok.small
    obtain ⟨B, hB⟩ : ∃ B, B = cutH [bl, al, ol] H := ⟨_, rfl⟩
    have xB := x.at_
    rw [← hB] at xB k1 k2
    have eB : Ex B H := by rw [hB]; exact cutH_ex _ _
    have dsN : ∀ d ∈ [bl, al, ol], B d = none := fun d hd => by rw [hB]; exact cutH_none hd
    have no6 : ∀ {s : Str}, (s == ("web" : Str)) = false → (s == ("mates" : Str)) = false → (s == ("root" : Str)) = false → (s == ("base" : Str)) = false → (s == ("above" : Str)) = false → (s == ("outer" : Str)) = false → (srF a m root bl al ol).lookup s = none := fun a1 a2 a3 a4 a5 a6 => srF_no _ _ _ _ _ _ a1 a2 a3 a4 a5 a6
    refine q_asg (v := vn 0) ev_c fun H1 e1 => ?_
    refine q_while (fun μ σ' G => ∃ k x2 x3 x4 bsl' abl' outl' rk', σ' = [some (.ref q), some (vn k), x2, x3, x4] ∧ Ex B G ∧ SrOk T.C_Search T.C_Net G q a m bl al ol W ms root bsl' abl' outl' rk' ∧ k ≤ outl'.length ∧ (∀ v ∈ outl'.take k, ∀ u ∈ nbOf W v, Lkd (abF ms) (abF abl') (bsF bsl') (fun x => x ∈ outl') (fun x => x ∈ outl'.take k) v u) ∧ μ = W.size - k) W.size
      ⟨0, none, none, none, bsl, abl, outl, rk, rfl, eB.trans e1, x.go e1, Nat.zero_le _, fun v hv => by simp at hv, rfl⟩ ?_
    rintro μ σ' G ⟨k, x2, x3, x4, bs1, ab1, out1, rk1, rfl, eG, x1, kl, lk, rfl⟩
    have few : out1.length ≤ W.size := few_of x1.ps.nd fun y hy => x1.lt hy
    refine ⟨decide (k < out1.length), et_is (et_test (ev_op (ev_var rfl) (ev_len (K := K) (ev_souter x1.here T.cl_Search T.na_Search_outer (ev_var rfl)) (sq_of x1.st.out)) rv_I0)) (by rw [List.length_map]; simp), fun c G1 g1 => ?_, fun c G1 g1 => ?_⟩
    · have kl := of_decide_eq_true c
      obtain ⟨place, hpl⟩ : ∃ place, out1[k]? = some place := ⟨_, List.getElem?_eq_getElem kl⟩
      have pm := List.mem_of_getElem? hpl
      have pW := x1.lt pm
      have xg := x1.go g1
      refine ⟨_, fun σ2 G2 hN => hN, ?_⟩
      refine q_asg (v := vn place) (ev_op (ev_souter xg.here T.cl_Search T.na_Search_outer (ev_var rfl)) (ev_var rfl) (rv_ixL (K := K) (sq_of xg.st.out) (atI_nat (map_get' hpl)))) fun G2 g2 => ?_
      refine q_aug (a := (k : Int)) (b := 1) rfl ev_c fun G3 g3 => ?_
      obtain ⟨r, hr', er, rl, rlt⟩ := x.pw.ok.nb pW
      have eG3 := ((eG.trans g1).trans g2).trans g3
      obtain ⟨b, hb, eb⟩ := ev_near (ta := tFld K (tVar 0) "web") (tb := tVar 2) (σ := [some (.ref q), some (vn (k + 1)), some (vn place), x3, x4]) xB.net T.cl_Net T.na_Net_near (ev_sweb xB T.cl_Search T.na_Search_web (ev_var rfl)) (ev_var rfl) hr'
      have tk1 : out1.take (k + 1) = out1.take k ++ [place] := take_snoc hpl
      refine s_forLn (σ := [some (.ref q), some (vn (k + 1)), some (vn place), x3, x4]) (a := b) (xs := r.map vn) (eb.mono eG3) (sq_of (eG3 _ _ hb))
        (fun j σ' G => ∃ x3 x4 bsl' abl' outl' rk', σ' = [some (.ref q), some (vn (k + 1)), some (vn place), x3, x4] ∧ Ex B G ∧ SrOk T.C_Search T.C_Net G q a m bl al ol W ms root bsl' abl' outl' rk' ∧ Adv bs1 ab1 out1 bsl' abl' outl' ∧ (∀ v ∈ out1.take k, ∀ u ∈ nbOf W v, Lkd (abF ms) (abF abl') (bsF bsl') (fun x => x ∈ outl') (fun x => x ∈ out1.take k) v u) ∧ ∀ u ∈ (nbOf W place).take j, Lkd (abF ms) (abF abl') (bsF bsl') (fun x => x ∈ outl') (fun x => x ∈ out1.take (k + 1)) place u)
        (fun G4 g4 => ⟨x3, x4, bs1, ab1, out1, rk1, rfl, eG3.trans g4, ((xg.go g2).go g3).go g4, Adv.refl _ _ _, lk, fun u hu => by simp at hu⟩) (fun j σ' G _ ⟨_, _, _, _, _, _, _, eh, _⟩ => sq_of (eh _ _ hb)) ?_ ?_
      · rintro j y σ' G4 hy ⟨x3, x4, bs2, ab2, out2, rk2, rfl, eG4, x2', adv, lk1, lk2⟩
        obtain ⟨o, ho, rfl⟩ := map_get hy
        have ho' : (nbOf W place)[j]? = some o := by rw [er]; exact ho
        have om := List.mem_of_getElem? ho'
        have pm2 := adv.mem place pm
        obtain ⟨dx, hq⟩ := x2'.here.ins
        refine q_asgMeth (σ := [some (.ref q), some (vn (k + 1)), some (vn place), some (vn o), x4]) (ev_var rfl) hq (no6 (by decide +kernel) (by decide +kernel) (by decide +kernel) (by decide +kernel) (by decide +kernel) (by decide +kernel)) fun G5 g5 => ag_ev (ev_var rfl) fun G6 g6 => ag_ev (ev_var rfl) fun G7 g7 => ag_nil ?_
        have e47 := (g5.trans g6).trans g7
        have eC : Ex B (cutH [bl, al, ol] G7) := ex_cut (eG4.trans e47) dsN
        refine ⟨q, a, m, bl, al, ol, W, ms, root, bs2, ab2, out2, rk2, place, o, rfl, x2'.go e47, pm2, om, fun H' bsl' abl' outl' rk' ex' x' adv' seen => ?_, fun H' ex' st' no' mo => ?_⟩
        · refine s_when (b := false) (et_test (ev_op (ev_var rfl) ev_c rv_notN)) (fun z => nomatch z) (fun _ G8 g8 => ?_)
          have adv2 := adv.go adv'
          have grow : ∀ {P : Nat → Prop} {v u}, Lkd (abF ms) (abF ab2) (bsF bs2) (fun x => x ∈ out2) P v u → Lkd (abF ms) (abF abl') (bsF bsl') (fun x => x ∈ outl') P v u := fun h => h.grow adv'.bs adv'.mem adv'.ab
          refine ⟨_, _, bsl', abl', outl', rk', rfl, (eC.trans ex').trans g8, x'.go g8, adv2, fun v hv u hu => grow (lk1 v hv u hu), fun u hu => ?_⟩
          rw [take_snoc ho'] at hu
          rcases List.mem_append.mp hu with h | h
          · exact grow (lk2 u h)
          · rw [List.mem_singleton.mp h]
            exact seen_lkd x'.ps.si (fun z hz => adv2.mem z (List.mem_of_mem_take hz)) (adv2.mem place pm) seen
        · refine s_when (b := true) (et_test (ev_op (ev_var rfl) ev_c rv_notN)) (fun _ G8 g8 => ?_) (fun z => nomatch z)
          exact s_ret (ev_var rfl) fun G9 g9 => k2 G9 bs2 ab2 out2 rk2 place o ((eC.trans ex').trans (g8.trans g9)) (st'.go (g8.trans g9)) x2'.ps pm2 om no' mo
      · rintro σ' G4 ⟨x3, x4, bs2, ab2, out2, rk2, rfl, eG4, x2', adv, lk1, lk2⟩
        rw [List.length_map, ← er, List.take_length] at lk2
        obtain ⟨more, rfl⟩ := adv.out
        have tk : (out1 ++ more).take (k + 1) = out1.take (k + 1) := List.take_append_of_le_length (by omega)
        refine ⟨W.size - (k + 1), by omega, k + 1, _, _, _, bs2, ab2, out1 ++ more, rk2, rfl, eG4, x2', by rw [List.length_append]; omega, fun v hv u hu => ?_, rfl⟩
        rw [tk] at hv ⊢
        rw [tk1] at hv
        rcases List.mem_append.mp hv with h | h
        · obtain ⟨l1, l2⟩ := lk1 v h u hu
          refine ⟨fun hu2 => ?_, l2⟩
          have hu2 : u ∈ out1.take (k + 1) := hu2
          rw [tk1] at hu2
          rcases List.mem_append.mp hu2 with h2 | h2
          · exact l1 h2
          · have e := List.mem_singleton.mp h2
            subst e
            have hv2 : v ∈ out1.take (k + 1) := by rw [tk1]; exact List.mem_append_left _ h
            rcases (lk2 v (x.pw.sym.sym _ _ hu)).1 hv2 with z | z
            · exact .inl z.symm
            · exact .inr (x.pw.m.inv _ _ z)
        · rw [List.mem_singleton.mp h] at hu ⊢
          exact lk2 u hu
    · have c := of_decide_eq_false c
      have ek : k = out1.length := by omega
      rw [ek, List.take_length] at lk
      exact s_ret ev_c fun G2 g2 => k1 G2 bs1 ab1 out1 rk1 ((eG.trans g1).trans g2) ((x1.go g1).go g2) lk
/-! Search.way -/
def sp_Search_way (CS CN : Addr) : Sp := fun vs H Q _ => ∃ q a m bl al ol W ms root bsl abl outl rk, vs = [.ref q] ∧ SrOk CS CN H q a m bl al ol W ms root bsl abl outl rk ∧
  (∀ H', Ex (cutH [bl, al, ol] H) H' → (∃ bs D, Vain W (abF ms) root bs D) → Q .non H') ∧
  (∀ H' p ns, Ex (cutH [bl, al, ol] H) H' → cutH [bl, al, ol] H p = none → Ints H' p ns → IsWay W ms ns → Q (.ref p) H')
theorem ok_Search_way (T : Txt K mg) : FnOk P w K mg base CX0 6 T.f_Search_way T.fd_Search_way ["self"] (sp_Search_way T.C_Search T.C_Net) := by
  refine T.F_Search_way.ok sc_Search_way (fun vs H Q E h => ?_) (fun cdv A outer s H vs Q E hr h => ?_)
  · obtain ⟨q, a, m, bl, al, ol, W, ms, root, bsl, abl, outl, rk, rfl, _⟩ := h
    rfl
  · obtain ⟨q, a, m, bl, al, ol, W, ms, root, bsl, abl, outl, rk, rfl, x, k1, k2⟩ := h
    refine ⟨_, (pss_cons (ps_set (i := 1) sc_Search_way.nd rfl (Or.inl rfl) (pe_meth0 (pv 0) T.cl_Search T.m_Search_end (ok_Search_end T) (hr.mono (by decide)) T.b_Search_end .nil pass0))
  (pss_cons (ps_if (pt_cmpR op_isN (pv 1) pe_non (nomark _)) (pss_one (ps_ret pe_non)) pss_nil)
  (pss_cons (ps_set (i := 2) sc_Search_way.nd rfl (Or.inl rfl) (pe_lst pa_nil))
  (pss_cons (ps_while PassesOwn.never (pt_cmpR op_notN (pv 1) pe_non (nomark _)) (pss_cons (ps_expr (pe_bm PySem.F.plainAttrs_list PySem.F.slot_list_append PySem.F.type_list_append mt_append (pv 2) (pa_cons (pv 1) pa_nil)))
  (pss_cons (ps_expr (pe_bm PySem.F.plainAttrs_list PySem.F.slot_list_append PySem.F.type_list_append mt_append (pv 2) (pa_cons (pe_ix (r := rIxL K) ix_list (pe_fldB (K := K) rfl (pv 0) rfl) (pv 1) (fun _ _ => rfl)) pa_nil)))
  (pss_one (ps_set (i := 1) sc_Search_way.nd rfl (Or.inl rfl) (pe_ix (r := rIxL K) ix_list (pe_fldB (K := K) rfl (pv 0) rfl) (pe_ix (r := rIxL K) ix_list (pv 2) (pe_un un_neg pe_int) (fun _ _ => rfl)) (fun _ _ => rfl)))))))
  (pss_one (ps_ret (pe_revL (pv 2)))))))), ?_⟩
    have e0 : start N_Search_way [.ref q] = [some (.ref q), none, none] := rfl
    rw [e0]
    have sm := x.pw.ok.small
    obtain ⟨B, hB⟩ : ∃ B, B = cutH [bl, al, ol] H := ⟨_, rfl⟩
    have xB := x.at_
    rw [← hB] at xB k1 k2
    have eB : Ex B H := by rw [hB]; exact cutH_ex _ _
    have dsN : ∀ d ∈ [bl, al, ol], B d = none := fun d hd => by rw [hB]; exact cutH_none hd
    have no6 : ∀ {s : Str}, (s == ("web" : Str)) = false → (s == ("mates" : Str)) = false → (s == ("root" : Str)) = false → (s == ("base" : Str)) = false → (s == ("above" : Str)) = false → (s == ("outer" : Str)) = false → (srF a m root bl al ol).lookup s = none := fun a1 a2 a3 a4 a5 a6 => srF_no _ _ _ _ _ _ a1 a2 a3 a4 a5 a6
    obtain ⟨dx, hq⟩ := x.here.ins
    refine q_asgMeth (ev_var rfl) hq (no6 (by decide +kernel) (by decide +kernel) (by decide +kernel) (by decide +kernel) (by decide +kernel) (by decide +kernel)) fun G1 g1 => ag_nil ?_
    have eC : Ex B (cutH [bl, al, ol] G1) := ex_cut (eB.trans g1) dsN
    refine ⟨q, a, m, bl, al, ol, W, ms, root, bsl, abl, outl, rk, rfl, x.go g1, fun H' bsl' abl' outl' rk' ex' x' lk => ?_, fun H' bsl' abl' outl' rk' place other ex' st' ps' pm om no' mo => ?_⟩
    · refine q_when (b := true) (et_test (ev_op (ev_var rfl) ev_c rv_isN)) (fun _ H2 e2 => ?_) (fun z => nomatch z)
      exact s_ret ev_c fun G g => k1 G ((eC.trans ex').trans (e2.trans g)) ⟨_, _, x'.ps.si.vain x.pw.m x.pw.sym lk⟩
    · have eH' := eC.trans ex'
      refine q_when (b := false) (et_test (ev_op (ev_var rfl) ev_c rv_isN)) (fun z => nomatch z) (fun _ H2 e2 => ?_)
      refine q_asgL (el_lst ea_nil (by decide)) fun l H3 hl e3 hl3 => ?_
      have e23 := e2.trans e3
      have eB3 := eH'.trans e23
      have lN : B l = none := fresh_back (eH'.trans e2) hl
      obtain ⟨L, p, nd, cl⟩ := ps'.si.full x.pw.m pm
      have way := ps'.si.way x.pw.ml x.pw.m x.pw.sym x.pw.rt pm om no' mo p nd cl
      have oL : other ∉ L := fun h => (cl other h).elim no' fun ⟨b, _, e⟩ => by rw [x.pw.m.inv b other e] at mo; cases mo
      have oW := x.pw.sym.lt _ _ om
      obtain ⟨ab2, hab2⟩ : ∃ ab2, ab2 = abl'.set other (some place) := ⟨_, rfl⟩
      rw [← hab2] at st'
      have fa : abF ab2 = upo (abF abl') other (some place) := by rw [hab2]; exact abF_set (by rw [ps'.al]; exact oW)
      have al2 : ab2.length = W.size := by rw [hab2, List.length_set]; exact ps'.al
      have p2 : PP (abF ms) (abF ab2) place root L := p.same fun y hy => by rw [fa, upo_ne (fun e => oL (by rw [← e]; exact hy))]
      have ao : abF ab2 other = some place := by rw [fa, upo_eq]
      have fullnd : (other :: L).Nodup := List.nodup_cons.mpr ⟨oL, nd⟩
      have fullt : ∀ y ∈ other :: L, y < W.size := fun y hy => way.lt y (List.mem_reverse.mpr hy)
      have fewf := few_of fullnd fullt
      have st3 := st'.go e23
      have lbl : l ≠ al := fun z => by
        have h := (st'.go e2).ab
        rw [z, show H2 al = _ from h] at hl
        cases hl
      have mE : ∀ {σ : L2.St} {G : Hp} {te tb : TE} {i : Nat}, Ex B G → Ev te σ G (.ref q) → Ev tb σ G (vn i) → i < W.size → Ev (tOp (rIxL K) (tFld K te "mates") tb) σ G (vo (abF ms i)) := fun e h h2 lt => ev_smatesAt (xB.go e) T.cl_Search T.na_Search_mates h h2 (by rw [x.pw.ml]; exact lt)
      refine q_while (fun μ σ' G => ∃ (u : Option Nat) (fs : List Nat), σ' = [some (.ref q), some (vo u), some (.ref l)] ∧ Ex B G ∧ Opts G al ab2 ∧ Ints G l fs ∧ ((∃ v z Lz, u = some v ∧ abF ab2 v = some z ∧ PP (abF ms) (abF ab2) z root Lz ∧ fs ++ v :: Lz = other :: L ∧ μ = Lz.length + 1) ∨ (u = none ∧ fs = other :: L ∧ μ = 0))) (L.length + 1)
        ⟨some other, [], rfl, eB3, st3.ab, hl3, .inl ⟨other, place, L, rfl, ao, p2, rfl, rfl⟩⟩ ?_
      rintro μ σ' G ⟨u, fs, rfl, eG, abG, hl', st⟩
      refine ⟨!u.isNone, et_is (et_test (ev_op (ev_var rfl) ev_c rv_notN)) (by rw [dec_voN]), fun c G1 g1 => ?_, fun c G1 g1 => ?_⟩
      · rcases st with ⟨v, z, Lz, rfl, hv, pz, hf, rfl⟩ | ⟨rfl, _, _⟩
        · have mem : ∀ y, y ∈ fs ++ v :: Lz → y < W.size := fun y hy => fullt y (by rw [← hf]; exact hy)
          have vW := mem v (by simp)
          have zL := pz.self
          have zW := mem z (by simp [zL])
          have lf : fs.length + Lz.length + 1 ≤ W.size := by
            have := congrArg List.length hf
            rw [List.length_append, List.length_cons] at this
            omega
          refine ⟨_, fun σ2 G2 hN => hN, ?_⟩
          refine q_app (l := l) (v := vn v) (g1 _ _ hl') (ev_var rfl) (ev_var rfl) (by rw [List.length_map]; omega) fun G2 g2 => ?_
          obtain ⟨G3, hG3⟩ : ∃ G3, G3 = upd G2 l (.lst (fs.map vn ++ [vn v])) := ⟨_, rfl⟩
          rw [← hG3]
          have g12 := g1.trans g2
          have eG3 : Ex B G3 := by rw [hG3]; exact (eG.trans g12).mut lN
          have l3 : G3 l = some (.lst ((fs ++ [v]).map vn)) := by rw [hG3, upd_same, List.map_append]; rfl
          have ab3 : Opts G3 al ab2 := by show G3 al = _; rw [hG3, upd_ne (Ne.symm lbl)]; exact g12 _ _ abG
          refine q_app (l := l) (v := vn z) l3 (ev_var rfl) (ev_is (ev_saboveAt (xB.go eG3) ab3 T.cl_Search T.na_Search_above (ev_var rfl) (ev_var rfl) (by rw [al2]; exact vW)) (by rw [hv]; rfl)) (by rw [List.length_map, List.length_append]; simp; omega) fun G4 g4 => ?_
          obtain ⟨G5, hG5⟩ : ∃ G5, G5 = upd G4 l (.lst ((fs ++ [v]).map vn ++ [vn z])) := ⟨_, rfl⟩
          rw [← hG5]
          have eG5 : Ex B G5 := by rw [hG5]; exact (eG3.trans g4).mut lN
          have l5 : G5 l = some (.lst ((fs ++ [v]).map vn ++ [vn z])) := by rw [hG5, upd_same]
          have l5' : Ints G5 l (fs ++ [v] ++ [z]) := by show G5 l = _; rw [l5, show ((fs ++ [v]) ++ [z]).map vn = (fs ++ [v]).map vn ++ [vn z] from by rw [List.map_append (l₁ := fs ++ [v])]; rfl]
          have ab5 : Opts G5 al ab2 := by show G5 al = _; rw [hG5, upd_ne (Ne.symm lbl)]; exact g4 _ _ ab3
          refine s_asg (v := vo (abF ms z)) (mE eG5 (ev_var rfl) (ev_op (ev_var rfl) (ev_un ev_c ru_neg) (rv_ixL (K := K) (sq_of l5) atI_last)) zW) fun G6 g6 => ?_
          cases pz with
          | nil =>
            refine ⟨0, by omega, none, fs ++ [v] ++ [root], ?_, eG5.trans g6, ab5.go g6, l5'.go g6, .inr ⟨rfl, ?_, rfl⟩⟩
            · rw [ps'.si.rootN]; rfl
            · rw [← hf]; simp
          | @step _ y z' _ Lz' h1 h2 pz' =>
            refine ⟨Lz'.length + 1, by simp, some y, fs ++ [v] ++ [z], ?_, eG5.trans g6, ab5.go g6, l5'.go g6, .inl ⟨y, z', Lz', rfl, h2, pz', ?_, rfl⟩⟩
            · rw [h1]; rfl
            · rw [← hf]; simp
        · simp at c
      · rcases st with ⟨v, z, Lz, rfl, _⟩ | ⟨rfl, rfl, _⟩
        · simp at c
        · refine s_retL (el_rev (K := K) (ev_var rfl) (g1 _ _ hl')) fun b H7 hb e7 hb7 => ?_
          refine k2 H7 b (other :: L).reverse ((eG.trans g1).trans e7) (fresh_back (eG.trans g1) hb) ?_ way
          show H7 b = _
          rw [hb7, List.map_reverse]
/-! Search.__init__ -/
theorem q_fldL {σ : L2.St} {H : Hp} {ta tv : TE} {D : Ends} {tz : TS} {C a dx : Addr} {fs : List (Str × V)} {f : Str} {xs : List V} (h : EvL tv σ H xs) (ho : Ev ta σ H (.ref a)) (ha : H a = some (.ins C dx fs)) (c : Cls K C) (n : NoAttr K C f) (len : fs.length < 1000)
    (k : ∀ p H1, H p = none → Ex H H1 → H1 p = some (.lst xs) → tz D σ (upd H1 a (.ins C dx (putF f (.ref p) fs)))) : tSeq (sFld K ta tv f) tz D σ H :=
  h H (Ex.refl H) _ fun p H1 hp e1 hp1 => ho H1 e1 _ fun H2 e2 => ⟨a, C, dx, fs, rfl, e2 _ _ (e1 _ _ ha), c, n, len, k p H2 hp (e1.trans e2) (e2 _ _ hp1)⟩
theorem s_fldL {σ : L2.St} {H : Hp} {ta tv : TE} {D : Ends} {C a dx : Addr} {fs : List (Str × V)} {f : Str} {xs : List V} (h : EvL tv σ H xs) (ho : Ev ta σ H (.ref a)) (ha : H a = some (.ins C dx fs)) (c : Cls K C) (n : NoAttr K C f) (len : fs.length < 1000)
    (k : ∀ p H1, H p = none → Ex H H1 → H1 p = some (.lst xs) → D.nx σ (upd H1 a (.ins C dx (putF f (.ref p) fs)))) : sFld K ta tv f D σ H :=
  h H (Ex.refl H) _ fun p H1 hp e1 hp1 => ho H1 e1 _ fun H2 e2 => ⟨a, C, dx, fs, rfl, e2 _ _ (e1 _ _ ha), c, n, len, k p H2 hp (e1.trans e2) (e2 _ _ hp1)⟩
def sp_Search_init (CS CN : Addr) : Sp := fun vs H Q _ => ∃ p dx a m W ms root, vs = [.ref p, .ref a, .ref m, vn root] ∧ H p = some (.ins CS dx []) ∧ NetAt CN (cutH [p] H) a W ∧ Opts (cutH [p] H) m ms ∧ PWs W ms root ∧ abF ms root = none ∧
  ∀ H' bl al ol, Ex (cutH [p] H) H' → cutH [p] H bl = none → cutH [p] H al = none → cutH [p] H ol = none → SrOk CS CN H' p a m bl al ol W ms root (List.range W.size) (List.replicate W.size none) [root] (fun _ => 0) → Q .non H'
theorem ok_Search_init (T : Txt K mg) : FnOk P w K mg base CX0 1 T.f_Search_init T.fd_Search_init ["self", "net", "mates", "root"] (sp_Search_init T.C_Search T.C_Net) := by
  refine T.F_Search_init.ok sc_Search_init (fun vs H Q E h => ?_) (fun cdv A outer s H vs Q E hr h => ?_)
  · obtain ⟨p, dx, a, m, W, ms, root, rfl, _⟩ := h
    rfl
  · obtain ⟨p, dx, a, m, W, ms, root, rfl, hp, hn, hm, pw, rn, k⟩ := h
    refine ⟨_, (pss_cons (ps_fld (pv 0) (pv 1) rfl)
  (pss_cons (ps_fld (pv 0) (pv 2) rfl)
  (pss_cons (ps_fld (pv 0) (pv 3) rfl)
  (pss_cons (ps_fld (pv 0) (pe_lc (own := [("place", 4)]) (g := gName 4) (tt := tYes) rfl sc_Search_init.nd (pi_range1 (by rfl) T.n_range (pa_cons (pe_fldB (K := K) rfl (pv 1) rfl) pa_nil)) (blkOk_by (own := [("place", 4)]) (N := N_Search_init) (sc := defScope s_Search_init) (by decide +kernel)) (fun _ _ _ _ _ => (pg_name (i := 4) sc_Search_init.nd rfl (Or.inl rfl))) (fun _ _ _ _ _ => pts_nil) (fun _ _ _ _ _ => (pv 4))) rfl)
  (pss_cons (ps_fld (pv 0) (pe_lc (own := [("place", 4)]) (g := gName 4) (tt := tYes) rfl sc_Search_init.nd (pi_range1 (by rfl) T.n_range (pa_cons (pe_fldB (K := K) rfl (pv 1) rfl) pa_nil)) (blkOk_by (own := [("place", 4)]) (N := N_Search_init) (sc := defScope s_Search_init) (by decide +kernel)) (fun _ _ _ _ _ => (pg_name (i := 4) sc_Search_init.nd rfl (Or.inl rfl))) (fun _ _ _ _ _ => pts_nil) (fun _ _ _ _ _ => pe_non)) rfl)
  (pss_one (ps_fld (pv 0) (pe_lst (pa_cons (pv 3) pa_nil)) rfl))))))), ?_⟩
    have e0 : start N_Search_init [.ref p, .ref a, .ref m, vn root] = [some (.ref p), some (.ref a), some (.ref m), some (vn root), none] := rfl
    rw [e0]
    obtain ⟨B, hB⟩ : ∃ B, B = cutH [p] H := ⟨_, rfl⟩
    rw [← hB] at hn hm k
    have pN : B p = none := by rw [hB]; exact cutH_none (by simp)
    have eB : Ex B H := by rw [hB]; exact cutH_ex _ _
    have sm := pw.ok.small
    have szE : ∀ {σ : L2.St} {G : Hp} {te : TE}, Ex B G → Ev te σ G (.ref a) → Ev (tFld K te "size") σ G (vn W.size) := fun e h => ev_size (hn.go e) T.cl_Net T.na_Net_size h
    have hp0 : H p = some (.ins T.C_Search dx (srP0 a m root p p p)) := hp
    refine q_fld (ev_var rfl) (ev_var rfl) hp0 T.cl_Search T.na_Search_web (by show 0 < 1000; decide) fun H1 e1 => ?_
    rw [putS0]
    obtain ⟨G1, hG1⟩ : ∃ G, G = upd H1 p (.ins T.C_Search dx (srP1 a m root p p p)) := ⟨_, rfl⟩
    rw [← hG1]
    have hp1 : G1 p = some (.ins T.C_Search dx (srP1 a m root p p p)) := by rw [hG1, upd_same]
    have b1 : Ex B G1 := by rw [hG1]; exact (eB.trans e1).mut pN
    refine q_fld (ev_var rfl) (ev_var rfl) hp1 T.cl_Search T.na_Search_mates (by show 1 < 1000; decide) fun H2 e2 => ?_
    rw [putS1]
    obtain ⟨G2, hG2⟩ : ∃ G, G = upd H2 p (.ins T.C_Search dx (srP2 a m root p p p)) := ⟨_, rfl⟩
    rw [← hG2]
    have hp2 : G2 p = some (.ins T.C_Search dx (srP2 a m root p p p)) := by rw [hG2, upd_same]
    have b2 : Ex B G2 := by rw [hG2]; exact (b1.trans e2).mut pN
    refine q_fld (ev_var rfl) (ev_var rfl) hp2 T.cl_Search T.na_Search_root (by show 2 < 1000; decide) fun H3 e3 => ?_
    rw [putS2]
    obtain ⟨G3, hG3⟩ : ∃ G, G = upd H3 p (.ins T.C_Search dx (srP3 a m root p p p)) := ⟨_, rfl⟩
    rw [← hG3]
    have hp3 : G3 p = some (.ins T.C_Search dx (srP3 a m root p p p)) := by rw [hG3, upd_same]
    have b3 : Ex B G3 := by rw [hG3]; exact (b2.trans e3).mut pN
    refine q_fldL (xs := (List.range W.size).map vn) (el_mapR (n := W.size) (ea_cons (szE b3 (ev_var rfl)) ea_nil) (by omega) (fun _ => rfl) (by simp) (fun i y G g hy => ?_)) (ev_var rfl) hp3 T.cl_Search T.na_Search_base (by show 3 < 1000; decide) fun bl H4 hbl e4 hbl4 => ?_
    · obtain ⟨z, hz, rfl⟩ := map_get hy
      have hl := (List.getElem?_eq_some_iff.mp hz).1
      rw [List.length_range] at hl
      rw [List.getElem?_range hl] at hz
      cases hz
      exact ev_var rfl
    rw [show srP3 a m root p p p = srP3 a m root bl p p from rfl, putS3]
    obtain ⟨G4, hG4⟩ : ∃ G, G = upd H4 p (.ins T.C_Search dx (srP4 a m root bl p p)) := ⟨_, rfl⟩
    rw [← hG4]
    have hp4 : G4 p = some (.ins T.C_Search dx (srP4 a m root bl p p)) := by rw [hG4, upd_same]
    have b4 : Ex B G4 := by rw [hG4]; exact (b3.trans e4).mut pN
    have blp : bl ≠ p := fun z => by rw [z, hp3] at hbl; cases hbl
    have bl4 : G4 bl = some (.lst ((List.range W.size).map vn)) := by rw [hG4, upd_ne blp]; exact hbl4
    have blN : B bl = none := fresh_back b3 hbl
    refine q_fldL (xs := (List.replicate W.size (none : Option Nat)).map vo) (el_mapR (n := W.size) (ea_cons (szE b4 (ev_var rfl)) ea_nil) (by omega) (fun _ => rfl) (by simp) (fun i y G g hy => ?_)) (ev_var rfl) hp4 T.cl_Search T.na_Search_above (by show 4 < 1000; decide) fun al H5 hal e5 hal5 => ?_
    · have : y = .non := by
        rw [List.map_replicate] at hy
        exact (List.mem_replicate.mp (List.mem_of_getElem? hy)).2
      subst this
      exact ev_c
    rw [show srP4 a m root bl p p = srP4 a m root bl al p from rfl, putS4]
    obtain ⟨G5, hG5⟩ : ∃ G, G = upd H5 p (.ins T.C_Search dx (srP5 a m root bl al p)) := ⟨_, rfl⟩
    rw [← hG5]
    have hp5 : G5 p = some (.ins T.C_Search dx (srP5 a m root bl al p)) := by rw [hG5, upd_same]
    have b5 : Ex B G5 := by rw [hG5]; exact (b4.trans e5).mut pN
    have alp : al ≠ p := fun z => by rw [z, hp4] at hal; cases hal
    have al5 : G5 al = some (.lst ((List.replicate W.size (none : Option Nat)).map vo)) := by rw [hG5, upd_ne alp]; exact hal5
    have bl5 : G5 bl = some (.lst ((List.range W.size).map vn)) := by rw [hG5, upd_ne blp]; exact e5 _ _ bl4
    have alN : B al = none := fresh_back b4 hal
    have bal : bl ≠ al := fun z => by rw [← z, bl4] at hal; cases hal
    refine s_fldL (xs := [vn root]) (el_lst (ea_cons (ev_var rfl) ea_nil) (by show 1 ≤ 100000; decide)) (ev_var rfl) hp5 T.cl_Search T.na_Search_outer (by show 5 < 1000; decide) fun ol H6 hol e6 hol6 => ?_
    rw [show srP5 a m root bl al p = srP5 a m root bl al ol from rfl, putS5]
    obtain ⟨G6, hG6⟩ : ∃ G, G = upd H6 p (.ins T.C_Search dx (srF a m root bl al ol)) := ⟨_, rfl⟩
    rw [← hG6]
    have b6 : Ex B G6 := by rw [hG6]; exact (b5.trans e6).mut pN
    have olp : ol ≠ p := fun z => by rw [z, hp5] at hol; cases hol
    have bol : bl ≠ ol := fun z => by rw [← z, bl5] at hol; cases hol
    have aol : al ≠ ol := fun z => by rw [← z, al5] at hol; cases hol
    have olN : B ol = none := fresh_back b5 hol
    have bl6 : Ints G6 bl (List.range W.size) := by show G6 bl = _; rw [hG6, upd_ne blp]; exact e6 _ _ bl5
    have al6 : Opts G6 al (List.replicate W.size none) := by show G6 al = _; rw [hG6, upd_ne alp]; exact e6 _ _ al5
    have ol6 : Ints G6 ol [root] := by show G6 ol = _; rw [hG6, upd_ne olp]; exact hol6
    have bC : Ex B (cutH [bl, al, ol] G6) := ex_cut b6 fun d hd => by
      simp only [List.mem_cons, List.mem_nil_iff, or_false] at hd
      rcases hd with rfl | rfl | rfl
      · exact blN
      · exact alN
      · exact olN
    refine k G6 bl al ol b6 blN alN olN ⟨⟨⟨dx, cutH_at ?_ (by rw [hG6, upd_same])⟩, hn.go bC, hm.go bC, bal, bol, aol⟩, ⟨bl6, al6, ol6⟩, pw, ⟨?_, by simp, by simp, by simp⟩⟩
    · simp [Ne.symm blp, Ne.symm alp, Ne.symm olp]
    · rw [bsF_range, abF_none, show (fun x => x ∈ [root]) = fun x => x = root from funext fun x => propext List.mem_singleton]
      exact si_init W rn
/-! way_for -/
def sp_way_for (CN : Addr) : Sp := newSp fun H vs S => ∃ a m W ms, vs = [.ref a, .ref m] ∧ NetAt CN H a W ∧ Opts H m ms ∧ WebOk W ∧ WebSym W ∧ MtOk W (abF ms) ∧ ms.length = W.size ∧
  S = fun v fs G => (v = .non ∧ ∀ r, r < W.size → abF ms r = none → ∃ bs D, Vain W (abF ms) r bs D) ∨ (∃ p ns, v = .ref p ∧ fs = [p] ∧ Ints G p ns ∧ IsWay W ms ns)
theorem q_asgMM {σ : L2.St} {H : Hp} {te : TE} {tr : TA} {D : Ends} {tz : TS} {i : Nat} {C : Addr} {m : Str} {sp : Sp} {dvs : List V} {E : XK} (h : te σ H fun v H1 => ∃ a dx fs, v = .ref a ∧ H1 a = some (.ins C dx fs) ∧ fs.lookup m = none ∧ tr σ H1 fun vs H2 => sp (v :: (vs ++ dvs)) H2 (fun v H3 => tz D (σ.set i (some v)) H3) E) :
    tSeq (tAsg (tMeth C m sp dvs E te tr) (gName i)) tz D σ H := h
theorem ok_way_for (T : Txt K mg) : FnOk P w K mg base CX0 7 T.f_way_for T.fd_way_for ["net", "mates"] (sp_way_for T.C_Net) := by
  refine T.F_way_for.ok sc_way_for (fun vs H Q E h => ?_) (fun cdv A outer s H vs Q E hr h => ?_)
  · obtain ⟨S, ⟨a, m, W, ms, rfl, _⟩, _⟩ := h
    rfl
  · obtain ⟨S, ⟨a, m, W, ms, rfl, hn, hm, ok, sym, mok, ml, rfl⟩, k⟩ := h
    refine ⟨_, (pss_cons (ps_for PassesOwn.never rfl (pi_range1 (by rfl) T.n_range (pa_cons (pe_fldB (K := K) rfl (pv 0) rfl) pa_nil)) (pg_name (i := 2) sc_way_for.nd rfl (Or.inl rfl))
    (pss_one (ps_if (pt_cmpR op_isN (pe_ix (r := rIxL K) ix_list (pv 1) (pv 2) (fun _ _ => rfl)) pe_non (nomark _)) (pss_cons (ps_set (i := 3) sc_way_for.nd rfl (Or.inl rfl) (pe_meth0 (pe_make T.mk_Search (ok_Search_init T) (hr.mono (by decide)) (by rfl) T.g_Search T.b_Search_init .nil pass0 (pa_cons (pv 0) (pa_cons (pv 1) (pa_cons (pv 2) pa_nil)))) T.cl_Search T.m_Search_way (ok_Search_way T) (hr.mono (by decide)) T.b_Search_way .nil pass0))
  (pss_one (ps_if (pt_cmpR op_notN (pv 3) pe_non (nomark _)) (pss_one (ps_ret (pv 3))) pss_nil))) pss_nil)))
  (pss_one (ps_ret pe_non))), ?_⟩
    have e0 : start N_way_for [.ref a, .ref m] = [some (.ref a), some (.ref m), none, none] := rfl
    rw [e0]
    have sm := ok.small
    refine q_forR1 (n := (W.size : Nat)) (ea_cons (ev_size hn T.cl_Net T.na_Net_size (ev_var rfl)) ea_nil) (by omega)
      (fun i σ' G => ∃ x2 x3, σ' = [some (.ref a), some (.ref m), x2, x3] ∧ Ex H G ∧ ∀ r, r < i → abF ms r = none → ∃ bs D, Vain W (abF ms) r bs D)
      (fun G g => ⟨none, none, rfl, g, fun r hr => absurd hr (Nat.not_lt_zero _)⟩) ?_ ?_
    · rintro i σ' G hi ⟨x2, x3, rfl, eG, vain⟩
      have hi : i < W.size := by omega
      have mi : ms[i]? = some (abF ms i) := get_abF (by rw [ml]; exact hi)
      refine s_when (b := (abF ms i).isNone) (et_is (et_test (ev_op (ev_op (ev_var rfl) (ev_var rfl) (rv_ixL (K := K) (sq_of (hm.go eG)) (atI_nat (map_get' mi)))) ev_c rv_isN)) (dec_voN _)) (fun c G1 g1 => ?_) (fun c G1 g1 => ⟨_, _, rfl, eG.trans g1, fun r hr hn => ?_⟩)
      · have mn : abF ms i = none := by
          cases h : abF ms i with
          | none => rfl
          | some z => rw [h] at c; cases c
        have e1 := eG.trans g1
        have ar : EvA (tCons (tVar 0) (tCons (tVar 1) (tCons (tVar 2) tNil))) [some (.ref a), some (.ref m), some (vn i), x3] G1 [.ref a, .ref m, vn i] := ea_cons (ev_var rfl) (ea_cons (ev_var rfl) (ea_cons (ev_var rfl) ea_nil))
        refine q_asgMM (make_of ar fun G2 p dx g2 hp hp2 => ?_)
        have eC : Ex G1 (cutH [p] G2) := ex_cut g2 fun d hd => by rw [List.mem_singleton.mp hd]; exact hp
        refine ⟨p, dx, a, m, W, ms, i, rfl, hp2, (hn.go e1).go eC, (hm.go e1).go eC, ⟨ok, sym, mok, ml, hi⟩, mn, fun G3 bl al ol e3 blN alN olN x => ⟨rfl, ?_⟩⟩
        have e13 := eC.trans e3
        obtain ⟨dx3, hq⟩ := x.here.ins
        have eD : Ex G1 (cutH [bl, al, ol] G3) := ex_cut e13 fun d hd => by
          simp only [List.mem_cons, List.mem_nil_iff, or_false] at hd
          rcases hd with rfl | rfl | rfl
          · exact fresh_back eC blN
          · exact fresh_back eC alN
          · exact fresh_back eC olN
        refine ⟨p, dx3, _, rfl, hq, srF_no _ _ _ _ _ _ (by decide +kernel) (by decide +kernel) (by decide +kernel) (by decide +kernel) (by decide +kernel) (by decide +kernel), ag_nil ?_⟩
        refine ⟨p, a, m, bl, al, ol, W, ms, i, _, _, _, _, rfl, x, fun G4 e4 vn_ => ?_, fun G4 b ns e4 hb hns way => ?_⟩
        · refine s_when (b := false) (et_test (ev_op (ev_var rfl) ev_c rv_notN)) (fun z => nomatch z) (fun _ G5 g5 => ⟨_, _, rfl, e1.trans ((eD.trans e4).trans g5), fun r hr hn => ?_⟩)
          by_cases e : r = i
          · rw [e]; exact vn_
          · exact vain r (by omega) hn
        · refine s_when (b := true) (et_test (ev_op (ev_var rfl) ev_c rv_notN)) (fun _ G5 g5 => ?_) (fun z => nomatch z)
          exact s_ret (ev_var rfl) fun G6 g6 => k _ [b] G6 (e1.trans ((eD.trans e4).trans (g5.trans g6))) (fun r hr => by rw [List.mem_singleton.mp hr]; exact fresh_back (e1.trans eD) hb) (.inr ⟨b, ns, rfl, rfl, hns.go (g5.trans g6), way⟩)
      · by_cases e : r = i
        · rw [e] at hn
          rw [hn] at c
          cases c
        · exact vain r (by omega) hn
    · rintro σ' G ⟨x2, x3, rfl, eG, vain⟩
      rw [Int.toNat_natCast] at vain
      exact s_ret ev_c fun G1 g1 => k _ [] G1 (eG.trans g1) (fun _ h => nomatch h) (.inl ⟨rfl, vain⟩)
/-! met_outer -/
def sp_met_outer (CN : Addr) : Sp := newSp fun H vs S => ∃ a m W ms, vs = [.ref a, .ref m] ∧ NetAt CN H a W ∧ Opts H m ms ∧ WebOk W ∧ WebSym W ∧ ms.length = W.size ∧ Great W (abF ms) ∧ S = fun v fs G => ∃ p ks, v = .ref p ∧ fs = [p] ∧ Keys G p ks ∧ ∀ x, x ∈ ks ↔ Missed W x
theorem ok_met_outer (T : Txt K mg) : FnOk P w K mg base CX0 6 T.f_met_outer T.fd_met_outer ["net", "mates"] (sp_met_outer T.C_Net) := by
  refine T.F_met_outer.ok sc_met_outer (fun vs H Q E h => ?_) (fun cdv A outer s H vs Q E hr h => ?_)
  · obtain ⟨S, ⟨a, m, W, ms, rfl, _⟩, _⟩ := h
    rfl
  · obtain ⟨S, ⟨a, m, W, ms, rfl, hn, hm, ok, sym, ml, gr, rfl⟩, k⟩ := h
    refine ⟨_, (pss_cons (ps_set (i := 2) sc_met_outer.nd rfl (Or.inl rfl) pe_dnewK)
  (pss_cons (ps_for PassesOwn.never rfl (pi_range1 (by rfl) T.n_range (pa_cons (pe_fldB (K := K) rfl (pv 0) rfl) pa_nil)) (pg_name (i := 3) sc_met_outer.nd rfl (Or.inl rfl))
    (pss_one (ps_if (pt_cmpR op_isN (pe_ix (r := rIxL K) ix_list (pv 1) (pv 3) (fun _ _ => rfl)) pe_non (nomark _)) (pss_cons (ps_set (i := 4) sc_met_outer.nd rfl (Or.inl rfl) (pe_make T.mk_Search (ok_Search_init T) (hr.mono (by decide)) (by rfl) T.g_Search T.b_Search_init .nil pass0 (pa_cons (pv 0) (pa_cons (pv 1) (pa_cons (pv 3) pa_nil)))))
  (pss_cons (ps_expr (pe_meth0 (pv 4) T.cl_Search T.m_Search_end (ok_Search_end T) (hr.mono (by decide)) T.b_Search_end .nil pass0))
  (pss_one (ps_for PassesOwn.never rfl (pi_list (pe_fldB (K := K) rfl (pv 4) rfl)) (pg_name (i := 5) sc_met_outer.nd rfl (Or.inl rfl))
    (pss_one (ps_dput (hu_of hr) (pv 2) (pv 5) pe_bl rfl)))))) pss_nil)))
  (pss_one (ps_ret (pv 2))))), ?_⟩
    have e0 : start N_met_outer [.ref a, .ref m] = [some (.ref a), some (.ref m), none, none, none, none] := rfl
    rw [e0]
    have sm := ok.small
    refine q_asgN en_dnew fun v fs H1 e1 fr r => ?_
    obtain ⟨d, rfl, rfl, hd⟩ := r
    have dF := fr d List.mem_cons_self
    refine q_forR1 (n := (W.size : Nat)) (ea_cons (ev_size (hn.go e1) T.cl_Net T.na_Net_size (ev_var rfl)) ea_nil) (by omega)
      (fun i σ' G => ∃ x3 x4 x5 ks bs D, σ' = [some (.ref a), some (.ref m), some (.ref d), x3, x4, x5] ∧ Ex H G ∧ Keys G d ks ∧ ks.Nodup ∧ (∀ x ∈ ks, x < W.size) ∧ (∀ r, r < i → abF ms r = none → Vain W (abF ms) r (bs r) (D r)) ∧ ∀ x, x ∈ ks ↔ ∃ r, r < i ∧ abF ms r = none ∧ D r x)
      (fun G g => ⟨none, none, none, [], fun _ x => x, fun _ _ => False, rfl, e1.trans g, hd.go g, by simp, fun x hx => (nomatch hx), fun r hr => absurd hr (Nat.not_lt_zero _), fun x => ⟨fun h => (nomatch h), fun ⟨r, h, _⟩ => absurd h (Nat.not_lt_zero _)⟩⟩) ?_ ?_
    · rintro i σ' G hi ⟨x3, x4, x5, ks, bs, D, rfl, eG, hk, ndk, ltk, vain, mem⟩
      have hi : i < W.size := by omega
      have mi : ms[i]? = some (abF ms i) := get_abF (by rw [ml]; exact hi)
      refine s_when (b := (abF ms i).isNone) (et_is (et_test (ev_op (ev_op (ev_var rfl) (ev_var rfl) (rv_ixL (K := K) (sq_of (hm.go eG)) (atI_nat (map_get' mi)))) ev_c rv_isN)) (dec_voN _)) (fun c G1 g1 => ?_) (fun c G1 g1 => ?_)
      · have mn : abF ms i = none := by
          cases h : abF ms i with
          | none => rfl
          | some z => rw [h] at c; cases c
        have eG1 := eG.trans g1
        have pw : PWs W ms i := ⟨ok, sym, gr.m, ml, hi⟩
        refine q_asgMake (σ := [some (.ref a), some (.ref m), some (.ref d), some (vn i), x4, x5]) (vs := [.ref a, .ref m, vn i]) (ea_cons (ev_var rfl) (ea_cons (ev_var rfl) (ea_cons (ev_var rfl) ea_nil))) fun G2 p dx g2 hp hp2 => ?_
        have eC : Ex G1 (cutH [p] G2) := ex_cut g2 fun d hd => by rw [List.mem_singleton.mp hd]; exact hp
        refine ⟨p, dx, a, m, W, ms, i, rfl, hp2, (hn.go eG1).go eC, (hm.go eG1).go eC, pw, mn, fun G3 bl al ol e3 blN alN olN x => ⟨rfl, ?_⟩⟩
        have e13 := eC.trans e3
        obtain ⟨dx3, hq⟩ := x.here.ins
        have eD : Ex G1 (cutH [bl, al, ol] G3) := ex_cut e13 fun d hd => by
          simp only [List.mem_cons, List.mem_nil_iff, or_false] at hd
          rcases hd with rfl | rfl | rfl
          · exact fresh_back eC blN
          · exact fresh_back eC alN
          · exact fresh_back eC olN
        refine q_dropMeth (ev_var rfl) hq (srF_no _ _ _ _ _ _ (by decide +kernel) (by decide +kernel) (by decide +kernel) (by decide +kernel) (by decide +kernel) (by decide +kernel)) fun G4 g4 => ag_nil ?_
        have eD4 : Ex G1 (cutH [bl, al, ol] G4) := eD.trans (cutH_mono _ g4)
        refine ⟨p, a, m, bl, al, ol, W, ms, i, _, _, _, _, rfl, x.go g4, fun G5 bsl' abl' outl' rk' e5 x' lk => ?_, fun G5 bsl' abl' outl' rk' place other e5 st' ps' pm om no' mo => ?_⟩
        · have e15 := eD4.trans e5
          have hk5 := (hk.go g1).go e15
          have vn_ := x'.ps.si.vain gr.m sym lk
          have few : outl'.length ≤ W.size := few_of x'.ps.nd fun y hy => x'.lt hy
          have old : ol ≠ d := fun z => by
            have h1 : G5 ol = _ := x'.st.out
            rw [z, show G5 d = _ from hk5] at h1
            cases h1
          refine s_forLn (a := ol) (xs := outl'.map vn) (ev_souter x'.here T.cl_Search T.na_Search_outer (ev_var rfl)) (sq_of x'.st.out)
            (fun j σ' G' => ∃ x5 ks', σ' = [some (.ref a), some (.ref m), some (.ref d), some (vn i), some (.ref p), x5] ∧ Ex H G' ∧ Ints G' ol outl' ∧ Keys G' d ks' ∧ ks'.Nodup ∧ (∀ x ∈ ks', x < W.size) ∧ ∀ x, x ∈ ks' ↔ x ∈ ks ∨ x ∈ outl'.take j)
            (fun G6 g6 => ⟨x5, ks, rfl, (eG1.trans e15).trans g6, x'.st.out.go g6, hk5.go g6, ndk, ltk, fun x => by simp⟩) (fun j σ' G' _ ⟨_, _, _, _, h, _⟩ => sq_of h) ?_ ?_
          · rintro j y σ' G' hy ⟨x5, ks', rfl, eG', out', hk', nd', lt', mem'⟩
            obtain ⟨o, ho, rfl⟩ := map_get hy
            have fewk := few_of nd' lt'
            have oW := x'.lt (List.mem_of_getElem? ho)
            refine s_dput (ev_var rfl) (ev_var rfl) ev_c hk' (by omega) fun G6 g6 => ⟨_, addK ks' o, rfl, (eG'.trans g6).mut dF, ?_, ?_, addK_nodup nd', fun x hx => (mem_addK.mp hx).elim (lt' x) fun e => by rw [e]; exact oW, fun x => ?_⟩
            · show upd _ _ _ ol = _
              rw [upd_ne old]
              exact g6 _ _ out'
            · show upd _ _ _ d = _
              rw [upd_same]
            · rw [mem_addK, mem', take_snoc ho, List.mem_append, List.mem_singleton, or_assoc]
          · rintro σ' G' ⟨x5, ks', rfl, eG', out', hk', nd', lt', mem'⟩
            rw [List.length_map, List.take_length] at mem'
            refine ⟨_, _, _, ks', fun r => if r = i then bsF bsl' else bs r, fun r x => if r = i then x ∈ outl' else D r x, rfl, eG', hk', nd', lt', fun r hr hn => ?_, fun x => ?_⟩
            · by_cases e : r = i
              · subst e
                simp only [if_true]
                exact vn_
              · simp only [if_neg e]
                exact vain r (by omega) hn
            · rw [mem', mem]
              constructor
              · rintro (⟨r, h1, h2, h3⟩ | h)
                · exact ⟨r, by omega, h2, by show (if r = i then x ∈ outl' else D r x); rw [if_neg (by omega)]; exact h3⟩
                · exact ⟨i, by omega, mn, by show (if i = i then x ∈ outl' else D i x); rw [if_pos rfl]; exact h⟩
              · rintro ⟨r, h1, h2, h3⟩
                have h3 : (if r = i then x ∈ outl' else D r x) := h3
                by_cases e : r = i
                · rw [if_pos e] at h3; exact .inr h3
                · rw [if_neg e] at h3; exact .inl ⟨r, by omega, h2, h3⟩
        · obtain ⟨L, pp, nd, cl⟩ := ps'.si.full gr.m pm
          exact absurd gr ((ps'.si.way ml gr.m sym hi pm om no' mo pp nd cl).notGreat gr.m ml sym)
      · refine ⟨_, _, _, ks, bs, D, rfl, eG.trans g1, hk.go g1, ndk, ltk, fun r hr hn => ?_, fun x => ?_⟩
        · by_cases e : r = i
          · rw [e] at hn
            rw [hn] at c
            cases c
          · exact vain r (by omega) hn
        · rw [mem]
          constructor
          · rintro ⟨r, h1, h⟩
            exact ⟨r, by omega, h⟩
          · rintro ⟨r, h1, h2, h3⟩
            have e : r ≠ i := fun e => by
              rw [e] at h2
              rw [h2] at c
              cases c
            exact ⟨r, by omega, h2, h3⟩
    · rintro σ' G ⟨x3, x4, x5, ks, bs, D, rfl, eG, hk, ndk, ltk, vain, mem⟩
      rw [Int.toNat_natCast] at vain mem
      have f : Fam W (abF ms) bs D := ⟨vain⟩
      exact s_ret (ev_var rfl) fun G1 g1 => k _ [d] G1 (eG.trans g1) (fun r hr => by rw [List.mem_singleton.mp hr]; exact dF) ⟨d, ks, rfl, rfl, hk.go g1, fun x => (mem x).trans (f.missed gr.m sym)⟩
/-! grown -/
def sp_grown (CN : Addr) : Sp := newSp fun H vs S => ∃ a m W ms, vs = [.ref a, .ref m] ∧ NetAt CN H a W ∧ Opts H m ms ∧ WebOk W ∧ WebSym W ∧ MtOk W (abF ms) ∧ ms.length = W.size ∧ S = fun v fs G => ∃ p ms', v = .ref p ∧ Opts G p ms' ∧ ms'.length = W.size ∧ GreatF W (abF ms')
theorem en_way_for {CN a m : Addr} {W : Web} {ms : List (Option Nat)} {σ : L2.St} {H : Hp} {ta tb : TE} {E : XK} (hn : NetAt CN H a W) (hm : Opts H m ms) (ok : WebOk W) (sym : WebSym W) (mok : MtOk W (abF ms)) (ml : ms.length = W.size) (h1 : Ev ta σ H (.ref a)) (h2 : Ev tb σ H (.ref m)) :
    EvN (tCall (sp_way_for CN) [] E (tCons ta (tCons tb tNil))) σ H (fun v fs G => (v = .non ∧ ∀ r, r < W.size → abF ms r = none → ∃ bs D, Vain W (abF ms) r bs D) ∨ (∃ p ns, v = .ref p ∧ fs = [p] ∧ Ints G p ns ∧ IsWay W ms ns)) :=
  en_call (ea_cons h1 (ea_cons h2 ea_nil)) (spn_new fun G g => ⟨a, m, W, ms, rfl, hn.go g, hm.go g, ok, sym, mok, ml, rfl⟩)
theorem ok_grown (T : Txt K mg) : FnOk P w K mg base CX0 8 T.f_grown T.fd_grown ["net", "mates"] (sp_grown T.C_Net) := by
  refine T.F_grown.ok sc_grown (fun vs H Q E h => ?_) (fun cdv A outer s H vs Q E hr h => ?_)
  · obtain ⟨S, ⟨a, m, W, ms, rfl, _⟩, _⟩ := h
    rfl
  · obtain ⟨S, ⟨a, m, W, ms, rfl, hn, hm, ok, sym, mok, ml, rfl⟩, k⟩ := h
    refine ⟨_, (pss_cons (ps_set (i := 2) sc_grown.nd rfl (Or.inl rfl) (pe_call (ok_way_for T) (hr.mono (by decide)) (by rfl) T.g_way_for T.F_way_for.kp T.b_way_for .nil pass0 (pa_cons (pv 0) (pa_cons (pv 1) pa_nil))))
  (pss_cons (ps_while PassesOwn.never (pt_cmpR op_notN (pv 2) pe_non (nomark _)) (pss_cons (ps_set (i := 1) sc_grown.nd rfl (Or.inl rfl) (pe_call (ok_turned_mates T) (hr.mono (by decide)) (by rfl) T.g_turned_mates T.F_turned_mates.kp T.b_turned_mates .nil pass0 (pa_cons (pv 1) (pa_cons (pv 2) pa_nil))))
  (pss_one (ps_set (i := 2) sc_grown.nd rfl (Or.inl rfl) (pe_call (ok_way_for T) (hr.mono (by decide)) (by rfl) T.g_way_for T.F_way_for.kp T.b_way_for .nil pass0 (pa_cons (pv 0) (pa_cons (pv 1) pa_nil)))))))
  (pss_one (ps_ret (pv 1))))), ?_⟩
    have e0 : start N_grown [.ref a, .ref m] = [some (.ref a), some (.ref m), none] := rfl
    rw [e0]
    have sm := ok.small
    refine q_asgN (en_way_for hn hm ok sym mok ml (ev_var rfl) (ev_var rfl)) fun v fs H1 e1 fr r => ?_
    refine q_while (fun μ σ' G => ∃ m ms v, σ' = [some (.ref a), some (.ref m), some v] ∧ Ex H G ∧ Opts G m ms ∧ MtOk W (abF ms) ∧ ms.length = W.size ∧ ((v = .non ∧ ∀ r, r < W.size → abF ms r = none → ∃ bs D, Vain W (abF ms) r bs D) ∨ (∃ p ns, v = .ref p ∧ Ints G p ns ∧ IsWay W ms ns)) ∧ μ = ex W (abF ms)) (ex W (abF ms))
      ⟨m, ms, v, rfl, e1, hm.go e1, mok, ml, r.imp id fun ⟨p, ns, h1, _, h3, h4⟩ => ⟨p, ns, h1, h3, h4⟩, rfl⟩ ?_
    rintro μ σ' G ⟨m, ms, v, rfl, eG, hm, mok, ml, st, rfl⟩
    rcases st with ⟨rfl, vain⟩ | ⟨p, ns, rfl, hns, way⟩
    · refine ⟨false, et_test (ev_op (ev_var rfl) ev_c rv_notN), (fun z => nomatch z), fun _ G1 g1 => ?_⟩
      obtain ⟨bs, D, f⟩ := fam_of vain
      exact s_ret (ev_var rfl) fun G2 g2 => k _ [] G2 ((eG.trans g1).trans g2) (fun _ h => nomatch h) ⟨m, ms, rfl, (hm.go g1).go g2, ml, f.great mok sym, bs, D, f⟩
    · refine ⟨true, et_test (ev_op (ev_var rfl) ev_c rv_notN), fun _ G1 g1 => ?_, fun z => nomatch z⟩
      have few : ns.length ≤ W.size := few_of way.nd way.lt
      obtain ⟨tm, tx⟩ := way.turned mok ml sym
      refine ⟨_, fun σ2 G2 hN => hN, ?_⟩
      refine q_asgN (en_call (ea_cons (ev_var rfl) (ea_cons (ev_var rfl) ea_nil)) (spn_new (R := fun v fs G => ∃ p, v = .ref p ∧ fs = [p] ∧ Opts G p (turnL ms ns)) fun G g => ⟨m, ms, p, ns, rfl, (hm.go g1).go g, by omega, (hns.go g1).go g, way.even, by omega, fun x hx => by rw [ml]; exact way.lt x hx, rfl⟩)) fun v2 fs2 G2 g2 fr2 r2 => ?_
      obtain ⟨m2, rfl, rfl, hm2⟩ := r2
      have tl : (turnL ms ns).length = W.size := by rw [turnL_len, ml]
      have eG2 := (eG.trans g1).trans g2
      refine s_asgN (en_way_for (hn.go eG2) hm2 ok sym tm tl (ev_var rfl) (ev_var rfl)) fun v3 fs3 G3 g3 fr3 r3 => ?_
      exact ⟨ex W (abF (turnL ms ns)), by omega, m2, turnL ms ns, v3, rfl, eG2.trans g3, hm2.go g3, tm, tl, r3.imp id fun ⟨p, ns, h1, _, h3, h4⟩ => ⟨p, ns, h1, h3, h4⟩, rfl⟩
theorem mtOk_none (W : Web) (n : Nat) : MtOk W (abF (List.replicate n none)) := by
  rw [abF_none]
  exact ⟨fun _ _ h => (nomatch h), fun _ _ h => (nomatch h)⟩
/-- grown(net, [None for place in range(net.size)]) -/
theorem en_grown {CN a : Addr} {W : Web} {σ : L2.St} {H : Hp} {ta tn : TE} {E : XK} {j : Nat} {vs : List Nat} (hn : NetAt CN H a W) (ok : WebOk W) (sym : WebSym W) (h1 : Ev ta σ H (.ref a)) (h2 : Ev tn σ H (vn W.size)) (hw : ∀ x, wipe ((wipe σ vs).set j (some x)) vs = wipe σ vs) :
    EvN (tCall (sp_grown CN) [] E (tCons ta (tCons (tLc (iRng1 (tCons tn tNil)) (gName j) tYes (tC .non) vs) tNil))) σ H (fun v fs G => ∃ p ms', v = .ref p ∧ Opts G p ms' ∧ ms'.length = W.size ∧ GreatF W (abF ms')) := fun H1 e Q q => by
  have sm := ok.small
  refine call_ag (ag_ev (h1.mono e) fun H2 e2 => ag_el (xs := (List.replicate W.size (none : Option Nat)).map vo) (el_mapR (n := W.size) (ea_cons (h2.mono (e.trans e2)) ea_nil) (by omega) hw (by simp) (fun i y G g hy => ?_)) fun l H3 hl e3 hl3 => ag_nil ?_)
  · have : y = .non := by
      rw [List.map_replicate] at hy
      exact (List.mem_replicate.mp (List.mem_of_getElem? hy)).2
    subst this
    exact ev_c
  · exact ⟨_, ⟨a, l, W, _, rfl, hn.go ((e.trans e2).trans e3), hl3, ok, sym, mtOk_none W _, by simp, rfl⟩, fun v fs H4 e4 fr r => q v fs H4 ((e2.trans e3).trans e4) (fun p hp => fresh_back (e2.trans e3) (fr p hp)) r⟩
/-! most -/
def sp_most (CN : Addr) : Sp := newSp fun H vs S => ∃ a W, vs = [.ref a] ∧ NetAt CN H a W ∧ WebOk W ∧ WebSym W ∧ S = fun v fs G => ∃ p ms, v = .ref p ∧ fs = [p] ∧ Prs G p (pairsOf ms) ∧ ms.length = W.size ∧ GreatF W (abF ms)
theorem ok_most (T : Txt K mg) : FnOk P w K mg base CX0 9 T.f_most T.fd_most ["net"] (sp_most T.C_Net) := by
  refine T.F_most.ok sc_most (fun vs H Q E h => ?_) (fun cdv A outer s H vs Q E hr h => ?_)
  · obtain ⟨S, ⟨a, W, rfl, _⟩, _⟩ := h
    rfl
  · obtain ⟨S, ⟨a, W, rfl, hn, ok, sym, rfl⟩, k⟩ := h
    refine ⟨_, (pss_one (ps_ret (pe_call (ok_pairs_of T) (hr.mono (by decide)) (by rfl) T.g_pairs_of T.F_pairs_of.kp T.b_pairs_of .nil pass0 (pa_cons (pe_call (ok_grown T) (hr.mono (by decide)) (by rfl) T.g_grown T.F_grown.kp T.b_grown .nil pass0 (pa_cons (pv 0) (pa_cons (pe_lc (own := [("place", 1)]) (g := gName 1) (tt := tYes) rfl sc_most.nd (pi_range1 (by rfl) T.n_range (pa_cons (pe_fldB (K := K) rfl (pv 0) rfl) pa_nil)) (blkOk_by (own := [("place", 1)]) (N := N_most) (sc := defScope s_most) (by decide +kernel)) (fun _ _ _ _ _ => (pg_name (i := 1) sc_most.nd rfl (Or.inl rfl))) (fun _ _ _ _ _ => pts_nil) (fun _ _ _ _ _ => pe_non)) pa_nil))) pa_nil)))), ?_⟩
    have e0 : start N_most [.ref a] = [some (.ref a), none] := rfl
    rw [e0]
    have sm := ok.small
    refine s_retN (R := fun v fs G => ∃ p ms, v = .ref p ∧ fs = [p] ∧ Prs G p (pairsOf ms) ∧ ms.length = W.size ∧ GreatF W (abF ms)) (fun H1 e Q' q' => call_ag (ag_en (en_grown (hn.go e) ok sym (ev_var rfl) (ev_size (hn.go e) T.cl_Net T.na_Net_size (ev_var rfl)) (fun _ => rfl)) fun v fs H2 e2 fr r => ag_nil ?_)) fun v fs G g fr r => k v fs G g fr r
    obtain ⟨p, ms, rfl, hp, ml, gr⟩ := r
    exact ⟨_, ⟨p, ms, rfl, hp, by omega, rfl⟩, fun v fs H3 e3 fr3 ⟨b, h1, h2, h3⟩ => q' v fs H3 (e2.trans e3) (fun x hx => fresh_back e2 (fr3 x hx)) ⟨b, ms, h1, h2, h3, ml, gr⟩⟩
/-! greatest -/
def sp_greatest (CN : Addr) : Sp := newSp fun H vs S => ∃ a W, vs = [.ref a] ∧ NetAt CN H a W ∧ WebOk W ∧ WebSym W ∧ S = fun v fs G => ∃ p ms, v = .ref p ∧ Opts G p ms ∧ ms.length = W.size ∧ GreatF W (abF ms)
theorem ok_greatest (T : Txt K mg) : FnOk P w K mg base CX0 9 T.f_greatest T.fd_greatest ["net"] (sp_greatest T.C_Net) := by
  refine T.F_greatest.ok sc_greatest (fun vs H Q E h => ?_) (fun cdv A outer s H vs Q E hr h => ?_)
  · obtain ⟨S, ⟨a, W, rfl, _⟩, _⟩ := h
    rfl
  · obtain ⟨S, ⟨a, W, rfl, hn, ok, sym, rfl⟩, k⟩ := h
    refine ⟨_, (pss_one (ps_ret (pe_call (ok_grown T) (hr.mono (by decide)) (by rfl) T.g_grown T.F_grown.kp T.b_grown .nil pass0 (pa_cons (pv 0) (pa_cons (pe_lc (own := [("place", 1)]) (g := gName 1) (tt := tYes) rfl sc_greatest.nd (pi_range1 (by rfl) T.n_range (pa_cons (pe_fldB (K := K) rfl (pv 0) rfl) pa_nil)) (blkOk_by (own := [("place", 1)]) (N := N_greatest) (sc := defScope s_greatest) (by decide +kernel)) (fun _ _ _ _ _ => (pg_name (i := 1) sc_greatest.nd rfl (Or.inl rfl))) (fun _ _ _ _ _ => pts_nil) (fun _ _ _ _ _ => pe_non)) pa_nil))))), ?_⟩
    have e0 : start N_greatest [.ref a] = [some (.ref a), none] := rfl
    rw [e0]
    exact s_retN (en_grown hn ok sym (ev_var rfl) (ev_size hn T.cl_Net T.na_Net_size (ev_var rfl)) (fun _ => rfl)) fun v fs G g fr r => k v fs G g fr r
theorem en_greatest {CN a : Addr} {W : Web} {σ : L2.St} {H : Hp} {ta : TE} {E : XK} (hn : NetAt CN H a W) (ok : WebOk W) (sym : WebSym W) (h1 : Ev ta σ H (.ref a)) : EvN (tCall (sp_greatest CN) [] E (tCons ta tNil)) σ H (fun v fs G => ∃ p ms, v = .ref p ∧ Opts G p ms ∧ ms.length = W.size ∧ GreatF W (abF ms)) :=
  en_call (ea_cons h1 ea_nil) (spn_new fun G g => ⟨a, W, rfl, hn.go g, ok, sym, rfl⟩)
/-! fence -/
def sp_fence (CN : Addr) : Sp := newSp fun H vs S => ∃ a W, vs = [.ref a] ∧ NetAt CN H a W ∧ WebOk W ∧ WebSym W ∧ S = fun v fs G => ∃ p, v = .ref p ∧ fs = [p] ∧ Ints G p (fenceL W)
theorem lst_succ (n : Nat) (p : Nat → Prop) : (p n → lst (n + 1) p = lst n p ++ [n]) ∧ (¬ p n → lst (n + 1) p = lst n p) := by
  unfold lst
  rw [List.range_succ, List.filter_append]
  exact ⟨fun h => by simp [h], fun h => by simp [h]⟩
theorem ok_fence (T : Txt K mg) : FnOk P w K mg base CX0 10 T.f_fence T.fd_fence ["net"] (sp_fence T.C_Net) := by
  refine T.F_fence.ok sc_fence (fun vs H Q E h => ?_) (fun cdv A outer s H vs Q E hr h => ?_)
  · obtain ⟨S, ⟨a, W, rfl, _⟩, _⟩ := h
    rfl
  · obtain ⟨S, ⟨a, W, rfl, hn, ok, sym, rfl⟩, k⟩ := h
    refine ⟨_, (pss_cons (ps_set (i := 1) sc_fence.nd rfl (Or.inr rfl) (pe_call (ok_met_outer T) (hr.mono (by decide)) (by rfl) T.g_met_outer T.F_met_outer.kp T.b_met_outer .nil pass0 (pa_cons (pv 0) (pa_cons (pe_call (ok_greatest T) (hr.mono (by decide)) (by rfl) T.g_greatest T.F_greatest.kp T.b_greatest .nil pass0 (pa_cons (pv 0) pa_nil)) pa_nil))))
  (pss_cons (ps_set (i := 2) sc_fence.nd rfl (Or.inl rfl) (pe_lst pa_nil))
  (pss_cons (ps_for PassesOwn.never rfl (pi_range1 (by rfl) T.n_range (pa_cons (pe_fldB (K := K) rfl (pv 0) rfl) pa_nil)) (pg_name (i := 3) sc_fence.nd rfl (Or.inl rfl))
    (pss_one (ps_if (PW.pt (pw_and (pt_cmp (pc_dnotin (hu_of hr) (pv 3) (pv 1))) (pw_and1 (pt_val (pe_callB (r := rAny K) (cr_any rfl) (by rfl) T.n_any (by decide +kernel) (pa_cons (pe_lc (own := [("other", 4)]) (g := gName 4) (tt := tYes) rfl sc_fence.nd (pi_list (pe_ix (r := rIxL K) ix_list (pe_fldB (K := K) rfl (pv 0) rfl) (pv 3) (fun _ _ => rfl))) (blkOk_by (own := [("other", 4)]) (N := N_fence) (sc := defScope s_fence) (by decide +kernel)) (fun _ _ _ _ _ => (pg_name (i := 4) sc_fence.nd rfl (Or.inl rfl))) (fun _ _ _ _ _ => pts_nil) (fun _ _ _ _ _ => (pe_cmp (pc_din (hu_of hr) (pv 4) (pv 1)) rfl))) pa_nil)))))) (pss_one (ps_expr (pe_bm PySem.F.plainAttrs_list PySem.F.slot_list_append PySem.F.type_list_append mt_append (pv 2) (pa_cons (pv 3) pa_nil)))) pss_nil)))
  (pss_one (ps_ret (pv 2)))))), ?_⟩
    have e0 : start N_fence [.ref a] = [some (.ref a), none, none, none, none] := rfl
    rw [e0]
    have sm := ok.small
    refine q_asgN (R := fun v fs G => ∃ p ks, v = .ref p ∧ fs = [p] ∧ Keys G p ks ∧ ∀ x, x ∈ ks ↔ Missed W x) (fun H1 e Q' q' => call_ag (ag_ev (ev_var rfl) fun H2 e2 => ag_en (en_call (ea_cons (ev_var rfl) ea_nil) (spn_new (R := fun v fs G => ∃ p ms, v = .ref p ∧ Opts G p ms ∧ ms.length = W.size ∧ GreatF W (abF ms)) fun G g => ⟨a, W, rfl, ((hn.go e).go e2).go g, ok, sym, rfl⟩)) fun v fs H3 e3 fr r => ag_nil ?_)) fun v fs H1 e1 fr r => ?_
    · obtain ⟨p, ms, rfl, hp, ml, gr⟩ := r
      exact ⟨_, ⟨a, p, W, ms, rfl, ((hn.go e).go e2).go e3, hp, ok, sym, ml, gr.g, rfl⟩, fun v fs H4 e4 fr4 r4 => q' v fs H4 ((e2.trans e3).trans e4) (fun x hx => fresh_back (e2.trans e3) (fr4 x hx)) r4⟩
    obtain ⟨d, ks, rfl, rfl, hd, mem⟩ := r
    refine q_asgL (el_lst ea_nil (by decide)) fun l H2 hl e2 hl2 => ?_
    have e02 := e1.trans e2
    have lN : H l = none := fresh_back e1 hl
    have ld : l ≠ d := fun z => by rw [z, show H1 d = _ from hd] at hl; cases hl
    refine q_forR1 (n := (W.size : Nat)) (ea_cons (ev_size (hn.go e02) T.cl_Net T.na_Net_size (ev_var rfl)) ea_nil) (by omega)
      (fun i σ' G => ∃ x3, σ' = [some (.ref a), some (.ref d), some (.ref l), x3, none] ∧ Ex H G ∧ Keys G d ks ∧ Ints G l (lst i (FenceP W)))
      (fun G g => ⟨none, rfl, e02.trans g, (hd.go e2).go g, g _ _ hl2⟩) ?_ ?_
    · rintro i σ' G hi ⟨x3, rfl, eG, hk, hl'⟩
      have hi : i < W.size := by omega
      obtain ⟨r, hr', er, rl, rlt⟩ := ok.nb hi
      obtain ⟨s1, s2⟩ := lst_succ i (FenceP W)
      have few : (lst i (FenceP W)).length ≤ i := few_of (lst_nodup _ _) fun x hx => (mem_lst.mp hx).1
      obtain ⟨b, hb, eb⟩ := ev_near (ta := tVar 0) (tb := tVar 3) (σ := [some (.ref a), some (.ref d), some (.ref l), some (vn i), none]) hn T.cl_Net T.na_Net_near (ev_var rfl) (ev_var rfl) hr'
      refine s_when (b := !decide (i ∈ ks) && (r.map fun u => decide (u ∈ ks)).any id) (et_and (et_B (ev_dnotin (ev_var rfl) (ev_var rfl) hk)) fun _ => et_B (ev_any (el_map (xs := r.map vn) (eb.mono eG) (sq_of (eG _ _ hb)) (by rw [List.length_map]; omega) (fun _ => rfl) (by simp) (fun j x y G1 g1 hx hy => ?_)))) (fun c G1 g1 => ?_) (fun c G1 g1 => ?_)
      · obtain ⟨u, hu, rfl⟩ := map_get hx
        obtain ⟨z, hz, rfl⟩ := map_get hy
        obtain ⟨u', hu', rfl⟩ := map_get hz
        rw [hu] at hu'
        cases hu'
        exact ev_din (ev_var rfl) (ev_var rfl) (hk.go g1)
      · have f : FenceP W i := by
          rw [Bool.and_eq_true, Bool.not_eq_true', decide_eq_false_iff_not, List.any_map, List.any_eq_true] at c
          obtain ⟨c1, u, hu, c2⟩ := c
          exact ⟨fun h => c1 ((mem i).mpr h), u, by rw [er]; exact hu, (mem u).mp (of_decide_eq_true c2)⟩
        refine s_app (l := l) (v := vn i) (g1 _ _ hl') (ev_var rfl) (ev_var rfl) (by rw [List.length_map]; omega) fun G2 g2 => ⟨_, rfl, ((eG.trans g1).trans g2).mut lN, ?_, ?_⟩
        · show upd _ _ _ d = _
          rw [upd_ne (Ne.symm ld)]
          exact g2 _ _ (g1 _ _ hk)
        · show upd _ _ _ l = _
          rw [upd_same, s1 f, List.map_append]
          rfl
      · have f : ¬ FenceP W i := fun ⟨h1, u, hu, h2⟩ => by
          have : (!decide (i ∈ ks) && (r.map fun u => decide (u ∈ ks)).any id) = true := by
            rw [Bool.and_eq_true, Bool.not_eq_true', decide_eq_false_iff_not, List.any_map, List.any_eq_true]
            exact ⟨fun h => h1 ((mem i).mp h), u, by rw [← er]; exact hu, decide_eq_true ((mem u).mpr h2)⟩
          rw [this] at c
          cases c
        exact ⟨_, rfl, eG.trans g1, hk.go g1, by rw [s2 f]; exact hl'.go g1⟩
    · rintro σ' G ⟨x3, rfl, eG, hk, hl'⟩
      rw [Int.toNat_natCast] at hl'
      exact s_ret (ev_var rfl) fun G1 g1 => k _ [l] G1 (eG.trans g1) (fun r hr => by rw [List.mem_singleton.mp hr]; exact lN) ⟨l, rfl, rfl, hl'.go g1⟩
/-! _law_sole -/
theorem sole_gen (T : Txt K mg) {D : Addr} (ec : ExcC K D) {b1 b2 b3 b4 b5 b6 b7 : Bool} (k1 : PySem.W.kitOne K (.ref D) (.ref T.C_BadNet) = some b1) (k2 : PySem.W.kitOne K (.ref D) (.ref T.C_NoPlace) = some b2) (k3 : PySem.W.kitOne K (.ref D) (.ref T.C_BadPairs) = some b3) (k4 : PySem.W.kitOne K (.ref D) (.ref T.C_BadWay) = some b4) (k5 : PySem.W.kitOne K (.ref D) (.ref T.C_TieThere) = some b5) (k6 : PySem.W.kitOne K (.ref D) (.ref T.C_NoTie) = some b6) (k7 : PySem.W.kitOne K (.ref D) (.ref T.C_OddRing) = some b7)
    (hn : PySem.W.kitOne K (.ref D) (.ref T.C_NetError) = some true) (hv : PySem.W.kitOne K (.ref D) (.type "ValueError") = some true)
    (sum : (0 + (if b1 then 1 else 0) + (if b2 then 1 else 0) + (if b3 then 1 else 0) + (if b4 then 1 else 0) + (if b5 then 1 else 0) + (if b6 then 1 else 0) + (if b7 then 1 else 0) : Int) = 1) : FnE P w K mg base 1 T.f_l_sole T.fd_l_sole "_law_error" D := by
  refine fnE_of T.F_l_sole sc_l_sole (fun cdv A outer s H a oe Q hr hz hf q => ?_)
  refine ⟨_, (pss_cons (ps_set (i := 1) sc_l_sole.nd rfl (Or.inl rfl) pe_int)
  (pss_cons (ps_set (i := 1) sc_l_sole.nd rfl (Or.inl rfl) (pe_op op_add (pv 1) (pe_callTy call_int1 (by rfl) T.n_int (by decide +kernel) (pa_cons (pe_callB (r := rIsE K D a) (call_isP ec List.mem_cons_self hz hf) (by rfl) T.n_isinstance (by decide +kernel) (pa_cons (pv 0) (pa_cons (pe_glob (v := .ref T.C_BadNet) rfl T.g_BadNet rfl) pa_nil))) pa_nil))))
  (pss_cons (ps_set (i := 1) sc_l_sole.nd rfl (Or.inl rfl) (pe_op op_add (pv 1) (pe_callTy call_int1 (by rfl) T.n_int (by decide +kernel) (pa_cons (pe_callB (r := rIsE K D a) (call_isP ec List.mem_cons_self hz hf) (by rfl) T.n_isinstance (by decide +kernel) (pa_cons (pv 0) (pa_cons (pe_glob (v := .ref T.C_NoPlace) rfl T.g_NoPlace rfl) pa_nil))) pa_nil))))
  (pss_cons (ps_set (i := 1) sc_l_sole.nd rfl (Or.inl rfl) (pe_op op_add (pv 1) (pe_callTy call_int1 (by rfl) T.n_int (by decide +kernel) (pa_cons (pe_callB (r := rIsE K D a) (call_isP ec List.mem_cons_self hz hf) (by rfl) T.n_isinstance (by decide +kernel) (pa_cons (pv 0) (pa_cons (pe_glob (v := .ref T.C_BadPairs) rfl T.g_BadPairs rfl) pa_nil))) pa_nil))))
  (pss_cons (ps_set (i := 1) sc_l_sole.nd rfl (Or.inl rfl) (pe_op op_add (pv 1) (pe_callTy call_int1 (by rfl) T.n_int (by decide +kernel) (pa_cons (pe_callB (r := rIsE K D a) (call_isP ec List.mem_cons_self hz hf) (by rfl) T.n_isinstance (by decide +kernel) (pa_cons (pv 0) (pa_cons (pe_glob (v := .ref T.C_BadWay) rfl T.g_BadWay rfl) pa_nil))) pa_nil))))
  (pss_cons (ps_set (i := 1) sc_l_sole.nd rfl (Or.inl rfl) (pe_op op_add (pv 1) (pe_callTy call_int1 (by rfl) T.n_int (by decide +kernel) (pa_cons (pe_callB (r := rIsE K D a) (call_isP ec List.mem_cons_self hz hf) (by rfl) T.n_isinstance (by decide +kernel) (pa_cons (pv 0) (pa_cons (pe_glob (v := .ref T.C_TieThere) rfl T.g_TieThere rfl) pa_nil))) pa_nil))))
  (pss_cons (ps_set (i := 1) sc_l_sole.nd rfl (Or.inl rfl) (pe_op op_add (pv 1) (pe_callTy call_int1 (by rfl) T.n_int (by decide +kernel) (pa_cons (pe_callB (r := rIsE K D a) (call_isP ec List.mem_cons_self hz hf) (by rfl) T.n_isinstance (by decide +kernel) (pa_cons (pv 0) (pa_cons (pe_glob (v := .ref T.C_NoTie) rfl T.g_NoTie rfl) pa_nil))) pa_nil))))
  (pss_cons (ps_set (i := 1) sc_l_sole.nd rfl (Or.inl rfl) (pe_op op_add (pv 1) (pe_callTy call_int1 (by rfl) T.n_int (by decide +kernel) (pa_cons (pe_callB (r := rIsE K D a) (call_isP ec List.mem_cons_self hz hf) (by rfl) T.n_isinstance (by decide +kernel) (pa_cons (pv 0) (pa_cons (pe_glob (v := .ref T.C_OddRing) rfl T.g_OddRing rfl) pa_nil))) pa_nil))))
  (pss_one (ps_ret (pe_and (pe_cmpR op_eq (pv 1) pe_int (nomark _)) (pe_and (pe_callB (r := rIsE K D a) (call_isP ec List.mem_cons_self hz hf) (by rfl) T.n_isinstance (by decide +kernel) (pa_cons (pv 0) (pa_cons (pe_glob (v := .ref T.C_NetError) rfl T.g_NetError rfl) pa_nil))) (pe_one (pe_callB (r := rIsE K D a) (call_isP ec List.mem_cons_self hz hf) (by rfl) T.n_isinstance (by decide +kernel) (pa_cons (pv 0) (pa_cons (pe_bltn (v := .ty "ValueError") (by rfl) T.n_ValueError (by decide +kernel) rfl) pa_nil)))))))))))))))), ?_⟩
  have e0 : start N_l_sole [.ref a] = [some (.ref a), none] := rfl
  rw [e0]
  refine q_asg ev_c fun H0 e0 => ?_
  refine q_asg (ev_op (ev_var rfl) (ev_cb (ea_cons (ev_cb (ea_cons (ev_var rfl) (ea_cons ev_c ea_nil)) (rc_isE (.own _) k1)) ea_nil) rc_int1) rv_I0) fun H1 e1 => ?_
  refine q_asg (ev_op (ev_var rfl) (ev_cb (ea_cons (ev_cb (ea_cons (ev_var rfl) (ea_cons ev_c ea_nil)) (rc_isE (.own _) k2)) ea_nil) rc_int1) rv_I0) fun H2 e2 => ?_
  refine q_asg (ev_op (ev_var rfl) (ev_cb (ea_cons (ev_cb (ea_cons (ev_var rfl) (ea_cons ev_c ea_nil)) (rc_isE (.own _) k3)) ea_nil) rc_int1) rv_I0) fun H3 e3 => ?_
  refine q_asg (ev_op (ev_var rfl) (ev_cb (ea_cons (ev_cb (ea_cons (ev_var rfl) (ea_cons ev_c ea_nil)) (rc_isE (.own _) k4)) ea_nil) rc_int1) rv_I0) fun H4 e4 => ?_
  refine q_asg (ev_op (ev_var rfl) (ev_cb (ea_cons (ev_cb (ea_cons (ev_var rfl) (ea_cons ev_c ea_nil)) (rc_isE (.own _) k5)) ea_nil) rc_int1) rv_I0) fun H5 e5 => ?_
  refine q_asg (ev_op (ev_var rfl) (ev_cb (ea_cons (ev_cb (ea_cons (ev_var rfl) (ea_cons ev_c ea_nil)) (rc_isE (.own _) k6)) ea_nil) rc_int1) rv_I0) fun H6 e6 => ?_
  refine q_asg (ev_op (ev_var rfl) (ev_cb (ea_cons (ev_cb (ea_cons (ev_var rfl) (ea_cons ev_c ea_nil)) (rc_isE (.own _) k7)) ea_nil) rc_int1) rv_I0) fun H7 e7 => ?_
  refine s_ret (ev_is (ev_andV (a := true) (ev_is (ev_op (ev_var rfl) ev_c (rv_eq rfl)) ?_) fun _ => ev_andV (a := true) (b := true) (ev_cb (ea_cons (ev_var rfl) (ea_cons ev_c ea_nil)) (rc_isE (.own _) hn)) fun _ => ev_cb (ea_cons (ev_var rfl) (ea_cons ev_c ea_nil)) (rc_isE (.ty _) hv)) rfl) fun H8 e8 => ?_
  · rw [dec_int]
    exact congrArg V.bl (decide_eq_true sum)
  · exact q _ (((((((e0.trans e1).trans e2).trans e3).trans e4).trans e5).trans e6).trans e7 |>.trans e8)
theorem sole_BadNet (T : Txt K mg) : FnE P w K mg base 1 T.f_l_sole T.fd_l_sole "_law_error" T.C_BadNet := sole_gen T T.ec_BadNet T.ki_BadNet_BadNet T.ki_BadNet_NoPlace T.ki_BadNet_BadPairs T.ki_BadNet_BadWay T.ki_BadNet_TieThere T.ki_BadNet_NoTie T.ki_BadNet_OddRing T.ki_BadNet_NetError T.ve_BadNet (by decide)
theorem sole_NoPlace (T : Txt K mg) : FnE P w K mg base 1 T.f_l_sole T.fd_l_sole "_law_error" T.C_NoPlace := sole_gen T T.ec_NoPlace T.ki_NoPlace_BadNet T.ki_NoPlace_NoPlace T.ki_NoPlace_BadPairs T.ki_NoPlace_BadWay T.ki_NoPlace_TieThere T.ki_NoPlace_NoTie T.ki_NoPlace_OddRing T.ki_NoPlace_NetError T.ve_NoPlace (by decide)
theorem sole_BadPairs (T : Txt K mg) : FnE P w K mg base 1 T.f_l_sole T.fd_l_sole "_law_error" T.C_BadPairs := sole_gen T T.ec_BadPairs T.ki_BadPairs_BadNet T.ki_BadPairs_NoPlace T.ki_BadPairs_BadPairs T.ki_BadPairs_BadWay T.ki_BadPairs_TieThere T.ki_BadPairs_NoTie T.ki_BadPairs_OddRing T.ki_BadPairs_NetError T.ve_BadPairs (by decide)
theorem sole_BadWay (T : Txt K mg) : FnE P w K mg base 1 T.f_l_sole T.fd_l_sole "_law_error" T.C_BadWay := sole_gen T T.ec_BadWay T.ki_BadWay_BadNet T.ki_BadWay_NoPlace T.ki_BadWay_BadPairs T.ki_BadWay_BadWay T.ki_BadWay_TieThere T.ki_BadWay_NoTie T.ki_BadWay_OddRing T.ki_BadWay_NetError T.ve_BadWay (by decide)
theorem sole_OddRing (T : Txt K mg) : FnE P w K mg base 1 T.f_l_sole T.fd_l_sole "_law_error" T.C_OddRing := sole_gen T T.ec_OddRing T.ki_OddRing_BadNet T.ki_OddRing_NoPlace T.ki_OddRing_BadPairs T.ki_OddRing_BadWay T.ki_OddRing_TieThere T.ki_OddRing_NoTie T.ki_OddRing_OddRing T.ki_OddRing_NetError T.ve_OddRing (by decide)
theorem sole_TieThere (T : Txt K mg) : FnE P w K mg base 1 T.f_l_sole T.fd_l_sole "_law_error" T.C_TieThere := sole_gen T T.ec_TieThere T.ki_TieThere_BadNet T.ki_TieThere_NoPlace T.ki_TieThere_BadPairs T.ki_TieThere_BadWay T.ki_TieThere_TieThere T.ki_TieThere_NoTie T.ki_TieThere_OddRing T.ki_TieThere_NetError T.ve_TieThere (by decide)
theorem sole_NoTie (T : Txt K mg) : FnE P w K mg base 1 T.f_l_sole T.fd_l_sole "_law_error" T.C_NoTie := sole_gen T T.ec_NoTie T.ki_NoTie_BadNet T.ki_NoTie_NoPlace T.ki_NoTie_BadPairs T.ki_NoTie_BadWay T.ki_NoTie_TieThere T.ki_NoTie_NoTie T.ki_NoTie_OddRing T.ki_NoTie_NetError T.ve_NoTie (by decide)
theorem set_get {σ : L2.St} {n i : Nat} {v : V} (h : σ.length = n) (hi : i < n := by decide) : (σ.set i (some v))[i]? = some (some v) := by
  simp [h, hi]
/-! _law_cell_at -/
def cellAt (ns : List Int) (k : Nat) : Int := ns.getD k 0
def Script (K : PySem.W.Frag) (H : Hp) (a : Addr) (ns : List Int) : Prop := SqL K H a (ns.map V.int) ∧ ns.length ≤ 63
theorem Script.go {H H' : Hp} {a : Addr} {ns : List Int} (h : Script K H a ns) (e : Ex H H') : Script K H' a ns := ⟨ex_l e h.1, h.2⟩
def sp_l_cell_at (K : PySem.W.Frag) : Sp := pureSp fun H vs z => ∃ a ns k, vs = [.ref a, vn k] ∧ Script K H a ns ∧ z = .int (cellAt ns k)
theorem ok_l_cell_at (T : Txt K mg) : FnOk P w K mg base CX0 1 T.f_l_cell_at T.fd_l_cell_at ["_law_script", "_law_k"] (sp_l_cell_at K) := by
  refine T.F_l_cell_at.ok sc_l_cell_at (fun vs H Q E h => ?_) (fun cdv A outer s H vs Q E hr h => ?_)
  · obtain ⟨z, ⟨a, ns, k, rfl, _⟩, _⟩ := h
    rfl
  · obtain ⟨z, ⟨a, ns, k, rfl, ⟨hs, hl⟩, rfl⟩, q⟩ := h
    refine ⟨_, (pss_cons (ps_if (pt_cmpR op_lt (pv 1) (pe_callB (r := rLenS K) call_len_seq (by rfl) T.n_len (by decide +kernel) (pa_cons (pv 0) pa_nil)) (nomark _)) (pss_one (ps_ret (pe_ix (r := rIxL K) ix_list (pv 0) (pv 1) (fun _ _ => rfl)))) pss_nil)
  (pss_one (ps_ret pe_int))), ?_⟩
    refine q_when (b := decide (k < ns.length)) (et_is (et_test (ev_op (ev_var rfl) (ev_len (K := K) (ev_var rfl) hs) rv_I0)) (by simp)) (fun c H1 e1 => ?_) (fun c H1 e1 => ?_)
    · have c : k < ns.length := by simpa using c
      refine s_ret (ev_op (ev_var rfl) (ev_var rfl) (rv_ixL (K := K) (ex_l e1 hs) (atI_nat (v := .int (cellAt ns k)) ?_))) fun H2 e2 => q H2 (e1.trans e2)
      rw [List.getElem?_map, List.getElem?_eq_getElem c]
      simp [cellAt, List.getD_eq_getElem?_getD, c]
    · have c : ¬ k < ns.length := by simpa using c
      have : cellAt ns k = 0 := by
        unfold cellAt
        rw [List.getD_eq_getElem?_getD, List.getElem?_eq_none (by omega)]
        rfl
      rw [this] at q
      exact s_ret ev_c fun H2 e2 => q H2 (e1.trans e2)
theorem spv_l_cell {H : Hp} {a : Addr} {ns : List Int} {k : Nat} (h : Script K H a ns) : SpV (sp_l_cell_at K) [.ref a, vn k] H (.int (cellAt ns k)) := spv_pure fun H1 e => ⟨a, ns, k, rfl, h.go e, rfl⟩
theorem ev_cell {σ : L2.St} {H : Hp} {ta tb : TE} {E : XK} {a : Addr} {ns : List Int} {k : Nat} (h : Script K H a ns) (h1 : Ev ta σ H (.ref a)) (h2 : Ev tb σ H (vn k)) : Ev (tCall (sp_l_cell_at K) [] E (tCons ta (tCons tb tNil))) σ H (.int (cellAt ns k)) := ev_call (ea_cons h1 (ea_cons h2 ea_nil)) (spv_l_cell h)
/-! _law_tied -/
def tiedB (kind cell one other size : Int) : Bool :=
  if kind = 0 then decide (cell % 3 = 0)
  else if kind = 1 then decide (other = one + 1) || (decide (one = 0) && decide (other = size - 1) || decide (cell % 11 = 0))
  else if kind = 2 then decide ((one + other) % 2 = 1) && decide (cell % 2 = 0)
  else if kind = 3 then (decide (one < 2) && decide (cell % 3 > 0)) || (decide (one > 1) && decide ((one - 2) / 3 = (other - 2) / 3))
  else decide (cell % 4 > 0)
def sp_l_tied : Sp := pureSp fun _ vs z => ∃ kind cell one other size, vs = [.int kind, .int cell, .int one, .int other, .int size] ∧ z = .bl (tiedB kind cell one other size)
theorem ok_l_tied (T : Txt K mg) : FnOk P w K mg base CX0 1 T.f_l_tied T.fd_l_tied ["_law_kind", "_law_cell", "_law_one", "_law_other", "_law_size"] sp_l_tied := by
  refine T.F_l_tied.ok sc_l_tied (fun vs H Q E h => ?_) (fun cdv A outer s H vs Q E hr h => ?_)
  · obtain ⟨z, ⟨_, _, _, _, _, rfl, _⟩, _⟩ := h
    rfl
  · obtain ⟨z, ⟨kind, cell, one, other, size, rfl, rfl⟩, q⟩ := h
    refine ⟨_, (pss_cons (ps_if (pt_cmpR op_eq (pv 0) pe_int (nomark _)) (pss_one (ps_ret (pe_cmpR op_eq (pe_op op_mod (pv 1) pe_int) pe_int (nomark _)))) pss_nil)
  (pss_cons (ps_if (pt_cmpR op_eq (pv 0) pe_int (nomark _)) (pss_one (ps_ret (pe_or (pe_cmpR op_eq (pv 3) (pe_op op_add (pv 2) pe_int) (nomark _)) (pe_or (pe_and (pe_cmpR op_eq (pv 2) pe_int (nomark _)) (pe_one (pe_cmpR op_eq (pv 3) (pe_op op_sub (pv 4) pe_int) (nomark _)))) (pe_one (pe_cmpR op_eq (pe_op op_mod (pv 1) pe_int) pe_int (nomark _))))))) pss_nil)
  (pss_cons (ps_if (pt_cmpR op_eq (pv 0) pe_int (nomark _)) (pss_one (ps_ret (pe_and (pe_cmpR op_eq (pe_op op_mod (pe_op op_add (pv 2) (pv 3)) pe_int) pe_int (nomark _)) (pe_one (pe_cmpR op_eq (pe_op op_mod (pv 1) pe_int) pe_int (nomark _)))))) pss_nil)
  (pss_cons (ps_if (pt_cmpR op_eq (pv 0) pe_int (nomark _)) (pss_one (ps_ret (pe_or (pe_and (pe_cmpR op_lt (pv 2) pe_int (nomark _)) (pe_one (pe_cmpR op_gt (pe_op op_mod (pv 1) pe_int) pe_int (nomark _)))) (pe_one (pe_and (pe_cmpR op_gt (pv 2) pe_int (nomark _)) (pe_one (pe_cmpR op_eq (pe_op op_fdiv (pe_op op_sub (pv 2) pe_int) pe_int) (pe_op op_fdiv (pe_op op_sub (pv 3) pe_int) pe_int) (nomark _)))))))) pss_nil)
  (pss_one (ps_ret (pe_cmpR op_gt (pe_op op_mod (pv 1) pe_int) pe_int (nomark _)))))))), ?_⟩
    have mo : ∀ (i j : Nat) (x : Int) (m : Int) H1, 0 < m → (start N_l_tied [.int kind, .int cell, .int one, .int other, .int size])[i]? = some (some (.int x)) → Ev (tOp (rI (fun _ j => 0 < j) fun i j => .int (i % j)) (tVar i) (tC (.int m))) (start N_l_tied [.int kind, .int cell, .int one, .int other, .int size]) H1 (.int (x % m)) := fun i j x m H1 hm h => ev_op (ev_var h) ev_c (rv_I hm)
    have e0 : start N_l_tied [.int kind, .int cell, .int one, .int other, .int size] = [some (.int kind), some (.int cell), some (.int one), some (.int other), some (.int size)] := rfl
    rw [e0]
    have kd : ∀ (k : Int) H1, EvT (tTest (tOp rEq (tVar 0) (tC (.int k)))) [some (.int kind), some (.int cell), some (.int one), some (.int other), some (.int size)] H1 (decide (kind = k)) := fun k H1 => et_is (et_test (ev_op (ev_var rfl) ev_c (rv_eq rfl))) (dec_int _ _)
    refine q_when (kd 0 H) (fun c H1 e1 => ?_) (fun c H1 e1 => ?_)
    · refine s_ret (ev_is (ev_op (ev_op (ev_var rfl) ev_c (rv_I (by decide))) ev_c (rv_eq rfl)) ?_) fun H2 e2 => q H2 (e1.trans e2)
      rw [dec_int, tiedB, if_pos (by simpa using c)]
    have c0 : ¬ kind = 0 := by simpa using c
    refine q_when (kd 1 H1) (fun c H2 e2 => ?_) (fun c H2 e2 => ?_)
    · refine s_ret (ev_is (ev_orV (ev_op (ev_var rfl) (ev_op (ev_var rfl) ev_c rv_I0) (rv_eq rfl)) fun _ => ev_orV (ev_andV (ev_op (ev_var rfl) ev_c (rv_eq rfl)) fun _ => ev_op (ev_var rfl) (ev_op (ev_var rfl) ev_c rv_I0) (rv_eq rfl)) fun _ => ev_op (ev_op (ev_var rfl) ev_c (rv_I (by decide))) ev_c (rv_eq rfl)) ?_) fun H3 e3 => q H3 ((e1.trans e2).trans e3)
      simp only [dec_int]
      rw [tiedB, if_neg c0, if_pos (by simpa using c)]
    have c1 : ¬ kind = 1 := by simpa using c
    refine q_when (kd 2 H2) (fun c H3 e3 => ?_) (fun c H3 e3 => ?_)
    · refine s_ret (ev_is (ev_andV (ev_op (ev_op (ev_op (ev_var rfl) (ev_var rfl) rv_I0) ev_c (rv_I (by decide))) ev_c (rv_eq rfl)) fun _ => ev_op (ev_op (ev_var rfl) ev_c (rv_I (by decide))) ev_c (rv_eq rfl)) ?_) fun H4 e4 => q H4 (((e1.trans e2).trans e3).trans e4)
      simp only [dec_int]
      rw [tiedB, if_neg c0, if_neg c1, if_pos (by simpa using c)]
    have c2 : ¬ kind = 2 := by simpa using c
    refine q_when (kd 3 H3) (fun c H4 e4 => ?_) (fun c H4 e4 => ?_)
    · refine s_ret (ev_is (ev_orV (ev_andV (ev_op (ev_var rfl) ev_c rv_I0) fun _ => ev_op (ev_op (ev_var rfl) ev_c (rv_I (by decide))) ev_c rv_I0) fun _ => ev_andV (ev_op (ev_var rfl) ev_c rv_I0) fun _ => ev_op (ev_op (ev_op (ev_var rfl) ev_c rv_I0) ev_c (rv_I ⟨by decide, by decide⟩)) (ev_op (ev_op (ev_var rfl) ev_c rv_I0) ev_c (rv_I ⟨by decide, by decide⟩)) (rv_eq rfl)) ?_) fun H5 e5 => q H5 ((((e1.trans e2).trans e3).trans e4).trans e5)
      simp only [dec_int]
      rw [tiedB, if_neg c0, if_neg c1, if_neg c2, if_pos (by simpa using c)]
    have c3 : ¬ kind = 3 := by simpa using c
    refine s_ret (ev_is (ev_op (ev_op (ev_var rfl) ev_c (rv_I (by decide))) ev_c rv_I0) ?_) fun H5 e5 => q H5 ((((e1.trans e2).trans e3).trans e4).trans e5)
    rw [tiedB, if_neg c0, if_neg c1, if_neg c2, if_neg c3]
theorem spv_l_tied {H : Hp} {kind cell one other size : Int} : SpV sp_l_tied [.int kind, .int cell, .int one, .int other, .int size] H (.bl (tiedB kind cell one other size)) := spv_pure fun H1 e => ⟨_, _, _, _, _, rfl, rfl⟩
/-! _law_ties_by -/
def tieAt (ns : List Int) (n : Nat) (kind : Int) (one other : Nat) : Bool :=
  tiedB kind ((cellAt ns (3 + (other * (other - 1) / 2 + one) % 24) + (((other * (other - 1) / 2 + one) / 24 * 7919 : Nat) : Int)) / ((1 + one % 3 : Nat) : Int)) one other n
def tiesRow (ns : List Int) (n : Nat) (kind : Int) (i m : Nat) : List (Nat × Nat) := ((List.range m).filter fun k => tieAt ns n kind i (i + 1 + k)).map fun k => (i, i + 1 + k)
def tiesBy (ns : List Int) (n : Nat) (kind : Int) : List (Nat × Nat) := (List.range n).flatMap fun i => tiesRow ns n kind i (n - (i + 1))
theorem tiesRow_len (ns : List Int) (n : Nat) (kind : Int) (i m : Nat) : (tiesRow ns n kind i m).length ≤ m := by
  unfold tiesRow
  rw [List.length_map]
  have := List.length_filter_le (fun k => tieAt ns n kind i (i + 1 + k)) (List.range m)
  rw [List.length_range] at this
  exact this
theorem tiesRow_mem {ns : List Int} {n : Nat} {kind : Int} {i m : Nat} {p : Nat × Nat} (h : p ∈ tiesRow ns n kind i m) : p.1 = i ∧ i < p.2 ∧ p.2 < i + 1 + m := by
  obtain ⟨k, hk, rfl⟩ := List.mem_map.mp h
  have := List.mem_range.mp (List.mem_filter.mp hk).1
  exact ⟨rfl, by show i < i + 1 + k; omega, by show i + 1 + k < _; omega⟩
theorem tiesBy_ok (ns : List Int) (n : Nat) (kind : Int) : TiesOk n (tiesBy ns n kind) := fun p hp => by
  obtain ⟨i, hi, h⟩ := List.mem_flatMap.mp hp
  have hi := List.mem_range.mp hi
  have := tiesRow_mem h
  omega
theorem tiesBy_sorted (ns : List Int) (n : Nat) (kind : Int) : (tiesBy ns n kind).Pairwise fun a b => a.1 < b.1 ∨ (a.1 = b.1 ∧ a.2 < b.2) := by
  unfold tiesBy
  rw [List.pairwise_flatMap]
  refine ⟨fun i hi => ?_, ?_⟩
  · unfold tiesRow
    rw [List.pairwise_map]
    exact (List.pairwise_lt_range.filter _).imp fun {a b} h => .inr ⟨rfl, by show i + 1 + a < i + 1 + b; omega⟩
  · refine (List.pairwise_lt_range (n := n)).imp fun {i j} hij p hp q hq => .inl ?_
    rw [(tiesRow_mem hp).1, (tiesRow_mem hq).1]
    exact hij
theorem tiesBy_nodup (ns : List Int) (n : Nat) (kind : Int) : (tiesBy ns n kind).Nodup := (tiesBy_sorted ns n kind).imp fun {a b} h e => by
  subst e
  omega
theorem tiesBy_self (ns : List Int) (n : Nat) (kind : Int) : srtP (tiesBy ns n kind) = tiesBy ns n kind :=
  (srtP_one (List.Perm.refl _) ((tiesBy_sorted ns n kind).imp fun h => leP_iff.mpr (h.imp id fun z => ⟨z.1, Nat.le_of_lt z.2⟩))).symm
theorem tiesBy_pre_len (ns : List Int) (n : Nat) (kind : Int) : ∀ i, i ≤ n → 2 * ((List.range i).flatMap fun i => tiesRow ns n kind i (n - (i + 1))).length + (i * i + i) ≤ 2 * (i * n)
  | 0, _ => by simp
  | i + 1, h => by
    have ih := tiesBy_pre_len ns n kind i (by omega)
    rw [List.range_succ, List.flatMap_append, List.length_append]
    have := tiesRow_len ns n kind i (n - (i + 1))
    simp only [List.flatMap_cons, List.flatMap_nil, List.append_nil]
    have h1 : (i + 1) * (i + 1) = i * i + i + i + 1 := by rw [Nat.add_mul, Nat.mul_add]; omega
    have h2 : (i + 1) * n = i * n + n := by rw [Nat.add_mul]; omega
    omega
theorem tiesBy_len (ns : List Int) {n : Nat} (kind : Int) (h : n ≤ 40) : (tiesBy ns n kind).length ≤ 800 := by
  have := tiesBy_pre_len ns n kind n (Nat.le_refl _)
  have h2 : n * n ≤ 40 * 40 := Nat.mul_le_mul h h
  unfold tiesBy
  omega
def sp_l_ties_by (K : PySem.W.Frag) : Sp := newSp fun H vs S => ∃ a ns n kind, vs = [.ref a, vn n, .int kind] ∧ Script K H a ns ∧ n ≤ 40 ∧ S = fun v fs G => ∃ p, v = .ref p ∧ Prs G p (tiesBy ns n kind)
theorem ok_l_ties_by (T : Txt K mg) : FnOk P w K mg base CX0 2 T.f_l_ties_by T.fd_l_ties_by ["_law_script", "_law_size", "_law_kind"] (sp_l_ties_by K) := by
  refine T.F_l_ties_by.ok sc_l_ties_by (fun vs H Q E h => ?_) (fun cdv A outer s H vs Q E hr h => ?_)
  · obtain ⟨S, ⟨a, ns, n, kind, rfl, _⟩, _⟩ := h
    rfl
  · obtain ⟨S, ⟨a, ns, n, kind, rfl, hs, hn, rfl⟩, q⟩ := h
    refine ⟨_, (pss_cons (ps_set (i := 3) sc_l_ties_by.nd rfl (Or.inl rfl) (pe_lst pa_nil))
  (pss_cons (ps_for PassesOwn.never rfl (pi_range1 (by rfl) T.n_range (pa_cons (pv 1) pa_nil)) (pg_name (i := 4) sc_l_ties_by.nd rfl (Or.inl rfl))
    (pss_one (ps_for PassesOwn.never rfl (pi_range2 (by rfl) T.n_range (pa_cons (pe_op op_add (pv 4) pe_int) (pa_cons (pv 1) pa_nil))) (pg_name (i := 5) sc_l_ties_by.nd rfl (Or.inl rfl))
    (pss_cons (ps_set (i := 6) sc_l_ties_by.nd rfl (Or.inl rfl) (pe_op op_add (pe_op op_fdiv (pe_op op_mul (pv 5) (pe_op op_sub (pv 5) pe_int)) pe_int) (pv 4)))
  (pss_cons (ps_set (i := 7) sc_l_ties_by.nd rfl (Or.inl rfl) (pe_op op_add (pe_call (ok_l_cell_at T) (hr.mono (by decide)) (by rfl) T.g_l_cell_at T.F_l_cell_at.kp T.b_l_cell_at .nil pass0 (pa_cons (pv 0) (pa_cons (pe_op op_add pe_int (pe_op op_mod (pv 6) pe_int)) pa_nil))) (pe_op op_mul (pe_op op_fdiv (pv 6) pe_int) pe_int)))
  (pss_one (ps_if (pt_val (pe_call (ok_l_tied T) (hr.mono (by decide)) (by rfl) T.g_l_tied T.F_l_tied.kp T.b_l_tied .nil pass0 (pa_cons (pv 2) (pa_cons (pe_op op_fdiv (pv 7) (pe_op op_add pe_int (pe_op op_mod (pv 4) pe_int))) (pa_cons (pv 4) (pa_cons (pv 5) (pa_cons (pv 1) pa_nil))))))) (pss_one (ps_expr (pe_bm PySem.F.plainAttrs_list PySem.F.slot_list_append PySem.F.type_list_append mt_append (pv 3) (pa_cons (pe_tup (pa_cons (pv 4) (pa_cons (pv 5) pa_nil))) pa_nil)))) pss_nil)))))))
  (pss_one (ps_ret (pv 3))))), ?_⟩
    have e0 : start N_l_ties_by [.ref a, vn n, .int kind] = [some (.ref a), some (vn n), some (.int kind), none, none, none, none, none] := rfl
    rw [e0]
    refine q_asgL (el_lst ea_nil (by decide)) fun l H1 hl e1 hl1 => ?_
    refine q_forR1 (n := (n : Nat)) (ea_cons (ev_var rfl) ea_nil) (by omega)
      (fun i σ' H' => ∃ x4 x5 x6 x7 as, σ' = [some (.ref a), some (vn n), some (.int kind), some (.ref l), x4, x5, x6, x7] ∧ Ex H H' ∧ H' l = some (.lst (as.map V.ref)) ∧ Paired (Pr H') as ((List.range i).flatMap fun i => tiesRow ns n kind i (n - (i + 1))))
      (fun H2 e2 => ⟨none, none, none, none, [], rfl, e1.trans e2, e2 _ _ hl1, .nil⟩) ?_ ?_
    · rintro i σ' G hi ⟨x4, x5, x6, x7, as, rfl, eG, gl, gp⟩
      have hi : i < n := by omega
      have flat : ((List.range i).flatMap fun i => tiesRow ns n kind i (n - (i + 1))).length ≤ i * n := by
        refine flat_len (fun j => Nat.le_trans (tiesRow_len _ _ _ _ _) ?_) i
        omega
      have hin : i * n ≤ 40 * 40 := Nat.mul_le_mul (by omega) hn
      refine s_forR2 (lo := ((i + 1 : Nat) : Int)) (n := (n : Nat)) (ea_cons (ev_is (ev_op (ev_var rfl) ev_c rv_I0) (by show V.int _ = V.int _; congr 1)) (ea_cons (ev_var rfl) ea_nil)) (by omega)
        (fun k σ' H' => ∃ x5 x6 x7 bs, σ' = [some (.ref a), some (vn n), some (.int kind), some (.ref l), some (vn i), x5, x6, x7] ∧ Ex H H' ∧ H' l = some (.lst (bs.map V.ref)) ∧ Paired (Pr H') bs (((List.range i).flatMap fun i => tiesRow ns n kind i (n - (i + 1))) ++ tiesRow ns n kind i k))
        (fun H2 e2 => ⟨x5, x6, x7, as, rfl, eG.trans e2, e2 _ _ gl, by simpa [tiesRow] using Paired.mapP gp fun c z hc => e2 _ _ hc⟩) ?_ ?_
      · rintro k σ' G' hk ⟨x5, x6, x7, bs, rfl, eG', gl', gp'⟩
        have hk : i + 1 + k < n := by omega
        have eo : V.int (((i + 1 : Nat) : Int) + (k : Int)) = vn (i + 1 + k) := rfl
        rw [eo]
        have bl := paired_len gp'
        rw [List.length_append] at bl
        have bl2 := tiesRow_len ns n kind i k
        obtain ⟨o, ho⟩ : ∃ o, o = i + 1 + k := ⟨_, rfl⟩
        rw [← ho] at hk ⊢
        refine q_asg (v := vn (o * (o - 1) / 2 + i)) (ev_is (ev_op (ev_op (ev_op (ev_var rfl) (ev_op (ev_var rfl) ev_c rv_I0) (rv_I (.inl ⟨by show -(2 ^ 64) < (o : Int); omega, by show (o : Int) < 2 ^ 64; omega⟩))) ev_c (rv_I ⟨by decide, by decide⟩)) (ev_var rfl) rv_I0) ?_) fun G1 g1 => ?_
        · show V.int _ = V.int _
          congr 1
          have : (o : Int) - 1 = ((o - 1 : Nat) : Int) := by omega
          rw [this]
          norm_cast
        obtain ⟨at_, hat⟩ : ∃ at_, at_ = o * (o - 1) / 2 + i := ⟨_, rfl⟩
        rw [← hat]
        have s1 := (hs.go eG').go g1
        refine q_asg (v := .int (cellAt ns (3 + at_ % 24) + ((at_ / 24 * 7919 : Nat) : Int))) (ev_is (ev_op (ev_cell (k := 3 + at_ % 24) s1 (ev_var rfl) (ev_is (ev_op ev_c (ev_op (ev_var rfl) ev_c (rv_I (by decide))) rv_I0) ?_)) (ev_op (ev_op (ev_var rfl) ev_c (rv_I ⟨by decide, by decide⟩)) ev_c (rv_I (.inr ⟨by decide, by decide⟩))) rv_I0) ?_) fun G2 g2 => ?_
        · show V.int _ = V.int _
          congr 1
        · show V.int _ = V.int _
          congr 1
        refine s_when (b := tieAt ns n kind i o) (et_is (et_B (ev_call (ea_cons (ev_var rfl) (ea_cons (ev_op (ev_var rfl) (ev_op ev_c (ev_op (ev_var rfl) ev_c (rv_I (by decide))) rv_I0) (rv_I ⟨by show (0 : Int) < 1 + (i : Int) % 3; omega, by show 1 + (i : Int) % 3 < 1073741824; omega⟩)) (ea_cons (ev_var rfl) (ea_cons (ev_var rfl) (ea_cons (ev_var rfl) ea_nil))))) spv_l_tied)) ?_) (fun c G3 g3 => ?_) (fun c G3 g3 => ?_)
        · unfold tieAt
          rw [← hat]
          congr 1
        · have e3 := (g1.trans g2).trans g3
          refine s_appU (l := l) (e3 _ _ gl') (ev_var rfl) (eu_tup (ea_cons (ev_var rfl) (ea_cons (ev_var rfl) ea_nil)) (by show 2 ≤ 100000; decide)) (by rw [List.length_map]; omega) fun t G4 ht e4 ht2 => ?_
          have tl : t ≠ l := fun z => by rw [z, e3 _ _ gl'] at ht; cases ht
          refine ⟨_, _, _, bs ++ [t], rfl, ((eG'.trans e3).trans e4).mut hl, by rw [upd_same, List.map_append]; rfl, ?_⟩
          have : tiesRow ns n kind i (k + 1) = tiesRow ns n kind i k ++ [(i, o)] := by
            unfold tiesRow
            rw [List.range_succ, List.filter_append, List.map_append]
            simp only [List.filter_cons, List.filter_nil]
            rw [← ho, if_pos c]
            rw [List.map_cons, ← ho]
            rfl
          rw [this, ← List.append_assoc]
          refine paired_app (Paired.mapP gp' fun c' z hc => ?_) (.cons ?_ .nil)
          · show upd _ _ _ c' = _
            rw [upd_ne (ne_of hc gl' (by intro z; cases z))]
            exact e4 _ _ (e3 _ _ hc)
          · show upd _ _ _ t = _
            rw [upd_ne tl]
            exact ht2
        · have e3 := (g1.trans g2).trans g3
          refine ⟨_, _, _, bs, rfl, eG'.trans e3, e3 _ _ gl', ?_⟩
          have : tiesRow ns n kind i (k + 1) = tiesRow ns n kind i k := by
            unfold tiesRow
            rw [List.range_succ, List.filter_append, List.map_append]
            simp only [List.filter_cons, List.filter_nil]
            rw [← ho, if_neg (by simp [c])]
            simp
          rw [this]
          exact Paired.mapP gp' fun c' z hc => e3 _ _ hc
      · rintro σ' G' ⟨x5, x6, x7, bs, rfl, eG', gl', gp'⟩
        refine ⟨_, x5, x6, x7, bs, rfl, eG', gl', ?_⟩
        rw [List.range_succ, List.flatMap_append]
        simp only [List.flatMap_cons, List.flatMap_nil, List.append_nil]
        rw [show ((n : Int) - ((i + 1 : Nat) : Int)).toNat = n - (i + 1) by omega] at gp'
        exact gp'
    · rintro σ' G ⟨x4, x5, x6, x7, as, rfl, eG, gl, gp⟩
      refine s_ret (ev_var rfl) fun H2 e2 => q _ [] H2 (eG.trans e2) (fun r hr => nomatch hr) ⟨l, rfl, as, e2 _ _ gl, Paired.mapP gp fun c z hc => e2 _ _ hc⟩
theorem spn_l_ties {H : Hp} {a : Addr} {ns : List Int} {n : Nat} {kind : Int} (h : Script K H a ns) (hn : n ≤ 40) : SpN (sp_l_ties_by K) [.ref a, vn n, .int kind] H (fun v fs G => ∃ p, v = .ref p ∧ Prs G p (tiesBy ns n kind)) :=
  spn_new fun H1 e => ⟨a, ns, n, kind, rfl, h.go e, hn, rfl⟩
/-! _law_size_by, _law_kind_by, _law_great -/
def sp_l_size_by (K : PySem.W.Frag) : Sp := pureSp fun H vs z => ∃ a ns b, vs = [.ref a, .int b] ∧ Script K H a ns ∧ 0 < b ∧ z = .int (1 + cellAt ns 0 % b)
theorem ok_l_size_by (T : Txt K mg) : FnOk P w K mg base CX0 2 T.f_l_size_by T.fd_l_size_by ["_law_script", "_law_bound"] (sp_l_size_by K) := by
  refine T.F_l_size_by.ok sc_l_size_by (fun vs H Q E h => ?_) (fun cdv A outer s H vs Q E hr h => ?_)
  · obtain ⟨z, ⟨a, ns, b, rfl, _⟩, _⟩ := h
    rfl
  · obtain ⟨z, ⟨a, ns, b, rfl, hs, hb, rfl⟩, q⟩ := h
    exact ⟨_, (pss_one (ps_ret (pe_op op_add pe_int (pe_op op_mod (pe_call (ok_l_cell_at T) (hr.mono (by decide)) (by rfl) T.g_l_cell_at T.F_l_cell_at.kp T.b_l_cell_at .nil pass0 (pa_cons (pv 0) (pa_cons pe_int pa_nil))) (pv 1))))), s_ret (ev_op ev_c (ev_op (ev_cell (k := 0) hs (ev_var rfl) ev_c) (ev_var rfl) (rv_I hb)) rv_I0) q⟩
theorem spv_l_size {H : Hp} {a : Addr} {ns : List Int} {b : Int} (h : Script K H a ns) (hb : 0 < b) : SpV (sp_l_size_by K) [.ref a, .int b] H (.int (1 + cellAt ns 0 % b)) := spv_pure fun H1 e => ⟨a, ns, b, rfl, h.go e, hb, rfl⟩
def sp_l_kind_by (K : PySem.W.Frag) : Sp := pureSp fun H vs z => ∃ a ns, vs = [.ref a] ∧ Script K H a ns ∧ z = .int (cellAt ns 1 % 5)
theorem ok_l_kind_by (T : Txt K mg) : FnOk P w K mg base CX0 2 T.f_l_kind_by T.fd_l_kind_by ["_law_script"] (sp_l_kind_by K) := by
  refine T.F_l_kind_by.ok sc_l_kind_by (fun vs H Q E h => ?_) (fun cdv A outer s H vs Q E hr h => ?_)
  · obtain ⟨z, ⟨a, ns, rfl, _⟩, _⟩ := h
    rfl
  · obtain ⟨z, ⟨a, ns, rfl, hs, rfl⟩, q⟩ := h
    exact ⟨_, (pss_one (ps_ret (pe_op op_mod (pe_call (ok_l_cell_at T) (hr.mono (by decide)) (by rfl) T.g_l_cell_at T.F_l_cell_at.kp T.b_l_cell_at .nil pass0 (pa_cons (pv 0) (pa_cons pe_int pa_nil))) pe_int))), s_ret (ev_op (ev_cell (k := 1) hs (ev_var rfl) ev_c) ev_c (rv_I (by decide))) q⟩
theorem spv_l_kind {H : Hp} {a : Addr} {ns : List Int} (h : Script K H a ns) : SpV (sp_l_kind_by K) [.ref a] H (.int (cellAt ns 1 % 5)) := spv_pure fun H1 e => ⟨a, ns, rfl, h.go e, rfl⟩
def greatB (ns : List Int) : Bool := decide (cellAt ns 0 / 11 % 9 = 4)
def sp_l_great (K : PySem.W.Frag) : Sp := pureSp fun H vs z => ∃ a ns, vs = [.ref a] ∧ Script K H a ns ∧ z = .bl (greatB ns)
theorem ok_l_great (T : Txt K mg) : FnOk P w K mg base CX0 2 T.f_l_great T.fd_l_great ["_law_script"] (sp_l_great K) := by
  refine T.F_l_great.ok sc_l_great (fun vs H Q E h => ?_) (fun cdv A outer s H vs Q E hr h => ?_)
  · obtain ⟨z, ⟨a, ns, rfl, _⟩, _⟩ := h
    rfl
  · obtain ⟨z, ⟨a, ns, rfl, hs, rfl⟩, q⟩ := h
    exact ⟨_, (pss_one (ps_ret (pe_cmpR op_eq (pe_op op_mod (pe_op op_fdiv (pe_call (ok_l_cell_at T) (hr.mono (by decide)) (by rfl) T.g_l_cell_at T.F_l_cell_at.kp T.b_l_cell_at .nil pass0 (pa_cons (pv 0) (pa_cons pe_int pa_nil))) pe_int) pe_int) pe_int (nomark _)))), s_ret (ev_is (ev_op (ev_op (ev_op (ev_cell (k := 0) hs (ev_var rfl) ev_c) ev_c (rv_I ⟨by decide, by decide⟩)) ev_c (rv_I (by decide))) ev_c (rv_eq rfl)) (by rw [dec_int]; rfl)) q⟩
theorem spv_l_great {H : Hp} {a : Addr} {ns : List Int} (h : Script K H a ns) : SpV (sp_l_great K) [.ref a] H (.bl (greatB ns)) := spv_pure fun H1 e => ⟨a, ns, rfl, h.go e, rfl⟩
/-! _law_net_by -/
def kindBy (ns : List Int) : Int := if greatB ns then 1 + 2 * (cellAt ns 1 % 5 % 2) else cellAt ns 1 % 5
def sizeBy (ns : List Int) (b : Int) : Nat := (if greatB ns then 30 + cellAt ns 0 / 99 % 11 else if cellAt ns 0 / 11 % 9 = 6 then 12 + cellAt ns 0 / 99 % 11 else 1 + cellAt ns 0 % b).toNat
theorem sizeBy_ok (ns : List Int) {b : Int} (h : 0 < b ∧ b ≤ 40) : 1 ≤ sizeBy ns b ∧ sizeBy ns b ≤ 40 := by
  unfold sizeBy
  have h1 := Int.emod_nonneg (cellAt ns 0) (show b ≠ 0 by omega)
  have h2 := Int.emod_lt_of_pos (cellAt ns 0) h.1
  split
  · omega
  · split <;> omega
def sp_l_net_by (K : PySem.W.Frag) : Sp := newSp fun H vs S => ∃ a ns b, vs = [.ref a, .int b] ∧ Script K H a ns ∧ 0 < b ∧ b ≤ 40 ∧ S = fun v fs G => ∃ p l, v = .ref p ∧ G p = some (.tup [vn (sizeBy ns b), .ref l]) ∧ Prs G l (tiesBy ns (sizeBy ns b) (kindBy ns))
theorem ok_l_net_by (T : Txt K mg) : FnOk P w K mg base CX0 3 T.f_l_net_by T.fd_l_net_by ["_law_script", "_law_bound"] (sp_l_net_by K) := by
  refine T.F_l_net_by.ok sc_l_net_by (fun vs H Q E h => ?_) (fun cdv A outer s H vs Q E hr h => ?_)
  · obtain ⟨S, ⟨a, ns, b, rfl, _⟩, _⟩ := h
    rfl
  · obtain ⟨S, ⟨a, ns, b, rfl, hs, hb, hb2, rfl⟩, q⟩ := h
    refine ⟨_, (pss_cons (ps_set (i := 2) sc_l_net_by.nd rfl (Or.inl rfl) (pe_call (ok_l_size_by T) (hr.mono (by decide)) (by rfl) T.g_l_size_by T.F_l_size_by.kp T.b_l_size_by .nil pass0 (pa_cons (pv 0) (pa_cons (pv 1) pa_nil))))
  (pss_cons (ps_set (i := 3) sc_l_net_by.nd rfl (Or.inl rfl) (pe_call (ok_l_kind_by T) (hr.mono (by decide)) (by rfl) T.g_l_kind_by T.F_l_kind_by.kp T.b_l_kind_by .nil pass0 (pa_cons (pv 0) pa_nil)))
  (pss_cons (ps_if (pt_cmpR op_eq (pe_op op_mod (pe_op op_fdiv (pe_call (ok_l_cell_at T) (hr.mono (by decide)) (by rfl) T.g_l_cell_at T.F_l_cell_at.kp T.b_l_cell_at .nil pass0 (pa_cons (pv 0) (pa_cons pe_int pa_nil))) pe_int) pe_int) pe_int (nomark _)) (pss_one (ps_set (i := 2) sc_l_net_by.nd rfl (Or.inl rfl) (pe_op op_add pe_int (pe_op op_mod (pe_op op_fdiv (pe_call (ok_l_cell_at T) (hr.mono (by decide)) (by rfl) T.g_l_cell_at T.F_l_cell_at.kp T.b_l_cell_at .nil pass0 (pa_cons (pv 0) (pa_cons pe_int pa_nil))) pe_int) pe_int)))) pss_nil)
  (pss_cons (ps_if (pt_val (pe_call (ok_l_great T) (hr.mono (by decide)) (by rfl) T.g_l_great T.F_l_great.kp T.b_l_great .nil pass0 (pa_cons (pv 0) pa_nil))) (pss_cons (ps_set (i := 2) sc_l_net_by.nd rfl (Or.inl rfl) (pe_op op_add pe_int (pe_op op_mod (pe_op op_fdiv (pe_call (ok_l_cell_at T) (hr.mono (by decide)) (by rfl) T.g_l_cell_at T.F_l_cell_at.kp T.b_l_cell_at .nil pass0 (pa_cons (pv 0) (pa_cons pe_int pa_nil))) pe_int) pe_int)))
  (pss_one (ps_set (i := 3) sc_l_net_by.nd rfl (Or.inl rfl) (pe_op op_add pe_int (pe_op op_mul pe_int (pe_op op_mod (pv 3) pe_int)))))) pss_nil)
  (pss_one (ps_ret (pe_tup (pa_cons (pv 2) (pa_cons (pe_call (ok_l_ties_by T) (hr.mono (by decide)) (by rfl) T.g_l_ties_by T.F_l_ties_by.kp T.b_l_ties_by .nil pass0 (pa_cons (pv 0) (pa_cons (pv 2) (pa_cons (pv 3) pa_nil)))) pa_nil))))))))), ?_⟩
    have e0 : start N_l_net_by [.ref a, .int b] = [some (.ref a), some (.int b), none, none] := rfl
    rw [e0]
    have ok := sizeBy_ok ns ⟨hb, hb2⟩
    refine q_asg (ev_call (ea_cons (ev_var rfl) (ea_cons (ev_var rfl) ea_nil)) (spv_l_size hs hb)) fun H1 e1 => ?_
    refine q_asg (ev_call (ea_cons (ev_var rfl) ea_nil) (spv_l_kind (hs.go e1))) fun H2 e2 => ?_
    have hs2 := (hs.go e1).go e2
    refine q_ifAsg (b := decide (cellAt ns 0 / 11 % 9 = 6)) (v := .int (if cellAt ns 0 / 11 % 9 = 6 then 12 + cellAt ns 0 / 99 % 11 else 1 + cellAt ns 0 % b))
      (et_is (et_test (ev_op (ev_op (ev_op (ev_cell (k := 0) hs2 (ev_var rfl) ev_c) ev_c (rv_I ⟨by decide, by decide⟩)) ev_c (rv_I (by decide))) ev_c (rv_eq rfl))) (by rw [dec_int]))
      (fun c => ev_is (ev_op ev_c (ev_op (ev_op (ev_cell (k := 0) hs2 (ev_var rfl) ev_c) ev_c (rv_I ⟨by decide, by decide⟩)) ev_c (rv_I (by decide))) rv_I0) (by rw [if_pos (by simpa using c)]))
      (fun c => by rw [if_neg (by simpa using c)]; rfl) fun H3 e3 => ?_
    have hs3 := hs2.go e3
    have e03 := (e1.trans e2).trans e3
    refine q_whenM (b := greatB ns) (et_B (ev_call (ea_cons (ev_var rfl) ea_nil) (spv_l_great hs3)))
      (fun σ' H' => σ' = [some (.ref a), some (.int b), some (vn (sizeBy ns b)), some (.int (kindBy ns))] ∧ Ex H H') ?_ (fun c H4 e4 k => ?_) (fun c H4 e4 => ⟨?_, e03.trans e4⟩)
    · rintro σ' H' ⟨rfl, eh⟩
      have hs5 := hs.go eh
      refine s_retN (R := fun v fs G => ∃ p l, v = .ref p ∧ G p = some (.tup [vn (sizeBy ns b), .ref l]) ∧ Prs G l (tiesBy ns (sizeBy ns b) (kindBy ns))) (fun H5 e5 Q' q' => ?_) fun v fs H6 e6 fr r => q v fs H6 (eh.trans e6) (fun p hp => fresh_back eh (fr p hp)) r
      unfold tTup
      unfold tCons
      refine (ev_var rfl : Ev (tVar 2) [some (.ref a), some (.int b), some (vn (sizeBy ns b)), some (.int (kindBy ns))] H5 (vn (sizeBy ns b))) H5 (Ex.refl H5) _ fun H6 e6 => ?_
      refine (en_call (ea_cons (ev_var rfl) (ea_cons (ev_var rfl) (ea_cons (ev_var rfl) ea_nil))) (spn_l_ties (kind := kindBy ns) ((hs5.go e5).go e6) ok.2)) H6 (Ex.refl H6) _ fun v fs H7 e7 fr r => ?_
      obtain ⟨l, rfl, hl⟩ := r
      refine ⟨by show 2 ≤ sizeLine; decide, fun p hp => ?_⟩
      exact q' (.ref p) [] _ ((e6.trans e7).trans (Ex.new hp)) (fun r hr => nomatch hr) ⟨p, l, rfl, upd_same, hl.go (Ex.new hp)⟩
    · have hs4 := hs3.go e4
      refine q_asg (ev_op ev_c (ev_op (ev_op (ev_cell (k := 0) hs4 (ev_var rfl) ev_c) ev_c (rv_I ⟨by decide, by decide⟩)) ev_c (rv_I (by decide))) rv_I0) fun H5 e5 => ?_
      refine s_asg (ev_op ev_c (ev_op ev_c (ev_op (ev_var rfl) ev_c (rv_I (by decide))) (rv_I (.inl ⟨by decide, by decide⟩))) rv_I0) fun H6 e6 => k _ _ ⟨?_, ((e03.trans e4).trans e5).trans e6⟩
      have : V.int (30 + cellAt ns 0 / 99 % 11) = vn (sizeBy ns b) := by
        show V.int _ = V.int _
        unfold sizeBy
        rw [if_pos c]
        congr 1
        omega
      have h2 : V.int (1 + 2 * (cellAt ns 1 % 5 % 2)) = .int (kindBy ns) := by rw [kindBy, if_pos c]
      rw [← this, ← h2]
      rfl
    · have cn : ¬ greatB ns = true := by rw [c]; decide
      have : V.int (if cellAt ns 0 / 11 % 9 = 6 then 12 + cellAt ns 0 / 99 % 11 else 1 + cellAt ns 0 % b) = vn (sizeBy ns b) := by
        show V.int _ = V.int _
        unfold sizeBy
        have h1 := Int.emod_nonneg (cellAt ns 0) (show b ≠ 0 by omega)
        rw [if_neg cn, Int.toNat_of_nonneg]
        split <;> omega
      have h2 : V.int (cellAt ns 1 % 5) = .int (kindBy ns) := by rw [kindBy, if_neg cn]
      rw [← this, ← h2]
      rfl
/-! _law_figures -/
theorem dig_at {k : Nat} (h : k < 10) : atI ("0123456789" : Str).cps.toList (k : Int) = some (48 + k) := by
  rw [str_digits]
  have : ∀ k : Fin 10, atI [48, 49, 50, 51, 52, 53, 54, 55, 56, 57] ((k.val : Nat) : Int) = some (48 + k.val) := by decide
  exact this ⟨k, h⟩
theorem dig_len : ("0123456789" : Str).length ≤ 100000 := by
  rw [str_digits]
  decide
def sp_l_figures : Sp := pureSp fun _ vs z => ∃ k : Nat, vs = [vn k] ∧ k < 100 ∧ z = .str (SX.S (TL.numL k))
theorem ok_l_figures (T : Txt K mg) : FnOk P w K mg base CX0 1 T.f_l_figures T.fd_l_figures ["_law_number_here"] sp_l_figures := by
  refine T.F_l_figures.ok sc_l_figures (fun vs H Q E h => ?_) (fun cdv A outer s H vs Q E hr h => ?_)
  · obtain ⟨z, ⟨k, rfl, _⟩, _⟩ := h
    rfl
  · obtain ⟨z, ⟨k, rfl, k100, rfl⟩, q⟩ := h
    refine ⟨_, (pss_cons (ps_if (pt_cmpR op_lt (pv 0) pe_int (nomark _)) (pss_one (ps_ret (pe_ix ix_str pe_str (pv 0) (fun _ _ => rfl)))) pss_nil)
  (pss_one (ps_ret (pe_op op_add_str (pe_ix ix_str pe_str (pe_op op_fdiv (pv 0) pe_int) (fun _ _ => rfl)) (pe_ix ix_str pe_str (pe_op op_mod (pv 0) pe_int) (fun _ _ => rfl)))))), ?_⟩
    have e0 : start N_l_figures [vn k] = [some (vn k)] := rfl
    rw [e0]
    refine q_when (b := decide ((k : Int) < 10)) (et_test (ev_op (ev_var rfl) ev_c rv_I0)) (fun c H1 e1 => ?_) (fun c H1 e1 => ?_)
    · have c : (k : Int) < 10 := of_decide_eq_true c
      refine s_ret (ev_is (ev_op ev_c (ev_var rfl) (rv_ixS dig_len (dig_at (k := k) (by omega)))) ?_) fun H2 e2 => q H2 (e1.trans e2)
      rw [TL.numL_lt (by omega)]
    · have c : ¬ (k : Int) < 10 := of_decide_eq_false c
      have d1 : Ev (tOp (rI CDiv fun i j => .int (i / j)) (tVar 0) (tC (.int 10))) [some (vn k)] H1 (vn (k / 10)) := ev_is (ev_op (ev_var rfl) ev_c (rv_I ⟨by decide, by decide⟩)) (by rw [show ((k : Int) / 10) = ((k / 10 : Nat) : Int) by omega])
      have d2 : Ev (tOp (rI (fun _ j => 0 < j) fun i j => .int (i % j)) (tVar 0) (tC (.int 10))) [some (vn k)] H1 (vn (k % 10)) := ev_is (ev_op (ev_var rfl) ev_c (rv_I (by decide))) (by rw [show ((k : Int) % 10) = ((k % 10 : Nat) : Int) by omega])
      refine s_ret (ev_is (ev_op (x := .str ⟨#[48 + k / 10]⟩) (y := .str ⟨#[48 + k % 10]⟩) (ev_op ev_c d1 (rv_ixS dig_len (dig_at (by omega)))) (ev_op ev_c d2 (rv_ixS dig_len (dig_at (by omega)))) (rv_addS (by show 1 + 1 ≤ 100000; decide))) ?_) fun H2 e2 => q H2 (e1.trans e2)
      rw [TL.numL_step (by omega), TL.numL_lt (by omega)]
      exact congrArg V.str (SX.S_cat [48 + k / 10] [48 + k % 10])
theorem ev_fig {σ : L2.St} {H : Hp} {ta : TE} {E : XK} {k : Nat} (h : Ev ta σ H (vn k)) (h100 : k < 100) : Ev (tCall sp_l_figures [] E (tCons ta tNil)) σ H (.str (SX.S (TL.numL k))) := ev_call (ea_cons h ea_nil) (spv_pure fun _ _ => ⟨k, rfl, h100, rfl⟩)
/-! _law_text -/
def sp_l_text : Sp := pureSp fun H vs z => ∃ n l ps, vs = [vn n, .ref l] ∧ Prs H l ps ∧ Valid n ps ∧ z = .str (textS n ps)
theorem ok_l_text (T : Txt K mg) : FnOk P w K mg base CX0 2 T.f_l_text T.fd_l_text ["_law_size", "_law_ties"] sp_l_text := by
  refine T.F_l_text.ok sc_l_text (fun vs H Q E h => ?_) (fun cdv A outer s H vs Q E hr h => ?_)
  · obtain ⟨z, ⟨n, l, ps, rfl, _⟩, _⟩ := h
    rfl
  · obtain ⟨z, ⟨n, l, ps, rfl, hl, v, rfl⟩, q⟩ := h
    refine ⟨_, (pss_cons (ps_set (i := 2) sc_l_text.nd rfl (Or.inl rfl) (pe_lst (pa_cons (pe_op op_add_str (pe_call (ok_l_figures T) (hr.mono (by decide)) (by rfl) T.g_l_figures T.F_l_figures.kp T.b_l_figures .nil pass0 (pa_cons (pv 0) pa_nil)) pe_str) pa_nil)))
  (pss_cons (ps_for PassesOwn.never rfl (pi_list (pv 1)) (pg_tup rfl (pgs_cons (pg_name (i := 3) sc_l_text.nd rfl (Or.inl rfl)) (pgs_cons (pg_name (i := 4) sc_l_text.nd rfl (Or.inl rfl)) pgs_nil)))
    (pss_one (ps_expr (pe_bm PySem.F.plainAttrs_list PySem.F.slot_list_append PySem.F.type_list_append mt_append (pv 2) (pa_cons (pe_op op_add_str (pe_op op_add_str (pe_call (ok_l_figures T) (hr.mono (by decide)) (by rfl) T.g_l_figures T.F_l_figures.kp T.b_l_figures .nil pass0 (pa_cons (pv 3) pa_nil)) pe_str) (pe_call (ok_l_figures T) (hr.mono (by decide)) (by rfl) T.g_l_figures T.F_l_figures.kp T.b_l_figures .nil pass0 (pa_cons (pv 4) pa_nil))) pa_nil)))))
  (pss_one (ps_ret (pe_join pe_str (pv 2)))))), ?_⟩
    have e0 : start N_l_text [vn n, .ref l] = [some (vn n), some (.ref l), none, none, none] := rfl
    rw [e0]
    have n40 := v.n40
    have vf := v.few
    have dl : ("-" : Str).length = 1 := by rw [str_dash]; rfl
    have cl : (":" : Str).length = 1 := by rw [str_colon]; rfl
    obtain ⟨as, hl1, hpr⟩ := hl
    refine q_asgL (xs := [.str (SX.S (TL.numL n ++ [58]))]) (el_lst (ea_cons (ev_is (ev_op (ev_fig (k := n) (ev_var rfl) (by omega)) ev_c (rv_addS (by have := num_short (n := n) (by omega); omega))) (by rw [S_head])) ea_nil) (by show 1 ≤ 100000; decide)) fun wl H2 hwl e2 hw2 => ?_
    refine q_forL (a := l) (xs := as.map V.ref) (ev_var rfl) (sq_of (e2 _ _ hl1)) (fun i σ' G => ∃ x3 x4, σ' = [some (vn n), some (.ref l), some (.ref wl), x3, x4] ∧ Ex H G ∧ G wl = some (.lst (((wordsL n (ps.take i)).map SX.S).map V.str)))
      (fun G g => ⟨none, none, rfl, e2.trans g, g _ _ hw2⟩) (fun i σ' G _ ⟨_, _, _, h, _⟩ => sq_of (h _ _ hl1)) ?_ ?_
    · rintro i y σ' G hy ⟨x3, x4, rfl, eG, hwG⟩
      obtain ⟨b, hb, rfl⟩ := map_get hy
      obtain ⟨t, ht, hbt⟩ := paired_get' hpr hb
      have tt := v.tok t (List.mem_of_getElem? ht)
      have il : i < ps.length := (List.getElem?_eq_some_iff.mp ht).1
      refine ⟨b, [vn t.1, vn t.2], rfl, st_of (eG _ _ hbt), rfl, _, _, rfl, _, _, rfl, rfl, ?_⟩
      show tDrop _ _ [some (vn n), some (.ref l), some (.ref wl), some (vn t.1), some (vn t.2)] G
      have s1 := num_short (n := t.1) (by omega)
      have s2 := num_short (n := t.2) (by omega)
      refine s_app (l := wl) (v := .str (SX.S (wordT t))) hwG (ev_var rfl) (ev_is (ev_op (ev_op (ev_fig (k := t.1) (ev_var rfl) (by omega)) ev_c (rv_addS (by omega))) (ev_fig (k := t.2) (ev_var rfl) (by omega)) (rv_addS (by rw [Str.length_append]; omega))) (by rw [S_word])) (by rw [List.length_map, List.length_map, words_len, List.length_take]; omega) fun G1 g1 => ?_
      refine ⟨_, _, rfl, (eG.trans g1).mut hwl, ?_⟩
      rw [upd_same, take_snoc ht, wordsL_snoc, List.map_append, List.map_append]
      rfl
    · rintro σ' G ⟨x3, x4, rfl, eG, hwG⟩
      rw [List.length_map, paired_len hpr, List.take_length] at hwG
      have sm := words_sum v
      exact s_ret (ev_is (ev_join (K := K) (a := " ") (ys := (wordsL n ps).map SX.S) ev_c (ev_var rfl) (sq_of hwG) (by
        have : (" " : Str).length = 1 := by rw [str_blank]; rfl
        rw [this, List.length_map, words_len]
        omega)) (by rw [str_blank, join_text])) fun G1 g1 => q G1 (eG.trans g1)
/-! _law_number -/
def sp_l_number : Sp := pureSp fun _ vs z => ∃ x, vs = [.str x] ∧ z = vo (numLaw x)
theorem ok_l_number (T : Txt K mg) : FnOk P w K mg base CX0 2 T.f_l_number T.fd_l_number ["_law_word"] sp_l_number := by
  refine T.F_l_number.ok sc_l_number (fun vs H Q E h => ?_) (fun cdv A outer s H vs Q E hr h => ?_)
  · obtain ⟨z, ⟨x, rfl, _⟩, _⟩ := h
    rfl
  · obtain ⟨z, ⟨x, rfl, rfl⟩, q⟩ := h
    refine ⟨_, (pss_cons (ps_for PassesOwn.never rfl (pi_range1 (by rfl) T.n_range (pa_cons pe_int pa_nil)) (pg_name (i := 1) sc_l_number.nd rfl (Or.inl rfl))
    (pss_one (ps_if (pt_cmpR op_eq (pe_call (ok_l_figures T) (hr.mono (by decide)) (by rfl) T.g_l_figures T.F_l_figures.kp T.b_l_figures .nil pass0 (pa_cons (pv 1) pa_nil)) (pv 0) (nomark _)) (pss_one (ps_ret (pv 1))) pss_nil)))
  (pss_one (ps_ret pe_non))), ?_⟩
    have e0 : start N_l_number [.str x] = [some (.str x), none] := rfl
    rw [e0]
    refine q_forR1 (n := 100) (ea_cons ev_c ea_nil) (by decide) (fun i σ' G => ∃ x1, σ' = [some (.str x), x1] ∧ Ex H G ∧ ∀ k, k < i → SX.S (TL.numL k) ≠ x) (fun G g => ⟨none, rfl, g, fun k hk => absurd hk (Nat.not_lt_zero _)⟩) ?_ ?_
    · rintro i σ' G hi ⟨x1, rfl, eG, no⟩
      refine s_when (b := decide (SX.S (TL.numL i) = x)) (et_is (et_test (ev_op (ev_fig (k := i) (ev_var rfl) (by omega)) (ev_var rfl) (rv_eq rfl))) (decide_eq_decide.mpr ⟨fun h => by injection h, fun h => by rw [h]⟩)) (fun c G1 g1 => ?_) (fun c G1 g1 => ⟨_, rfl, eG.trans g1, fun k hk => ?_⟩)
      · have c := of_decide_eq_true c
        have : numLaw x = some i := by rw [← c]; exact numLaw_num (by omega)
        rw [this] at q
        exact s_ret (ev_var rfl) fun G2 g2 => q G2 ((eG.trans g1).trans g2)
      · by_cases e : k = i
        · rw [e]; exact of_decide_eq_false c
        · exact no k (by omega)
    · rintro σ' G ⟨x1, rfl, eG, no⟩
      have : numLaw x = none := numLaw_none fun k hk => no k hk
      rw [this] at q
      exact s_ret ev_c fun G1 g1 => q G1 (eG.trans g1)
theorem spv_l_num {H : Hp} {x : Str} : SpV sp_l_number [.str x] H (vo (numLaw x)) := spv_pure fun _ _ => ⟨x, rfl, rfl⟩
/-! _law_tie -/
def TieV (n : Nat) (x : Str) : Rn := fun v fs G => (tieLaw n x = none ∧ v = .non ∧ fs = []) ∨ (∃ p t, tieLaw n x = some t ∧ v = .ref p ∧ fs = [p] ∧ Pr G p t)
def tieO (n : Nat) : Option Nat → Option Nat → Option (Nat × Nat)
  | some x, some y => if x < y ∧ y < n then some (x, y) else none
  | _, _ => none
def sp_l_tie : Sp := newSp fun _ vs S => ∃ x n, vs = [.str x, vn n] ∧ x.length ≤ 90000 ∧ S = TieV n x
theorem ok_l_tie (T : Txt K mg) : FnOk P w K mg base CX0 3 T.f_l_tie T.fd_l_tie ["_law_word", "_law_size"] sp_l_tie := by
  refine T.F_l_tie.ok sc_l_tie (fun vs H Q E h => ?_) (fun cdv A outer s H vs Q E hr h => ?_)
  · obtain ⟨S, ⟨x, n, rfl, _⟩, _⟩ := h
    rfl
  · obtain ⟨S, ⟨x, n, rfl, xl, rfl⟩, q⟩ := h
    refine ⟨_, (pss_cons (ps_set (i := 2) sc_l_tie.nd rfl (Or.inl rfl) (pe_m1 PySem.F.slot_str_find PySem.F.type_str_find mt_find (pv 0) pe_str))
  (pss_cons (ps_if (pt_cmpR op_lt (pv 2) pe_int (nomark _)) (pss_one (ps_ret pe_non)) pss_nil)
  (pss_cons (ps_set (i := 3) sc_l_tie.nd rfl (Or.inl rfl) (pe_call (ok_l_number T) (hr.mono (by decide)) (by rfl) T.g_l_number T.F_l_number.kp T.b_l_number .nil pass0 (pa_cons (pe_slice sl_str (pv 0) po_none (po_some (pv 2))) pa_nil)))
  (pss_cons (ps_set (i := 4) sc_l_tie.nd rfl (Or.inl rfl) (pe_call (ok_l_number T) (hr.mono (by decide)) (by rfl) T.g_l_number T.F_l_number.kp T.b_l_number .nil pass0 (pa_cons (pe_slice sl_str (pv 0) (po_some (pe_op op_add (pv 2) pe_int)) po_none) pa_nil)))
  (pss_cons (ps_if (PW.pt (pw_or (pt_cmpR op_isN (pv 3) pe_non (nomark _)) (pw_or (pt_cmpR op_isN (pv 4) pe_non (nomark _)) (pw_or1 (pt_not (pt_chain op_lt op_lt (pv 3) (pv 4) (pv 1))))))) (pss_one (ps_ret pe_non)) pss_nil)
  (pss_one (ps_ret (pe_tup (pa_cons (pv 3) (pa_cons (pv 4) pa_nil)))))))))), ?_⟩
    have e0 : start N_l_tie [.str x, vn n] = [some (.str x), some (vn n), none, none, none] := rfl
    rw [e0]
    have none_ : tieLaw n x = none → ∀ H', Ex H H' → Q .non H' := fun h H' e => q .non [] H' e (fun _ z => nomatch z) (.inl ⟨h, rfl, rfl⟩)
    have some_ : ∀ t, tieLaw n x = some t → ∀ p H', Ex H H' → H p = none → Pr H' p t → Q (.ref p) H' := fun t h p H' e hp h2 => q (.ref p) [p] H' e (fun r hr => by rw [List.mem_singleton.mp hr]; exact hp) (.inr ⟨p, t, h, rfl, rfl, h2⟩)
    clear q
    obtain ⟨f, hf⟩ : ∃ f, f = Txt.find x (SX.S [45]) := ⟨_, rfl⟩
    refine q_asg (v := .int f) (ev_is (ev_find (ev_var rfl) ev_c) (by rw [str_dash, hf])) fun H1 e1 => ?_
    refine q_when (b := decide (f < 0)) (et_test (ev_op (ev_var rfl) ev_c rv_I0)) (fun c H2 e2 => ?_) (fun c H2 e2 => ?_)
    · have c := of_decide_eq_true c
      have : tieLaw n x = none := by
        unfold tieLaw
        rw [← hf, if_pos c]
      exact s_ret ev_c fun H3 e3 => none_ this H3 ((e1.trans e2).trans e3)
    have c := of_decide_eq_false c
    obtain ⟨o1, ho1⟩ : ∃ o, o = numLaw (cutS x none (some f)) := ⟨_, rfl⟩
    obtain ⟨o2, ho2⟩ : ∃ o, o = numLaw (cutS x (some (f + 1)) none) := ⟨_, rfl⟩
    have law : tieLaw n x = tieO n o1 o2 := by
      unfold tieLaw
      rw [← hf, if_neg c, ← ho1, ← ho2]
      cases o1 with
      | none => rfl
      | some a => cases o2 <;> rfl
    refine q_asg (v := vo o1) (ev_is (ev_call (ea_cons (ev_slS (ev_var rfl) eo_none (eo_some (ev_var rfl)) (by omega)) ea_nil) spv_l_num) (by rw [ho1])) fun H3 e3 => ?_
    refine q_asg (v := vo o2) (ev_is (ev_call (ea_cons (ev_slS (ev_var rfl) (eo_some (ev_op (ev_var rfl) ev_c rv_I0)) eo_none (by omega)) ea_nil) spv_l_num) (by rw [ho2])) fun H4 e4 => ?_
    have e04 := ((e1.trans e2).trans e3).trans e4
    cases o1 with
    | none =>
      exact q_when (b := true) (et_or (a := true) (b := true) (et_test (ev_op (ev_var rfl) ev_c rv_isN)) (fun z => nomatch z)) (fun _ H5 e5 => s_ret ev_c fun H6 e6 => none_ law H6 ((e04.trans e5).trans e6)) (fun z => nomatch z)
    | some a =>
      cases o2 with
      | none =>
        exact q_when (b := true) (et_is (et_or (a := false) (b := true) (et_test (ev_op (ev_var rfl) ev_c rv_isN)) fun _ => et_is (et_or (a := true) (b := true) (et_test (ev_op (ev_var rfl) ev_c rv_isN)) (fun z => nomatch z)) rfl) rfl) (fun _ H5 e5 => s_ret ev_c fun H6 e6 => none_ law H6 ((e04.trans e5).trans e6)) (fun z => nomatch z)
      | some b =>
        have law : tieLaw n x = if a < b ∧ b < n then some (a, b) else none := law
        refine q_when (b := !(decide ((a : Int) < b) && decide ((b : Int) < n))) (et_is (et_or (a := false) (et_test (ev_op (ev_var rfl) ev_c rv_isN)) fun _ => et_or (a := false) (et_test (ev_op (ev_var rfl) ev_c rv_isN)) fun _ => et_not (et_test (ev_chain (ev_var rfl) (ev_var rfl) rv_I0 (fun _ => ev_var rfl) (fun _ => rv_I0)))) (by rw [Bool.false_or, Bool.false_or])) (fun d H5 e5 => ?_) (fun d H5 e5 => ?_)
        · rw [Bool.not_eq_true', Bool.and_eq_false_iff, decide_eq_false_iff_not, decide_eq_false_iff_not] at d
          rw [if_neg (by omega)] at law
          exact s_ret ev_c fun H6 e6 => none_ law H6 ((e04.trans e5).trans e6)
        · rw [Bool.not_eq_false', Bool.and_eq_true, decide_eq_true_iff, decide_eq_true_iff] at d
          rw [if_pos (by omega)] at law
          exact s_retU (eu_tup (ea_cons (ev_var rfl) (ea_cons (ev_var rfl) ea_nil)) (by show 2 ≤ 100000; decide)) fun p H6 hp e6 h6 => some_ _ law p H6 ((e04.trans e5).trans e6) (fresh_back (e04.trans e5) hp) h6
/-! _law_net_of -/
def mD : Option (Nat × Nat) → PyData
  | none => .none
  | some t => pD t
theorem mD_none (o : Option (Nat × Nat)) : PyData.eqv (mD o) .none = o.isNone := by
  cases o <;> rfl
theorem mD_lay (o : Option (Nat × Nat)) : (mD o).canLay0 = true := by
  cases o with
  | none => simp [mD, PyData.canLay0]
  | some t => exact pD_lay t
theorem mD_depth (o : Option (Nat × Nat)) : (mD o).depth ≤ 2 := by
  cases o with
  | none => simp [mD, PyData.depth]
  | some t => exact pD_depth t
def MV (G : Hp) (v : V) (o : Option (Nat × Nat)) : Prop := match o with
  | none => v = .non
  | some t => ∃ b, v = .ref b ∧ Pr G b t
theorem MV.go {G G' : Hp} {v : V} {o : Option (Nat × Nat)} (h : MV G v o) (e : Ex G G') : MV G' v o := by
  cases o with
  | none => exact h
  | some t =>
    obtain ⟨b, h1, h2⟩ := h
    exact ⟨b, h1, e _ _ h2⟩
theorem MV.dp {G : Hp} {v : V} {o : Option (Nat × Nat)} (h : MV G v o) : Dp K G v (mD o) := by
  cases o with
  | none => rw [show v = V.non from h]; exact .non
  | some t =>
    obtain ⟨b, rfl, h2⟩ := h
    exact dp_pr h2
theorem dpAll_mv {G : Hp} : ∀ {ys : List V} {os : List (Option (Nat × Nat))}, Paired (MV G) ys os → DpAll K G ys (os.map mD)
  | _, _, .nil => .nil
  | _, _, .cons r t => .cons r.dp (dpAll_mv t)
theorem rv_noneIn {G : Hp} {l : Addr} {ys : List V} {os : List (Option (Nat × Nat))} (h : G l = some (.lst ys)) (hp : Paired (MV G) ys os) : RV (rInD K) .non (.ref l) G (.bl (os.any Option.isNone)) := fun H1 e Q k => by
  refine ⟨.none, os.map mD, .non, .lst (sq_of (e _ _ h)) (dpAll_mv (Paired.mapP hp fun _ _ z => z.go e)), by decide, shaped_list (m := 2) (by decide) mD_lay mD_depth os, ?_⟩
  have : ((os.map mD).any fun z => PyData.eqv z .none) = os.any Option.isNone := by
    rw [List.any_map]
    congr 1
    funext o
    exact mD_none o
  rw [this]
  exact k H1 (Ex.refl H1)
theorem mv_all {G : Hp} : ∀ {ys : List V} {ps : List (Nat × Nat)}, Paired (MV G) ys (ps.map some) → ∃ as : List Addr, ys = as.map V.ref ∧ Paired (Pr G) as ps
  | [], [], _ => ⟨[], rfl, .nil⟩
  | _, p :: ps, .cons r t => by
    obtain ⟨b, rfl, hb⟩ := r
    obtain ⟨as, e, h⟩ := mv_all (ps := ps) t
    exact ⟨b :: as, by rw [e, List.map_cons], .cons hb h⟩
theorem some_all {α : Type} : ∀ {os : List (Option α)}, os.any Option.isNone = false → ∃ ps : List α, os = ps.map some
  | [], _ => ⟨[], rfl⟩
  | none :: _, h => by cases h
  | some a :: os, h => by
    obtain ⟨ps, e⟩ := some_all (os := os) h
    exact ⟨a :: ps, by rw [e, List.map_cons]⟩
theorem paired_ix {α β : Type} {F : α → β → Prop} : ∀ {ys : List α} {os : List β}, ys.length = os.length → (∀ (i : Nat) y o, ys[i]? = some y → os[i]? = some o → F y o) → Paired F ys os
  | [], [], _, _ => .nil
  | y :: ys, o :: os, l, h => .cons (h 0 y o rfl rfl) (paired_ix (Nat.succ.inj l) fun i y o h1 h2 => h (i + 1) y o h1 h2)
  | [], _ :: _, l, _ => nomatch l
  | _ :: _, [], l, _ => nomatch l
/-- sorted(set(pairs)) -/
theorem en_sortedSetP {σ : L2.St} {H : Hp} {te : TE} {l : Addr} {ps : List (Nat × Nat)} (h : Ev te σ H (.ref l)) (hl : Prs H l ps) (few : ps.length < 1000) : EvN (tSortedSetT K te) σ H (fun v fs G => ∃ d qs, v = .ref d ∧ fs = [d] ∧ Prs G d qs ∧ qs.Nodup ∧ (∀ t, t ∈ qs ↔ t ∈ ps) ∧ qs.Pairwise fun a b => leP a b = true) := fun H1 e Q q =>
  h H1 e _ fun H2 e2 => by
    obtain ⟨as, h1, h2⟩ := hl
    have h2' : Paired (Pr H2) as ps := Paired.mapP h2 fun _ _ z => e2 _ _ (e _ _ z)
    obtain ⟨zs, z1, z2, z3⟩ := pairedZip h2'
    obtain ⟨kf, hkf⟩ : ∃ kf : Addr × (Nat × Nat) → Addr × List Int, kf = fun z => (z.1, [(z.2.1 : Int), (z.2.2 : Int)]) := ⟨_, rfl⟩
    have back : ∀ p : Addr × List Int, p ∈ zs.map kf → ∃ z ∈ zs, p = kf z := fun p hp => by
      obtain ⟨z, hz, e⟩ := List.mem_map.mp hp
      exact ⟨z, hz, e.symm⟩
    refine ⟨l, zs.map kf, rfl, sq_of (by
      have := e2 _ _ (e _ _ h1)
      rw [this, ← z1, List.map_map, List.map_map, hkf]
      rfl), fun p hp => ?_, by rw [List.length_map, ← List.length_map (f := (·.2)) (as := zs), z2]; exact few, fun bs d hd sub all nd srt => ?_⟩
    · obtain ⟨z, hz, rfl⟩ := back p hp
      rw [hkf]
      exact ⟨st_of (z3 z hz), _, _, rfl⟩
    · obtain ⟨g, hg⟩ : ∃ g : Addr × List Int → Nat × Nat, g = fun p => ((p.2.getD 0 0).toNat, (p.2.getD 1 0).toNat) := ⟨_, rfl⟩
      have gk : ∀ z, g (kf z) = z.2 := fun z => by
        rw [hg, hkf]
        simp
      have e3 := Ex.new (H := H2) (o := .lst (bs.map fun p => V.ref p.1)) hd
      refine q (.ref d) [d] _ (e2.trans e3) (fun r hr => by rw [List.mem_singleton.mp hr]; exact fresh_back e2 hd) ⟨d, bs.map g, rfl, rfl, ⟨bs.map (·.1), by rw [upd_same, List.map_map]; rfl, ?_⟩, ?_, fun t => ?_, ?_⟩
      · have aux : ∀ bs : List (Addr × List Int), (∀ p ∈ bs, p ∈ zs.map kf) → Paired (Pr (upd H2 d (.lst (bs.map fun p => V.ref p.1)))) (bs.map (·.1)) (bs.map g) → True := fun _ _ _ => trivial
        have aux2 : ∀ cs : List (Addr × List Int), (∀ p ∈ cs, p ∈ zs.map kf) → Paired (Pr (upd H2 d (.lst (bs.map fun p => V.ref p.1)))) (cs.map (·.1)) (cs.map g) := fun cs => by
          induction cs with
          | nil => intro _; exact .nil
          | cons c cs ih =>
            intro hs
            refine .cons ?_ (ih fun p hp => hs p (List.mem_cons_of_mem _ hp))
            obtain ⟨z, hz, rfl⟩ := back c (hs c List.mem_cons_self)
            rw [gk, hkf]
            exact e3 _ _ (z3 z hz)
        exact aux2 bs sub
      · unfold List.Nodup at nd ⊢
        rw [List.pairwise_map] at nd ⊢
        refine nd.imp_of_mem fun {a b} ha hb h e => h ?_
        obtain ⟨z, _, rfl⟩ := back a (sub a ha)
        obtain ⟨y, _, rfl⟩ := back b (sub b hb)
        rw [gk, gk] at e
        rw [hkf]
        dsimp only
        rw [e]
      · rw [List.mem_map]
        constructor
        · rintro ⟨p, hp, rfl⟩
          obtain ⟨z, hz, rfl⟩ := back p (sub p hp)
          rw [gk, ← z2]
          exact List.mem_map_of_mem hz
        · intro ht
          rw [← z2] at ht
          obtain ⟨z, hz, rfl⟩ := List.mem_map.mp ht
          have := all (kf z).2 (List.mem_map_of_mem (List.mem_map_of_mem hz))
          obtain ⟨p, hp, e⟩ := List.mem_map.mp this
          refine ⟨p, hp, ?_⟩
          have : g p = g (kf z) := by rw [hg]; dsimp only; rw [e]
          rw [this, gk]
      · rw [List.pairwise_map]
        refine srt.imp_of_mem fun {a b} ha hb h => ?_
        obtain ⟨z, _, rfl⟩ := back a (sub a ha)
        obtain ⟨y, _, rfl⟩ := back b (sub b hb)
        rw [gk, gk]
        rw [hkf] at h
        have h := SrtO.lexB_no.mp h
        rw [leP_iff]
        simp at h
        omega
def NetV (x : Str) : Rn := fun v fs G => (v = .non ∧ fs = [] ∧ ∀ n ps, Valid n ps → x ≠ textS n ps) ∨ (∃ n ps p l, v = .ref p ∧ Valid n ps ∧ x = textS n ps ∧ G p = some (.tup [vn n, .ref l]) ∧ Prs G l ps)
def sp_l_net_of (K : PySem.W.Frag) : Sp := newSp fun _ vs S => ∃ x, vs = [.str x] ∧ x.length ≤ 80000 ∧ wcount x ≤ 900 ∧ S = NetV x
theorem ok_l_net_of (T : Txt K mg) : FnOk P w K mg base CX0 4 T.f_l_net_of T.fd_l_net_of ["_law_line"] (sp_l_net_of K) := by
  refine T.F_l_net_of.ok sc_l_net_of (fun vs H Q E h => ?_) (fun cdv A outer s H vs Q E hr h => ?_)
  · obtain ⟨S, ⟨x, rfl, _⟩, _⟩ := h
    rfl
  · obtain ⟨S, ⟨x, rfl, xl, wc, rfl⟩, q⟩ := h
    refine ⟨_, (pss_cons (ps_set (i := 1) sc_l_net_of.nd rfl (Or.inl rfl) (pe_split (pv 0) pe_str))
  (pss_cons (ps_set (i := 2) sc_l_net_of.nd rfl (Or.inr rfl) (pe_call (ok_l_number T) (hr.mono (by decide)) (by rfl) T.g_l_number T.F_l_number.kp T.b_l_number .nil pass0 (pa_cons (pe_slice sl_str (pe_ix (r := rIxL K) ix_list (pv 1) pe_int (fun _ _ => rfl)) po_none (po_some (pe_un un_neg pe_int))) pa_nil)))
  (pss_cons (ps_if (PW.pt (pw_or (pt_cmpR op_ne (pe_slice sl_str (pe_ix (r := rIxL K) ix_list (pv 1) pe_int (fun _ _ => rfl)) (po_some (pe_un un_neg pe_int)) po_none) pe_str (nomark _)) (pw_or (pt_cmpR op_isN (pv 2) pe_non (nomark _)) (pw_or1 (pt_not (pt_chain op_le op_le pe_int (pv 2) pe_int)))))) (pss_one (ps_ret pe_non)) pss_nil)
  (pss_cons (ps_setLc (i := 3) (own := [("_law_word", 4)]) (g := gName 4) (tt := tYes) rfl sc_l_net_of.nd rfl rfl (sw_true rfl rfl rfl (by decide +kernel)) (pi_list (pe_slice (r := rSlL K) sl_list (pv 1) (po_some pe_int) po_none)) (blkOk_by (own := [("_law_word", 4)]) (N := N_l_net_of) (sc := defScope s_l_net_of) (by decide +kernel)) (fun _ _ _ _ _ => (pg_name (i := 4) sc_l_net_of.nd rfl (Or.inl rfl))) (fun _ _ _ _ _ => pts_nil) (fun _ _ _ _ _ => (pe_call (ok_l_tie T) (hr.mono (by decide)) (by rfl) T.g_l_tie T.F_l_tie.kp T.b_l_tie .nil pass0 (pa_cons (pv 4) (pa_cons (pv 2) pa_nil)))))
  (pss_cons (ps_if (PW.pt (pw_or (pt_cmpR (r := rInD K) (op_inD (units65 hr)) pe_non (pv 3) (by with_unfolding_all rfl)) (pw_or1 (pt_cmpR (r := rNeD K) (op_neD hr.units) (pv 3) (pe_sortedSetT hr rfl (by rfl) T.n_sorted (by rfl) T.n_set (pv 3)) (nomark _))))) (pss_one (ps_ret pe_non)) pss_nil)
  (pss_one (ps_ret (pe_tup (pa_cons (pv 2) (pa_cons (pv 3) pa_nil)))))))))), ?_⟩
    have e0 : start N_l_net_of [.str x] = [some (.str x), none, none, none, none] := rfl
    rw [e0]
    have none_ : (∀ n ps, Valid n ps → x ≠ textS n ps) → ∀ H', Ex H H' → Q .non H' := fun h H' e => q .non [] H' e (fun _ z => nomatch z) (.inl ⟨rfl, rfl, h⟩)
    refine q_asgL (el_split (w := SX.S [32]) (ev_var rfl) (ev_is ev_c (by rw [str_blank])) (by decide) (by omega)) fun wl H2 hwl e2 hw2 => ?_
    obtain ⟨h, r, hsp⟩ : ∃ h r, Txt.split x (SX.S [32]) = h :: r := by
      have := PyProof.Rows.split_pos x (SX.S [32])
      cases hs : Txt.split x (SX.S [32]) with
      | nil => rw [hs] at this; simp at this
      | cons h r => exact ⟨h, r, rfl⟩
    have wl' : r.length + 1 ≤ 900 := by
      have : wcount x = r.length + 1 := by
        unfold wcount
        rw [hsp, List.length_cons]
      omega
    have short : ∀ w ∈ h :: r, w.length ≤ 80000 := fun w hw => by
      have := PyProof.Rows.part_short (x := x) (y := SX.S [32]) (a := w) (by rw [hsp]; exact hw)
      omega
    rw [hsp] at hw2
    have hl := short h List.mem_cons_self
    have parts_of : ∀ n ps, x = textS n ps → h = SX.S (TL.numL n ++ [58]) ∧ r = ps.map (fun p => SX.S (wordT p)) := fun n ps e => by
      rw [e, split_text] at hsp
      unfold wordsL at hsp
      rw [List.map_cons] at hsp
      injection hsp with h1 h2
      exact ⟨h1.symm, by rw [← h2, List.map_map]; rfl⟩
    obtain ⟨so, hso⟩ : ∃ so, so = numLaw (cutS h none (some (-1))) := ⟨_, rfl⟩
    have hE : ∀ {σ : L2.St} {G : Hp} {te : TE}, Ex H2 G → Ev te σ G (.ref wl) → Ev (tOp (rIxL K) te (tC (.int 0))) σ G (.str h) := fun g h1 => ev_op h1 ev_c (rv_ixL (K := K) (sq_of (g _ _ hw2)) (atI_nat (j := 0) rfl))
    refine q_asg (v := vo so) (ev_is (ev_call (ea_cons (ev_slS (z := h) (hE (Ex.refl _) (ev_var rfl)) eo_none (eo_some (ev_un ev_c ru_neg)) (by omega)) ea_nil) spv_l_num) (by rw [hso])) fun H3 e3 => ?_
    have e03 := e2.trans e3
    have lastE : ∀ {G : Hp}, Ex H3 G → EvT (tTest (tOp rNe (tSl rSlS (tOp (rIxL K) (tVar 1) (tC (.int 0))) (tPart (tUn (rU fun i => .int (-i)) (tC (.int 1)))) tNoPart) (tC (.str ":")))) [some (.str x), some (.ref wl), some (vo so), none, none] G (!decide (cutS h (some (-1)) none = SX.S [58])) := fun g => et_is (et_test (ev_op (ev_slS (z := h) (hE (e3.trans g) (ev_var rfl)) (eo_some (ev_un ev_c ru_neg)) eo_none (by omega)) ev_c (rv_ne rfl))) (by
      rw [str_colon]
      congr 1
      exact decide_eq_decide.mpr ⟨fun h => by injection h, fun h => by rw [h]⟩)
    by_cases last : cutS h (some (-1)) none = SX.S [58]
    case neg =>
      refine q_when (b := true) (et_is (et_or (a := true) (b := true) (et_is (lastE (Ex.refl _)) (by rw [decide_eq_false last]; rfl)) (fun z => nomatch z)) rfl) (fun _ H4 e4 => s_ret ev_c fun H5 e5 => none_ (fun n ps v e => last ?_) H5 ((e03.trans e4).trans e5)) (fun z => nomatch z)
      rw [(parts_of n ps e).1, head_last]
    have lastF : ∀ {G : Hp}, Ex H3 G → EvT (tTest (tOp rNe (tSl rSlS (tOp (rIxL K) (tVar 1) (tC (.int 0))) (tPart (tUn (rU fun i => .int (-i)) (tC (.int 1)))) tNoPart) (tC (.str ":")))) [some (.str x), some (.ref wl), some (vo so), none, none] G false := fun g => et_is (lastE g) (by rw [decide_eq_true last]; rfl)
    cases hs : so with
    | none =>
      rw [hs] at lastF
      refine q_when (b := true) (et_is (et_or (a := false) (b := true) (lastF (Ex.refl _)) fun _ => et_is (et_or (a := true) (b := true) (et_test (ev_op (ev_var rfl) ev_c rv_isN)) (fun z => nomatch z)) rfl) rfl) (fun _ H4 e4 => s_ret ev_c fun H5 e5 => none_ (fun n ps v e => ?_) H5 ((e03.trans e4).trans e5)) (fun z => nomatch z)
      have n40 := v.n40
      rw [hs, (parts_of n ps e).1, head_but, numLaw_num (by omega)] at hso
      cases hso
    | some n =>
      rw [hs] at lastF hso
      refine q_when (b := !(decide ((1 : Int) ≤ n) && decide ((n : Int) ≤ 40))) (et_is (et_or (a := false) (lastF (Ex.refl _)) fun _ => et_or (a := false) (et_test (ev_op (ev_var rfl) ev_c rv_isN)) fun _ => et_not (et_test (ev_chain ev_c (ev_var rfl) rv_I0 (fun _ => ev_c) (fun _ => rv_I0)))) (by rw [Bool.false_or, Bool.false_or])) (fun d H4 e4 => ?_) (fun d H4 e4 => ?_)
      · refine s_ret ev_c fun H5 e5 => none_ (fun n' ps v e => ?_) H5 ((e03.trans e4).trans e5)
        have n40 := v.n40
        have n1 := v.n1
        rw [(parts_of n' ps e).1, head_but, numLaw_num (by omega)] at hso
        cases hso
        rw [decide_eq_true (by omega), decide_eq_true (by omega)] at d
        cases d
      · rw [Bool.not_eq_false', Bool.and_eq_true, decide_eq_true_iff, decide_eq_true_iff] at d
        have n1 : 1 ≤ n := by omega
        have n40 : n ≤ 40 := by omega
        have hn := numLaw_of hso.symm
        have head := head_back hn.1 last
        have e04 := e03.trans e4
        have hw4 := (e3.trans e4) _ _ hw2
        obtain ⟨os, hos⟩ : ∃ os, os = r.map (tieLaw n) := ⟨_, rfl⟩
        have same : ∀ n' ps, Valid n' ps → x = textS n' ps → n' = n ∧ os = ps.map some := fun n' ps v e => by
          obtain ⟨h1, h2⟩ := parts_of n' ps e
          rw [head] at h1
          have h3 := TL.numL_inj (List.append_cancel_right (SX.S_inj h1))
          subst h3
          refine ⟨rfl, ?_⟩
          rw [hos, h2, List.map_map]
          refine List.map_congr_left fun p hp => ?_
          have := v.tok p hp
          exact tieLaw_word this.1 this.2 (by omega)
        refine q_asgN (R := fun v fs G => ∃ p ys, v = .ref p ∧ G p = some (.lst ys) ∧ Paired (MV G) ys os) (en_lcM (R := fun v fs G => ∃ p, v = .ref p ∧ G p = some (.lst (r.map V.str))) (EvN.imp (en_of_el (el_is (el_sl (K := K) (lo := some ((1 : Nat) : Int)) (hi := none) (ev_var rfl) (eo_some ev_c) eo_none (sq_of hw4)) (by rw [cut_drop1]; rfl : _ = r.map V.str))) fun v fs G e ⟨p, h1, _, h3⟩ => ⟨p, h1, h3⟩) fun v fs G g fr rr => ?_) fun v fs H5 e5 fr5 r5 => ?_
        · obtain ⟨p, rfl, hp⟩ := rr
          refine EvN.imp (en_map (K := K) (F := fun i v fs G => ∃ w, r[i]? = some w ∧ TieV n w v fs G) (fun i v fs G G' hk ⟨w, h1, h2⟩ => ⟨w, h1, h2.imp id fun ⟨b, t, g1, g2, g3, g4⟩ => ⟨b, t, g1, g2, g3, hk b (by rw [g3]; exact List.mem_cons_self) _ g4⟩⟩) (a := p) (xs := r.map V.str) (fun G1 _ Q q => q G1 (Ex.refl G1)) (sq_of hp) (by rw [List.length_map]; omega) (fun _ => rfl) fun i y G1 g1 hy => ?_) fun v fs G1 g1 m => ?_
          · obtain ⟨w, hw', rfl⟩ := map_get hy
            exact EvN.imp (en_call (ea_cons (ev_var rfl) (ea_cons (ev_var rfl) ea_nil)) (spn_new (R := TieV n w) fun G2 g2 => ⟨w, n, rfl, by have := short w (List.mem_cons_of_mem _ (List.mem_of_getElem? hw')); omega, rfl⟩)) fun v fs G2 g2 tv => ⟨w, hw', tv⟩
          · obtain ⟨D, ys, fss, rfl, _, hD, yl, fl, hF⟩ := m
            rw [List.length_map] at yl fl
            refine ⟨D, ys, rfl, hD, paired_ix (by rw [yl, hos, List.length_map]) fun i y o hy ho => ?_⟩
            rw [hos] at ho
            obtain ⟨w, hw', rfl⟩ := map_get ho
            have il : i < fss.length := by rw [fl, ← yl]; exact (List.getElem?_eq_some_iff.mp hy).1
            obtain ⟨w2, h1, h2⟩ := hF i y _ hy (List.getElem?_eq_getElem il)
            rw [hw'] at h1
            cases h1
            rcases h2 with ⟨g1, g2, _⟩ | ⟨b, t, g1, g2, _, g4⟩
            · rw [g1]; exact g2
            · rw [g1]; exact ⟨b, g2, g4⟩
        · obtain ⟨p, ys, rfl, hp, hpy⟩ := r5
          have e05 := e04.trans e5
          cases han : os.any Option.isNone with
          | true =>
            refine q_when (b := true) (et_is (et_or (a := true) (b := true) (et_is (et_test (ev_op ev_c (ev_var rfl) (rv_noneIn hp hpy))) han) (fun z => nomatch z)) rfl) (fun _ H6 e6 => s_ret ev_c fun H7 e7 => none_ (fun n' ps v e => ?_) H7 ((e05.trans e6).trans e7)) (fun z => nomatch z)
            rw [(same n' ps v e).2, List.any_map] at han
            obtain ⟨a, _, ha⟩ := List.any_eq_true.mp han
            cases ha
          | false =>
            obtain ⟨ps, hps⟩ := some_all han
            rw [hps] at hpy
            obtain ⟨as, rfl, hpr⟩ := mv_all hpy
            have prs : Prs H5 p ps := ⟨as, hp, hpr⟩
            obtain ⟨rw_, tok⟩ := ties_back (hos.symm.trans hps)
            have plen : ps.length = r.length := by rw [rw_, List.length_map]
            have hpy2 : Paired (MV H5) (as.map V.ref) os := by rw [hps]; exact hpy
            refine q_when (b := !decide (ps.Nodup ∧ srtP ps = ps)) (et_is (et_or (a := false) (et_is (et_test (ev_op ev_c (ev_var rfl) (rv_noneIn hp hpy2))) han) fun _ => et_test (ev_opN (en_of_ev (v := .ref p) (ev_var rfl)) (fun v fs G g _ _ => en_sortedSetP (K := K) (ev_var rfl) (prs.go g) (by omega)) (z := .bl (!decide (ps.Nodup ∧ srtP ps = ps))) fun v fs G w gs G2 g1 _ r1 g2 _ r2 => ?_)) (by rw [Bool.false_or])) (fun c H6 e6 => ?_) (fun c H6 e6 => ?_)
            · obtain ⟨rfl, _⟩ := r1
              obtain ⟨d, qs, rfl, _, hd, qnd, qmem, qs'⟩ := r2
              have := rv_neP (K := K) ((prs.go g1).go g2) hd
              rw [show decide (ps = qs) = decide (ps.Nodup ∧ srtP ps = ps) from decide_eq_decide.mpr ⟨fun e => by
                rw [e]
                exact ⟨qnd, (srtP_one (List.Perm.refl _) qs').symm⟩, fun ⟨nd, self⟩ => by
                rw [← self]
                exact (srtP_one ((List.perm_ext_iff_of_nodup qnd nd).mpr qmem) qs').symm⟩] at this
              exact this
            · refine s_ret ev_c fun H7 e7 => none_ (fun n' ps' v e => ?_) H7 ((e05.trans e6).trans e7)
              have e1 := (same n' ps' v e).2
              rw [hps] at e1
              have e1 : ps = ps' := List.map_inj_right (fun a b h => Option.some.inj h) |>.mp e1
              rw [e1] at c
              simp [v.nd, v.self] at c
            · have c : ps.Nodup ∧ srtP ps = ps := by simpa using c
              exact s_retU (eu_tup (ea_cons (ev_var rfl) (ea_cons (ev_var rfl) ea_nil)) (by show 2 ≤ 100000; decide)) fun u H7 hu e7 h7 => q (.ref u) [] H7 ((e05.trans e6).trans e7) (fun _ z => nomatch z) (.inr ⟨n, ps, u, p, rfl, ⟨n1, n40, tok, c.1, c.2⟩, text_back hsp head rw_, h7, (prs.go e6).go e7⟩)
/-! _law_refused -/
def NoText (K : PySem.W.Frag) (H : Hp) (v : V) : Prop := Kind K H v "str" false ∨ ∃ x, v = .str x ∧ x.length ≤ 80000 ∧ wcount x ≤ 900 ∧ ∀ n ps, Valid n ps → x ≠ textS n ps
theorem NoText.go {H H' : Hp} {v : V} (h : NoText K H v) (e : Ex H H') : NoText K H' v := h.imp (fun k => k.go e) id
def sp_l_refused (K : PySem.W.Frag) : Sp := pureSp fun H vs z => ∃ v, vs = [v] ∧ NoText K H v ∧ z = .bl true
theorem ok_l_refused (T : Txt K mg) : FnOk P w K mg base CX0 7 T.f_l_refused T.fd_l_refused ["_law_line"] (sp_l_refused K) := by
  refine T.F_l_refused.ok sc_l_refused (fun vs H Q E h => ?_) (fun cdv A outer s H vs Q E hr h => ?_)
  · obtain ⟨z, ⟨v, rfl, _⟩, _⟩ := h
    rfl
  · obtain ⟨z, ⟨v, rfl, nt, rfl⟩, q⟩ := h
    refine ⟨_, (pss_cons (ps_try_as (i := 1) rfl rfl sc_l_refused.nd rfl rfl ⟨rfl, by decide, .inl T.g_BadNet⟩ takes0 (fun W pn xe tk po => (pss_one (ps_expr (pe_call (ok_read T) (hr.mono (by decide)) (by rfl) T.g_read T.F_read.kp T.b_read .nil (passes_lenN (N := N_l_refused) rfl tk) (pa_cons (pv 0) pa_nil))))) (fun a oe cls d pn hz hf => (pss_one (ps_ret (pe_callE2 (sole_BadNet T) (roomH_mark (hr.mono (by decide))) List.mem_cons_self hz hf (by rfl) T.g_l_sole T.F_l_sole.kp T.b_l_sole (pv 1))))))
  (pss_one (ps_ret pe_bl))), ?_⟩
    have e0 : start N_l_refused [v] = [some v, none] := rfl
    rw [e0]
    refine s_dropX (x_call (vs := [v]) (ea_cons (ev_var rfl) ea_nil) fun H1 e1 Q' => ?_)
    have nt1 := nt.go e1
    refine ⟨v, rfl, ?_⟩
    rcases nt1 with k | ⟨x, rfl, xl, wc, no⟩
    · exact .inl ⟨k, fun H2 e2 σ hσ => ⟨true, T.em_BadNet, fun _ b hb => ⟨.ref b, set_get hσ, rfl, rfl, rfl, fun H3 e3 => q H3 ((e1.trans e2).trans e3)⟩, fun z => nomatch z⟩⟩
    · exact .inr ⟨x, rfl, xl, wc, fun _ H2 e2 σ hσ => ⟨true, T.em_BadNet, fun _ b hb => ⟨.ref b, set_get hσ, rfl, rfl, rfl, fun H3 e3 => q H3 ((e1.trans e2).trans e3)⟩, fun z => nomatch z⟩, fun n ps v e => absurd e (no n ps v)⟩
/-! _law_read_alike -/
theorem en_parts0 {σ : L2.St} {H : Hp} {ta : TE} {C E1 a : Addr} {n : Nat} {ps : List (Nat × Nat)} {E : XK} (hn : NetAt C H a (webOf n ps)) (n40 : n ≤ 40) (h1 : Ev ta σ H (.ref a)) : EvN (tCall (sp_parts K C E1) [] E (tCons ta (tCons (tLst tNil) tNil))) σ H (fun v fs G => ∃ p, v = .ref p ∧ Rows G p (partsL n (nbOf (webOf n ps)) (thOf n []))) := fun H1 e Q q =>
  call_ag (ag_ev (h1.mono e) fun H2 e2 => ag_el (el_lst ea_nil (by decide)) fun l H3 hl e3 hl3 => ag_nil ⟨a, webOf n ps, l, [], rfl, hn.go ((e.trans e2).trans e3), webOk_of ps n40, hl3, by decide, fun x hx => (nomatch hx), fun ⟨x, hx, _⟩ => (nomatch hx), fun _ p as H4 e4 hp nd fr h4 hpr => q (.ref p) [] H4 ((e2.trans e3).trans e4) (fun _ z => nomatch z) ⟨p, rfl, as, h4, hpr⟩⟩)
theorem rv_neRows {H : Hp} {a b : Addr} {x y : List (List Nat)} (h1 : Rows H a x) (h2 : Rows H b y) : RV (rNeD K) (.ref a) (.ref b) H (.bl (!decide (x = y))) := rv_neD (fun _ e => ⟨dp_rows (h1.go e), dp_rows (h2.go e)⟩) (nssD_shaped _) (nssD_shaped _) (nssD_eqv _ _)
theorem en_lenP {σ : L2.St} {H : Hp} {te : TE} {W : Web} (h : EvN te σ H (fun v fs G => ∃ p ms, v = .ref p ∧ fs = [p] ∧ Prs G p (pairsOf ms) ∧ ms.length = W.size ∧ GreatF W (abF ms))) : EvN (tCB (rLenS K) (tCons te tNil)) σ H (fun v _ _ => ∃ ms, v = vn (pairsOf ms).length ∧ Great W (abF ms)) := fun H1 e Q q =>
  h H1 e _ fun v fs H2 e2 fr r => by
    obtain ⟨p, ms, rfl, _, ⟨as, h1, h2⟩, _, gf⟩ := r
    refine ⟨p, as.map V.ref, rfl, .inl (sq_of h1), ?_⟩
    rw [List.length_map, paired_len h2]
    exact q _ [] H2 e2 (fun _ z => nomatch z) ⟨ms, rfl, gf.g⟩
theorem el_endsT {a : Addr} {p : Nat} {ps : List (Nat × Nat)} {t : TT} {te tl : TE} {σ : L2.St} {H : Hp} {j : Nat} {vs : List Nat} (h : Ev tl σ H (.ref a)) (hl : Prs H a ps) (few : ps.length ≤ 40000) (hw : ∀ x, wipe ((wipe σ vs).set j (some x)) vs = wipe σ vs)
    (ht : ∀ b t' G, Ex H G → Pr G b t' → EvT t ((wipe σ vs).set j (some (.ref b))) G (decide (p = t'.1 ∨ p = t'.2))) (he : ∀ b t' G, Ex H G → Pr G b t' → (p = t'.1 ∨ p = t'.2) → Ev te ((wipe σ vs).set j (some (.ref b))) G (vn (t'.1 + t'.2 - p))) :
    EvL (tLc (iList K tl) (gName j) t te vs) σ H (((ps.filter fun t => decide (p = t.1 ∨ p = t.2)).map fun t => t.1 + t.2 - p).map vn) := by
  obtain ⟨as, hl1, hpr⟩ := hl
  obtain ⟨zs, z1, z2, z3⟩ := pairedZip hpr
  have zl : zs.length ≤ 40000 := by rw [← List.length_map (f := (·.2)) (as := zs), z2]; exact few
  refine el_is (el_filt (K := K) (α := Addr × (Nat × Nat)) (l := zs) (g := fun z => V.ref z.1) (0, (0, 0)) (fun z => decide (p = z.2.1 ∨ p = z.2.2)) (fun z => vn (z.2.1 + z.2.2 - p)) h (sq_of (by rw [hl1, ← z1, List.map_map]; rfl)) zl hw (fun z G g hz => ht z.1 z.2 G g (g _ _ (z3 z hz))) (fun z G g hz hf => he z.1 z.2 G g (g _ _ (z3 z hz)) (of_decide_eq_true hf))) ?_
  rw [← z2, List.filter_map, List.map_map, List.map_map]
  rfl
theorem word_inj {p q : Nat × Nat} (h1 : p.1 < p.2) (h2 : p.2 < 40) (h3 : q.1 < q.2) (h4 : q.2 < 40) (e : SX.S (wordT p) = SX.S (wordT q)) : p = q := by
  have a := tieLaw_word (n := 40) h1 h2 (by decide)
  have b := tieLaw_word (n := 40) h3 h4 (by decide)
  rw [e, b] at a
  exact (Option.some.inj a).symm
theorem text_inj {n n' : Nat} {ps ps' : List (Nat × Nat)} (v : Valid n ps) (v' : Valid n' ps') (e : textS n ps = textS n' ps') : n = n' ∧ ps = ps' := by
  have h := split_text n ps
  rw [e, split_text] at h
  unfold wordsL at h
  rw [List.map_cons, List.map_cons] at h
  injection h with h1 h2
  have h3 := TL.numL_inj (List.append_cancel_right (SX.S_inj h1))
  refine ⟨h3.symm, ?_⟩
  have n40 := v.n40
  have n40' := v'.n40
  rw [List.map_map, List.map_map] at h2
  have aux : ∀ (a b : List (Nat × Nat)), (∀ t ∈ a, t.1 < t.2 ∧ t.2 < 40) → (∀ t ∈ b, t.1 < t.2 ∧ t.2 < 40) → a.map (SX.S ∘ wordT) = b.map (SX.S ∘ wordT) → a = b := fun a => by
    induction a with
    | nil =>
      intro b _ _ h
      cases b with
      | nil => rfl
      | cons x b => cases h
    | cons x a ih =>
      intro b ha hb h
      cases b with
      | nil => cases h
      | cons y b =>
        rw [List.map_cons, List.map_cons] at h
        injection h with g1 g2
        have hx := ha x List.mem_cons_self
        have hy := hb y List.mem_cons_self
        rw [word_inj hx.1 hx.2 hy.1 hy.2 g1, ih b (fun t ht => ha t (List.mem_cons_of_mem _ ht)) (fun t ht => hb t (List.mem_cons_of_mem _ ht)) g2]
  exact (aux ps' ps (fun t ht => by have := v'.tok t ht; omega) (fun t ht => by have := v.tok t ht; omega) h2).symm
theorem s_asgC2 {i : Nat} {sp : Sp} {dvs vs : List V} {E : XK} {tr : TA} {σ : L2.St} {H : Hp} {D : Ends} (h : EvA tr σ H vs) (k : ∀ H1, Ex H H1 → sp (vs ++ dvs) H1 (fun v H2 => D.nx (σ.set i (some v)) H2) E) : tAsg (tCall sp dvs E tr) (gName i) D σ H := h H (Ex.refl H) _ k
def sp_l_read_alike (K : PySem.W.Frag) : Sp := pureSp fun _ vs z => ∃ x, vs = [.str x] ∧ x.length ≤ 80000 ∧ wcount x ≤ 900 ∧ z = .bl true
theorem ok_l_read_alike (T : Txt K mg) : FnOk P w K mg base CX0 11 T.f_l_read_alike T.fd_l_read_alike ["_law_line"] (sp_l_read_alike K) := by
  refine T.F_l_read_alike.ok sc_l_read_alike (fun vs H Q E h => ?_) (fun cdv A outer s H vs Q E hr h => ?_)
  · obtain ⟨z, ⟨x, rfl, _⟩, _⟩ := h
    rfl
  · obtain ⟨z, ⟨x, rfl, xl, wc, rfl⟩, q⟩ := h
    refine ⟨_, (pss_cons (ps_set (i := 1) sc_l_read_alike.nd rfl (Or.inl rfl) (pe_call (ok_l_net_of T) (hr.mono (by decide)) (by rfl) T.g_l_net_of T.F_l_net_of.kp T.b_l_net_of .nil pass0 (pa_cons (pv 0) pa_nil)))
  (pss_cons (ps_if (pt_cmpR op_isN (pv 1) pe_non (nomark _)) (pss_one (ps_ret (pe_call (ok_l_refused T) (hr.mono (by decide)) (by rfl) T.g_l_refused T.F_l_refused.kp T.b_l_refused .nil pass0 (pa_cons (pv 0) pa_nil)))) pss_nil)
  (pss_cons (ps_try_only rfl rfl ⟨rfl, by decide, .inl T.g_BadNet⟩ takes0 (fun W pn xe tk po => (pss_one (ps_set (i := 2) sc_l_read_alike.nd rfl (Or.inl rfl) (pe_call (ok_read T) (hr.mono (by decide)) (by rfl) T.g_read T.F_read.kp T.b_read .nil (passes_lenN (N := N_l_read_alike) rfl tk) (pa_cons (pv 0) pa_nil))))) (fun a oe cls d pn hz hf => (pss_one (ps_ret pe_bl))))
  (pss_cons (ps_if (PW.pt (pw_or (pt_not (pt_val (pe_callB (r := rIsi K) call_isi (by rfl) T.n_isinstance (by decide +kernel) (pa_cons (pv 2) (pa_cons (pe_glob (v := .ref T.C_Net) rfl T.g_Net rfl) pa_nil))))) (pw_or (pt_cmpR op_ne (pe_fldB (K := K) rfl (pv 2) rfl) (pe_ix (r := rIxT K) ix_tup (pv 1) pe_int (fun _ _ => rfl)) (nomark _)) (pw_or1 (pt_cmpR (r := rNeD K) (op_neD hr.units) (pe_meth0 (pv 2) T.cl_Net T.m_Net_ties (ok_Net_ties T) (hr.mono (by decide)) T.b_Net_ties .nil pass0) (pe_ix (r := rIxT K) ix_tup (pv 1) pe_int (fun _ _ => rfl)) (nomark _)))))) (pss_one (ps_ret pe_bl)) pss_nil)
  (pss_cons (ps_for PassesOwn.never rfl (pi_range1 (by rfl) T.n_range (pa_cons (pe_ix (r := rIxT K) ix_tup (pv 1) pe_int (fun _ _ => rfl)) pa_nil)) (pg_name (i := 3) sc_l_read_alike.nd rfl (Or.inr rfl))
    (pss_cons (ps_setLc (i := 4) (own := [("_law_tie_here", 6)]) (g := gName 6) rfl sc_l_read_alike.nd rfl rfl (sw_true rfl rfl rfl (by decide +kernel)) (pi_list (pe_ix (r := rIxT K) ix_tup (pv 1) pe_int (fun _ _ => rfl))) (blkOk_by (own := [("_law_tie_here", 6)]) (N := N_l_read_alike) (sc := defScope s_l_read_alike) (by decide +kernel)) (fun _ _ _ _ _ => (pg_name (i := 6) sc_l_read_alike.nd rfl (Or.inl rfl))) (fun _ _ _ _ _ => (pts_one (pt_cmpR (r := rIn K false) op_in_seq (pv 3) (pv 6) (by with_unfolding_all rfl)))) (fun _ _ _ _ _ => (pe_op op_sub (pe_op op_add (pe_ix (r := rIxT K) ix_tup (pv 6) pe_int (fun _ _ => rfl)) (pe_ix (r := rIxT K) ix_tup (pv 6) pe_int (fun _ _ => rfl))) (pv 3))))
  (pss_one (ps_if (pt_cmpR (r := rNeD K) (op_neD hr.units) (pe_meth (pv 2) T.cl_Net T.m_Net_beside (ok_Net_beside T) (hr.mono (by decide)) T.b_Net_beside .nil passL (pa_cons (pv 3) pa_nil)) (pe_callB (r := rSortedI K) cr_sortedI (by rfl) T.n_sorted (by decide +kernel) (pa_cons (pv 4) pa_nil)) (nomark _)) (pss_one (ps_ret pe_bl)) pss_nil))))
  (pss_cons (ps_set (i := 5) sc_l_read_alike.nd rfl (Or.inl rfl) (pe_make T.mk_Net (ok_Net_init T) (hr.mono (by decide)) (by rfl) T.g_Net T.b_Net_init .nil passL (pa_cons (pe_ix (r := rIxT K) ix_tup (pv 1) pe_int (fun _ _ => rfl)) (pa_cons (pe_callTy (r := rListS K) call_list_of (by rfl) T.n_list (by decide +kernel) (pa_cons (pe_ix (r := rIxT K) ix_tup (pv 1) pe_int (fun _ _ => rfl)) pa_nil)) pa_nil))))
  (pss_cons (ps_if (PW.pt (pw_or (pt_cmpR (r := rNeD K) (op_neD hr.units) (pe_call (ok_parts T) (hr.mono (by decide)) (by rfl) T.g_parts T.F_parts.kp T.b_parts .nil passL (pa_cons (pv 2) (pa_cons (pe_lst pa_nil) pa_nil))) (pe_call (ok_parts T) (hr.mono (by decide)) (by rfl) T.g_parts T.F_parts.kp T.b_parts .nil passL (pa_cons (pv 5) (pa_cons (pe_lst pa_nil) pa_nil))) (nomark _)) (pw_or1 (pt_cmpR op_ne (pe_callB (r := rLenS K) call_len_seq (by rfl) T.n_len (by decide +kernel) (pa_cons (pe_call (ok_most T) (hr.mono (by decide)) (by rfl) T.g_most T.F_most.kp T.b_most .nil pass0 (pa_cons (pv 2) pa_nil)) pa_nil)) (pe_callB (r := rLenS K) call_len_seq (by rfl) T.n_len (by decide +kernel) (pa_cons (pe_call (ok_most T) (hr.mono (by decide)) (by rfl) T.g_most T.F_most.kp T.b_most .nil pass0 (pa_cons (pv 5) pa_nil)) pa_nil)) (nomark _))))) (pss_one (ps_ret pe_bl)) pss_nil)
  (pss_one (ps_ret (pe_and (pe_cmpR (r := rEqD K) (op_eqD hr.units) (pe_call (ok_fence T) (hr.mono (by decide)) (by rfl) T.g_fence T.F_fence.kp T.b_fence .nil pass0 (pa_cons (pv 2) pa_nil)) (pe_call (ok_fence T) (hr.mono (by decide)) (by rfl) T.g_fence T.F_fence.kp T.b_fence .nil pass0 (pa_cons (pv 5) pa_nil)) (nomark _)) (pe_one (pe_cmpR op_eq (pe_call (ok_shown T) (hr.mono (by decide)) (by rfl) T.g_shown T.F_shown.kp T.b_shown .nil pass0 (pa_cons (pv 2) pa_nil)) (pv 0) (nomark _))))))))))))), ?_⟩
    have e0 : start N_l_read_alike [.str x] = [some (.str x), none, none, none, none, none, none] := rfl
    rw [e0]
    refine q_asgN (en_call (ea_cons (ev_var rfl) ea_nil) (spn_new (R := NetV x) fun G g => ⟨x, rfl, xl, wc, rfl⟩)) fun v fs H1 e1 fr r => ?_
    rcases r with ⟨rfl, _, no⟩ | ⟨n, ps, p, l, rfl, v, hx, hp, hl⟩
    · exact q_when (b := true) (et_test (ev_op (ev_var rfl) ev_c rv_isN)) (fun _ H2 e2 => s_ret (ev_call (z := .bl true) (ea_cons (ev_var rfl) ea_nil) (spv_pure fun G g => ⟨.str x, rfl, .inr ⟨x, rfl, xl, wc, no⟩, rfl⟩)) fun H3 e3 => q H3 ((e1.trans e2).trans e3)) (fun z => nomatch z)
    have n1 := v.n1
    have n40 := v.n40
    have tok := v.tok
    have nd := v.nd
    have few := v.few
    have sym := webSym_of tok
    have wok := webOk_of ps n40
    refine q_when (b := false) (et_test (ev_op (ev_var rfl) ev_c rv_isN)) (fun z => nomatch z) (fun _ H2 e2 => ?_)
    have e02 := e1.trans e2
    have hp2 := e2 _ _ hp
    have hl2 := hl.go e2
    refine s_asgC2 (vs := [.str x]) (ea_cons (ev_var rfl) ea_nil) fun H3 e3 => ⟨.str x, rfl, .inr ⟨x, rfl, xl, wc, fun no => absurd hx (no n ps v), fun n' ps' v' e' y H4 e4 yN net => ?_⟩⟩
    obtain ⟨rfl, rfl⟩ := text_inj v' v (e'.symm.trans hx)
    have e24 := e3.trans e4
    have hp4 := e24 _ _ hp2
    have hl4 := hl2.go e24
    have net4 := net.at
    show tSeq _ _ _ [some (.str x), some (.ref p), some (.ref y), none, none, none, none] H4
    have D0 : ∀ {G : Hp} {σ : L2.St} {te : TE}, Ex H4 G → Ev te σ G (.ref p) → Ev (tOp (rIxT K) te (tC (.int 0))) σ G (vn n') := fun g h => ev_op h ev_c (rv_ixT (K := K) (st_of (g _ _ hp4)) rfl)
    have D1 : ∀ {G : Hp} {σ : L2.St} {te : TE}, Ex H4 G → Ev te σ G (.ref p) → Ev (tOp (rIxT K) te (tC (.int 1))) σ G (.ref l) := fun g h => ev_op h ev_c (rv_ixT (K := K) (st_of (g _ _ hp4)) rfl)
    obtain ⟨dx, rl, hins, _⟩ := id net4
    refine q_when (b := false) (et_is (et_or (a := false) (b := false) (et_is (et_not (et_B (ev_cb (ea_cons (ev_var rfl) (ea_cons ev_c ea_nil)) (rc_isi (b := true) (.base (.ins hins T.cl_Net T.oc_Net T.ec_BadNet.hn T.ec_BadNet.ht T.om_Net)) (.own _) (by simp [PySem.W.kitOne]))))) rfl) fun _ => et_is (et_or (a := false) (b := false) (et_is (et_test (ev_op (ev_size net4 T.cl_Net T.na_Net_size (ev_var rfl)) (D0 (Ex.refl _) (ev_var rfl)) (rv_ne rfl))) (by
      show (!decide (vn n' = vn n')) = false
      simp)) fun _ => et_is (et_test (evpr_ne (K := K) (b := true) (EvN.imp (en_ties n40 tok nd v.self (ev_var rfl) net4) fun v fs G e ⟨p, h1, _, h3⟩ => ⟨p, h1, h3⟩) (evpr_var (D1 (Ex.refl _) (ev_var rfl)) hl4) (decide_eq_true rfl))) rfl) rfl) rfl) (fun z => nomatch z) (fun _ H5 e5 => ?_)
    refine q_forR1 (n := (n' : Int)) (ea_cons (D0 e5 (ev_var rfl)) ea_nil) (by omega) (fun i σ' G => ∃ x3 x4, σ' = [some (.str x), some (.ref p), some (.ref y), x3, x4, none, none] ∧ Ex H5 G) (fun G g => ⟨none, none, rfl, g⟩) ?_ ?_
    · rintro i σ' G hi ⟨x3, x4, rfl, eG⟩
      have hi : i < n' := by omega
      have e4G := e5.trans eG
      refine q_asgL (el_endsT (K := K) (p := i) (ps := ps') (D1 e4G (ev_var rfl)) (hl4.go e4G) (by omega) (fun _ => rfl) (fun b t' G1 g1 hb => ?_) (fun b t' G1 g1 hb ho => ?_)) fun nl G1 hnl g1 hnl1 => ?_
      · refine et_is (et_test (ev_op (ev_var rfl) (ev_var rfl) (rv_isT (st_of hb) rfl rfl))) ?_
        rw [show ([vn t'.1, vn t'.2] : List V) = [t'.1, t'.2].map vn from rfl, inV_nat]
        simp
      · refine ev_is (ev_op (ev_op (ev_op (ev_var rfl) ev_c (rv_ixT (K := K) (st_of hb) (v := vn t'.1) rfl)) (ev_op (ev_var rfl) ev_c (rv_ixT (K := K) (st_of hb) (v := vn t'.2) rfl)) rv_I0) (ev_var rfl) rv_I0) ?_
        show V.int _ = V.int _
        congr 1
        omega
      · refine s_when (b := false) (et_is (et_test (ev_opN (en_of_el (el_beside (i := i) (net4.go (e4G.trans g1)) wok (ev_var rfl) (ev_var rfl) hi)) (fun v fs G g _ _ => en_of_el (el_sorted (K := K) (ea_cons (ev_var rfl) ea_nil) (sq_of (g _ _ hnl1)))) (z := .bl false) fun v fs G2 w gs G3 g2 _ r1 g3 _ r2 => ?_)) rfl) (fun z => nomatch z) (fun _ G2 g2 => ⟨_, _, rfl, (eG.trans g1).trans g2⟩)
        obtain ⟨u, rfl, _, hu⟩ := r1
        obtain ⟨u2, rfl, _, hu2⟩ := r2
        have h1 : Ints G3 u (nearOf n' ps' i) := by
          have := g3 _ _ hu
          rw [near_web ps' hi] at this
          exact this
        have h2 : Ints G3 u2 (nearOf n' ps' i) := by
          rw [beside_eq tok nd] at hu2
          exact hu2
        have := rv_neI (K := K) h1 h2
        simpa using this
    · rintro σ' G ⟨x3, x4, rfl, eG⟩
      have e4G := e5.trans eG
      have hlG := hl4.go e4G
      obtain ⟨as, hl1, hpr⟩ := id hlG
      refine q_asgN (en_net n1 n40 tok nd (by omega) hpr (D0 e4G (ev_var rfl)) (el_list (K := K) (D1 e4G (ev_var rfl)) (sq_of hl1))) fun v fs H6 e6 fr6 r => ?_
      obtain ⟨z, rfl, netz⟩ := r
      have nz := netz.at
      have ny := (net4.go e4G).go e6
      have mostE : ∀ {σ : L2.St} {G : Hp} {te : TE} {E : XK} {a : Addr}, NetAt T.C_Net G a (webOf n' ps') → Ev te σ G (.ref a) → EvN (tCall (sp_most T.C_Net) [] E (tCons te tNil)) σ G (fun v fs G => ∃ p ms, v = .ref p ∧ fs = [p] ∧ Prs G p (pairsOf ms) ∧ ms.length = (webOf n' ps').size ∧ GreatF (webOf n' ps') (abF ms)) := fun hn h => en_call (ea_cons h ea_nil) (spn_new fun G g => ⟨_, webOf n' ps', rfl, hn.go g, wok, sym, rfl⟩)
      have fenE : ∀ {σ : L2.St} {G : Hp} {te : TE} {E : XK} {a : Addr}, NetAt T.C_Net G a (webOf n' ps') → Ev te σ G (.ref a) → EvN (tCall (sp_fence T.C_Net) [] E (tCons te tNil)) σ G (fun v fs G => ∃ p, v = .ref p ∧ fs = [p] ∧ Ints G p (fenceL (webOf n' ps'))) := fun hn h => en_call (ea_cons h ea_nil) (spn_new fun G g => ⟨_, webOf n' ps', rfl, hn.go g, wok, sym, rfl⟩)
      refine q_when (b := false) (et_is (et_or (a := false) (b := false) (et_is (et_test (ev_opN (en_parts0 ny n40 (ev_var rfl)) (fun v fs G g _ _ => en_parts0 (nz.go g) n40 (ev_var rfl)) (z := .bl false) fun v fs G w gs G2 g1 _ r1 g2 _ r2 => ?_)) rfl) fun _ => et_is (et_test (ev_opN (en_lenP (K := K) (mostE ny (ev_var rfl))) (fun v fs G g _ _ => en_lenP (K := K) (mostE (nz.go g) (ev_var rfl))) (z := .bl false) fun v fs G w gs G2 g1 _ r1 g2 _ r2 => ?_)) rfl) rfl) (fun z => nomatch z) (fun _ H7 e7 => ?_)
      · obtain ⟨u1, rfl, h1⟩ := r1
        obtain ⟨u2, rfl, h2⟩ := r2
        have := rv_neRows (K := K) (h1.go g2) h2
        simpa using this
      · obtain ⟨m1, rfl, gr1⟩ := r1
        obtain ⟨m2, rfl, gr2⟩ := r2
        have l1 : (leftQ n' (pairsOf m1)).length + 2 * (pairsOf m1).length = n' := leftQ_len (W := webOf n' ps') (pairsOf_ok gr1.m sym)
        have l2 : (leftQ n' (pairsOf m2)).length + 2 * (pairsOf m2).length = n' := leftQ_len (W := webOf n' ps') (pairsOf_ok gr2.m sym)
        have x1 : (leftQ n' (pairsOf m1)).length = ex (webOf n' ps') (abF m1) := leftQ_ex (W := webOf n' ps') gr1.m sym
        have x2 : (leftQ n' (pairsOf m2)).length = ex (webOf n' ps') (abF m2) := leftQ_ex (W := webOf n' ps') gr2.m sym
        have := gr1.same gr2
        have e : (pairsOf m1).length = (pairsOf m2).length := by omega
        have := rv_ne (H := G2) (x := vn (pairsOf m1).length) (y := vn (pairsOf m2).length) rfl
        rw [dec_nat, decide_eq_true e] at this
        exact this
      have ny7 := ny.go e7
      have nz7 := nz.go e7
      exact s_ret (ev_is (ev_andV (a := true) (b := true) (ev_opN (fenE ny7 (ev_var rfl)) (fun v fs G g _ _ => fenE (nz7.go g) (ev_var rfl)) (z := .bl true) fun v fs G w gs G2 g1 _ r1 g2 _ r2 => by
        obtain ⟨u1, rfl, _, h1⟩ := r1
        obtain ⟨u2, rfl, _, h2⟩ := r2
        have := rv_eqI (K := K) (h1.go g2) h2
        simpa using this) fun _ => ev_is (ev_op (ev_shown ny7 n1 n40 tok nd (ev_var rfl)) (ev_var rfl) (rv_eq rfl)) (by rw [v.self, ← hx]; simp)) rfl) fun G1 g1 => q G1 (((((e02.trans e24).trans e4G).trans e6).trans e7).trans g1)
/-! _law_changed -/
def ChangedV (x : Str) : Rn := fun v fs _ => fs = [] ∧ ∃ y, v = .str y ∧ y.length ≤ x.length + 1 ∧ wcount y ≤ wcount x + 1
theorem changed_of (x : Str) (s : List Nat) (i j : Nat) (hs : s.length ≤ 1) (hij : i ≤ j) : (SX.S ((TL.tl x).take i ++ s ++ (TL.tl x).drop j)).length ≤ x.length + 1 ∧ wcount (SX.S ((TL.tl x).take i ++ s ++ (TL.tl x).drop j)) ≤ wcount x + 1 := by
  refine ⟨?_, ?_⟩
  · rw [put_len, List.length_take, List.length_drop, TL.len_tl x]
    omega
  · have := put_count (l := TL.tl x) hs hij
    rw [show SX.S (TL.tl x) = x from SX.S_tl x] at this
    exact this
def signs96 : Str := (" !\"#$&'()*+,-./0123456789:;<=>?@ABCDEFGHIJKLMNOPQRSTUVWXYZ[\\]^_`" : Str) ++ ("abcdefghijklmnopqrstuvwxyz{|}~\n\t" : Str)
theorem signs_len : signs96.cps.toList.length = 96 := by decide +kernel
theorem signs13 : ("0123456789 -:" : Str).cps.toList.length = 13 := by decide +kernel
def sp_l_changed : Sp := newSp fun _ vs S => ∃ x c m, vs = [.str x, .int c, .int m] ∧ x.length ≤ 40000 ∧ S = ChangedV x
theorem ok_l_changed (T : Txt K mg) : FnOk P w K mg base CX0 1 T.f_l_changed T.fd_l_changed ["_law_line", "_law_cell", "_law_more"] sp_l_changed := by
  refine T.F_l_changed.ok sc_l_changed (fun vs H Q E h => ?_) (fun cdv A outer s H vs Q E hr h => ?_)
  · obtain ⟨S, ⟨x, c, m, rfl, _⟩, _⟩ := h
    rfl
  · obtain ⟨S, ⟨x, c, m, rfl, xl, rfl⟩, q⟩ := h
    refine ⟨_, (pss_cons (ps_set (i := 3) sc_l_changed.nd rfl (Or.inl rfl) pe_str)
  (pss_cons (ps_set (i := 3) sc_l_changed.nd rfl (Or.inl rfl) (pe_op op_add_str (pv 3) pe_str))
  (pss_cons (ps_set (i := 4) sc_l_changed.nd rfl (Or.inl rfl) (pe_ix ix_str (pv 3) (pe_op op_mod (pv 1) pe_int) (fun _ _ => rfl)))
  (pss_cons (ps_if (pt_cmpR op_eq (pe_op op_mod (pe_op op_fdiv (pv 1) pe_int) pe_int) pe_int (nomark _)) (pss_one (ps_set (i := 4) sc_l_changed.nd rfl (Or.inl rfl) (pe_ix ix_str pe_str (pe_op op_mod (pe_op op_fdiv (pv 1) pe_int) pe_int) (fun _ _ => rfl)))) pss_nil)
  (pss_cons (ps_set (i := 5) sc_l_changed.nd rfl (Or.inl rfl) (pe_op op_mod (pv 2) (pe_op op_add (pe_callB call_len_str (by rfl) T.n_len (by decide +kernel) (pa_cons (pv 0) pa_nil)) pe_int)))
  (pss_cons (ps_if (pt_cmpR op_eq (pe_op op_mod (pe_op op_fdiv (pv 2) pe_int) pe_int) pe_int (nomark _)) (pss_one (ps_ret (pe_op op_add_str (pe_op op_add_str (pe_slice sl_str (pv 0) po_none (po_some (pv 5))) (pv 4)) (pe_slice sl_str (pv 0) (po_some (pv 5)) po_none)))) pss_nil)
  (pss_cons (ps_if (pt_cmpR op_eq (pe_op op_mod (pe_op op_fdiv (pv 2) pe_int) pe_int) pe_int (nomark _)) (pss_one (ps_ret (pe_op op_add_str (pe_op op_add_str (pe_slice sl_str (pv 0) po_none (po_some (pv 5))) (pv 4)) (pe_slice sl_str (pv 0) (po_some (pe_op op_add (pv 5) pe_int)) po_none)))) pss_nil)
  (pss_one (ps_ret (pe_op op_add_str (pe_slice sl_str (pv 0) po_none (po_some (pv 5))) (pe_slice sl_str (pv 0) (po_some (pe_op op_add (pv 5) pe_int)) po_none))))))))))), ?_⟩
    have e0 : start N_l_changed [.str x, .int c, .int m] = [some (.str x), some (.int c), some (.int m), none, none, none] := rfl
    rw [e0]
    have done : ∀ (s : List Nat) (i j : Nat), s.length ≤ 1 → i ≤ j → ∀ H', Ex H H' → Q (.str (SX.S ((TL.tl x).take i ++ s ++ (TL.tl x).drop j))) H' := fun s i j hs hij H' e => by
      obtain ⟨h1, h2⟩ := changed_of x s i j hs hij
      exact q _ [] H' e (fun _ z => nomatch z) ⟨rfl, _, rfl, h1, h2⟩
    have l0 : x.length = (TL.tl x).length := TL.len_tl x
    refine q_asg ev_c fun H1 e1 => ?_
    refine q_asg (v := .str signs96) (ev_op (ev_var rfl) ev_c (rv_addS (by decide +kernel))) fun H2 e2 => ?_
    obtain ⟨u, hu⟩ : ∃ u, signs96.cps.toList[(c % (96 : Nat)).toNat]? = some u := ⟨_, getD_get 0 (by rw [signs_len]; exact modN_lt c (by decide))⟩
    refine q_asg (v := .str ⟨#[u]⟩) (ev_op (ev_var rfl) (ev_modN (m := 96) (by decide) (ev_var rfl) ev_c) (rv_ixS (by rw [show signs96.length = 96 from by rw [TL.len_tl]; exact signs_len]; decide) (atI_nat hu))) fun H3 e3 => ?_
    have e03 := (e1.trans e2).trans e3
    refine q_whenM (b := decide (c / 96 % 2 = 1)) (et_is (et_test (ev_op (ev_op (ev_op (ev_var rfl) ev_c (rv_I ⟨by decide, by decide⟩)) ev_c (rv_I (by decide))) ev_c (rv_eq rfl))) (dec_int _ _)) (fun σ' G => ∃ u, σ' = [some (.str x), some (.int c), some (.int m), some (.str signs96), some (.str ⟨#[u]⟩), none] ∧ Ex H G) ?_ (fun _ H4 e4 kk => ?_) (fun _ H4 e4 => ⟨u, rfl, e03.trans e4⟩)
    · rintro σ' G ⟨u, rfl, eG⟩
      obtain ⟨i, hi⟩ : ∃ i, i = (m % ((x.length + 1 : Nat) : Int)).toNat := ⟨_, rfl⟩
      have il : i < x.length + 1 := by rw [hi]; exact modN_lt m (by omega)
      refine q_asg (v := vn i) (ev_is (ev_modN (m := x.length + 1) (by omega) (ev_var rfl) (ev_is (ev_op (ev_lenS (ev_var rfl) (by omega)) ev_c rv_I0) (by show V.int _ = V.int _; congr 1))) (by rw [hi])) fun H5 e5 => ?_
      have e05 := eG.trans e5
      have lo : ∀ {G : Hp} {k : Nat} {te : TE}, Ev te [some (.str x), some (.int c), some (.int m), some (.str signs96), some (.str ⟨#[u]⟩), some (vn i)] G (vn k) → Ev (tSl rSlS (tVar 0) tNoPart (tPart te)) [some (.str x), some (.int c), some (.int m), some (.str signs96), some (.str ⟨#[u]⟩), some (vn i)] G (.str (SX.S ((TL.tl x).take k))) := fun h => ev_is (ev_slS (z := x) (ev_var rfl) eo_none (eo_some h) (by omega)) (by
        rw [← cut_to, show SX.S (TL.tl x) = x from SX.S_tl x])
      have hi' : ∀ {G : Hp} {k : Nat} {te : TE}, Ev te [some (.str x), some (.int c), some (.int m), some (.str signs96), some (.str ⟨#[u]⟩), some (vn i)] G (vn k) → Ev (tSl rSlS (tVar 0) (tPart te) tNoPart) [some (.str x), some (.int c), some (.int m), some (.str signs96), some (.str ⟨#[u]⟩), some (vn i)] G (.str (SX.S ((TL.tl x).drop k))) := fun h => ev_is (ev_slS (z := x) (ev_var rfl) (eo_some h) eo_none (by omega)) (by
        rw [← cut_from, show SX.S (TL.tl x) = x from SX.S_tl x])
      have i1 : ∀ {G : Hp}, Ev (tOp (rI0 fun i j => .int (i + j)) (tVar 5) (tC (.int 1))) [some (.str x), some (.int c), some (.int m), some (.str signs96), some (.str ⟨#[u]⟩), some (vn i)] G (vn (i + 1)) := ev_is (ev_op (ev_var rfl) ev_c rv_I0) (by show V.int _ = V.int _; congr 1)
      have tl1 : ∀ k, (SX.S ((TL.tl x).take k)).length ≤ 40000 := fun k => by rw [SX.S_len, List.length_take]; omega
      have tl2 : ∀ k, (SX.S ((TL.tl x).drop k)).length ≤ 40000 := fun k => by rw [SX.S_len, List.length_drop]; omega
      have tu : (⟨#[u]⟩ : Str).length = 1 := rfl
      have cat3 : ∀ j, SX.S ((TL.tl x).take i) ++ (⟨#[u]⟩ : Str) ++ SX.S ((TL.tl x).drop j) = SX.S ((TL.tl x).take i ++ [u] ++ (TL.tl x).drop j) := fun j => by
        rw [show (⟨#[u]⟩ : Str) = SX.S [u] from rfl, SX.S_cat, SX.S_cat]
      have cat2 : ∀ j, SX.S ((TL.tl x).take i) ++ SX.S ((TL.tl x).drop j) = SX.S ((TL.tl x).take i ++ [] ++ (TL.tl x).drop j) := fun j => by
        rw [SX.S_cat, List.append_nil]
      have a1 := tl1 i
      have mt : ∀ {G : Hp} {k : Int}, EvT (tTest (tOp rEq (tOp (rI (fun _ j => 0 < j) fun i j => .int (i % j)) (tOp (rI CDiv fun i j => .int (i / j)) (tVar 2) (tC (.int 1000))) (tC (.int 3))) (tC (.int k)))) [some (.str x), some (.int c), some (.int m), some (.str signs96), some (.str ⟨#[u]⟩), some (vn i)] G (decide (m / 1000 % 3 = k)) := fun {G k} => et_is (et_test (ev_op (ev_op (ev_op (ev_var rfl) ev_c (rv_I ⟨by decide, by decide⟩)) ev_c (rv_I (by decide))) ev_c (rv_eq rfl))) (dec_int _ _)
      refine q_when mt (fun _ H6 e6 => ?_) (fun _ H6 e6 => ?_)
      · have a2 := tl2 i
        exact s_ret (ev_is (ev_op (ev_op (lo (ev_var rfl)) (ev_var rfl) (rv_addS (by omega))) (hi' (ev_var rfl)) (rv_addS (by rw [Str.length_append]; omega))) (by rw [cat3])) fun H7 e7 => done [u] i i (Nat.le_refl _) (Nat.le_refl _) H7 ((e05.trans e6).trans e7)
      · have a2 := tl2 (i + 1)
        refine q_when mt (fun _ H7 e7 => ?_) (fun _ H7 e7 => ?_)
        · exact s_ret (ev_is (ev_op (ev_op (lo (ev_var rfl)) (ev_var rfl) (rv_addS (by omega))) (hi' i1) (rv_addS (by rw [Str.length_append]; omega))) (by rw [cat3])) fun H8 e8 => done [u] i (i + 1) (Nat.le_refl _) (by omega) H8 (((e05.trans e6).trans e7).trans e8)
        · exact s_ret (ev_is (ev_op (lo (ev_var rfl)) (hi' i1) (rv_addS (by omega))) (by rw [cat2])) fun H8 e8 => done [] i (i + 1) (by decide) (by omega) H8 (((e05.trans e6).trans e7).trans e8)
    · obtain ⟨t, ht⟩ : ∃ t, ("0123456789 -:" : Str).cps.toList[(c / 192 % (13 : Nat)).toNat]? = some t := ⟨_, getD_get 0 (by rw [signs13]; exact modN_lt _ (by decide))⟩
      exact s_asg (v := .str ⟨#[t]⟩) (ev_op ev_c (ev_modN (m := 13) (by decide) (ev_op (ev_var rfl) ev_c (rv_I ⟨by decide, by decide⟩)) ev_c) (rv_ixS (by rw [TL.len_tl, signs13]; decide) (atI_nat ht))) fun H5 e5 => kk _ _ ⟨t, rfl, (e03.trans e4).trans e5⟩
/-! law -/
def numLL (w : List Nat) : Option Nat := (List.range 100).find? fun k => decide (TL.numL k = w)
theorem numLL_num {k : Nat} (h : k < 100) : numLL (TL.numL k) = some k := by
  cases e : numLL (TL.numL k) with
  | none =>
    have := List.find?_eq_none.mp e k (List.mem_range.mpr h)
    simp at this
  | some j =>
    have h1 : decide (TL.numL j = TL.numL k) = true := List.find?_some (p := fun j => decide (TL.numL j = TL.numL k)) e
    have := TL.numL_inj (of_decide_eq_true h1)
    rw [this]
def tieLL (n : Nat) (w : List Nat) : Bool := match TL.par [45] [] w with
  | some (p, q) => (match numLL p, numLL q with
    | some x, some y => decide (x < y) && decide (y < n)
    | _, _ => false)
  | none => false
def chkL (a : List Nat) : Bool := match TL.spl [32] 0 [] a with
  | [] => false
  | h :: r => decide (h.drop (h.length - 1) = [58]) && (match numLL (h.take (h.length - 1)) with
    | none => false
    | some n => decide (1 ≤ n) && decide (n ≤ 40) && r.all (tieLL n) && decide r.Nodup)
theorem tieLL_word {n : Nat} {p : Nat × Nat} (h1 : p.1 < p.2) (h2 : p.2 < n) (h3 : n ≤ 40) : tieLL n (wordT p) = true := by
  have e : TL.par [45] [] (wordT p) = some (TL.numL p.1, TL.numL p.2) := SX.par_head (c := 45) (sep := []) (TL.numL p.2) word_no
  unfold tieLL
  rw [e]
  dsimp only
  rw [numLL_num (by omega), numLL_num (by omega)]
  simp [h1, h2]
theorem chkL_text {n : Nat} {ps : List (Nat × Nat)} (v : Valid n ps) : chkL (TL.joinL [32] (wordsL n ps)) = true := by
  have n1 := v.n1
  have n40 := v.n40
  have e : TL.spl [32] 0 [] (TL.joinL [32] (wordsL n ps)) = wordsL n ps := SX.spl_join (c := 32) (sep := []) (List.cons_ne_nil _ _) words_free
  unfold chkL
  rw [e]
  unfold wordsL
  dsimp only
  have hl : (TL.numL n ++ [58]).length - 1 = (TL.numL n).length := by simp
  have h1 : (TL.numL n ++ [58]).drop (TL.numL n).length = [58] := List.drop_left
  have h2 : (TL.numL n ++ [58]).take (TL.numL n).length = TL.numL n := List.take_left
  rw [hl, h1, h2, numLL_num (by omega)]
  have all : (ps.map wordT).all (tieLL n) = true := List.all_eq_true.mpr fun w hw => by
    obtain ⟨p, hp, rfl⟩ := List.mem_map.mp hw
    have := v.tok p hp
    exact tieLL_word this.1 this.2 n40
  have nd : (ps.map wordT).Nodup := by
    unfold List.Nodup
    rw [List.pairwise_map]
    refine v.nd.imp_of_mem fun {a b} ha hb ne e => ne ?_
    have h1 := v.tok a ha
    have h2 := v.tok b hb
    exact word_inj h1.1 (by omega) h2.1 (by omega) (by rw [e])
  simp [all, nd, n1, n40]
theorem noText_of {H : Hp} {x : Str} (hl : x.length ≤ 700) (h : chkL x.cps.toList = false) : NoText K H (.str x) := .inr ⟨x, rfl, by omega, by
  have := PyProof.Rows.split_le x (SX.S [32])
  unfold wcount
  omega, fun n ps v e => by
  rw [e] at h
  have h : chkL (TL.joinL [32] (wordsL n ps)) = false := h
  rw [chkL_text v] at h
  cases h⟩
theorem ev_call1P {σ : L2.St} {H : Hp} {ta : TE} {P : HV} {sp : Sp} {dvs : List V} {E : XK} {z : V} (h : EvP ta σ H P) (hs : ∀ v H1, Ex H H1 → P H1 v → SpV sp ([v] ++ dvs) H1 z) : Ev (tCall sp dvs E (tCons ta tNil)) σ H z := fun H1 e Q q =>
  h H1 e _ fun v H2 e2 p => hs v H2 (e.trans e2) p H2 (Ex.refl H2) Q (fun H3 e3 => q H3 (e2.trans e3)) E
theorem ev_modL {σ : L2.St} {H : Hp} {te : TE} {i : Int} (m : Nat) (hm : 0 < m) (h : Ev te σ H (.int i)) : Ev (tOp (rI (fun _ j => 0 < j) fun i j => .int (i % j)) te (tC (.int m))) σ H (.int (((i % m).toNat : Nat) : Int)) := ev_is (ev_op h ev_c (rv_I (by omega))) (by
  have := Int.emod_nonneg i (show (m : Int) ≠ 0 by omega)
  rw [Int.toNat_of_nonneg this])
def some14 : List Str := ["", " ", ":", "0:", "41:", "3", "3: ", "3:0-1", "03:", "3: 1-0", "3: 0-3", "3: 0-1 0-1", "3: 0--1", "3:\n"]
theorem some14_no : some14.all (fun x => decide (x.length ≤ 700) && !chkL x.cps.toList) = true := by decide +kernel
def sp_law (K : PySem.W.Frag) : Sp := fun vs H Q _ => ∃ (a : Addr) (ns : List Int), vs = [.ref a] ∧ SqL K H a (ns.map V.int) ∧ ns.length ≤ 63 ∧ ∀ H', Q (.bl true) H'
theorem ok_law (T : Txt K mg) : FnOk P w K mg base CX0 12 T.f_law T.fd_law ["_law_script"] (sp_law K) := by
  refine T.F_law.ok sc_law (fun vs H Q E h => ?_) (fun cdv A outer s H vs Q E hr h => ?_)
  · obtain ⟨a, ns, rfl, _⟩ := h
    rfl
  · obtain ⟨a, ns, rfl, hS, hlen, q⟩ := h
    refine ⟨_, (pss_cons (ps_asg (pe_call (ok_l_net_by T) (hr.mono (by decide)) (by rfl) T.g_l_net_by T.F_l_net_by.kp T.b_l_net_by .nil pass0 (pa_cons (pv 0) (pa_cons pe_int pa_nil))) (pg_tup rfl (pgs_cons (pg_name (i := 1) sc_law.nd rfl (Or.inl rfl)) (pgs_cons (pg_name (i := 2) sc_law.nd rfl (Or.inl rfl)) pgs_nil))))
  (pss_cons (ps_set (i := 3) sc_law.nd rfl (Or.inl rfl) (pe_make T.mk_Net (ok_Net_init T) (hr.mono (by decide)) (by rfl) T.g_Net T.b_Net_init .nil passL (pa_cons (pv 1) (pa_cons (pe_callTy (r := rListS K) call_list_of (by rfl) T.n_list (by decide +kernel) (pa_cons (pv 2) pa_nil)) pa_nil))))
  (pss_cons (ps_set (i := 4) sc_law.nd rfl (Or.inl rfl) (pe_call (ok_shown T) (hr.mono (by decide)) (by rfl) T.g_shown T.F_shown.kp T.b_shown .nil pass0 (pa_cons (pv 3) pa_nil)))
  (pss_cons (ps_if (PW.pt (pw_or (pt_not (pt_val (pe_callB (r := rIsi K) call_isi (by rfl) T.n_isinstance (by decide +kernel) (pa_cons (pv 4) (pa_cons (pe_bltn (v := .ty "str") (by rfl) T.n_str (by decide +kernel) rfl) pa_nil))))) (pw_or (pt_cmpR op_ne (pv 4) (pe_call (ok_l_text T) (hr.mono (by decide)) (by rfl) T.g_l_text T.F_l_text.kp T.b_l_text .nil pass0 (pa_cons (pv 1) (pa_cons (pv 2) pa_nil))) (nomark _)) (pw_or1 (pt_cmpR (r := rNeD K) (op_neD hr.units) (pe_meth0 (pv 3) T.cl_Net T.m_Net_ties (ok_Net_ties T) (hr.mono (by decide)) T.b_Net_ties .nil pass0) (pv 2) (nomark _)))))) (pss_one (ps_ret pe_bl)) pss_nil)
  (pss_cons (ps_if (pt_not (pt_val (pe_call (ok_l_read_alike T) (hr.mono (by decide)) (by rfl) T.g_l_read_alike T.F_l_read_alike.kp T.b_l_read_alike .nil pass0 (pa_cons (pv 4) pa_nil)))) (pss_one (ps_ret pe_bl)) pss_nil)
  (pss_cons (ps_if (pt_not (pt_val (pe_call (ok_l_read_alike T) (hr.mono (by decide)) (by rfl) T.g_l_read_alike T.F_l_read_alike.kp T.b_l_read_alike .nil pass0 (pa_cons (pe_call (ok_l_changed T) (hr.mono (by decide)) (by rfl) T.g_l_changed T.F_l_changed.kp T.b_l_changed .nil pass0 (pa_cons (pv 4) (pa_cons (pe_call (ok_l_cell_at T) (hr.mono (by decide)) (by rfl) T.g_l_cell_at T.F_l_cell_at.kp T.b_l_cell_at .nil pass0 (pa_cons (pv 0) (pa_cons pe_int pa_nil))) (pa_cons (pe_call (ok_l_cell_at T) (hr.mono (by decide)) (by rfl) T.g_l_cell_at T.F_l_cell_at.kp T.b_l_cell_at .nil pass0 (pa_cons (pv 0) (pa_cons pe_int pa_nil))) pa_nil)))) pa_nil)))) (pss_one (ps_ret pe_bl)) pss_nil)
  (pss_cons (ps_set (i := 5) sc_law.nd rfl (Or.inl rfl) (pe_lst (pa_cons pe_str (pa_cons pe_str (pa_cons pe_str (pa_cons pe_str (pa_cons pe_str (pa_cons pe_str (pa_cons pe_str (pa_cons pe_str (pa_cons pe_str (pa_cons pe_str (pa_cons pe_str (pa_cons pe_str (pa_cons pe_str (pa_cons pe_str pa_nil))))))))))))))))
  (pss_cons (ps_if (pt_not (pt_val (pe_call (ok_l_refused T) (hr.mono (by decide)) (by rfl) T.g_l_refused T.F_l_refused.kp T.b_l_refused .nil pass0 (pa_cons (pe_ix (r := rIxL K) ix_list (pv 5) (pe_op op_mod (pe_call (ok_l_cell_at T) (hr.mono (by decide)) (by rfl) T.g_l_cell_at T.F_l_cell_at.kp T.b_l_cell_at .nil pass0 (pa_cons (pv 0) (pa_cons pe_int pa_nil))) pe_int) (fun _ _ => rfl)) pa_nil)))) (pss_one (ps_ret pe_bl)) pss_nil)
  (pss_one (ps_ret (pe_call (ok_l_refused T) (hr.mono (by decide)) (by rfl) T.g_l_refused T.F_l_refused.kp T.b_l_refused .nil pass0 (pa_cons (pe_ix (r := rIxL K) ix_list (pe_lst (pa_cons pe_non (pa_cons pe_int (pa_cons (pe_lst (pa_cons pe_str pa_nil)) pa_nil)))) (pe_op op_mod (pe_op op_fdiv (pe_call (ok_l_cell_at T) (hr.mono (by decide)) (by rfl) T.g_l_cell_at T.F_l_cell_at.kp T.b_l_cell_at .nil pass0 (pa_cons (pv 0) (pa_cons pe_int pa_nil))) pe_int) pe_int) (fun _ _ => rfl)) pa_nil)))))))))))), ?_⟩
    have e0 : start N_law [.ref a] = [some (.ref a), none, none, none, none, none] := rfl
    rw [e0]
    have S0 : Script K H a ns := ⟨hS, hlen⟩
    obtain ⟨n, hn⟩ : ∃ n, n = sizeBy ns 11 := ⟨_, rfl⟩
    obtain ⟨ps, hps⟩ : ∃ ps, ps = tiesBy ns n (kindBy ns) := ⟨_, rfl⟩
    have nok := sizeBy_ok ns (b := 11) ⟨by decide, by decide⟩
    rw [← hn] at nok
    obtain ⟨n1, n40⟩ := nok
    have tok : TiesOk n ps := by rw [hps]; exact tiesBy_ok _ _ _
    have nd : ps.Nodup := by rw [hps]; exact tiesBy_nodup _ _ _
    have self : srtP ps = ps := by rw [hps]; exact tiesBy_self _ _ _
    have v : Valid n ps := ⟨n1, n40, tok, nd, self⟩
    have few := v.few
    have tl := text_len v
    have tw := text_words v
    refine q_asg2N (en_call (ea_cons (ev_var rfl) (ea_cons ev_c ea_nil)) (spn_new (R := fun v fs G => ∃ p l, v = .ref p ∧ G p = some (.tup [vn n, .ref l]) ∧ Prs G l ps) fun H1 e => ⟨a, ns, 11, rfl, S0.go e, by decide, by decide, by rw [hps, hn]⟩)) fun v' fs H1 e1 fr r => ?_
    obtain ⟨p, l, rfl, hp, hl⟩ := r
    refine ⟨p, vn n, .ref l, rfl, st_of hp, ?_⟩
    obtain ⟨as, hl1, hpr⟩ := id hl
    refine q_asgN (en_net n1 n40 tok nd (by omega) hpr (ev_var rfl) (el_list (K := K) (ev_var rfl) (sq_of hl1))) fun v' fs H2 e2 fr2 r => ?_
    obtain ⟨x, rfl, net⟩ := r
    have net2 := net.at
    have l2 := hl.go e2
    refine q_asg (v := .str (textS n ps)) (ev_is (ev_shown net2 n1 n40 tok nd (ev_var rfl)) (by rw [self])) fun H3 e3 => ?_
    have net3 := net2.go e3
    have l3 := l2.go e3
    have S3 := ((S0.go e1).go e2).go e3
    refine q_when (b := false) (et_is (et_or (a := false) (b := false) (et_is (et_not (et_B (ev_cb (ea_cons (ev_var rfl) (ea_cons ev_c ea_nil)) (rc_kind (kind_of (.base (.str _)) (by decide +kernel : _ = some true)))))) rfl) fun _ => et_is (et_or (a := false) (b := false) (et_is (et_test (ev_op (ev_var rfl) (ev_call (z := .str (textS n ps)) (ea_cons (ev_var rfl) (ea_cons (ev_var rfl) ea_nil)) (spv_pure fun G g => ⟨n, l, ps, rfl, l3.go g, v, rfl⟩)) (rv_ne rfl))) (by simp)) fun _ => et_is (et_test (evpr_ne (K := K) (b := true) (EvN.imp (en_ties n40 tok nd self (ev_var rfl) net3) fun v fs G e ⟨p, h1, _, h3⟩ => ⟨p, h1, h3⟩) (evpr_var (ev_var rfl) l3) (decide_eq_true rfl))) rfl) rfl) rfl) (fun z => nomatch z) (fun _ H4 e4 => ?_)
    refine q_when (b := false) (et_is (et_not (et_B (b := true) (ev_call (z := .bl true) (ea_cons (ev_var rfl) ea_nil) (spv_pure fun G g => ⟨textS n ps, rfl, by omega, by omega, rfl⟩)))) rfl) (fun z => nomatch z) (fun _ H5 e5 => ?_)
    have S5 := (S3.go e4).go e5
    refine q_when (b := false) (et_is (et_not (et_B (b := true) (fun G1 g1 Q' q' => call_ag (ag_en (R := ChangedV (textS n ps)) (en_call (ea_cons (ev_var rfl) (ea_cons (ev_cell (k := 28) (S5.go g1) (ev_var rfl) ev_c) (ea_cons (ev_cell (k := 29) (S5.go g1) (ev_var rfl) ev_c) ea_nil))) (spn_new fun G g => ⟨textS n ps, _, _, rfl, by omega, rfl⟩)) fun v' fs G2 g2 fr r => ag_nil ?_)))) rfl) (fun z => nomatch z) (fun _ H6 e6 => ?_)
    · obtain ⟨_, y, rfl, yl, yw⟩ := r
      exact ⟨_, ⟨y, rfl, by omega, by omega, rfl⟩, fun G3 g3 => q' G3 (g2.trans g3)⟩
    have S6 := S5.go e6
    refine q_asgL (xs := some14.map V.str) (el_lst (ea_cons ev_c (ea_cons ev_c (ea_cons ev_c (ea_cons ev_c (ea_cons ev_c (ea_cons ev_c (ea_cons ev_c (ea_cons ev_c (ea_cons ev_c (ea_cons ev_c (ea_cons ev_c (ea_cons ev_c (ea_cons ev_c (ea_cons ev_c ea_nil)))))))))))))) (by show 14 ≤ 100000; decide)) fun sl H7 hsl e7 hsl7 => ?_
    have S7 := S6.go e7
    obtain ⟨i, hi⟩ : ∃ i, i = (cellAt ns 2 % (14 : Nat)).toNat := ⟨_, rfl⟩
    have i14 : i < some14.length := by rw [hi]; exact modN_lt _ (by decide)
    obtain ⟨y, hy⟩ : ∃ y, some14[i]? = some y := ⟨_, List.getElem?_eq_getElem i14⟩
    have yo := List.all_eq_true.mp some14_no y (List.mem_of_getElem? hy)
    rw [Bool.and_eq_true, decide_eq_true_iff, Bool.not_eq_true'] at yo
    refine q_when (b := false) (et_is (et_not (et_B (b := true) (ev_call (z := .bl true) (ea_cons (ev_op (z := .str y) (ev_var rfl) (ev_modL 14 (by decide) (ev_cell (k := 2) S7 (ev_var rfl) ev_c)) (rv_ixL (K := K) (sq_of hsl7) (atI_nat (map_get' (by rw [← hi]; exact hy))))) ea_nil) (spv_pure fun G g => ⟨.str y, rfl, noText_of yo.1 yo.2, rfl⟩)))) rfl) (fun z => nomatch z) (fun _ H8 e8 => ?_)
    have S8 := S7.go e8
    have stay : Stay (NoText K) := fun _ _ _ e h => h.go e
    exact s_ret (ev_call1P (P := NoText K) (ep_pick (n := 3) stay (epl_lst stay (eps_cons stay (ep_v ev_c fun G e => .inl (kind_of (.base .non) (by decide +kernel : _ = some false))) (eps_cons stay (ep_v ev_c fun G e => .inl (kind_of (.base (.int _)) (by decide +kernel : _ = some false))) (eps_cons stay (ep_l (xs := [.str "1:"]) (el_lst (ea_cons ev_c ea_nil) (by show 1 ≤ 100000; decide)) fun b G e h => .inl (kind_of (.base (.lst h)) (by decide +kernel : _ = some false))) eps_nil))) (by decide)) (ev_modL 3 (by decide) (ev_op (ev_cell (k := 2) S8 (ev_var rfl) ev_c) ev_c (rv_I ⟨by decide, by decide⟩))) (modN_lt _ (by decide))) fun u G g pu => spv_pure fun G1 e => ⟨u, rfl, pu.go e, rfl⟩) fun G g => q G
end
theorem all_mk {P : Program} {w : World} {K : PySem.W.Frag} {h : Heap} {mg : Str → Option Value} {fa C_NetError C_BadNet C_NoPlace C_BadPairs C_BadWay C_TieThere C_NoTie C_OddRing C_Net C_Search f_is_whole f_is_place f_is_tie f_Net_init f_Net_ties f_need_place f_Net_beside f_part_of f_parts f_shown f_number_of f_tie_of f_read f_pairs_of f_turned_mates f_Search_init f_Search_is_inner f_Search_bases_up f_Search_meet f_Search_mark f_Search_close f_Search_look f_Search_end f_Search_way f_way_for f_met_outer f_grown f_most f_greatest f_fence f_l_sole f_l_cell_at f_l_tied f_l_ties_by f_l_size_by f_l_kind_by f_l_great f_l_net_by f_l_figures f_l_text f_l_number f_l_tie f_l_net_of f_l_refused f_l_read_alike f_l_changed f_law : Addr} (X : K.In h) (G : h.Ns mainGlobals mg) (hfa : mg "law" = some (.ref fa))
    {od_is_whole an_is_whole : Option Addr} {sl_is_whole : Array (Option Value)} {oc_is_whole kV_is_whole dc_is_whole pm_is_whole cd_is_whole ct_is_whole : Value}
    {od_is_place an_is_place : Option Addr} {sl_is_place : Array (Option Value)} {oc_is_place kV_is_place dc_is_place pm_is_place cd_is_place ct_is_place : Value}
    {od_is_tie an_is_tie : Option Addr} {sl_is_tie : Array (Option Value)} {oc_is_tie kV_is_tie dc_is_tie pm_is_tie cd_is_tie ct_is_tie : Value}
    {od_Net_init an_Net_init : Option Addr} {sl_Net_init : Array (Option Value)} {oc_Net_init kV_Net_init dc_Net_init pm_Net_init cd_Net_init ct_Net_init : Value}
    {od_Net_ties an_Net_ties : Option Addr} {sl_Net_ties : Array (Option Value)} {oc_Net_ties kV_Net_ties dc_Net_ties pm_Net_ties cd_Net_ties ct_Net_ties : Value}
    {od_need_place an_need_place : Option Addr} {sl_need_place : Array (Option Value)} {oc_need_place kV_need_place dc_need_place pm_need_place cd_need_place ct_need_place : Value}
    {od_Net_beside an_Net_beside : Option Addr} {sl_Net_beside : Array (Option Value)} {oc_Net_beside kV_Net_beside dc_Net_beside pm_Net_beside cd_Net_beside ct_Net_beside : Value}
    {od_part_of an_part_of : Option Addr} {sl_part_of : Array (Option Value)} {oc_part_of kV_part_of dc_part_of pm_part_of cd_part_of ct_part_of : Value}
    {od_parts an_parts : Option Addr} {sl_parts : Array (Option Value)} {oc_parts kV_parts dc_parts pm_parts cd_parts ct_parts : Value}
    {od_shown an_shown : Option Addr} {sl_shown : Array (Option Value)} {oc_shown kV_shown dc_shown pm_shown cd_shown ct_shown : Value}
    {od_number_of an_number_of : Option Addr} {sl_number_of : Array (Option Value)} {oc_number_of kV_number_of dc_number_of pm_number_of cd_number_of ct_number_of : Value}
    {od_tie_of an_tie_of : Option Addr} {sl_tie_of : Array (Option Value)} {oc_tie_of kV_tie_of dc_tie_of pm_tie_of cd_tie_of ct_tie_of : Value}
    {od_read an_read : Option Addr} {sl_read : Array (Option Value)} {oc_read kV_read dc_read pm_read cd_read ct_read : Value}
    {od_pairs_of an_pairs_of : Option Addr} {sl_pairs_of : Array (Option Value)} {oc_pairs_of kV_pairs_of dc_pairs_of pm_pairs_of cd_pairs_of ct_pairs_of : Value}
    {od_turned_mates an_turned_mates : Option Addr} {sl_turned_mates : Array (Option Value)} {oc_turned_mates kV_turned_mates dc_turned_mates pm_turned_mates cd_turned_mates ct_turned_mates : Value}
    {od_Search_init an_Search_init : Option Addr} {sl_Search_init : Array (Option Value)} {oc_Search_init kV_Search_init dc_Search_init pm_Search_init cd_Search_init ct_Search_init : Value}
    {od_Search_is_inner an_Search_is_inner : Option Addr} {sl_Search_is_inner : Array (Option Value)} {oc_Search_is_inner kV_Search_is_inner dc_Search_is_inner pm_Search_is_inner cd_Search_is_inner ct_Search_is_inner : Value}
    {od_Search_bases_up an_Search_bases_up : Option Addr} {sl_Search_bases_up : Array (Option Value)} {oc_Search_bases_up kV_Search_bases_up dc_Search_bases_up pm_Search_bases_up cd_Search_bases_up ct_Search_bases_up : Value}
    {od_Search_meet an_Search_meet : Option Addr} {sl_Search_meet : Array (Option Value)} {oc_Search_meet kV_Search_meet dc_Search_meet pm_Search_meet cd_Search_meet ct_Search_meet : Value}
    {od_Search_mark an_Search_mark : Option Addr} {sl_Search_mark : Array (Option Value)} {oc_Search_mark kV_Search_mark dc_Search_mark pm_Search_mark cd_Search_mark ct_Search_mark : Value}
    {od_Search_close an_Search_close : Option Addr} {sl_Search_close : Array (Option Value)} {oc_Search_close kV_Search_close dc_Search_close pm_Search_close cd_Search_close ct_Search_close : Value}
    {od_Search_look an_Search_look : Option Addr} {sl_Search_look : Array (Option Value)} {oc_Search_look kV_Search_look dc_Search_look pm_Search_look cd_Search_look ct_Search_look : Value}
    {od_Search_end an_Search_end : Option Addr} {sl_Search_end : Array (Option Value)} {oc_Search_end kV_Search_end dc_Search_end pm_Search_end cd_Search_end ct_Search_end : Value}
    {od_Search_way an_Search_way : Option Addr} {sl_Search_way : Array (Option Value)} {oc_Search_way kV_Search_way dc_Search_way pm_Search_way cd_Search_way ct_Search_way : Value}
    {od_way_for an_way_for : Option Addr} {sl_way_for : Array (Option Value)} {oc_way_for kV_way_for dc_way_for pm_way_for cd_way_for ct_way_for : Value}
    {od_met_outer an_met_outer : Option Addr} {sl_met_outer : Array (Option Value)} {oc_met_outer kV_met_outer dc_met_outer pm_met_outer cd_met_outer ct_met_outer : Value}
    {od_grown an_grown : Option Addr} {sl_grown : Array (Option Value)} {oc_grown kV_grown dc_grown pm_grown cd_grown ct_grown : Value}
    {od_most an_most : Option Addr} {sl_most : Array (Option Value)} {oc_most kV_most dc_most pm_most cd_most ct_most : Value}
    {od_greatest an_greatest : Option Addr} {sl_greatest : Array (Option Value)} {oc_greatest kV_greatest dc_greatest pm_greatest cd_greatest ct_greatest : Value}
    {od_fence an_fence : Option Addr} {sl_fence : Array (Option Value)} {oc_fence kV_fence dc_fence pm_fence cd_fence ct_fence : Value}
    {od_l_sole an_l_sole : Option Addr} {sl_l_sole : Array (Option Value)} {oc_l_sole kV_l_sole dc_l_sole pm_l_sole cd_l_sole ct_l_sole : Value}
    {od_l_cell_at an_l_cell_at : Option Addr} {sl_l_cell_at : Array (Option Value)} {oc_l_cell_at kV_l_cell_at dc_l_cell_at pm_l_cell_at cd_l_cell_at ct_l_cell_at : Value}
    {od_l_tied an_l_tied : Option Addr} {sl_l_tied : Array (Option Value)} {oc_l_tied kV_l_tied dc_l_tied pm_l_tied cd_l_tied ct_l_tied : Value}
    {od_l_ties_by an_l_ties_by : Option Addr} {sl_l_ties_by : Array (Option Value)} {oc_l_ties_by kV_l_ties_by dc_l_ties_by pm_l_ties_by cd_l_ties_by ct_l_ties_by : Value}
    {od_l_size_by an_l_size_by : Option Addr} {sl_l_size_by : Array (Option Value)} {oc_l_size_by kV_l_size_by dc_l_size_by pm_l_size_by cd_l_size_by ct_l_size_by : Value}
    {od_l_kind_by an_l_kind_by : Option Addr} {sl_l_kind_by : Array (Option Value)} {oc_l_kind_by kV_l_kind_by dc_l_kind_by pm_l_kind_by cd_l_kind_by ct_l_kind_by : Value}
    {od_l_great an_l_great : Option Addr} {sl_l_great : Array (Option Value)} {oc_l_great kV_l_great dc_l_great pm_l_great cd_l_great ct_l_great : Value}
    {od_l_net_by an_l_net_by : Option Addr} {sl_l_net_by : Array (Option Value)} {oc_l_net_by kV_l_net_by dc_l_net_by pm_l_net_by cd_l_net_by ct_l_net_by : Value}
    {od_l_figures an_l_figures : Option Addr} {sl_l_figures : Array (Option Value)} {oc_l_figures kV_l_figures dc_l_figures pm_l_figures cd_l_figures ct_l_figures : Value}
    {od_l_text an_l_text : Option Addr} {sl_l_text : Array (Option Value)} {oc_l_text kV_l_text dc_l_text pm_l_text cd_l_text ct_l_text : Value}
    {od_l_number an_l_number : Option Addr} {sl_l_number : Array (Option Value)} {oc_l_number kV_l_number dc_l_number pm_l_number cd_l_number ct_l_number : Value}
    {od_l_tie an_l_tie : Option Addr} {sl_l_tie : Array (Option Value)} {oc_l_tie kV_l_tie dc_l_tie pm_l_tie cd_l_tie ct_l_tie : Value}
    {od_l_net_of an_l_net_of : Option Addr} {sl_l_net_of : Array (Option Value)} {oc_l_net_of kV_l_net_of dc_l_net_of pm_l_net_of cd_l_net_of ct_l_net_of : Value}
    {od_l_refused an_l_refused : Option Addr} {sl_l_refused : Array (Option Value)} {oc_l_refused kV_l_refused dc_l_refused pm_l_refused cd_l_refused ct_l_refused : Value}
    {od_l_read_alike an_l_read_alike : Option Addr} {sl_l_read_alike : Array (Option Value)} {oc_l_read_alike kV_l_read_alike dc_l_read_alike pm_l_read_alike cd_l_read_alike ct_l_read_alike : Value}
    {od_l_changed an_l_changed : Option Addr} {sl_l_changed : Array (Option Value)} {oc_l_changed kV_l_changed dc_l_changed pm_l_changed cd_l_changed ct_l_changed : Value}
    {od_law an_law : Option Addr} {sl_law : Array (Option Value)} {oc_law kV_law dc_law pm_law cd_law ct_law : Value}
    {u_MOST_PLACES : Tok}
    {u_FIGURES : Tok}
    (aC_NetError : PySem.W.nsIn K mainGlobals "NetError" = some (some (.ref C_NetError)))
    (aC_BadNet : PySem.W.nsIn K mainGlobals "BadNet" = some (some (.ref C_BadNet)))
    (aC_NoPlace : PySem.W.nsIn K mainGlobals "NoPlace" = some (some (.ref C_NoPlace)))
    (aC_BadPairs : PySem.W.nsIn K mainGlobals "BadPairs" = some (some (.ref C_BadPairs)))
    (aC_BadWay : PySem.W.nsIn K mainGlobals "BadWay" = some (some (.ref C_BadWay)))
    (aC_TieThere : PySem.W.nsIn K mainGlobals "TieThere" = some (some (.ref C_TieThere)))
    (aC_NoTie : PySem.W.nsIn K mainGlobals "NoTie" = some (some (.ref C_NoTie)))
    (aC_OddRing : PySem.W.nsIn K mainGlobals "OddRing" = some (some (.ref C_OddRing)))
    (aC_Net : PySem.W.nsIn K mainGlobals "Net" = some (some (.ref C_Net)))
    (aC_Search : PySem.W.nsIn K mainGlobals "Search" = some (some (.ref C_Search)))
    (x_NetError : PySem.W.excIn K C_NetError [.type "ValueError", .type "Exception", .type "BaseException", .type "object"] "ValueError.__new__" = true)
    (kp_NetError : PySem.W.keepIn K (.ref C_NetError) = true)
    (sb_NetError : PySem.W.subIn K (.ref C_NetError) (.type "BaseException") = some true)
    (ty_NetError : PySem.W.typeIn K (.ref C_NetError) = some (.type "type"))
    (ic_NetError : PySem.W.isClsIn K C_NetError = true)
    (e1_NetError : PySem.W.findIn K (.ref C_NetError) "__getattribute__" = some (some (.builtin "BaseException.__getattribute__")))
    (e2_NetError : PySem.W.findIn K (.ref C_NetError) "__getattr__" = some none)
    (e4_NetError : PySem.W.hasDictIn K C_NetError = true)
    (e5_NetError : PySem.W.findIn K (.ref C_NetError) "__class__" = some (some (.builtin "object.__class__")))
    (e8_NetError : PySem.W.mroIn K C_NetError (.type "object") = some true)
    (ve_NetError : PySem.W.kitOne K (.ref C_NetError) (.type "ValueError") = some true)
    (ki_NetError_NetError : PySem.W.kitOne K (.ref C_NetError) (.ref C_NetError) = some true)
    (ss_NetError : PySem.W.subIn K (.ref C_NetError) (.ref C_NetError) = some true)
    (x_BadNet : PySem.W.excIn K C_BadNet [.type "ValueError", .type "Exception", .type "BaseException", .type "object"] "ValueError.__new__" = true)
    (kp_BadNet : PySem.W.keepIn K (.ref C_BadNet) = true)
    (sb_BadNet : PySem.W.subIn K (.ref C_BadNet) (.type "BaseException") = some true)
    (ty_BadNet : PySem.W.typeIn K (.ref C_BadNet) = some (.type "type"))
    (ic_BadNet : PySem.W.isClsIn K C_BadNet = true)
    (e1_BadNet : PySem.W.findIn K (.ref C_BadNet) "__getattribute__" = some (some (.builtin "BaseException.__getattribute__")))
    (e2_BadNet : PySem.W.findIn K (.ref C_BadNet) "__getattr__" = some none)
    (e4_BadNet : PySem.W.hasDictIn K C_BadNet = true)
    (e5_BadNet : PySem.W.findIn K (.ref C_BadNet) "__class__" = some (some (.builtin "object.__class__")))
    (e8_BadNet : PySem.W.mroIn K C_BadNet (.type "object") = some true)
    (ve_BadNet : PySem.W.kitOne K (.ref C_BadNet) (.type "ValueError") = some true)
    (ki_BadNet_NetError : PySem.W.kitOne K (.ref C_BadNet) (.ref C_NetError) = some true)
    (ki_BadNet_BadNet : PySem.W.kitOne K (.ref C_BadNet) (.ref C_BadNet) = some true)
    (ki_BadNet_NoPlace : PySem.W.kitOne K (.ref C_BadNet) (.ref C_NoPlace) = some false)
    (ki_BadNet_BadPairs : PySem.W.kitOne K (.ref C_BadNet) (.ref C_BadPairs) = some false)
    (ki_BadNet_BadWay : PySem.W.kitOne K (.ref C_BadNet) (.ref C_BadWay) = some false)
    (ki_BadNet_TieThere : PySem.W.kitOne K (.ref C_BadNet) (.ref C_TieThere) = some false)
    (ki_BadNet_NoTie : PySem.W.kitOne K (.ref C_BadNet) (.ref C_NoTie) = some false)
    (ki_BadNet_OddRing : PySem.W.kitOne K (.ref C_BadNet) (.ref C_OddRing) = some false)
    (ss_BadNet : PySem.W.subIn K (.ref C_BadNet) (.ref C_BadNet) = some true)
    (x_NoPlace : PySem.W.excIn K C_NoPlace [.type "ValueError", .type "Exception", .type "BaseException", .type "object"] "ValueError.__new__" = true)
    (kp_NoPlace : PySem.W.keepIn K (.ref C_NoPlace) = true)
    (sb_NoPlace : PySem.W.subIn K (.ref C_NoPlace) (.type "BaseException") = some true)
    (ty_NoPlace : PySem.W.typeIn K (.ref C_NoPlace) = some (.type "type"))
    (ic_NoPlace : PySem.W.isClsIn K C_NoPlace = true)
    (e1_NoPlace : PySem.W.findIn K (.ref C_NoPlace) "__getattribute__" = some (some (.builtin "BaseException.__getattribute__")))
    (e2_NoPlace : PySem.W.findIn K (.ref C_NoPlace) "__getattr__" = some none)
    (e4_NoPlace : PySem.W.hasDictIn K C_NoPlace = true)
    (e5_NoPlace : PySem.W.findIn K (.ref C_NoPlace) "__class__" = some (some (.builtin "object.__class__")))
    (e8_NoPlace : PySem.W.mroIn K C_NoPlace (.type "object") = some true)
    (ve_NoPlace : PySem.W.kitOne K (.ref C_NoPlace) (.type "ValueError") = some true)
    (ki_NoPlace_NetError : PySem.W.kitOne K (.ref C_NoPlace) (.ref C_NetError) = some true)
    (ki_NoPlace_BadNet : PySem.W.kitOne K (.ref C_NoPlace) (.ref C_BadNet) = some false)
    (ki_NoPlace_NoPlace : PySem.W.kitOne K (.ref C_NoPlace) (.ref C_NoPlace) = some true)
    (ki_NoPlace_BadPairs : PySem.W.kitOne K (.ref C_NoPlace) (.ref C_BadPairs) = some false)
    (ki_NoPlace_BadWay : PySem.W.kitOne K (.ref C_NoPlace) (.ref C_BadWay) = some false)
    (ki_NoPlace_TieThere : PySem.W.kitOne K (.ref C_NoPlace) (.ref C_TieThere) = some false)
    (ki_NoPlace_NoTie : PySem.W.kitOne K (.ref C_NoPlace) (.ref C_NoTie) = some false)
    (ki_NoPlace_OddRing : PySem.W.kitOne K (.ref C_NoPlace) (.ref C_OddRing) = some false)
    (ss_NoPlace : PySem.W.subIn K (.ref C_NoPlace) (.ref C_NoPlace) = some true)
    (x_BadPairs : PySem.W.excIn K C_BadPairs [.type "ValueError", .type "Exception", .type "BaseException", .type "object"] "ValueError.__new__" = true)
    (kp_BadPairs : PySem.W.keepIn K (.ref C_BadPairs) = true)
    (sb_BadPairs : PySem.W.subIn K (.ref C_BadPairs) (.type "BaseException") = some true)
    (ty_BadPairs : PySem.W.typeIn K (.ref C_BadPairs) = some (.type "type"))
    (ic_BadPairs : PySem.W.isClsIn K C_BadPairs = true)
    (e1_BadPairs : PySem.W.findIn K (.ref C_BadPairs) "__getattribute__" = some (some (.builtin "BaseException.__getattribute__")))
    (e2_BadPairs : PySem.W.findIn K (.ref C_BadPairs) "__getattr__" = some none)
    (e4_BadPairs : PySem.W.hasDictIn K C_BadPairs = true)
    (e5_BadPairs : PySem.W.findIn K (.ref C_BadPairs) "__class__" = some (some (.builtin "object.__class__")))
    (e8_BadPairs : PySem.W.mroIn K C_BadPairs (.type "object") = some true)
    (ve_BadPairs : PySem.W.kitOne K (.ref C_BadPairs) (.type "ValueError") = some true)
    (ki_BadPairs_NetError : PySem.W.kitOne K (.ref C_BadPairs) (.ref C_NetError) = some true)
    (ki_BadPairs_BadNet : PySem.W.kitOne K (.ref C_BadPairs) (.ref C_BadNet) = some false)
    (ki_BadPairs_NoPlace : PySem.W.kitOne K (.ref C_BadPairs) (.ref C_NoPlace) = some false)
    (ki_BadPairs_BadPairs : PySem.W.kitOne K (.ref C_BadPairs) (.ref C_BadPairs) = some true)
    (ki_BadPairs_BadWay : PySem.W.kitOne K (.ref C_BadPairs) (.ref C_BadWay) = some false)
    (ki_BadPairs_TieThere : PySem.W.kitOne K (.ref C_BadPairs) (.ref C_TieThere) = some false)
    (ki_BadPairs_NoTie : PySem.W.kitOne K (.ref C_BadPairs) (.ref C_NoTie) = some false)
    (ki_BadPairs_OddRing : PySem.W.kitOne K (.ref C_BadPairs) (.ref C_OddRing) = some false)
    (ss_BadPairs : PySem.W.subIn K (.ref C_BadPairs) (.ref C_BadPairs) = some true)
    (x_BadWay : PySem.W.excIn K C_BadWay [.type "ValueError", .type "Exception", .type "BaseException", .type "object"] "ValueError.__new__" = true)
    (kp_BadWay : PySem.W.keepIn K (.ref C_BadWay) = true)
    (sb_BadWay : PySem.W.subIn K (.ref C_BadWay) (.type "BaseException") = some true)
    (ty_BadWay : PySem.W.typeIn K (.ref C_BadWay) = some (.type "type"))
    (ic_BadWay : PySem.W.isClsIn K C_BadWay = true)
    (e1_BadWay : PySem.W.findIn K (.ref C_BadWay) "__getattribute__" = some (some (.builtin "BaseException.__getattribute__")))
    (e2_BadWay : PySem.W.findIn K (.ref C_BadWay) "__getattr__" = some none)
    (e4_BadWay : PySem.W.hasDictIn K C_BadWay = true)
    (e5_BadWay : PySem.W.findIn K (.ref C_BadWay) "__class__" = some (some (.builtin "object.__class__")))
    (e8_BadWay : PySem.W.mroIn K C_BadWay (.type "object") = some true)
    (ve_BadWay : PySem.W.kitOne K (.ref C_BadWay) (.type "ValueError") = some true)
    (ki_BadWay_NetError : PySem.W.kitOne K (.ref C_BadWay) (.ref C_NetError) = some true)
    (ki_BadWay_BadNet : PySem.W.kitOne K (.ref C_BadWay) (.ref C_BadNet) = some false)
    (ki_BadWay_NoPlace : PySem.W.kitOne K (.ref C_BadWay) (.ref C_NoPlace) = some false)
    (ki_BadWay_BadPairs : PySem.W.kitOne K (.ref C_BadWay) (.ref C_BadPairs) = some false)
    (ki_BadWay_BadWay : PySem.W.kitOne K (.ref C_BadWay) (.ref C_BadWay) = some true)
    (ki_BadWay_TieThere : PySem.W.kitOne K (.ref C_BadWay) (.ref C_TieThere) = some false)
    (ki_BadWay_NoTie : PySem.W.kitOne K (.ref C_BadWay) (.ref C_NoTie) = some false)
    (ki_BadWay_OddRing : PySem.W.kitOne K (.ref C_BadWay) (.ref C_OddRing) = some false)
    (ss_BadWay : PySem.W.subIn K (.ref C_BadWay) (.ref C_BadWay) = some true)
    (x_TieThere : PySem.W.excIn K C_TieThere [.type "ValueError", .type "Exception", .type "BaseException", .type "object"] "ValueError.__new__" = true)
    (kp_TieThere : PySem.W.keepIn K (.ref C_TieThere) = true)
    (sb_TieThere : PySem.W.subIn K (.ref C_TieThere) (.type "BaseException") = some true)
    (ty_TieThere : PySem.W.typeIn K (.ref C_TieThere) = some (.type "type"))
    (ic_TieThere : PySem.W.isClsIn K C_TieThere = true)
    (e1_TieThere : PySem.W.findIn K (.ref C_TieThere) "__getattribute__" = some (some (.builtin "BaseException.__getattribute__")))
    (e2_TieThere : PySem.W.findIn K (.ref C_TieThere) "__getattr__" = some none)
    (e4_TieThere : PySem.W.hasDictIn K C_TieThere = true)
    (e5_TieThere : PySem.W.findIn K (.ref C_TieThere) "__class__" = some (some (.builtin "object.__class__")))
    (e8_TieThere : PySem.W.mroIn K C_TieThere (.type "object") = some true)
    (ve_TieThere : PySem.W.kitOne K (.ref C_TieThere) (.type "ValueError") = some true)
    (ki_TieThere_NetError : PySem.W.kitOne K (.ref C_TieThere) (.ref C_NetError) = some true)
    (ki_TieThere_BadNet : PySem.W.kitOne K (.ref C_TieThere) (.ref C_BadNet) = some false)
    (ki_TieThere_NoPlace : PySem.W.kitOne K (.ref C_TieThere) (.ref C_NoPlace) = some false)
    (ki_TieThere_BadPairs : PySem.W.kitOne K (.ref C_TieThere) (.ref C_BadPairs) = some false)
    (ki_TieThere_BadWay : PySem.W.kitOne K (.ref C_TieThere) (.ref C_BadWay) = some false)
    (ki_TieThere_TieThere : PySem.W.kitOne K (.ref C_TieThere) (.ref C_TieThere) = some true)
    (ki_TieThere_NoTie : PySem.W.kitOne K (.ref C_TieThere) (.ref C_NoTie) = some false)
    (ki_TieThere_OddRing : PySem.W.kitOne K (.ref C_TieThere) (.ref C_OddRing) = some false)
    (ss_TieThere : PySem.W.subIn K (.ref C_TieThere) (.ref C_TieThere) = some true)
    (x_NoTie : PySem.W.excIn K C_NoTie [.type "ValueError", .type "Exception", .type "BaseException", .type "object"] "ValueError.__new__" = true)
    (kp_NoTie : PySem.W.keepIn K (.ref C_NoTie) = true)
    (sb_NoTie : PySem.W.subIn K (.ref C_NoTie) (.type "BaseException") = some true)
    (ty_NoTie : PySem.W.typeIn K (.ref C_NoTie) = some (.type "type"))
    (ic_NoTie : PySem.W.isClsIn K C_NoTie = true)
    (e1_NoTie : PySem.W.findIn K (.ref C_NoTie) "__getattribute__" = some (some (.builtin "BaseException.__getattribute__")))
    (e2_NoTie : PySem.W.findIn K (.ref C_NoTie) "__getattr__" = some none)
    (e4_NoTie : PySem.W.hasDictIn K C_NoTie = true)
    (e5_NoTie : PySem.W.findIn K (.ref C_NoTie) "__class__" = some (some (.builtin "object.__class__")))
    (e8_NoTie : PySem.W.mroIn K C_NoTie (.type "object") = some true)
    (ve_NoTie : PySem.W.kitOne K (.ref C_NoTie) (.type "ValueError") = some true)
    (ki_NoTie_NetError : PySem.W.kitOne K (.ref C_NoTie) (.ref C_NetError) = some true)
    (ki_NoTie_BadNet : PySem.W.kitOne K (.ref C_NoTie) (.ref C_BadNet) = some false)
    (ki_NoTie_NoPlace : PySem.W.kitOne K (.ref C_NoTie) (.ref C_NoPlace) = some false)
    (ki_NoTie_BadPairs : PySem.W.kitOne K (.ref C_NoTie) (.ref C_BadPairs) = some false)
    (ki_NoTie_BadWay : PySem.W.kitOne K (.ref C_NoTie) (.ref C_BadWay) = some false)
    (ki_NoTie_TieThere : PySem.W.kitOne K (.ref C_NoTie) (.ref C_TieThere) = some false)
    (ki_NoTie_NoTie : PySem.W.kitOne K (.ref C_NoTie) (.ref C_NoTie) = some true)
    (ki_NoTie_OddRing : PySem.W.kitOne K (.ref C_NoTie) (.ref C_OddRing) = some false)
    (ss_NoTie : PySem.W.subIn K (.ref C_NoTie) (.ref C_NoTie) = some true)
    (x_OddRing : PySem.W.excIn K C_OddRing [.type "ValueError", .type "Exception", .type "BaseException", .type "object"] "ValueError.__new__" = true)
    (kp_OddRing : PySem.W.keepIn K (.ref C_OddRing) = true)
    (sb_OddRing : PySem.W.subIn K (.ref C_OddRing) (.type "BaseException") = some true)
    (ty_OddRing : PySem.W.typeIn K (.ref C_OddRing) = some (.type "type"))
    (ic_OddRing : PySem.W.isClsIn K C_OddRing = true)
    (e1_OddRing : PySem.W.findIn K (.ref C_OddRing) "__getattribute__" = some (some (.builtin "BaseException.__getattribute__")))
    (e2_OddRing : PySem.W.findIn K (.ref C_OddRing) "__getattr__" = some none)
    (e4_OddRing : PySem.W.hasDictIn K C_OddRing = true)
    (e5_OddRing : PySem.W.findIn K (.ref C_OddRing) "__class__" = some (some (.builtin "object.__class__")))
    (e8_OddRing : PySem.W.mroIn K C_OddRing (.type "object") = some true)
    (ve_OddRing : PySem.W.kitOne K (.ref C_OddRing) (.type "ValueError") = some true)
    (ki_OddRing_NetError : PySem.W.kitOne K (.ref C_OddRing) (.ref C_NetError) = some true)
    (ki_OddRing_BadNet : PySem.W.kitOne K (.ref C_OddRing) (.ref C_BadNet) = some false)
    (ki_OddRing_NoPlace : PySem.W.kitOne K (.ref C_OddRing) (.ref C_NoPlace) = some false)
    (ki_OddRing_BadPairs : PySem.W.kitOne K (.ref C_OddRing) (.ref C_BadPairs) = some false)
    (ki_OddRing_BadWay : PySem.W.kitOne K (.ref C_OddRing) (.ref C_BadWay) = some false)
    (ki_OddRing_TieThere : PySem.W.kitOne K (.ref C_OddRing) (.ref C_TieThere) = some false)
    (ki_OddRing_NoTie : PySem.W.kitOne K (.ref C_OddRing) (.ref C_NoTie) = some false)
    (ki_OddRing_OddRing : PySem.W.kitOne K (.ref C_OddRing) (.ref C_OddRing) = some true)
    (ss_OddRing : PySem.W.subIn K (.ref C_OddRing) (.ref C_OddRing) = some true)
    (e6 : PySem.W.specialIn K (.builtin "object.__class__") "__get__" = some (some (.builtin "getset_descriptor.__get__")))
    (e7 : PySem.W.takesIn K (.builtin "object.__class__") = some true)
    (pg_Net : PySem.W.plainGet K C_Net Str.empty = true)
    (hd_Net : PySem.W.hasDictIn K C_Net = true)
    (po_Net : PySem.W.plainOver K C_Net = true)
    (sa_Net : PySem.W.findIn K (.ref C_Net) "__setattr__" = some (some (.builtin "object.__setattr__")))
    (mk_Net : PySem.W.makesIn K C_Net = true)
    (kc_Net : PySem.W.keepIn K (.ref C_Net) = true)
    (na_Net_size : PySem.W.findIn K (.ref C_Net) "size" = some none)
    (na_Net_near : PySem.W.findIn K (.ref C_Net) "near" = some none)
    (oc_Net : PySem.W.findIn K (.ref C_Net) "__class__" = some (some (.builtin "object.__class__")))
    (om_Net : PySem.W.mroIn K C_Net (.type "object") = some true)
    (pg_Search : PySem.W.plainGet K C_Search Str.empty = true)
    (hd_Search : PySem.W.hasDictIn K C_Search = true)
    (po_Search : PySem.W.plainOver K C_Search = true)
    (sa_Search : PySem.W.findIn K (.ref C_Search) "__setattr__" = some (some (.builtin "object.__setattr__")))
    (mk_Search : PySem.W.makesIn K C_Search = true)
    (kc_Search : PySem.W.keepIn K (.ref C_Search) = true)
    (na_Search_web : PySem.W.findIn K (.ref C_Search) "web" = some none)
    (na_Search_mates : PySem.W.findIn K (.ref C_Search) "mates" = some none)
    (na_Search_root : PySem.W.findIn K (.ref C_Search) "root" = some none)
    (na_Search_base : PySem.W.findIn K (.ref C_Search) "base" = some none)
    (na_Search_above : PySem.W.findIn K (.ref C_Search) "above" = some none)
    (na_Search_outer : PySem.W.findIn K (.ref C_Search) "outer" = some none)
    (a_is_whole : PySem.W.nsIn K mainGlobals "is_whole" = some (some (.ref f_is_whole)))
    (l_is_whole : K.lookup f_is_whole = some ⟨oc_is_whole, od_is_whole, .func (PySem.W.fnOf "is_whole" "is_whole" (defArgs s_is_whole) (defBody s_is_whole) (defScope s_is_whole) .none kV_is_whole dc_is_whole pm_is_whole an_is_whole cd_is_whole ct_is_whole), sl_is_whole⟩)
    (c_is_whole : PySem.W.codeIn K cd_is_whole "is_whole" = true)
    (k_is_whole : PySem.W.keepIn K (.ref f_is_whole) = true)
    (a_is_place : PySem.W.nsIn K mainGlobals "is_place" = some (some (.ref f_is_place)))
    (l_is_place : K.lookup f_is_place = some ⟨oc_is_place, od_is_place, .func (PySem.W.fnOf "is_place" "is_place" (defArgs s_is_place) (defBody s_is_place) (defScope s_is_place) .none kV_is_place dc_is_place pm_is_place an_is_place cd_is_place ct_is_place), sl_is_place⟩)
    (c_is_place : PySem.W.codeIn K cd_is_place "is_place" = true)
    (k_is_place : PySem.W.keepIn K (.ref f_is_place) = true)
    (a_is_tie : PySem.W.nsIn K mainGlobals "is_tie" = some (some (.ref f_is_tie)))
    (l_is_tie : K.lookup f_is_tie = some ⟨oc_is_tie, od_is_tie, .func (PySem.W.fnOf "is_tie" "is_tie" (defArgs s_is_tie) (defBody s_is_tie) (defScope s_is_tie) .none kV_is_tie dc_is_tie pm_is_tie an_is_tie cd_is_tie ct_is_tie), sl_is_tie⟩)
    (c_is_tie : PySem.W.codeIn K cd_is_tie "is_tie" = true)
    (k_is_tie : PySem.W.keepIn K (.ref f_is_tie) = true)
    (a_Net_init : PySem.W.findIn K (.ref C_Net) "__init__" = some (some (.ref f_Net_init)))
    (i_Net_init : PySem.W.isFn K (.ref f_Net_init) = true)
    (l_Net_init : K.lookup f_Net_init = some ⟨oc_Net_init, od_Net_init, .func (PySem.W.fnOf "__init__" "Net.__init__" (defArgs s_Net_init) (defBody s_Net_init) (defScope s_Net_init) .none kV_Net_init dc_Net_init pm_Net_init an_Net_init cd_Net_init ct_Net_init), sl_Net_init⟩)
    (c_Net_init : PySem.W.codeIn K cd_Net_init "Net.__init__" = true)
    (k_Net_init : PySem.W.keepIn K (.ref f_Net_init) = true)
    (a_Net_ties : PySem.W.findIn K (.ref C_Net) "ties" = some (some (.ref f_Net_ties)))
    (i_Net_ties : PySem.W.isFn K (.ref f_Net_ties) = true)
    (l_Net_ties : K.lookup f_Net_ties = some ⟨oc_Net_ties, od_Net_ties, .func (PySem.W.fnOf "ties" "Net.ties" (defArgs s_Net_ties) (defBody s_Net_ties) (defScope s_Net_ties) .none kV_Net_ties dc_Net_ties pm_Net_ties an_Net_ties cd_Net_ties ct_Net_ties), sl_Net_ties⟩)
    (c_Net_ties : PySem.W.codeIn K cd_Net_ties "Net.ties" = true)
    (k_Net_ties : PySem.W.keepIn K (.ref f_Net_ties) = true)
    (a_need_place : PySem.W.nsIn K mainGlobals "need_place" = some (some (.ref f_need_place)))
    (l_need_place : K.lookup f_need_place = some ⟨oc_need_place, od_need_place, .func (PySem.W.fnOf "need_place" "need_place" (defArgs s_need_place) (defBody s_need_place) (defScope s_need_place) .none kV_need_place dc_need_place pm_need_place an_need_place cd_need_place ct_need_place), sl_need_place⟩)
    (c_need_place : PySem.W.codeIn K cd_need_place "need_place" = true)
    (k_need_place : PySem.W.keepIn K (.ref f_need_place) = true)
    (a_Net_beside : PySem.W.findIn K (.ref C_Net) "beside" = some (some (.ref f_Net_beside)))
    (i_Net_beside : PySem.W.isFn K (.ref f_Net_beside) = true)
    (l_Net_beside : K.lookup f_Net_beside = some ⟨oc_Net_beside, od_Net_beside, .func (PySem.W.fnOf "beside" "Net.beside" (defArgs s_Net_beside) (defBody s_Net_beside) (defScope s_Net_beside) .none kV_Net_beside dc_Net_beside pm_Net_beside an_Net_beside cd_Net_beside ct_Net_beside), sl_Net_beside⟩)
    (c_Net_beside : PySem.W.codeIn K cd_Net_beside "Net.beside" = true)
    (k_Net_beside : PySem.W.keepIn K (.ref f_Net_beside) = true)
    (a_part_of : PySem.W.nsIn K mainGlobals "part_of" = some (some (.ref f_part_of)))
    (l_part_of : K.lookup f_part_of = some ⟨oc_part_of, od_part_of, .func (PySem.W.fnOf "part_of" "part_of" (defArgs s_part_of) (defBody s_part_of) (defScope s_part_of) .none kV_part_of dc_part_of pm_part_of an_part_of cd_part_of ct_part_of), sl_part_of⟩)
    (c_part_of : PySem.W.codeIn K cd_part_of "part_of" = true)
    (k_part_of : PySem.W.keepIn K (.ref f_part_of) = true)
    (a_parts : PySem.W.nsIn K mainGlobals "parts" = some (some (.ref f_parts)))
    (l_parts : K.lookup f_parts = some ⟨oc_parts, od_parts, .func (PySem.W.fnOf "parts" "parts" (defArgs s_parts) (defBody s_parts) (defScope s_parts) .none kV_parts dc_parts pm_parts an_parts cd_parts ct_parts), sl_parts⟩)
    (c_parts : PySem.W.codeIn K cd_parts "parts" = true)
    (k_parts : PySem.W.keepIn K (.ref f_parts) = true)
    (a_shown : PySem.W.nsIn K mainGlobals "shown" = some (some (.ref f_shown)))
    (l_shown : K.lookup f_shown = some ⟨oc_shown, od_shown, .func (PySem.W.fnOf "shown" "shown" (defArgs s_shown) (defBody s_shown) (defScope s_shown) .none kV_shown dc_shown pm_shown an_shown cd_shown ct_shown), sl_shown⟩)
    (c_shown : PySem.W.codeIn K cd_shown "shown" = true)
    (k_shown : PySem.W.keepIn K (.ref f_shown) = true)
    (a_number_of : PySem.W.nsIn K mainGlobals "number_of" = some (some (.ref f_number_of)))
    (l_number_of : K.lookup f_number_of = some ⟨oc_number_of, od_number_of, .func (PySem.W.fnOf "number_of" "number_of" (defArgs s_number_of) (defBody s_number_of) (defScope s_number_of) .none kV_number_of dc_number_of pm_number_of an_number_of cd_number_of ct_number_of), sl_number_of⟩)
    (c_number_of : PySem.W.codeIn K cd_number_of "number_of" = true)
    (k_number_of : PySem.W.keepIn K (.ref f_number_of) = true)
    (a_tie_of : PySem.W.nsIn K mainGlobals "tie_of" = some (some (.ref f_tie_of)))
    (l_tie_of : K.lookup f_tie_of = some ⟨oc_tie_of, od_tie_of, .func (PySem.W.fnOf "tie_of" "tie_of" (defArgs s_tie_of) (defBody s_tie_of) (defScope s_tie_of) .none kV_tie_of dc_tie_of pm_tie_of an_tie_of cd_tie_of ct_tie_of), sl_tie_of⟩)
    (c_tie_of : PySem.W.codeIn K cd_tie_of "tie_of" = true)
    (k_tie_of : PySem.W.keepIn K (.ref f_tie_of) = true)
    (a_read : PySem.W.nsIn K mainGlobals "read" = some (some (.ref f_read)))
    (l_read : K.lookup f_read = some ⟨oc_read, od_read, .func (PySem.W.fnOf "read" "read" (defArgs s_read) (defBody s_read) (defScope s_read) .none kV_read dc_read pm_read an_read cd_read ct_read), sl_read⟩)
    (c_read : PySem.W.codeIn K cd_read "read" = true)
    (k_read : PySem.W.keepIn K (.ref f_read) = true)
    (a_pairs_of : PySem.W.nsIn K mainGlobals "pairs_of" = some (some (.ref f_pairs_of)))
    (l_pairs_of : K.lookup f_pairs_of = some ⟨oc_pairs_of, od_pairs_of, .func (PySem.W.fnOf "pairs_of" "pairs_of" (defArgs s_pairs_of) (defBody s_pairs_of) (defScope s_pairs_of) .none kV_pairs_of dc_pairs_of pm_pairs_of an_pairs_of cd_pairs_of ct_pairs_of), sl_pairs_of⟩)
    (c_pairs_of : PySem.W.codeIn K cd_pairs_of "pairs_of" = true)
    (k_pairs_of : PySem.W.keepIn K (.ref f_pairs_of) = true)
    (a_turned_mates : PySem.W.nsIn K mainGlobals "turned_mates" = some (some (.ref f_turned_mates)))
    (l_turned_mates : K.lookup f_turned_mates = some ⟨oc_turned_mates, od_turned_mates, .func (PySem.W.fnOf "turned_mates" "turned_mates" (defArgs s_turned_mates) (defBody s_turned_mates) (defScope s_turned_mates) .none kV_turned_mates dc_turned_mates pm_turned_mates an_turned_mates cd_turned_mates ct_turned_mates), sl_turned_mates⟩)
    (c_turned_mates : PySem.W.codeIn K cd_turned_mates "turned_mates" = true)
    (k_turned_mates : PySem.W.keepIn K (.ref f_turned_mates) = true)
    (a_Search_init : PySem.W.findIn K (.ref C_Search) "__init__" = some (some (.ref f_Search_init)))
    (i_Search_init : PySem.W.isFn K (.ref f_Search_init) = true)
    (l_Search_init : K.lookup f_Search_init = some ⟨oc_Search_init, od_Search_init, .func (PySem.W.fnOf "__init__" "Search.__init__" (defArgs s_Search_init) (defBody s_Search_init) (defScope s_Search_init) .none kV_Search_init dc_Search_init pm_Search_init an_Search_init cd_Search_init ct_Search_init), sl_Search_init⟩)
    (c_Search_init : PySem.W.codeIn K cd_Search_init "Search.__init__" = true)
    (k_Search_init : PySem.W.keepIn K (.ref f_Search_init) = true)
    (a_Search_is_inner : PySem.W.findIn K (.ref C_Search) "is_inner" = some (some (.ref f_Search_is_inner)))
    (i_Search_is_inner : PySem.W.isFn K (.ref f_Search_is_inner) = true)
    (l_Search_is_inner : K.lookup f_Search_is_inner = some ⟨oc_Search_is_inner, od_Search_is_inner, .func (PySem.W.fnOf "is_inner" "Search.is_inner" (defArgs s_Search_is_inner) (defBody s_Search_is_inner) (defScope s_Search_is_inner) .none kV_Search_is_inner dc_Search_is_inner pm_Search_is_inner an_Search_is_inner cd_Search_is_inner ct_Search_is_inner), sl_Search_is_inner⟩)
    (c_Search_is_inner : PySem.W.codeIn K cd_Search_is_inner "Search.is_inner" = true)
    (k_Search_is_inner : PySem.W.keepIn K (.ref f_Search_is_inner) = true)
    (a_Search_bases_up : PySem.W.findIn K (.ref C_Search) "bases_up" = some (some (.ref f_Search_bases_up)))
    (i_Search_bases_up : PySem.W.isFn K (.ref f_Search_bases_up) = true)
    (l_Search_bases_up : K.lookup f_Search_bases_up = some ⟨oc_Search_bases_up, od_Search_bases_up, .func (PySem.W.fnOf "bases_up" "Search.bases_up" (defArgs s_Search_bases_up) (defBody s_Search_bases_up) (defScope s_Search_bases_up) .none kV_Search_bases_up dc_Search_bases_up pm_Search_bases_up an_Search_bases_up cd_Search_bases_up ct_Search_bases_up), sl_Search_bases_up⟩)
    (c_Search_bases_up : PySem.W.codeIn K cd_Search_bases_up "Search.bases_up" = true)
    (k_Search_bases_up : PySem.W.keepIn K (.ref f_Search_bases_up) = true)
    (a_Search_meet : PySem.W.findIn K (.ref C_Search) "meet" = some (some (.ref f_Search_meet)))
    (i_Search_meet : PySem.W.isFn K (.ref f_Search_meet) = true)
    (l_Search_meet : K.lookup f_Search_meet = some ⟨oc_Search_meet, od_Search_meet, .func (PySem.W.fnOf "meet" "Search.meet" (defArgs s_Search_meet) (defBody s_Search_meet) (defScope s_Search_meet) .none kV_Search_meet dc_Search_meet pm_Search_meet an_Search_meet cd_Search_meet ct_Search_meet), sl_Search_meet⟩)
    (c_Search_meet : PySem.W.codeIn K cd_Search_meet "Search.meet" = true)
    (k_Search_meet : PySem.W.keepIn K (.ref f_Search_meet) = true)
    (a_Search_mark : PySem.W.findIn K (.ref C_Search) "mark" = some (some (.ref f_Search_mark)))
    (i_Search_mark : PySem.W.isFn K (.ref f_Search_mark) = true)
    (l_Search_mark : K.lookup f_Search_mark = some ⟨oc_Search_mark, od_Search_mark, .func (PySem.W.fnOf "mark" "Search.mark" (defArgs s_Search_mark) (defBody s_Search_mark) (defScope s_Search_mark) .none kV_Search_mark dc_Search_mark pm_Search_mark an_Search_mark cd_Search_mark ct_Search_mark), sl_Search_mark⟩)
    (c_Search_mark : PySem.W.codeIn K cd_Search_mark "Search.mark" = true)
    (k_Search_mark : PySem.W.keepIn K (.ref f_Search_mark) = true)
    (a_Search_close : PySem.W.findIn K (.ref C_Search) "close" = some (some (.ref f_Search_close)))
    (i_Search_close : PySem.W.isFn K (.ref f_Search_close) = true)
    (l_Search_close : K.lookup f_Search_close = some ⟨oc_Search_close, od_Search_close, .func (PySem.W.fnOf "close" "Search.close" (defArgs s_Search_close) (defBody s_Search_close) (defScope s_Search_close) .none kV_Search_close dc_Search_close pm_Search_close an_Search_close cd_Search_close ct_Search_close), sl_Search_close⟩)
    (c_Search_close : PySem.W.codeIn K cd_Search_close "Search.close" = true)
    (k_Search_close : PySem.W.keepIn K (.ref f_Search_close) = true)
    (a_Search_look : PySem.W.findIn K (.ref C_Search) "look" = some (some (.ref f_Search_look)))
    (i_Search_look : PySem.W.isFn K (.ref f_Search_look) = true)
    (l_Search_look : K.lookup f_Search_look = some ⟨oc_Search_look, od_Search_look, .func (PySem.W.fnOf "look" "Search.look" (defArgs s_Search_look) (defBody s_Search_look) (defScope s_Search_look) .none kV_Search_look dc_Search_look pm_Search_look an_Search_look cd_Search_look ct_Search_look), sl_Search_look⟩)
    (c_Search_look : PySem.W.codeIn K cd_Search_look "Search.look" = true)
    (k_Search_look : PySem.W.keepIn K (.ref f_Search_look) = true)
    (a_Search_end : PySem.W.findIn K (.ref C_Search) "end" = some (some (.ref f_Search_end)))
    (i_Search_end : PySem.W.isFn K (.ref f_Search_end) = true)
    (l_Search_end : K.lookup f_Search_end = some ⟨oc_Search_end, od_Search_end, .func (PySem.W.fnOf "end" "Search.end" (defArgs s_Search_end) (defBody s_Search_end) (defScope s_Search_end) .none kV_Search_end dc_Search_end pm_Search_end an_Search_end cd_Search_end ct_Search_end), sl_Search_end⟩)
    (c_Search_end : PySem.W.codeIn K cd_Search_end "Search.end" = true)
    (k_Search_end : PySem.W.keepIn K (.ref f_Search_end) = true)
    (a_Search_way : PySem.W.findIn K (.ref C_Search) "way" = some (some (.ref f_Search_way)))
    (i_Search_way : PySem.W.isFn K (.ref f_Search_way) = true)
    (l_Search_way : K.lookup f_Search_way = some ⟨oc_Search_way, od_Search_way, .func (PySem.W.fnOf "way" "Search.way" (defArgs s_Search_way) (defBody s_Search_way) (defScope s_Search_way) .none kV_Search_way dc_Search_way pm_Search_way an_Search_way cd_Search_way ct_Search_way), sl_Search_way⟩)
    (c_Search_way : PySem.W.codeIn K cd_Search_way "Search.way" = true)
    (k_Search_way : PySem.W.keepIn K (.ref f_Search_way) = true)
    (a_way_for : PySem.W.nsIn K mainGlobals "way_for" = some (some (.ref f_way_for)))
    (l_way_for : K.lookup f_way_for = some ⟨oc_way_for, od_way_for, .func (PySem.W.fnOf "way_for" "way_for" (defArgs s_way_for) (defBody s_way_for) (defScope s_way_for) .none kV_way_for dc_way_for pm_way_for an_way_for cd_way_for ct_way_for), sl_way_for⟩)
    (c_way_for : PySem.W.codeIn K cd_way_for "way_for" = true)
    (k_way_for : PySem.W.keepIn K (.ref f_way_for) = true)
    (a_met_outer : PySem.W.nsIn K mainGlobals "met_outer" = some (some (.ref f_met_outer)))
    (l_met_outer : K.lookup f_met_outer = some ⟨oc_met_outer, od_met_outer, .func (PySem.W.fnOf "met_outer" "met_outer" (defArgs s_met_outer) (defBody s_met_outer) (defScope s_met_outer) .none kV_met_outer dc_met_outer pm_met_outer an_met_outer cd_met_outer ct_met_outer), sl_met_outer⟩)
    (c_met_outer : PySem.W.codeIn K cd_met_outer "met_outer" = true)
    (k_met_outer : PySem.W.keepIn K (.ref f_met_outer) = true)
    (a_grown : PySem.W.nsIn K mainGlobals "grown" = some (some (.ref f_grown)))
    (l_grown : K.lookup f_grown = some ⟨oc_grown, od_grown, .func (PySem.W.fnOf "grown" "grown" (defArgs s_grown) (defBody s_grown) (defScope s_grown) .none kV_grown dc_grown pm_grown an_grown cd_grown ct_grown), sl_grown⟩)
    (c_grown : PySem.W.codeIn K cd_grown "grown" = true)
    (k_grown : PySem.W.keepIn K (.ref f_grown) = true)
    (a_most : PySem.W.nsIn K mainGlobals "most" = some (some (.ref f_most)))
    (l_most : K.lookup f_most = some ⟨oc_most, od_most, .func (PySem.W.fnOf "most" "most" (defArgs s_most) (defBody s_most) (defScope s_most) .none kV_most dc_most pm_most an_most cd_most ct_most), sl_most⟩)
    (c_most : PySem.W.codeIn K cd_most "most" = true)
    (k_most : PySem.W.keepIn K (.ref f_most) = true)
    (a_greatest : PySem.W.nsIn K mainGlobals "greatest" = some (some (.ref f_greatest)))
    (l_greatest : K.lookup f_greatest = some ⟨oc_greatest, od_greatest, .func (PySem.W.fnOf "greatest" "greatest" (defArgs s_greatest) (defBody s_greatest) (defScope s_greatest) .none kV_greatest dc_greatest pm_greatest an_greatest cd_greatest ct_greatest), sl_greatest⟩)
    (c_greatest : PySem.W.codeIn K cd_greatest "greatest" = true)
    (k_greatest : PySem.W.keepIn K (.ref f_greatest) = true)
    (a_fence : PySem.W.nsIn K mainGlobals "fence" = some (some (.ref f_fence)))
    (l_fence : K.lookup f_fence = some ⟨oc_fence, od_fence, .func (PySem.W.fnOf "fence" "fence" (defArgs s_fence) (defBody s_fence) (defScope s_fence) .none kV_fence dc_fence pm_fence an_fence cd_fence ct_fence), sl_fence⟩)
    (c_fence : PySem.W.codeIn K cd_fence "fence" = true)
    (k_fence : PySem.W.keepIn K (.ref f_fence) = true)
    (a_l_sole : PySem.W.nsIn K mainGlobals "_law_sole" = some (some (.ref f_l_sole)))
    (l_l_sole : K.lookup f_l_sole = some ⟨oc_l_sole, od_l_sole, .func (PySem.W.fnOf "_law_sole" "_law_sole" (defArgs s_l_sole) (defBody s_l_sole) (defScope s_l_sole) .none kV_l_sole dc_l_sole pm_l_sole an_l_sole cd_l_sole ct_l_sole), sl_l_sole⟩)
    (c_l_sole : PySem.W.codeIn K cd_l_sole "_law_sole" = true)
    (k_l_sole : PySem.W.keepIn K (.ref f_l_sole) = true)
    (a_l_cell_at : PySem.W.nsIn K mainGlobals "_law_cell_at" = some (some (.ref f_l_cell_at)))
    (l_l_cell_at : K.lookup f_l_cell_at = some ⟨oc_l_cell_at, od_l_cell_at, .func (PySem.W.fnOf "_law_cell_at" "_law_cell_at" (defArgs s_l_cell_at) (defBody s_l_cell_at) (defScope s_l_cell_at) .none kV_l_cell_at dc_l_cell_at pm_l_cell_at an_l_cell_at cd_l_cell_at ct_l_cell_at), sl_l_cell_at⟩)
    (c_l_cell_at : PySem.W.codeIn K cd_l_cell_at "_law_cell_at" = true)
    (k_l_cell_at : PySem.W.keepIn K (.ref f_l_cell_at) = true)
    (a_l_tied : PySem.W.nsIn K mainGlobals "_law_tied" = some (some (.ref f_l_tied)))
    (l_l_tied : K.lookup f_l_tied = some ⟨oc_l_tied, od_l_tied, .func (PySem.W.fnOf "_law_tied" "_law_tied" (defArgs s_l_tied) (defBody s_l_tied) (defScope s_l_tied) .none kV_l_tied dc_l_tied pm_l_tied an_l_tied cd_l_tied ct_l_tied), sl_l_tied⟩)
    (c_l_tied : PySem.W.codeIn K cd_l_tied "_law_tied" = true)
    (k_l_tied : PySem.W.keepIn K (.ref f_l_tied) = true)
    (a_l_ties_by : PySem.W.nsIn K mainGlobals "_law_ties_by" = some (some (.ref f_l_ties_by)))
    (l_l_ties_by : K.lookup f_l_ties_by = some ⟨oc_l_ties_by, od_l_ties_by, .func (PySem.W.fnOf "_law_ties_by" "_law_ties_by" (defArgs s_l_ties_by) (defBody s_l_ties_by) (defScope s_l_ties_by) .none kV_l_ties_by dc_l_ties_by pm_l_ties_by an_l_ties_by cd_l_ties_by ct_l_ties_by), sl_l_ties_by⟩)
    (c_l_ties_by : PySem.W.codeIn K cd_l_ties_by "_law_ties_by" = true)
    (k_l_ties_by : PySem.W.keepIn K (.ref f_l_ties_by) = true)
    (a_l_size_by : PySem.W.nsIn K mainGlobals "_law_size_by" = some (some (.ref f_l_size_by)))
    (l_l_size_by : K.lookup f_l_size_by = some ⟨oc_l_size_by, od_l_size_by, .func (PySem.W.fnOf "_law_size_by" "_law_size_by" (defArgs s_l_size_by) (defBody s_l_size_by) (defScope s_l_size_by) .none kV_l_size_by dc_l_size_by pm_l_size_by an_l_size_by cd_l_size_by ct_l_size_by), sl_l_size_by⟩)
    (c_l_size_by : PySem.W.codeIn K cd_l_size_by "_law_size_by" = true)
    (k_l_size_by : PySem.W.keepIn K (.ref f_l_size_by) = true)
    (a_l_kind_by : PySem.W.nsIn K mainGlobals "_law_kind_by" = some (some (.ref f_l_kind_by)))
    (l_l_kind_by : K.lookup f_l_kind_by = some ⟨oc_l_kind_by, od_l_kind_by, .func (PySem.W.fnOf "_law_kind_by" "_law_kind_by" (defArgs s_l_kind_by) (defBody s_l_kind_by) (defScope s_l_kind_by) .none kV_l_kind_by dc_l_kind_by pm_l_kind_by an_l_kind_by cd_l_kind_by ct_l_kind_by), sl_l_kind_by⟩)
    (c_l_kind_by : PySem.W.codeIn K cd_l_kind_by "_law_kind_by" = true)
    (k_l_kind_by : PySem.W.keepIn K (.ref f_l_kind_by) = true)
    (a_l_great : PySem.W.nsIn K mainGlobals "_law_great" = some (some (.ref f_l_great)))
    (l_l_great : K.lookup f_l_great = some ⟨oc_l_great, od_l_great, .func (PySem.W.fnOf "_law_great" "_law_great" (defArgs s_l_great) (defBody s_l_great) (defScope s_l_great) .none kV_l_great dc_l_great pm_l_great an_l_great cd_l_great ct_l_great), sl_l_great⟩)
    (c_l_great : PySem.W.codeIn K cd_l_great "_law_great" = true)
    (k_l_great : PySem.W.keepIn K (.ref f_l_great) = true)
    (a_l_net_by : PySem.W.nsIn K mainGlobals "_law_net_by" = some (some (.ref f_l_net_by)))
    (l_l_net_by : K.lookup f_l_net_by = some ⟨oc_l_net_by, od_l_net_by, .func (PySem.W.fnOf "_law_net_by" "_law_net_by" (defArgs s_l_net_by) (defBody s_l_net_by) (defScope s_l_net_by) .none kV_l_net_by dc_l_net_by pm_l_net_by an_l_net_by cd_l_net_by ct_l_net_by), sl_l_net_by⟩)
    (c_l_net_by : PySem.W.codeIn K cd_l_net_by "_law_net_by" = true)
    (k_l_net_by : PySem.W.keepIn K (.ref f_l_net_by) = true)
    (a_l_figures : PySem.W.nsIn K mainGlobals "_law_figures" = some (some (.ref f_l_figures)))
    (l_l_figures : K.lookup f_l_figures = some ⟨oc_l_figures, od_l_figures, .func (PySem.W.fnOf "_law_figures" "_law_figures" (defArgs s_l_figures) (defBody s_l_figures) (defScope s_l_figures) .none kV_l_figures dc_l_figures pm_l_figures an_l_figures cd_l_figures ct_l_figures), sl_l_figures⟩)
    (c_l_figures : PySem.W.codeIn K cd_l_figures "_law_figures" = true)
    (k_l_figures : PySem.W.keepIn K (.ref f_l_figures) = true)
    (a_l_text : PySem.W.nsIn K mainGlobals "_law_text" = some (some (.ref f_l_text)))
    (l_l_text : K.lookup f_l_text = some ⟨oc_l_text, od_l_text, .func (PySem.W.fnOf "_law_text" "_law_text" (defArgs s_l_text) (defBody s_l_text) (defScope s_l_text) .none kV_l_text dc_l_text pm_l_text an_l_text cd_l_text ct_l_text), sl_l_text⟩)
    (c_l_text : PySem.W.codeIn K cd_l_text "_law_text" = true)
    (k_l_text : PySem.W.keepIn K (.ref f_l_text) = true)
    (a_l_number : PySem.W.nsIn K mainGlobals "_law_number" = some (some (.ref f_l_number)))
    (l_l_number : K.lookup f_l_number = some ⟨oc_l_number, od_l_number, .func (PySem.W.fnOf "_law_number" "_law_number" (defArgs s_l_number) (defBody s_l_number) (defScope s_l_number) .none kV_l_number dc_l_number pm_l_number an_l_number cd_l_number ct_l_number), sl_l_number⟩)
    (c_l_number : PySem.W.codeIn K cd_l_number "_law_number" = true)
    (k_l_number : PySem.W.keepIn K (.ref f_l_number) = true)
    (a_l_tie : PySem.W.nsIn K mainGlobals "_law_tie" = some (some (.ref f_l_tie)))
    (l_l_tie : K.lookup f_l_tie = some ⟨oc_l_tie, od_l_tie, .func (PySem.W.fnOf "_law_tie" "_law_tie" (defArgs s_l_tie) (defBody s_l_tie) (defScope s_l_tie) .none kV_l_tie dc_l_tie pm_l_tie an_l_tie cd_l_tie ct_l_tie), sl_l_tie⟩)
    (c_l_tie : PySem.W.codeIn K cd_l_tie "_law_tie" = true)
    (k_l_tie : PySem.W.keepIn K (.ref f_l_tie) = true)
    (a_l_net_of : PySem.W.nsIn K mainGlobals "_law_net_of" = some (some (.ref f_l_net_of)))
    (l_l_net_of : K.lookup f_l_net_of = some ⟨oc_l_net_of, od_l_net_of, .func (PySem.W.fnOf "_law_net_of" "_law_net_of" (defArgs s_l_net_of) (defBody s_l_net_of) (defScope s_l_net_of) .none kV_l_net_of dc_l_net_of pm_l_net_of an_l_net_of cd_l_net_of ct_l_net_of), sl_l_net_of⟩)
    (c_l_net_of : PySem.W.codeIn K cd_l_net_of "_law_net_of" = true)
    (k_l_net_of : PySem.W.keepIn K (.ref f_l_net_of) = true)
    (a_l_refused : PySem.W.nsIn K mainGlobals "_law_refused" = some (some (.ref f_l_refused)))
    (l_l_refused : K.lookup f_l_refused = some ⟨oc_l_refused, od_l_refused, .func (PySem.W.fnOf "_law_refused" "_law_refused" (defArgs s_l_refused) (defBody s_l_refused) (defScope s_l_refused) .none kV_l_refused dc_l_refused pm_l_refused an_l_refused cd_l_refused ct_l_refused), sl_l_refused⟩)
    (c_l_refused : PySem.W.codeIn K cd_l_refused "_law_refused" = true)
    (k_l_refused : PySem.W.keepIn K (.ref f_l_refused) = true)
    (a_l_read_alike : PySem.W.nsIn K mainGlobals "_law_read_alike" = some (some (.ref f_l_read_alike)))
    (l_l_read_alike : K.lookup f_l_read_alike = some ⟨oc_l_read_alike, od_l_read_alike, .func (PySem.W.fnOf "_law_read_alike" "_law_read_alike" (defArgs s_l_read_alike) (defBody s_l_read_alike) (defScope s_l_read_alike) .none kV_l_read_alike dc_l_read_alike pm_l_read_alike an_l_read_alike cd_l_read_alike ct_l_read_alike), sl_l_read_alike⟩)
    (c_l_read_alike : PySem.W.codeIn K cd_l_read_alike "_law_read_alike" = true)
    (k_l_read_alike : PySem.W.keepIn K (.ref f_l_read_alike) = true)
    (a_l_changed : PySem.W.nsIn K mainGlobals "_law_changed" = some (some (.ref f_l_changed)))
    (l_l_changed : K.lookup f_l_changed = some ⟨oc_l_changed, od_l_changed, .func (PySem.W.fnOf "_law_changed" "_law_changed" (defArgs s_l_changed) (defBody s_l_changed) (defScope s_l_changed) .none kV_l_changed dc_l_changed pm_l_changed an_l_changed cd_l_changed ct_l_changed), sl_l_changed⟩)
    (c_l_changed : PySem.W.codeIn K cd_l_changed "_law_changed" = true)
    (k_l_changed : PySem.W.keepIn K (.ref f_l_changed) = true)
    (a_law : PySem.W.nsIn K mainGlobals "law" = some (some (.ref f_law)))
    (l_law : K.lookup f_law = some ⟨oc_law, od_law, .func (PySem.W.fnOf "law" "law" (defArgs s_law) (defBody s_law) (defScope s_law) .none kV_law dc_law pm_law an_law cd_law ct_law), sl_law⟩)
    (c_law : PySem.W.codeIn K cd_law "law" = true)
    (k_law : PySem.W.keepIn K (.ref f_law) = true)
    (a_MOST_PLACES : PySem.W.nsIn K mainGlobals "MOST_PLACES" = some (some (.int 40 u_MOST_PLACES)))
    (a_FIGURES : PySem.W.nsIn K mainGlobals "FIGURES" = some (some (.str "0123456789" u_FIGURES)))
    (z_ValueError : PySem.W.nsIn K mainGlobals "ValueError" = some none)
    (z_all : PySem.W.nsIn K mainGlobals "all" = some none)
    (z_any : PySem.W.nsIn K mainGlobals "any" = some none)
    (z_bool : PySem.W.nsIn K mainGlobals "bool" = some none)
    (z_int : PySem.W.nsIn K mainGlobals "int" = some none)
    (z_isinstance : PySem.W.nsIn K mainGlobals "isinstance" = some none)
    (z_len : PySem.W.nsIn K mainGlobals "len" = some none)
    (z_list : PySem.W.nsIn K mainGlobals "list" = some none)
    (z_range : PySem.W.nsIn K mainGlobals "range" = some none)
    (z_set : PySem.W.nsIn K mainGlobals "set" = some none)
    (z_sorted : PySem.W.nsIn K mainGlobals "sorted" = some none)
    (z_str : PySem.W.nsIn K mainGlobals "str" = some none)
    (z_tuple : PySem.W.nsIn K mainGlobals "tuple" = some none)
    : ∃ fd : FuncData, (∀ (s : Shared) (v : Value), BindsTo s fd ⟨[v], []⟩ [("_law_script", v)]) ∧ ∀ base : Heap, K.In base → base.Ns mainGlobals mg → FnOk P w K mg base CX0 12 fa fd ["_law_script"] (sp_law K) := by
  have e := hfa.symm.trans (PySem.W.mg_of X G a_law)
  have e2 : fa = f_law := by cases e; rfl
  rw [e2]
  have F_is_whole := fun_mk (st := s_is_whole) l_is_whole c_is_whole k_is_whole
  have b_is_whole := F_is_whole.binds (ps := ["thing"]) fun _ _ _ _ _ _ us hl => match us, hl with | [_], _ => rfl
  have F_is_place := fun_mk (st := s_is_place) l_is_place c_is_place k_is_place
  have b_is_place := F_is_place.binds (ps := ["size", "thing"]) fun _ _ _ _ _ _ us hl => match us, hl with | [_, _], _ => rfl
  have F_is_tie := fun_mk (st := s_is_tie) l_is_tie c_is_tie k_is_tie
  have b_is_tie := F_is_tie.binds (ps := ["size", "thing"]) fun _ _ _ _ _ _ us hl => match us, hl with | [_, _], _ => rfl
  have F_Net_init := fun_mk (st := s_Net_init) l_Net_init c_Net_init k_Net_init
  have b_Net_init := F_Net_init.binds (ps := ["self", "size", "ties"]) fun _ _ _ _ _ _ us hl => match us, hl with | [_, _, _], _ => rfl
  have F_Net_ties := fun_mk (st := s_Net_ties) l_Net_ties c_Net_ties k_Net_ties
  have b_Net_ties := F_Net_ties.binds (ps := ["self"]) fun _ _ _ _ _ _ us hl => match us, hl with | [_], _ => rfl
  have F_need_place := fun_mk (st := s_need_place) l_need_place c_need_place k_need_place
  have b_need_place := F_need_place.binds (ps := ["net", "place"]) fun _ _ _ _ _ _ us hl => match us, hl with | [_, _], _ => rfl
  have F_Net_beside := fun_mk (st := s_Net_beside) l_Net_beside c_Net_beside k_Net_beside
  have b_Net_beside := F_Net_beside.binds (ps := ["self", "place"]) fun _ _ _ _ _ _ us hl => match us, hl with | [_, _], _ => rfl
  have F_part_of := fun_mk (st := s_part_of) l_part_of c_part_of k_part_of
  have b_part_of := F_part_of.binds (ps := ["net", "place", "there"]) fun _ _ _ _ _ _ us hl => match us, hl with | [_, _, _], _ => rfl
  have F_parts := fun_mk (st := s_parts) l_parts c_parts k_parts
  have b_parts := F_parts.binds (ps := ["net", "taken"]) fun _ _ _ _ _ _ us hl => match us, hl with | [_, _], _ => rfl
  have F_shown := fun_mk (st := s_shown) l_shown c_shown k_shown
  have b_shown := F_shown.binds (ps := ["net"]) fun _ _ _ _ _ _ us hl => match us, hl with | [_], _ => rfl
  have F_number_of := fun_mk (st := s_number_of) l_number_of c_number_of k_number_of
  have b_number_of := F_number_of.binds (ps := ["figures"]) fun _ _ _ _ _ _ us hl => match us, hl with | [_], _ => rfl
  have F_tie_of := fun_mk (st := s_tie_of) l_tie_of c_tie_of k_tie_of
  have b_tie_of := F_tie_of.binds (ps := ["word"]) fun _ _ _ _ _ _ us hl => match us, hl with | [_], _ => rfl
  have F_read := fun_mk (st := s_read) l_read c_read k_read
  have b_read := F_read.binds (ps := ["line"]) fun _ _ _ _ _ _ us hl => match us, hl with | [_], _ => rfl
  have F_pairs_of := fun_mk (st := s_pairs_of) l_pairs_of c_pairs_of k_pairs_of
  have b_pairs_of := F_pairs_of.binds (ps := ["mates"]) fun _ _ _ _ _ _ us hl => match us, hl with | [_], _ => rfl
  have F_turned_mates := fun_mk (st := s_turned_mates) l_turned_mates c_turned_mates k_turned_mates
  have b_turned_mates := F_turned_mates.binds (ps := ["mates", "way"]) fun _ _ _ _ _ _ us hl => match us, hl with | [_, _], _ => rfl
  have F_Search_init := fun_mk (st := s_Search_init) l_Search_init c_Search_init k_Search_init
  have b_Search_init := F_Search_init.binds (ps := ["self", "net", "mates", "root"]) fun _ _ _ _ _ _ us hl => match us, hl with | [_, _, _, _], _ => rfl
  have F_Search_is_inner := fun_mk (st := s_Search_is_inner) l_Search_is_inner c_Search_is_inner k_Search_is_inner
  have b_Search_is_inner := F_Search_is_inner.binds (ps := ["self", "place"]) fun _ _ _ _ _ _ us hl => match us, hl with | [_, _], _ => rfl
  have F_Search_bases_up := fun_mk (st := s_Search_bases_up) l_Search_bases_up c_Search_bases_up k_Search_bases_up
  have b_Search_bases_up := F_Search_bases_up.binds (ps := ["self", "place"]) fun _ _ _ _ _ _ us hl => match us, hl with | [_, _], _ => rfl
  have F_Search_meet := fun_mk (st := s_Search_meet) l_Search_meet c_Search_meet k_Search_meet
  have b_Search_meet := F_Search_meet.binds (ps := ["self", "one", "other"]) fun _ _ _ _ _ _ us hl => match us, hl with | [_, _, _], _ => rfl
  have F_Search_mark := fun_mk (st := s_Search_mark) l_Search_mark c_Search_mark k_Search_mark
  have b_Search_mark := F_Search_mark.binds (ps := ["self", "place", "top", "child", "ring"]) fun _ _ _ _ _ _ us hl => match us, hl with | [_, _, _, _, _], _ => rfl
  have F_Search_close := fun_mk (st := s_Search_close) l_Search_close c_Search_close k_Search_close
  have b_Search_close := F_Search_close.binds (ps := ["self", "one", "other"]) fun _ _ _ _ _ _ us hl => match us, hl with | [_, _, _], _ => rfl
  have F_Search_look := fun_mk (st := s_Search_look) l_Search_look c_Search_look k_Search_look
  have b_Search_look := F_Search_look.binds (ps := ["self", "place", "other"]) fun _ _ _ _ _ _ us hl => match us, hl with | [_, _, _], _ => rfl
  have F_Search_end := fun_mk (st := s_Search_end) l_Search_end c_Search_end k_Search_end
  have b_Search_end := F_Search_end.binds (ps := ["self"]) fun _ _ _ _ _ _ us hl => match us, hl with | [_], _ => rfl
  have F_Search_way := fun_mk (st := s_Search_way) l_Search_way c_Search_way k_Search_way
  have b_Search_way := F_Search_way.binds (ps := ["self"]) fun _ _ _ _ _ _ us hl => match us, hl with | [_], _ => rfl
  have F_way_for := fun_mk (st := s_way_for) l_way_for c_way_for k_way_for
  have b_way_for := F_way_for.binds (ps := ["net", "mates"]) fun _ _ _ _ _ _ us hl => match us, hl with | [_, _], _ => rfl
  have F_met_outer := fun_mk (st := s_met_outer) l_met_outer c_met_outer k_met_outer
  have b_met_outer := F_met_outer.binds (ps := ["net", "mates"]) fun _ _ _ _ _ _ us hl => match us, hl with | [_, _], _ => rfl
  have F_grown := fun_mk (st := s_grown) l_grown c_grown k_grown
  have b_grown := F_grown.binds (ps := ["net", "mates"]) fun _ _ _ _ _ _ us hl => match us, hl with | [_, _], _ => rfl
  have F_most := fun_mk (st := s_most) l_most c_most k_most
  have b_most := F_most.binds (ps := ["net"]) fun _ _ _ _ _ _ us hl => match us, hl with | [_], _ => rfl
  have F_greatest := fun_mk (st := s_greatest) l_greatest c_greatest k_greatest
  have b_greatest := F_greatest.binds (ps := ["net"]) fun _ _ _ _ _ _ us hl => match us, hl with | [_], _ => rfl
  have F_fence := fun_mk (st := s_fence) l_fence c_fence k_fence
  have b_fence := F_fence.binds (ps := ["net"]) fun _ _ _ _ _ _ us hl => match us, hl with | [_], _ => rfl
  have F_l_sole := fun_mk (st := s_l_sole) l_l_sole c_l_sole k_l_sole
  have b_l_sole := F_l_sole.binds (ps := ["_law_error"]) fun _ _ _ _ _ _ us hl => match us, hl with | [_], _ => rfl
  have F_l_cell_at := fun_mk (st := s_l_cell_at) l_l_cell_at c_l_cell_at k_l_cell_at
  have b_l_cell_at := F_l_cell_at.binds (ps := ["_law_script", "_law_k"]) fun _ _ _ _ _ _ us hl => match us, hl with | [_, _], _ => rfl
  have F_l_tied := fun_mk (st := s_l_tied) l_l_tied c_l_tied k_l_tied
  have b_l_tied := F_l_tied.binds (ps := ["_law_kind", "_law_cell", "_law_one", "_law_other", "_law_size"]) fun _ _ _ _ _ _ us hl => match us, hl with | [_, _, _, _, _], _ => rfl
  have F_l_ties_by := fun_mk (st := s_l_ties_by) l_l_ties_by c_l_ties_by k_l_ties_by
  have b_l_ties_by := F_l_ties_by.binds (ps := ["_law_script", "_law_size", "_law_kind"]) fun _ _ _ _ _ _ us hl => match us, hl with | [_, _, _], _ => rfl
  have F_l_size_by := fun_mk (st := s_l_size_by) l_l_size_by c_l_size_by k_l_size_by
  have b_l_size_by := F_l_size_by.binds (ps := ["_law_script", "_law_bound"]) fun _ _ _ _ _ _ us hl => match us, hl with | [_, _], _ => rfl
  have F_l_kind_by := fun_mk (st := s_l_kind_by) l_l_kind_by c_l_kind_by k_l_kind_by
  have b_l_kind_by := F_l_kind_by.binds (ps := ["_law_script"]) fun _ _ _ _ _ _ us hl => match us, hl with | [_], _ => rfl
  have F_l_great := fun_mk (st := s_l_great) l_l_great c_l_great k_l_great
  have b_l_great := F_l_great.binds (ps := ["_law_script"]) fun _ _ _ _ _ _ us hl => match us, hl with | [_], _ => rfl
  have F_l_net_by := fun_mk (st := s_l_net_by) l_l_net_by c_l_net_by k_l_net_by
  have b_l_net_by := F_l_net_by.binds (ps := ["_law_script", "_law_bound"]) fun _ _ _ _ _ _ us hl => match us, hl with | [_, _], _ => rfl
  have F_l_figures := fun_mk (st := s_l_figures) l_l_figures c_l_figures k_l_figures
  have b_l_figures := F_l_figures.binds (ps := ["_law_number_here"]) fun _ _ _ _ _ _ us hl => match us, hl with | [_], _ => rfl
  have F_l_text := fun_mk (st := s_l_text) l_l_text c_l_text k_l_text
  have b_l_text := F_l_text.binds (ps := ["_law_size", "_law_ties"]) fun _ _ _ _ _ _ us hl => match us, hl with | [_, _], _ => rfl
  have F_l_number := fun_mk (st := s_l_number) l_l_number c_l_number k_l_number
  have b_l_number := F_l_number.binds (ps := ["_law_word"]) fun _ _ _ _ _ _ us hl => match us, hl with | [_], _ => rfl
  have F_l_tie := fun_mk (st := s_l_tie) l_l_tie c_l_tie k_l_tie
  have b_l_tie := F_l_tie.binds (ps := ["_law_word", "_law_size"]) fun _ _ _ _ _ _ us hl => match us, hl with | [_, _], _ => rfl
  have F_l_net_of := fun_mk (st := s_l_net_of) l_l_net_of c_l_net_of k_l_net_of
  have b_l_net_of := F_l_net_of.binds (ps := ["_law_line"]) fun _ _ _ _ _ _ us hl => match us, hl with | [_], _ => rfl
  have F_l_refused := fun_mk (st := s_l_refused) l_l_refused c_l_refused k_l_refused
  have b_l_refused := F_l_refused.binds (ps := ["_law_line"]) fun _ _ _ _ _ _ us hl => match us, hl with | [_], _ => rfl
  have F_l_read_alike := fun_mk (st := s_l_read_alike) l_l_read_alike c_l_read_alike k_l_read_alike
  have b_l_read_alike := F_l_read_alike.binds (ps := ["_law_line"]) fun _ _ _ _ _ _ us hl => match us, hl with | [_], _ => rfl
  have F_l_changed := fun_mk (st := s_l_changed) l_l_changed c_l_changed k_l_changed
  have b_l_changed := F_l_changed.binds (ps := ["_law_line", "_law_cell", "_law_more"]) fun _ _ _ _ _ _ us hl => match us, hl with | [_, _, _], _ => rfl
  have F_law := fun_mk (st := s_law) l_law c_law k_law
  have b_law := F_law.binds (ps := ["_law_script"]) fun _ _ _ _ _ _ us hl => match us, hl with | [_], _ => rfl
  let T : Txt K mg := { C_NetError := C_NetError, g_NetError := PySem.W.mg_of X G aC_NetError, C_BadNet := C_BadNet, g_BadNet := PySem.W.mg_of X G aC_BadNet, C_NoPlace := C_NoPlace, g_NoPlace := PySem.W.mg_of X G aC_NoPlace, C_BadPairs := C_BadPairs, g_BadPairs := PySem.W.mg_of X G aC_BadPairs, C_BadWay := C_BadWay, g_BadWay := PySem.W.mg_of X G aC_BadWay, C_TieThere := C_TieThere, g_TieThere := PySem.W.mg_of X G aC_TieThere, C_NoTie := C_NoTie, g_NoTie := PySem.W.mg_of X G aC_NoTie, C_OddRing := C_OddRing, g_OddRing := PySem.W.mg_of X G aC_OddRing, C_Net := C_Net, g_Net := PySem.W.mg_of X G aC_Net, C_Search := C_Search, g_Search := PySem.W.mg_of X G aC_Search, x_NetError := x_NetError, kp_NetError := kp_NetError, sb_NetError := sb_NetError, ty_NetError := ty_NetError, ic_NetError := ic_NetError, ve_NetError := ve_NetError, ec_NetError := ⟨e1_NetError, e2_NetError, sb_NetError, e4_NetError, e5_NetError, e6, e7, e8_NetError⟩, ki_NetError_NetError := ki_NetError_NetError, em_NetError := exm_same sb_NetError ic_NetError ty_NetError ss_NetError, x_BadNet := x_BadNet, kp_BadNet := kp_BadNet, sb_BadNet := sb_BadNet, ty_BadNet := ty_BadNet, ic_BadNet := ic_BadNet, ve_BadNet := ve_BadNet, ec_BadNet := ⟨e1_BadNet, e2_BadNet, sb_BadNet, e4_BadNet, e5_BadNet, e6, e7, e8_BadNet⟩, ki_BadNet_NetError := ki_BadNet_NetError, ki_BadNet_BadNet := ki_BadNet_BadNet, ki_BadNet_NoPlace := ki_BadNet_NoPlace, ki_BadNet_BadPairs := ki_BadNet_BadPairs, ki_BadNet_BadWay := ki_BadNet_BadWay, ki_BadNet_TieThere := ki_BadNet_TieThere, ki_BadNet_NoTie := ki_BadNet_NoTie, ki_BadNet_OddRing := ki_BadNet_OddRing, em_BadNet := exm_same sb_BadNet ic_BadNet ty_BadNet ss_BadNet, x_NoPlace := x_NoPlace, kp_NoPlace := kp_NoPlace, sb_NoPlace := sb_NoPlace, ty_NoPlace := ty_NoPlace, ic_NoPlace := ic_NoPlace, ve_NoPlace := ve_NoPlace, ec_NoPlace := ⟨e1_NoPlace, e2_NoPlace, sb_NoPlace, e4_NoPlace, e5_NoPlace, e6, e7, e8_NoPlace⟩, ki_NoPlace_NetError := ki_NoPlace_NetError, ki_NoPlace_BadNet := ki_NoPlace_BadNet, ki_NoPlace_NoPlace := ki_NoPlace_NoPlace, ki_NoPlace_BadPairs := ki_NoPlace_BadPairs, ki_NoPlace_BadWay := ki_NoPlace_BadWay, ki_NoPlace_TieThere := ki_NoPlace_TieThere, ki_NoPlace_NoTie := ki_NoPlace_NoTie, ki_NoPlace_OddRing := ki_NoPlace_OddRing, em_NoPlace := exm_same sb_NoPlace ic_NoPlace ty_NoPlace ss_NoPlace, x_BadPairs := x_BadPairs, kp_BadPairs := kp_BadPairs, sb_BadPairs := sb_BadPairs, ty_BadPairs := ty_BadPairs, ic_BadPairs := ic_BadPairs, ve_BadPairs := ve_BadPairs, ec_BadPairs := ⟨e1_BadPairs, e2_BadPairs, sb_BadPairs, e4_BadPairs, e5_BadPairs, e6, e7, e8_BadPairs⟩, ki_BadPairs_NetError := ki_BadPairs_NetError, ki_BadPairs_BadNet := ki_BadPairs_BadNet, ki_BadPairs_NoPlace := ki_BadPairs_NoPlace, ki_BadPairs_BadPairs := ki_BadPairs_BadPairs, ki_BadPairs_BadWay := ki_BadPairs_BadWay, ki_BadPairs_TieThere := ki_BadPairs_TieThere, ki_BadPairs_NoTie := ki_BadPairs_NoTie, ki_BadPairs_OddRing := ki_BadPairs_OddRing, em_BadPairs := exm_same sb_BadPairs ic_BadPairs ty_BadPairs ss_BadPairs, x_BadWay := x_BadWay, kp_BadWay := kp_BadWay, sb_BadWay := sb_BadWay, ty_BadWay := ty_BadWay, ic_BadWay := ic_BadWay, ve_BadWay := ve_BadWay, ec_BadWay := ⟨e1_BadWay, e2_BadWay, sb_BadWay, e4_BadWay, e5_BadWay, e6, e7, e8_BadWay⟩, ki_BadWay_NetError := ki_BadWay_NetError, ki_BadWay_BadNet := ki_BadWay_BadNet, ki_BadWay_NoPlace := ki_BadWay_NoPlace, ki_BadWay_BadPairs := ki_BadWay_BadPairs, ki_BadWay_BadWay := ki_BadWay_BadWay, ki_BadWay_TieThere := ki_BadWay_TieThere, ki_BadWay_NoTie := ki_BadWay_NoTie, ki_BadWay_OddRing := ki_BadWay_OddRing, em_BadWay := exm_same sb_BadWay ic_BadWay ty_BadWay ss_BadWay, x_TieThere := x_TieThere, kp_TieThere := kp_TieThere, sb_TieThere := sb_TieThere, ty_TieThere := ty_TieThere, ic_TieThere := ic_TieThere, ve_TieThere := ve_TieThere, ec_TieThere := ⟨e1_TieThere, e2_TieThere, sb_TieThere, e4_TieThere, e5_TieThere, e6, e7, e8_TieThere⟩, ki_TieThere_NetError := ki_TieThere_NetError, ki_TieThere_BadNet := ki_TieThere_BadNet, ki_TieThere_NoPlace := ki_TieThere_NoPlace, ki_TieThere_BadPairs := ki_TieThere_BadPairs, ki_TieThere_BadWay := ki_TieThere_BadWay, ki_TieThere_TieThere := ki_TieThere_TieThere, ki_TieThere_NoTie := ki_TieThere_NoTie, ki_TieThere_OddRing := ki_TieThere_OddRing, em_TieThere := exm_same sb_TieThere ic_TieThere ty_TieThere ss_TieThere, x_NoTie := x_NoTie, kp_NoTie := kp_NoTie, sb_NoTie := sb_NoTie, ty_NoTie := ty_NoTie, ic_NoTie := ic_NoTie, ve_NoTie := ve_NoTie, ec_NoTie := ⟨e1_NoTie, e2_NoTie, sb_NoTie, e4_NoTie, e5_NoTie, e6, e7, e8_NoTie⟩, ki_NoTie_NetError := ki_NoTie_NetError, ki_NoTie_BadNet := ki_NoTie_BadNet, ki_NoTie_NoPlace := ki_NoTie_NoPlace, ki_NoTie_BadPairs := ki_NoTie_BadPairs, ki_NoTie_BadWay := ki_NoTie_BadWay, ki_NoTie_TieThere := ki_NoTie_TieThere, ki_NoTie_NoTie := ki_NoTie_NoTie, ki_NoTie_OddRing := ki_NoTie_OddRing, em_NoTie := exm_same sb_NoTie ic_NoTie ty_NoTie ss_NoTie, x_OddRing := x_OddRing, kp_OddRing := kp_OddRing, sb_OddRing := sb_OddRing, ty_OddRing := ty_OddRing, ic_OddRing := ic_OddRing, ve_OddRing := ve_OddRing, ec_OddRing := ⟨e1_OddRing, e2_OddRing, sb_OddRing, e4_OddRing, e5_OddRing, e6, e7, e8_OddRing⟩, ki_OddRing_NetError := ki_OddRing_NetError, ki_OddRing_BadNet := ki_OddRing_BadNet, ki_OddRing_NoPlace := ki_OddRing_NoPlace, ki_OddRing_BadPairs := ki_OddRing_BadPairs, ki_OddRing_BadWay := ki_OddRing_BadWay, ki_OddRing_TieThere := ki_OddRing_TieThere, ki_OddRing_NoTie := ki_OddRing_NoTie, ki_OddRing_OddRing := ki_OddRing_OddRing, em_OddRing := exm_same sb_OddRing ic_OddRing ty_OddRing ss_OddRing, cl_Net := ⟨pg_Net, hd_Net, po_Net, sa_Net⟩, na_Net_size := na_Net_size, na_Net_near := na_Net_near, oc_Net := oc_Net, om_Net := om_Net, cl_Search := ⟨pg_Search, hd_Search, po_Search, sa_Search⟩, na_Search_web := na_Search_web, na_Search_mates := na_Search_mates, na_Search_root := na_Search_root, na_Search_base := na_Search_base, na_Search_above := na_Search_above, na_Search_outer := na_Search_outer, f_is_whole := f_is_whole, fd_is_whole := _, F_is_whole := F_is_whole, b_is_whole := b_is_whole, g_is_whole := PySem.W.mg_of X G a_is_whole, f_is_place := f_is_place, fd_is_place := _, F_is_place := F_is_place, b_is_place := b_is_place, g_is_place := PySem.W.mg_of X G a_is_place, f_is_tie := f_is_tie, fd_is_tie := _, F_is_tie := F_is_tie, b_is_tie := b_is_tie, g_is_tie := PySem.W.mg_of X G a_is_tie, f_Net_init := f_Net_init, fd_Net_init := _, F_Net_init := F_Net_init, b_Net_init := b_Net_init, mk_Net := ⟨mk_Net, a_Net_init, i_Net_init, kc_Net⟩, f_Net_ties := f_Net_ties, fd_Net_ties := _, F_Net_ties := F_Net_ties, b_Net_ties := b_Net_ties, m_Net_ties := ⟨a_Net_ties, i_Net_ties, k_Net_ties⟩, f_need_place := f_need_place, fd_need_place := _, F_need_place := F_need_place, b_need_place := b_need_place, g_need_place := PySem.W.mg_of X G a_need_place, f_Net_beside := f_Net_beside, fd_Net_beside := _, F_Net_beside := F_Net_beside, b_Net_beside := b_Net_beside, m_Net_beside := ⟨a_Net_beside, i_Net_beside, k_Net_beside⟩, f_part_of := f_part_of, fd_part_of := _, F_part_of := F_part_of, b_part_of := b_part_of, g_part_of := PySem.W.mg_of X G a_part_of, f_parts := f_parts, fd_parts := _, F_parts := F_parts, b_parts := b_parts, g_parts := PySem.W.mg_of X G a_parts, f_shown := f_shown, fd_shown := _, F_shown := F_shown, b_shown := b_shown, g_shown := PySem.W.mg_of X G a_shown, f_number_of := f_number_of, fd_number_of := _, F_number_of := F_number_of, b_number_of := b_number_of, g_number_of := PySem.W.mg_of X G a_number_of, f_tie_of := f_tie_of, fd_tie_of := _, F_tie_of := F_tie_of, b_tie_of := b_tie_of, g_tie_of := PySem.W.mg_of X G a_tie_of, f_read := f_read, fd_read := _, F_read := F_read, b_read := b_read, g_read := PySem.W.mg_of X G a_read, f_pairs_of := f_pairs_of, fd_pairs_of := _, F_pairs_of := F_pairs_of, b_pairs_of := b_pairs_of, g_pairs_of := PySem.W.mg_of X G a_pairs_of, f_turned_mates := f_turned_mates, fd_turned_mates := _, F_turned_mates := F_turned_mates, b_turned_mates := b_turned_mates, g_turned_mates := PySem.W.mg_of X G a_turned_mates, f_Search_init := f_Search_init, fd_Search_init := _, F_Search_init := F_Search_init, b_Search_init := b_Search_init, mk_Search := ⟨mk_Search, a_Search_init, i_Search_init, kc_Search⟩, f_Search_is_inner := f_Search_is_inner, fd_Search_is_inner := _, F_Search_is_inner := F_Search_is_inner, b_Search_is_inner := b_Search_is_inner, m_Search_is_inner := ⟨a_Search_is_inner, i_Search_is_inner, k_Search_is_inner⟩, f_Search_bases_up := f_Search_bases_up, fd_Search_bases_up := _, F_Search_bases_up := F_Search_bases_up, b_Search_bases_up := b_Search_bases_up, m_Search_bases_up := ⟨a_Search_bases_up, i_Search_bases_up, k_Search_bases_up⟩, f_Search_meet := f_Search_meet, fd_Search_meet := _, F_Search_meet := F_Search_meet, b_Search_meet := b_Search_meet, m_Search_meet := ⟨a_Search_meet, i_Search_meet, k_Search_meet⟩, f_Search_mark := f_Search_mark, fd_Search_mark := _, F_Search_mark := F_Search_mark, b_Search_mark := b_Search_mark, m_Search_mark := ⟨a_Search_mark, i_Search_mark, k_Search_mark⟩, f_Search_close := f_Search_close, fd_Search_close := _, F_Search_close := F_Search_close, b_Search_close := b_Search_close, m_Search_close := ⟨a_Search_close, i_Search_close, k_Search_close⟩, f_Search_look := f_Search_look, fd_Search_look := _, F_Search_look := F_Search_look, b_Search_look := b_Search_look, m_Search_look := ⟨a_Search_look, i_Search_look, k_Search_look⟩, f_Search_end := f_Search_end, fd_Search_end := _, F_Search_end := F_Search_end, b_Search_end := b_Search_end, m_Search_end := ⟨a_Search_end, i_Search_end, k_Search_end⟩, f_Search_way := f_Search_way, fd_Search_way := _, F_Search_way := F_Search_way, b_Search_way := b_Search_way, m_Search_way := ⟨a_Search_way, i_Search_way, k_Search_way⟩, f_way_for := f_way_for, fd_way_for := _, F_way_for := F_way_for, b_way_for := b_way_for, g_way_for := PySem.W.mg_of X G a_way_for, f_met_outer := f_met_outer, fd_met_outer := _, F_met_outer := F_met_outer, b_met_outer := b_met_outer, g_met_outer := PySem.W.mg_of X G a_met_outer, f_grown := f_grown, fd_grown := _, F_grown := F_grown, b_grown := b_grown, g_grown := PySem.W.mg_of X G a_grown, f_most := f_most, fd_most := _, F_most := F_most, b_most := b_most, g_most := PySem.W.mg_of X G a_most, f_greatest := f_greatest, fd_greatest := _, F_greatest := F_greatest, b_greatest := b_greatest, g_greatest := PySem.W.mg_of X G a_greatest, f_fence := f_fence, fd_fence := _, F_fence := F_fence, b_fence := b_fence, g_fence := PySem.W.mg_of X G a_fence, f_l_sole := f_l_sole, fd_l_sole := _, F_l_sole := F_l_sole, b_l_sole := b_l_sole, g_l_sole := PySem.W.mg_of X G a_l_sole, f_l_cell_at := f_l_cell_at, fd_l_cell_at := _, F_l_cell_at := F_l_cell_at, b_l_cell_at := b_l_cell_at, g_l_cell_at := PySem.W.mg_of X G a_l_cell_at, f_l_tied := f_l_tied, fd_l_tied := _, F_l_tied := F_l_tied, b_l_tied := b_l_tied, g_l_tied := PySem.W.mg_of X G a_l_tied, f_l_ties_by := f_l_ties_by, fd_l_ties_by := _, F_l_ties_by := F_l_ties_by, b_l_ties_by := b_l_ties_by, g_l_ties_by := PySem.W.mg_of X G a_l_ties_by, f_l_size_by := f_l_size_by, fd_l_size_by := _, F_l_size_by := F_l_size_by, b_l_size_by := b_l_size_by, g_l_size_by := PySem.W.mg_of X G a_l_size_by, f_l_kind_by := f_l_kind_by, fd_l_kind_by := _, F_l_kind_by := F_l_kind_by, b_l_kind_by := b_l_kind_by, g_l_kind_by := PySem.W.mg_of X G a_l_kind_by, f_l_great := f_l_great, fd_l_great := _, F_l_great := F_l_great, b_l_great := b_l_great, g_l_great := PySem.W.mg_of X G a_l_great, f_l_net_by := f_l_net_by, fd_l_net_by := _, F_l_net_by := F_l_net_by, b_l_net_by := b_l_net_by, g_l_net_by := PySem.W.mg_of X G a_l_net_by, f_l_figures := f_l_figures, fd_l_figures := _, F_l_figures := F_l_figures, b_l_figures := b_l_figures, g_l_figures := PySem.W.mg_of X G a_l_figures, f_l_text := f_l_text, fd_l_text := _, F_l_text := F_l_text, b_l_text := b_l_text, g_l_text := PySem.W.mg_of X G a_l_text, f_l_number := f_l_number, fd_l_number := _, F_l_number := F_l_number, b_l_number := b_l_number, g_l_number := PySem.W.mg_of X G a_l_number, f_l_tie := f_l_tie, fd_l_tie := _, F_l_tie := F_l_tie, b_l_tie := b_l_tie, g_l_tie := PySem.W.mg_of X G a_l_tie, f_l_net_of := f_l_net_of, fd_l_net_of := _, F_l_net_of := F_l_net_of, b_l_net_of := b_l_net_of, g_l_net_of := PySem.W.mg_of X G a_l_net_of, f_l_refused := f_l_refused, fd_l_refused := _, F_l_refused := F_l_refused, b_l_refused := b_l_refused, g_l_refused := PySem.W.mg_of X G a_l_refused, f_l_read_alike := f_l_read_alike, fd_l_read_alike := _, F_l_read_alike := F_l_read_alike, b_l_read_alike := b_l_read_alike, g_l_read_alike := PySem.W.mg_of X G a_l_read_alike, f_l_changed := f_l_changed, fd_l_changed := _, F_l_changed := F_l_changed, b_l_changed := b_l_changed, g_l_changed := PySem.W.mg_of X G a_l_changed, f_law := f_law, fd_law := _, F_law := F_law, b_law := b_law, g_law := PySem.W.mg_of X G a_law, g_MOST_PLACES := ⟨_, PySem.W.mg_of X G a_MOST_PLACES⟩, g_FIGURES := ⟨_, PySem.W.mg_of X G a_FIGURES⟩, n_ValueError := PySem.W.mg_none_of X G z_ValueError, n_all := PySem.W.mg_none_of X G z_all, n_any := PySem.W.mg_none_of X G z_any, n_bool := PySem.W.mg_none_of X G z_bool, n_int := PySem.W.mg_none_of X G z_int, n_isinstance := PySem.W.mg_none_of X G z_isinstance, n_len := PySem.W.mg_none_of X G z_len, n_list := PySem.W.mg_none_of X G z_list, n_range := PySem.W.mg_none_of X G z_range, n_set := PySem.W.mg_none_of X G z_set, n_sorted := PySem.W.mg_none_of X G z_sorted, n_str := PySem.W.mg_none_of X G z_str, n_tuple := PySem.W.mg_none_of X G z_tuple }
  exact ⟨PySem.W.fnOf "law" "law" (defArgs s_law) (defBody s_law) (defScope s_law) .none kV_law dc_law pm_law an_law cd_law ct_law, fun s v => .of_eq rfl, fun base _ _ => ok_law T⟩
end OP
open PySem PySem.W PyProof.Rows in
set_option maxRecDepth 100000 in
set_option maxHeartbeats 0 in
theorem PySem.Challenge.cw_oddpairs_k12_texts_holds : PySem.Challenge.rw_oddpairs_k12_texts.Holds := by
  w_on; o_law; k_head; (case hw => w_witness2)
  k_fill
  refine L2.walk_of (l := PySem.Challenge.rw_oddpairs_k12_texts) (n := 63) (k := 12) (x := "_law_script") (CX := fun _ => L2.CX0) (sp := fun w => OP.sp_law _) rfl (by decide) rfl ⟨rfl, by decide, by decide⟩ (fun w h Y => PySem.W.kIn_of Y) ?F (fun _ _ a ns hl _ hS => ⟨a, ns, rfl, hS, hl, fun _ => rfl⟩) (fun _ _ _ _ _ z => z)
  case F =>
    intro w mg fa h KX G hmg
    refine' OP.all_mk KX G hmg ?h_aC_NetError ?h_aC_BadNet ?h_aC_NoPlace ?h_aC_BadPairs ?h_aC_BadWay ?h_aC_TieThere ?h_aC_NoTie ?h_aC_OddRing ?h_aC_Net ?h_aC_Search ?h_x_NetError ?h_kp_NetError ?h_sb_NetError ?h_ty_NetError ?h_ic_NetError ?h_e1_NetError ?h_e2_NetError ?h_e4_NetError ?h_e5_NetError ?h_e8_NetError ?h_ve_NetError ?h_ki_NetError_NetError ?h_ss_NetError ?h_x_BadNet ?h_kp_BadNet ?h_sb_BadNet ?h_ty_BadNet ?h_ic_BadNet ?h_e1_BadNet ?h_e2_BadNet ?h_e4_BadNet ?h_e5_BadNet ?h_e8_BadNet ?h_ve_BadNet ?h_ki_BadNet_NetError ?h_ki_BadNet_BadNet ?h_ki_BadNet_NoPlace ?h_ki_BadNet_BadPairs ?h_ki_BadNet_BadWay ?h_ki_BadNet_TieThere ?h_ki_BadNet_NoTie ?h_ki_BadNet_OddRing ?h_ss_BadNet ?h_x_NoPlace ?h_kp_NoPlace ?h_sb_NoPlace ?h_ty_NoPlace ?h_ic_NoPlace ?h_e1_NoPlace ?h_e2_NoPlace ?h_e4_NoPlace ?h_e5_NoPlace ?h_e8_NoPlace ?h_ve_NoPlace ?h_ki_NoPlace_NetError ?h_ki_NoPlace_BadNet ?h_ki_NoPlace_NoPlace ?h_ki_NoPlace_BadPairs ?h_ki_NoPlace_BadWay ?h_ki_NoPlace_TieThere ?h_ki_NoPlace_NoTie ?h_ki_NoPlace_OddRing ?h_ss_NoPlace ?h_x_BadPairs ?h_kp_BadPairs ?h_sb_BadPairs ?h_ty_BadPairs ?h_ic_BadPairs ?h_e1_BadPairs ?h_e2_BadPairs ?h_e4_BadPairs ?h_e5_BadPairs ?h_e8_BadPairs ?h_ve_BadPairs ?h_ki_BadPairs_NetError ?h_ki_BadPairs_BadNet ?h_ki_BadPairs_NoPlace ?h_ki_BadPairs_BadPairs ?h_ki_BadPairs_BadWay ?h_ki_BadPairs_TieThere ?h_ki_BadPairs_NoTie ?h_ki_BadPairs_OddRing ?h_ss_BadPairs ?h_x_BadWay ?h_kp_BadWay ?h_sb_BadWay ?h_ty_BadWay ?h_ic_BadWay ?h_e1_BadWay ?h_e2_BadWay ?h_e4_BadWay ?h_e5_BadWay ?h_e8_BadWay ?h_ve_BadWay ?h_ki_BadWay_NetError ?h_ki_BadWay_BadNet ?h_ki_BadWay_NoPlace ?h_ki_BadWay_BadPairs ?h_ki_BadWay_BadWay ?h_ki_BadWay_TieThere ?h_ki_BadWay_NoTie ?h_ki_BadWay_OddRing ?h_ss_BadWay ?h_x_TieThere ?h_kp_TieThere ?h_sb_TieThere ?h_ty_TieThere ?h_ic_TieThere ?h_e1_TieThere ?h_e2_TieThere ?h_e4_TieThere ?h_e5_TieThere ?h_e8_TieThere ?h_ve_TieThere ?h_ki_TieThere_NetError ?h_ki_TieThere_BadNet ?h_ki_TieThere_NoPlace ?h_ki_TieThere_BadPairs ?h_ki_TieThere_BadWay ?h_ki_TieThere_TieThere ?h_ki_TieThere_NoTie ?h_ki_TieThere_OddRing ?h_ss_TieThere ?h_x_NoTie ?h_kp_NoTie ?h_sb_NoTie ?h_ty_NoTie ?h_ic_NoTie ?h_e1_NoTie ?h_e2_NoTie ?h_e4_NoTie ?h_e5_NoTie ?h_e8_NoTie ?h_ve_NoTie ?h_ki_NoTie_NetError ?h_ki_NoTie_BadNet ?h_ki_NoTie_NoPlace ?h_ki_NoTie_BadPairs ?h_ki_NoTie_BadWay ?h_ki_NoTie_TieThere ?h_ki_NoTie_NoTie ?h_ki_NoTie_OddRing ?h_ss_NoTie ?h_x_OddRing ?h_kp_OddRing ?h_sb_OddRing ?h_ty_OddRing ?h_ic_OddRing ?h_e1_OddRing ?h_e2_OddRing ?h_e4_OddRing ?h_e5_OddRing ?h_e8_OddRing ?h_ve_OddRing ?h_ki_OddRing_NetError ?h_ki_OddRing_BadNet ?h_ki_OddRing_NoPlace ?h_ki_OddRing_BadPairs ?h_ki_OddRing_BadWay ?h_ki_OddRing_TieThere ?h_ki_OddRing_NoTie ?h_ki_OddRing_OddRing ?h_ss_OddRing ?h_e6 ?h_e7 ?h_pg_Net ?h_hd_Net ?h_po_Net ?h_sa_Net ?h_mk_Net ?h_kc_Net ?h_na_Net_size ?h_na_Net_near ?h_oc_Net ?h_om_Net ?h_pg_Search ?h_hd_Search ?h_po_Search ?h_sa_Search ?h_mk_Search ?h_kc_Search ?h_na_Search_web ?h_na_Search_mates ?h_na_Search_root ?h_na_Search_base ?h_na_Search_above ?h_na_Search_outer ?h_a_is_whole ?h_l_is_whole ?h_c_is_whole ?h_k_is_whole ?h_a_is_place ?h_l_is_place ?h_c_is_place ?h_k_is_place ?h_a_is_tie ?h_l_is_tie ?h_c_is_tie ?h_k_is_tie ?h_a_Net_init ?h_i_Net_init ?h_l_Net_init ?h_c_Net_init ?h_k_Net_init ?h_a_Net_ties ?h_i_Net_ties ?h_l_Net_ties ?h_c_Net_ties ?h_k_Net_ties ?h_a_need_place ?h_l_need_place ?h_c_need_place ?h_k_need_place ?h_a_Net_beside ?h_i_Net_beside ?h_l_Net_beside ?h_c_Net_beside ?h_k_Net_beside ?h_a_part_of ?h_l_part_of ?h_c_part_of ?h_k_part_of ?h_a_parts ?h_l_parts ?h_c_parts ?h_k_parts ?h_a_shown ?h_l_shown ?h_c_shown ?h_k_shown ?h_a_number_of ?h_l_number_of ?h_c_number_of ?h_k_number_of ?h_a_tie_of ?h_l_tie_of ?h_c_tie_of ?h_k_tie_of ?h_a_read ?h_l_read ?h_c_read ?h_k_read ?h_a_pairs_of ?h_l_pairs_of ?h_c_pairs_of ?h_k_pairs_of ?h_a_turned_mates ?h_l_turned_mates ?h_c_turned_mates ?h_k_turned_mates ?h_a_Search_init ?h_i_Search_init ?h_l_Search_init ?h_c_Search_init ?h_k_Search_init ?h_a_Search_is_inner ?h_i_Search_is_inner ?h_l_Search_is_inner ?h_c_Search_is_inner ?h_k_Search_is_inner ?h_a_Search_bases_up ?h_i_Search_bases_up ?h_l_Search_bases_up ?h_c_Search_bases_up ?h_k_Search_bases_up ?h_a_Search_meet ?h_i_Search_meet ?h_l_Search_meet ?h_c_Search_meet ?h_k_Search_meet ?h_a_Search_mark ?h_i_Search_mark ?h_l_Search_mark ?h_c_Search_mark ?h_k_Search_mark ?h_a_Search_close ?h_i_Search_close ?h_l_Search_close ?h_c_Search_close ?h_k_Search_close ?h_a_Search_look ?h_i_Search_look ?h_l_Search_look ?h_c_Search_look ?h_k_Search_look ?h_a_Search_end ?h_i_Search_end ?h_l_Search_end ?h_c_Search_end ?h_k_Search_end ?h_a_Search_way ?h_i_Search_way ?h_l_Search_way ?h_c_Search_way ?h_k_Search_way ?h_a_way_for ?h_l_way_for ?h_c_way_for ?h_k_way_for ?h_a_met_outer ?h_l_met_outer ?h_c_met_outer ?h_k_met_outer ?h_a_grown ?h_l_grown ?h_c_grown ?h_k_grown ?h_a_most ?h_l_most ?h_c_most ?h_k_most ?h_a_greatest ?h_l_greatest ?h_c_greatest ?h_k_greatest ?h_a_fence ?h_l_fence ?h_c_fence ?h_k_fence ?h_a_l_sole ?h_l_l_sole ?h_c_l_sole ?h_k_l_sole ?h_a_l_cell_at ?h_l_l_cell_at ?h_c_l_cell_at ?h_k_l_cell_at ?h_a_l_tied ?h_l_l_tied ?h_c_l_tied ?h_k_l_tied ?h_a_l_ties_by ?h_l_l_ties_by ?h_c_l_ties_by ?h_k_l_ties_by ?h_a_l_size_by ?h_l_l_size_by ?h_c_l_size_by ?h_k_l_size_by ?h_a_l_kind_by ?h_l_l_kind_by ?h_c_l_kind_by ?h_k_l_kind_by ?h_a_l_great ?h_l_l_great ?h_c_l_great ?h_k_l_great ?h_a_l_net_by ?h_l_l_net_by ?h_c_l_net_by ?h_k_l_net_by ?h_a_l_figures ?h_l_l_figures ?h_c_l_figures ?h_k_l_figures ?h_a_l_text ?h_l_l_text ?h_c_l_text ?h_k_l_text ?h_a_l_number ?h_l_l_number ?h_c_l_number ?h_k_l_number ?h_a_l_tie ?h_l_l_tie ?h_c_l_tie ?h_k_l_tie ?h_a_l_net_of ?h_l_l_net_of ?h_c_l_net_of ?h_k_l_net_of ?h_a_l_refused ?h_l_l_refused ?h_c_l_refused ?h_k_l_refused ?h_a_l_read_alike ?h_l_l_read_alike ?h_c_l_read_alike ?h_k_l_read_alike ?h_a_l_changed ?h_l_l_changed ?h_c_l_changed ?h_k_l_changed ?h_a_law ?h_l_law ?h_c_law ?h_k_law ?h_a_MOST_PLACES ?h_a_FIGURES ?h_z_ValueError ?h_z_all ?h_z_any ?h_z_bool ?h_z_int ?h_z_isinstance ?h_z_len ?h_z_list ?h_z_range ?h_z_set ?h_z_sorted ?h_z_str ?h_z_tuple
    (case h_aC_NetError => k_is)
    (case h_aC_BadNet => k_is)
    (case h_aC_NoPlace => k_is)
    (case h_aC_BadPairs => k_is)
    (case h_aC_BadWay => k_is)
    (case h_aC_TieThere => k_is)
    (case h_aC_NoTie => k_is)
    (case h_aC_OddRing => k_is)
    (case h_aC_Net => k_is)
    (case h_aC_Search => k_is)
    (case h_x_NetError => k_exc)
    (case h_kp_NetError => k_is)
    (case h_sb_NetError => k_is)
    (case h_ty_NetError => k_is)
    (case h_ic_NetError => k_is)
    (case h_e1_NetError => k_is)
    (case h_e2_NetError => k_is)
    (case h_e4_NetError => k_is)
    (case h_e5_NetError => k_is)
    (case h_e8_NetError => k_is)
    (case h_ve_NetError => kit_is)
    (case h_ki_NetError_NetError => kit_is)
    (case h_ss_NetError => k_is)
    (case h_x_BadNet => k_exc)
    (case h_kp_BadNet => k_is)
    (case h_sb_BadNet => k_is)
    (case h_ty_BadNet => k_is)
    (case h_ic_BadNet => k_is)
    (case h_e1_BadNet => k_is)
    (case h_e2_BadNet => k_is)
    (case h_e4_BadNet => k_is)
    (case h_e5_BadNet => k_is)
    (case h_e8_BadNet => k_is)
    (case h_ve_BadNet => kit_is)
    (case h_ki_BadNet_NetError => kit_is)
    (case h_ki_BadNet_BadNet => kit_is)
    (case h_ki_BadNet_NoPlace => kit_is)
    (case h_ki_BadNet_BadPairs => kit_is)
    (case h_ki_BadNet_BadWay => kit_is)
    (case h_ki_BadNet_TieThere => kit_is)
    (case h_ki_BadNet_NoTie => kit_is)
    (case h_ki_BadNet_OddRing => kit_is)
    (case h_ss_BadNet => k_is)
    (case h_x_NoPlace => k_exc)
    (case h_kp_NoPlace => k_is)
    (case h_sb_NoPlace => k_is)
    (case h_ty_NoPlace => k_is)
    (case h_ic_NoPlace => k_is)
    (case h_e1_NoPlace => k_is)
    (case h_e2_NoPlace => k_is)
    (case h_e4_NoPlace => k_is)
    (case h_e5_NoPlace => k_is)
    (case h_e8_NoPlace => k_is)
    (case h_ve_NoPlace => kit_is)
    (case h_ki_NoPlace_NetError => kit_is)
    (case h_ki_NoPlace_BadNet => kit_is)
    (case h_ki_NoPlace_NoPlace => kit_is)
    (case h_ki_NoPlace_BadPairs => kit_is)
    (case h_ki_NoPlace_BadWay => kit_is)
    (case h_ki_NoPlace_TieThere => kit_is)
    (case h_ki_NoPlace_NoTie => kit_is)
    (case h_ki_NoPlace_OddRing => kit_is)
    (case h_ss_NoPlace => k_is)
    (case h_x_BadPairs => k_exc)
    (case h_kp_BadPairs => k_is)
    (case h_sb_BadPairs => k_is)
    (case h_ty_BadPairs => k_is)
    (case h_ic_BadPairs => k_is)
    (case h_e1_BadPairs => k_is)
    (case h_e2_BadPairs => k_is)
    (case h_e4_BadPairs => k_is)
    (case h_e5_BadPairs => k_is)
    (case h_e8_BadPairs => k_is)
    (case h_ve_BadPairs => kit_is)
    (case h_ki_BadPairs_NetError => kit_is)
    (case h_ki_BadPairs_BadNet => kit_is)
    (case h_ki_BadPairs_NoPlace => kit_is)
    (case h_ki_BadPairs_BadPairs => kit_is)
    (case h_ki_BadPairs_BadWay => kit_is)
    (case h_ki_BadPairs_TieThere => kit_is)
    (case h_ki_BadPairs_NoTie => kit_is)
    (case h_ki_BadPairs_OddRing => kit_is)
    (case h_ss_BadPairs => k_is)
    (case h_x_BadWay => k_exc)
    (case h_kp_BadWay => k_is)
    (case h_sb_BadWay => k_is)
    (case h_ty_BadWay => k_is)
    (case h_ic_BadWay => k_is)
    (case h_e1_BadWay => k_is)
    (case h_e2_BadWay => k_is)
    (case h_e4_BadWay => k_is)
    (case h_e5_BadWay => k_is)
    (case h_e8_BadWay => k_is)
    (case h_ve_BadWay => kit_is)
    (case h_ki_BadWay_NetError => kit_is)
    (case h_ki_BadWay_BadNet => kit_is)
    (case h_ki_BadWay_NoPlace => kit_is)
    (case h_ki_BadWay_BadPairs => kit_is)
    (case h_ki_BadWay_BadWay => kit_is)
    (case h_ki_BadWay_TieThere => kit_is)
    (case h_ki_BadWay_NoTie => kit_is)
    (case h_ki_BadWay_OddRing => kit_is)
    (case h_ss_BadWay => k_is)
    (case h_x_TieThere => k_exc)
    (case h_kp_TieThere => k_is)
    (case h_sb_TieThere => k_is)
    (case h_ty_TieThere => k_is)
    (case h_ic_TieThere => k_is)
    (case h_e1_TieThere => k_is)
    (case h_e2_TieThere => k_is)
    (case h_e4_TieThere => k_is)
    (case h_e5_TieThere => k_is)
    (case h_e8_TieThere => k_is)
    (case h_ve_TieThere => kit_is)
    (case h_ki_TieThere_NetError => kit_is)
    (case h_ki_TieThere_BadNet => kit_is)
    (case h_ki_TieThere_NoPlace => kit_is)
    (case h_ki_TieThere_BadPairs => kit_is)
    (case h_ki_TieThere_BadWay => kit_is)
    (case h_ki_TieThere_TieThere => kit_is)
    (case h_ki_TieThere_NoTie => kit_is)
    (case h_ki_TieThere_OddRing => kit_is)
    (case h_ss_TieThere => k_is)
    (case h_x_NoTie => k_exc)
    (case h_kp_NoTie => k_is)
    (case h_sb_NoTie => k_is)
    (case h_ty_NoTie => k_is)
    (case h_ic_NoTie => k_is)
    (case h_e1_NoTie => k_is)
    (case h_e2_NoTie => k_is)
    (case h_e4_NoTie => k_is)
    (case h_e5_NoTie => k_is)
    (case h_e8_NoTie => k_is)
    (case h_ve_NoTie => kit_is)
    (case h_ki_NoTie_NetError => kit_is)
    (case h_ki_NoTie_BadNet => kit_is)
    (case h_ki_NoTie_NoPlace => kit_is)
    (case h_ki_NoTie_BadPairs => kit_is)
    (case h_ki_NoTie_BadWay => kit_is)
    (case h_ki_NoTie_TieThere => kit_is)
    (case h_ki_NoTie_NoTie => kit_is)
    (case h_ki_NoTie_OddRing => kit_is)
    (case h_ss_NoTie => k_is)
    (case h_x_OddRing => k_exc)
    (case h_kp_OddRing => k_is)
    (case h_sb_OddRing => k_is)
    (case h_ty_OddRing => k_is)
    (case h_ic_OddRing => k_is)
    (case h_e1_OddRing => k_is)
    (case h_e2_OddRing => k_is)
    (case h_e4_OddRing => k_is)
    (case h_e5_OddRing => k_is)
    (case h_e8_OddRing => k_is)
    (case h_ve_OddRing => kit_is)
    (case h_ki_OddRing_NetError => kit_is)
    (case h_ki_OddRing_BadNet => kit_is)
    (case h_ki_OddRing_NoPlace => kit_is)
    (case h_ki_OddRing_BadPairs => kit_is)
    (case h_ki_OddRing_BadWay => kit_is)
    (case h_ki_OddRing_TieThere => kit_is)
    (case h_ki_OddRing_NoTie => kit_is)
    (case h_ki_OddRing_OddRing => kit_is)
    (case h_ss_OddRing => k_is)
    (case h_e6 => k_is)
    (case h_e7 => k_is)
    (case h_pg_Net => k_is)
    (case h_hd_Net => k_is)
    (case h_po_Net => k_is)
    (case h_sa_Net => k_is)
    (case h_mk_Net => k_is)
    (case h_kc_Net => k_is)
    (case h_na_Net_size => k_is)
    (case h_na_Net_near => k_is)
    (case h_oc_Net => k_is)
    (case h_om_Net => k_is)
    (case h_pg_Search => k_is)
    (case h_hd_Search => k_is)
    (case h_po_Search => k_is)
    (case h_sa_Search => k_is)
    (case h_mk_Search => k_is)
    (case h_kc_Search => k_is)
    (case h_na_Search_web => k_is)
    (case h_na_Search_mates => k_is)
    (case h_na_Search_root => k_is)
    (case h_na_Search_base => k_is)
    (case h_na_Search_above => k_is)
    (case h_na_Search_outer => k_is)
    (case h_a_is_whole => k_is)
    (case h_l_is_whole => k_is)
    (case h_c_is_whole => k_is)
    (case h_k_is_whole => k_is)
    (case h_a_is_place => k_is)
    (case h_l_is_place => k_is)
    (case h_c_is_place => k_is)
    (case h_k_is_place => k_is)
    (case h_a_is_tie => k_is)
    (case h_l_is_tie => k_is)
    (case h_c_is_tie => k_is)
    (case h_k_is_tie => k_is)
    (case h_a_Net_init => k_is)
    (case h_i_Net_init => k_is)
    (case h_l_Net_init => k_is)
    (case h_c_Net_init => k_is)
    (case h_k_Net_init => k_is)
    (case h_a_Net_ties => k_is)
    (case h_i_Net_ties => k_is)
    (case h_l_Net_ties => k_is)
    (case h_c_Net_ties => k_is)
    (case h_k_Net_ties => k_is)
    (case h_a_need_place => k_is)
    (case h_l_need_place => k_is)
    (case h_c_need_place => k_is)
    (case h_k_need_place => k_is)
    (case h_a_Net_beside => k_is)
    (case h_i_Net_beside => k_is)
    (case h_l_Net_beside => k_is)
    (case h_c_Net_beside => k_is)
    (case h_k_Net_beside => k_is)
    (case h_a_part_of => k_is)
    (case h_l_part_of => k_is)
    (case h_c_part_of => k_is)
    (case h_k_part_of => k_is)
    (case h_a_parts => k_is)
    (case h_l_parts => k_is)
    (case h_c_parts => k_is)
    (case h_k_parts => k_is)
    (case h_a_shown => k_is)
    (case h_l_shown => k_is)
    (case h_c_shown => k_is)
    (case h_k_shown => k_is)
    (case h_a_number_of => k_is)
    (case h_l_number_of => k_is)
    (case h_c_number_of => k_is)
    (case h_k_number_of => k_is)
    (case h_a_tie_of => k_is)
    (case h_l_tie_of => k_is)
    (case h_c_tie_of => k_is)
    (case h_k_tie_of => k_is)
    (case h_a_read => k_is)
    (case h_l_read => k_is)
    (case h_c_read => k_is)
    (case h_k_read => k_is)
    (case h_a_pairs_of => k_is)
    (case h_l_pairs_of => k_is)
    (case h_c_pairs_of => k_is)
    (case h_k_pairs_of => k_is)
    (case h_a_turned_mates => k_is)
    (case h_l_turned_mates => k_is)
    (case h_c_turned_mates => k_is)
    (case h_k_turned_mates => k_is)
    (case h_a_Search_init => k_is)
    (case h_i_Search_init => k_is)
    (case h_l_Search_init => k_is)
    (case h_c_Search_init => k_is)
    (case h_k_Search_init => k_is)
    (case h_a_Search_is_inner => k_is)
    (case h_i_Search_is_inner => k_is)
    (case h_l_Search_is_inner => k_is)
    (case h_c_Search_is_inner => k_is)
    (case h_k_Search_is_inner => k_is)
    (case h_a_Search_bases_up => k_is)
    (case h_i_Search_bases_up => k_is)
    (case h_l_Search_bases_up => k_is)
    (case h_c_Search_bases_up => k_is)
    (case h_k_Search_bases_up => k_is)
    (case h_a_Search_meet => k_is)
    (case h_i_Search_meet => k_is)
    (case h_l_Search_meet => k_is)
    (case h_c_Search_meet => k_is)
    (case h_k_Search_meet => k_is)
    (case h_a_Search_mark => k_is)
    (case h_i_Search_mark => k_is)
    (case h_l_Search_mark => k_is)
    (case h_c_Search_mark => k_is)
    (case h_k_Search_mark => k_is)
    (case h_a_Search_close => k_is)
    (case h_i_Search_close => k_is)
    (case h_l_Search_close => k_is)
    (case h_c_Search_close => k_is)
    (case h_k_Search_close => k_is)
    (case h_a_Search_look => k_is)
    (case h_i_Search_look => k_is)
    (case h_l_Search_look => k_is)
    (case h_c_Search_look => k_is)
    (case h_k_Search_look => k_is)
    (case h_a_Search_end => k_is)
    (case h_i_Search_end => k_is)
    (case h_l_Search_end => k_is)
    (case h_c_Search_end => k_is)
    (case h_k_Search_end => k_is)
    (case h_a_Search_way => k_is)
    (case h_i_Search_way => k_is)
    (case h_l_Search_way => k_is)
    (case h_c_Search_way => k_is)
    (case h_k_Search_way => k_is)
    (case h_a_way_for => k_is)
    (case h_l_way_for => k_is)
    (case h_c_way_for => k_is)
    (case h_k_way_for => k_is)
    (case h_a_met_outer => k_is)
    (case h_l_met_outer => k_is)
    (case h_c_met_outer => k_is)
    (case h_k_met_outer => k_is)
    (case h_a_grown => k_is)
    (case h_l_grown => k_is)
    (case h_c_grown => k_is)
    (case h_k_grown => k_is)
    (case h_a_most => k_is)
    (case h_l_most => k_is)
    (case h_c_most => k_is)
    (case h_k_most => k_is)
    (case h_a_greatest => k_is)
    (case h_l_greatest => k_is)
    (case h_c_greatest => k_is)
    (case h_k_greatest => k_is)
    (case h_a_fence => k_is)
    (case h_l_fence => k_is)
    (case h_c_fence => k_is)
    (case h_k_fence => k_is)
    (case h_a_l_sole => k_is)
    (case h_l_l_sole => k_is)
    (case h_c_l_sole => k_is)
    (case h_k_l_sole => k_is)
    (case h_a_l_cell_at => k_is)
    (case h_l_l_cell_at => k_is)
    (case h_c_l_cell_at => k_is)
    (case h_k_l_cell_at => k_is)
    (case h_a_l_tied => k_is)
    (case h_l_l_tied => k_is)
    (case h_c_l_tied => k_is)
    (case h_k_l_tied => k_is)
    (case h_a_l_ties_by => k_is)
    (case h_l_l_ties_by => k_is)
    (case h_c_l_ties_by => k_is)
    (case h_k_l_ties_by => k_is)
    (case h_a_l_size_by => k_is)
    (case h_l_l_size_by => k_is)
    (case h_c_l_size_by => k_is)
    (case h_k_l_size_by => k_is)
    (case h_a_l_kind_by => k_is)
    (case h_l_l_kind_by => k_is)
    (case h_c_l_kind_by => k_is)
    (case h_k_l_kind_by => k_is)
    (case h_a_l_great => k_is)
    (case h_l_l_great => k_is)
    (case h_c_l_great => k_is)
    (case h_k_l_great => k_is)
    (case h_a_l_net_by => k_is)
    (case h_l_l_net_by => k_is)
    (case h_c_l_net_by => k_is)
    (case h_k_l_net_by => k_is)
    (case h_a_l_figures => k_is)
    (case h_l_l_figures => k_is)
    (case h_c_l_figures => k_is)
    (case h_k_l_figures => k_is)
    (case h_a_l_text => k_is)
    (case h_l_l_text => k_is)
    (case h_c_l_text => k_is)
    (case h_k_l_text => k_is)
    (case h_a_l_number => k_is)
    (case h_l_l_number => k_is)
    (case h_c_l_number => k_is)
    (case h_k_l_number => k_is)
    (case h_a_l_tie => k_is)
    (case h_l_l_tie => k_is)
    (case h_c_l_tie => k_is)
    (case h_k_l_tie => k_is)
    (case h_a_l_net_of => k_is)
    (case h_l_l_net_of => k_is)
    (case h_c_l_net_of => k_is)
    (case h_k_l_net_of => k_is)
    (case h_a_l_refused => k_is)
    (case h_l_l_refused => k_is)
    (case h_c_l_refused => k_is)
    (case h_k_l_refused => k_is)
    (case h_a_l_read_alike => k_is)
    (case h_l_l_read_alike => k_is)
    (case h_c_l_read_alike => k_is)
    (case h_k_l_read_alike => k_is)
    (case h_a_l_changed => k_is)
    (case h_l_l_changed => k_is)
    (case h_c_l_changed => k_is)
    (case h_k_l_changed => k_is)
    (case h_a_law => k_is)
    (case h_l_law => k_is)
    (case h_c_law => k_is)
    (case h_k_law => k_is)
    (case h_a_MOST_PLACES => k_is)
    (case h_a_FIGURES => k_is)
    (case h_z_ValueError => k_is)
    (case h_z_all => k_is)
    (case h_z_any => k_is)
    (case h_z_bool => k_is)
    (case h_z_int => k_is)
    (case h_z_isinstance => k_is)
    (case h_z_len => k_is)
    (case h_z_list => k_is)
    (case h_z_range => k_is)
    (case h_z_set => k_is)
    (case h_z_sorted => k_is)
    (case h_z_str => k_is)
    (case h_z_tuple => k_is)
