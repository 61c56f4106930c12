import PyProof.Rows.All
import Wide.All
import OpenK.AllK
import Wide.FinOn
import HandS.ForMost
import HandS.TupSets
import HandS.SortInts
import HandS.NamedTupSort
import HandS.DictComp
import HandS.SetKeys
import HandS.DictTup
import HandS.Conv
import HandS.Walk
import HandS.Zip
import KE.GoesEnum
import PyProof.DictMoreH
import KE.KDictWalk
import KE.GoesZip
import HandS.TupLen
import HandS.TupAny
import HandS.Style
import HandS.Property
import HandS.Exc
import HandS.Defaults
import HandS.Evl
import KE.KStateDown
import HandS.Head0
import HandS.Head1
import HandS.Head2
import HandS.HeadEnd
import HandS.HeadHook1
import HandS.HeadHook2
import PySem.Challenge.RW_pilereach_k92_whole_came_is_judged
set_option Elab.async false
set_option linter.all false
set_option maxRecDepth 100000
set_option maxHeartbeats 2000000
/-! Sets of int tuples of any size below 4,000: the table is searched, filled and laid anew without getting stuck. -/
namespace Zs
open PySem L2

/-! ### 5 x + 1 goes round all of the powers of two -/
def xp : Nat → Nat
  | 0 => 0
  | n + 1 => 5 * xp n + 1
theorem xp_add (a : Nat) : ∀ b, xp (a + b) = 5 ^ b * xp a + xp b
  | 0 => by simp [xp]
  | b + 1 => by
    show 5 * xp (a + b) + 1 = 5 ^ (b + 1) * xp a + (5 * xp b + 1)
    rw [xp_add a b, Nat.pow_succ, Nat.mul_add, Nat.mul_comm (5 ^ b) 5, Nat.mul_assoc]
    omega
theorem five_pow (n : Nat) : ∃ q, 5 ^ n = 4 * q + 1 := by
  induction n with
  | zero => exact ⟨0, rfl⟩
  | succ n ih =>
    obtain ⟨q, h⟩ := ih
    exact ⟨5 * q + 1, by rw [Nat.pow_succ, h]; omega⟩
theorem xp_pow (j : Nat) : ∃ q, xp (2 ^ j) = 2 ^ j * (2 * q + 1) := by
  induction j with
  | zero => exact ⟨0, rfl⟩
  | succ j ih =>
    obtain ⟨q, h⟩ := ih
    obtain ⟨p, hp⟩ := five_pow (2 ^ j)
    refine ⟨p * (2 * q + 1) + q, ?_⟩
    have e : 2 ^ (j + 1) = 2 ^ j + 2 ^ j := by rw [Nat.pow_succ]; omega
    rw [e, xp_add, hp, h]
    generalize 2 ^ j = N
    have a1 : (4 * p + 1) * (N * (2 * q + 1)) = 4 * (N * (p * (2 * q + 1))) + N * (2 * q + 1) := by
      rw [Nat.add_mul, Nat.one_mul, Nat.mul_assoc, Nat.mul_left_comm p N]
    have a2 : (N + N) * (2 * (p * (2 * q + 1) + q) + 1) = 4 * (N * (p * (2 * q + 1))) + 2 * (N * (2 * q + 1)) := by
      have b1 : 2 * (p * (2 * q + 1) + q) + 1 = 2 * (p * (2 * q + 1)) + (2 * q + 1) := by omega
      rw [b1, Nat.mul_add, Nat.add_mul, Nat.add_mul]
      have b2 : N * (2 * (p * (2 * q + 1))) = 2 * (N * (p * (2 * q + 1))) := by rw [Nat.mul_left_comm]
      rw [b2]
      omega
    rw [a1, a2]
    omega
theorem split2 {N r j : Nat} (hN : 0 < N) (hr : r < 2 * N) (hj : j < 2 * N) (h : r % N = j % N) : r = j ∨ r = j + N ∨ j = r + N := by
  have e1 := Nat.div_add_mod r N
  have e2 := Nat.div_add_mod j N
  have d1 : r / N < 2 := (Nat.div_lt_iff_lt_mul hN).mpr hr
  have d2 : j / N < 2 := (Nat.div_lt_iff_lt_mul hN).mpr hj
  rw [h] at e1
  generalize r / N = x at e1 d1
  generalize j / N = y at e2 d2
  have c1 : x = 0 ∨ x = 1 := by omega
  have c2 : y = 0 ∨ y = 1 := by omega
  rcases c1 with c1 | c1 <;> rcases c2 with c2 | c2 <;> rw [c1] at e1 <;> rw [c2] at e2 <;> simp at e1 e2 <;> omega
theorem cover (k : Nat) : ∀ j, j < 2 ^ k → ∃ b, b < 2 ^ k ∧ xp b % 2 ^ k = j := by
  induction k with
  | zero =>
    intro j hj
    exact ⟨0, by decide, by simp at hj; subst hj; rfl⟩
  | succ k ih =>
    intro j hj
    have hN : 0 < 2 ^ k := Nat.two_pow_pos k
    have e2 : 2 ^ (k + 1) = 2 * 2 ^ k := by rw [Nat.pow_succ]; omega
    obtain ⟨b, hb, e⟩ := ih (j % 2 ^ k) (Nat.mod_lt _ hN)
    obtain ⟨q, hq⟩ := xp_pow k
    obtain ⟨p, hp⟩ := five_pow b
    have hx : ∃ s, xp (2 ^ k + b) = 2 * 2 ^ k * s + 2 ^ k + xp b := by
      rw [xp_add, hp, hq]
      refine ⟨(4 * p + 1) * q + 2 * p, ?_⟩
      generalize 2 ^ k = N
      have a1 : (4 * p + 1) * (N * (2 * q + 1)) = N * ((4 * p + 1) * (2 * q + 1)) := Nat.mul_left_comm _ _ _
      have a2 : (4 * p + 1) * (2 * q + 1) = 2 * ((4 * p + 1) * q + 2 * p) + 1 := by
        rw [Nat.mul_add, Nat.mul_one, Nat.mul_left_comm]
        omega
      rw [a1, a2, Nat.mul_add, Nat.mul_one, ← Nat.mul_assoc, Nat.mul_comm N 2]
    obtain ⟨s, hs⟩ := hx
    have hr : xp b % (2 * 2 ^ k) < 2 * 2 ^ k := Nat.mod_lt _ (by omega)
    have hm : xp b % (2 * 2 ^ k) % 2 ^ k = j % 2 ^ k := by
      rw [Nat.mod_mod_of_dvd _ ⟨2, Nat.mul_comm _ _⟩]
      exact e
    rw [e2] at hj ⊢
    have hx2 : xp (2 ^ k + b) % (2 * 2 ^ k) = (2 ^ k + xp b % (2 * 2 ^ k)) % (2 * 2 ^ k) := by
      rw [hs, Nat.add_assoc, Nat.mul_add_mod, Nat.add_mod_mod]
    rcases split2 hN hr hj hm with h | h | h
    · exact ⟨b, by omega, h⟩
    · refine ⟨2 ^ k + b, by omega, ?_⟩
      rw [hx2, h, show 2 ^ k + (j + 2 ^ k) = 2 * 2 ^ k + j by omega, Nat.add_mod_left, Nat.mod_eq_of_lt hj]
    · refine ⟨2 ^ k + b, by omega, ?_⟩
      rw [hx2, show 2 ^ k + xp b % (2 * 2 ^ k) = j by omega, Nat.mod_eq_of_lt hj]
theorem lcgN_xp (m : Nat) : ∀ k, lcgN m k = xp k % (m + 1)
  | 0 => by simp [lcgN, xp]
  | k + 1 => by
    show (lcgN m k * 5 + 1) % (m + 1) = (5 * xp k + 1) % (m + 1)
    rw [lcgN_xp m k, Nat.mul_comm 5]
    simp [Nat.add_mod, Nat.mul_mod]
/-- the masks that come -/
def MO (m : Nat) : Prop := m = 7 ∨ m = 31 ∨ m = 127 ∨ m = 511 ∨ m = 2047 ∨ m = 8191
theorem MO.pow {m : Nat} (h : MO m) : ∃ k, m + 1 = 2 ^ k := by
  rcases h with h | h | h | h | h | h <;> subst h
  · exact ⟨3, rfl⟩
  · exact ⟨5, rfl⟩
  · exact ⟨7, rfl⟩
  · exact ⟨9, rfl⟩
  · exact ⟨11, rfl⟩
  · exact ⟨13, rfl⟩
theorem MO.odd {m : Nat} (h : MO m) : m % 2 = 1 := by
  rcases h with h | h | h | h | h | h <;> subst h <;> rfl
theorem round_all {m : Nat} (hm : MO m) {i j : Nat} (hi : i ≤ m) (hj : j ≤ m) : ∃ k, k ≤ m ∧ lcgI m i k = j := by
  obtain ⟨e, he⟩ := hm.pow
  obtain ⟨a, ha, ea⟩ := cover e i (by omega)
  obtain ⟨b, hb, eb⟩ := cover e j (by omega)
  rw [← he] at ha hb ea eb
  rw [← lcgN_xp] at ea eb
  rcases Nat.lt_or_ge b a with c | c
  · refine ⟨m + 1 + b - a, by omega, ?_⟩
    rw [← ea, lcgN_add, show a + (m + 1 + b - a) = (m + 1) + b by omega, lcgN_xp, xp_add]
    obtain ⟨q, hq⟩ := xp_pow e
    rw [← eb, lcgN_xp]
    have h1 : xp (m + 1) = (m + 1) * (2 * q + 1) := by rw [he]; exact hq
    rw [h1, Nat.mul_left_comm, Nat.mul_add_mod]
  · exact ⟨b - a, by omega, by rw [← ea, lcgN_add, show a + (b - a) = b by omega]; exact eb⟩
theorem runs_all {m : Nat} (hm : MO m) (h : Int) {j : Nat} (hj : j ≤ m) : ∃ n, n ≤ m + 12 ∧ runI m (SetTable.bits h) n = j := by
  obtain ⟨k, hk, e⟩ := round_all hm (runI_le m (SetTable.bits h) 12) hj
  exact ⟨12 + k, by omega, (runI_tail (bits_lt h) k).trans e⟩
theorem slots_all {m : Nat} (hm : MO m) (h : Int) {j : Nat} (hj : j ≤ m) : ∃ k, k < 10 * SetTable.turns m ∧ way m h k = j := by
  obtain ⟨n, hn, e⟩ := runs_all hm h hj
  obtain ⟨k, hk, e2⟩ := run_nth m (SetTable.bits h) n
  refine ⟨k, by unfold SetTable.turns; omega, ?_⟩
  show (nth m _ k).j = j
  rw [e2]
  exact e
theorem way_in {m : Nat} (h : Int) (k : Nat) : way m h k ≤ m := by
  have hb := (runEnd_bd (m := m) (i := SetTable.bits h % (m + 1)) (Nat.le_of_lt_succ (Nat.mod_lt _ (Nat.succ_pos m))))
  have := nth_in (m := m) k (runAt m (SetTable.bits h % (m + 1)) (SetTable.bits h)) (by
    show SetTable.bits h % (m + 1) + (SetTable.runEnd m (SetTable.bits h % (m + 1)) - SetTable.bits h % (m + 1)) ≤ m
    omega)
  exact Nat.le_trans (Nat.le_add_right _ _) this

/-! ### the table -/
structure Tab (t : SetTable) (n : Nat) : Prop where
  ris : Ris t.place.toList
  dm : t.dummies = #[]
  sz : t.place.size = n
  mok : MO t.mask
  bd : ∀ x ∈ t.place.toList, x ≤ t.mask
theorem Tab.first {t : SetTable} {n : Nat} (T : Tab t n) (hl : n ≤ t.mask) (h : Int) : ∃ K, K < 10 * SetTable.turns t.mask ∧ way t.mask h K ∉ t.place.toList ∧ ∀ k, k < K → way t.mask h k ∈ t.place.toList := by
  obtain ⟨j, hj, hn⟩ := st_missing t.place.toList (t.mask + 1) (by rw [Array.length_toList, T.sz]; omega)
  obtain ⟨k, hk, e⟩ := slots_all T.mok h (Nat.le_of_lt_succ hj)
  obtain ⟨K, h1, h2, h3⟩ := st_least (p := fun k => way t.mask h k ∉ t.place.toList) k (by
    show way t.mask h k ∉ _
    rw [e]
    exact hn)
  exact ⟨K, by omega, h2, fun k' hk' => Classical.byContradiction fun c => h3 k' hk' c⟩
theorem Tab.put {t : SetTable} {n j : Nat} (T : Tab t n) (hj : j ≤ t.mask) (hn : j ∉ t.place.toList) :
    (t.put j).2 = SetTable.below t.place j ∧ Tab (t.put j).1 (n + 1) ∧ (t.put j).1.mask = t.mask ∧ (t.put j).1.led = t.led ∧ (t.put j).1.plain = t.plain ∧ (t.put j).1.fill = n + 1 := by
  obtain ⟨c1, _, _⟩ := below_cut T.ris j
  have hpl : SetTable.below t.place j ≤ t.place.toList.length := by rw [Array.length_toList]; exact c1
  have hnp : t.place[SetTable.below t.place j]? ≠ some j := fun e => hn (List.mem_of_getElem? ((Array.getElem?_toList ..).trans e))
  have hpp := put_place t j
  have hsize : (t.put j).1.place.size = n + 1 := by
    rw [← Array.length_toList, hpp, len_ins _ hpl, Array.length_toList, T.sz]
  refine ⟨rfl, ⟨ris_insert T.ris hnp, put_dm T.dm j, hsize, T.mok, fun x hx => ?_⟩, rfl, rfl, rfl, ?_⟩
  · rw [hpp] at hx
    rcases mem_ins.1 hx with z | z
    · rw [z]; exact hj
    · exact T.bd x z
  · show (t.put j).1.place.size + (t.put j).1.dummies.size = n + 1
    rw [hsize, put_dm T.dm j]
    rfl

/-! ### laid anew -/
theorem free_at {m : Nat} (hm : MO m) (owner : Array (Option Nat)) (h : Int) {j : Nat} (hj : j ≤ m) (hf : oAt owner j = none) :
    ∃ p, p ≤ m ∧ SetTable.layClean.free m owner (SetTable.turns m) (SetTable.bits h % (m + 1)) (SetTable.bits h) = some p ∧ oAt owner p = none := by
  obtain ⟨n, hn, e⟩ := runs_all hm h hj
  have hw : way m h (off m (SetTable.bits h % (m + 1)) (SetTable.bits h) n) = j := by
    show (nth m _ _).j = j
    rw [nth_off, itL_run]
    exact e
  obtain ⟨K, k1, k2, k3⟩ := st_least (p := fun k => oAt owner (way m h k) = none) (off m (SetTable.bits h % (m + 1)) (SetTable.bits h) n) (by
    show oAt owner (way m h _) = none
    rw [hw]
    exact hf)
  refine ⟨way m h K, way_in h K, free_spec m owner (SetTable.turns m) n _ _ K (by unfold SetTable.turns; omega) k1 (fun k hk => ?_) ?_, k2⟩
  · cases z : oAt owner (nth m (runAt m (SetTable.bits h % (m + 1)) (SetTable.bits h)) k).j with
    | none => exact absurd z (k3 k hk)
    | some _ => rfl
  · show (oAt owner (way m h K)).isNone = true
    rw [k2]
    rfl
/-- n of them sit -/
structure Sit (m n : Nat) (owner : Array (Option Nat)) : Prop where
  sz : owner.size = m + 1
  all : ∀ k, k < n → ∃ j, j ≤ m ∧ oAt owner j = some k
  ps : ∃ ps : List Nat, ps.length = n ∧ ∀ j, j ≤ m → oAt owner j ≠ none → j ∈ ps
theorem Sit.step {m n : Nat} (hm : MO m) {owner : Array (Option Nat)} (W : Sit m n owner) (hl : n ≤ m) (h : Int) :
    ∃ j, SetTable.layClean.free m owner (SetTable.turns m) (SetTable.bits h % (m + 1)) (SetTable.bits h) = some j ∧ Sit m (n + 1) (owner.setIfInBounds j (some n)) := by
  obtain ⟨ps, hps, hin⟩ := W.ps
  obtain ⟨j0, h0, hn0⟩ := st_missing ps (m + 1) (by omega)
  have hj0 : oAt owner j0 = none := Classical.byContradiction fun c => hn0 (hin j0 (Nat.le_of_lt_succ h0) c)
  obtain ⟨p, hp, e1, e2⟩ := free_at hm owner h (Nat.le_of_lt_succ h0) hj0
  have hps2 : p < owner.size := by rw [W.sz]; omega
  have hself := oAt_set_self (some n) hps2
  refine ⟨p, e1, by rw [Array.size_setIfInBounds]; exact W.sz, fun k hk => ?_, p :: ps, by rw [List.length_cons, hps], fun j hj e => ?_⟩
  · by_cases c : k < n
    · obtain ⟨j, hj, e⟩ := W.all k c
      have hne : j ≠ p := fun z => by rw [z, e2] at e; cases e
      exact ⟨j, hj, (oAt_set_ne _ hne).trans e⟩
    · exact ⟨p, hp, by rw [hself, show k = n by omega]⟩
  · by_cases c : j = p
    · rw [c]; exact List.mem_cons_self
    · rw [oAt_set_ne _ c] at e
      exact List.mem_cons_of_mem _ (hin j hj e)
theorem sit_fold {m : Nat} (hm : MO m) : ∀ (hs : List Int) (n : Nat) (owner : Array (Option Nat)), Sit m n owner → n + hs.length ≤ m →
    ∃ owner', hs.foldl (stepF m) (some (owner, n)) = some (owner', n + hs.length) ∧ Sit m (n + hs.length) owner'
  | [], n, owner, W, _ => ⟨owner, rfl, W⟩
  | h :: hs, n, owner, W, hl => by
    rw [List.length_cons] at hl
    obtain ⟨j, e, W'⟩ := W.step hm (by omega) h
    obtain ⟨owner', f, W2⟩ := sit_fold hm hs (n + 1) _ W' (by omega)
    have en : n + 1 + hs.length = n + (h :: hs).length := by rw [List.length_cons]; omega
    rw [en] at f W2
    exact ⟨owner', by rw [List.foldl_cons, stepF_some e]; exact f, W2⟩
theorem anew (t : SetTable) {hs : Array Int} {wanted M : Nat} (hw : SetTable.sizeAbove wanted - 1 = M) (hM : MO M) (hn : hs.size ≤ M) :
    ∃ t' order, t.relaid hs wanted = some (t', order) ∧ order.toList.Perm (List.range hs.size) ∧ Tab t' hs.size ∧ t'.mask = M ∧ t'.led = t.led ∧ t'.plain = t.plain := by
  obtain ⟨owner, f, W⟩ := sit_fold hM hs.toList 0 (Array.replicate (M + 1) none) ⟨by simp, fun k hk => absurd hk (Nat.not_lt_zero _), [], rfl, fun j hj e => absurd (oAt_init hj) e⟩ (by rw [Array.length_toList]; omega)
  rw [Nat.zero_add, Array.length_toList] at f W
  have e : SetTable.layClean M hs = some owner := by rw [layClean_eq, f]; rfl
  have hr : t.relaid hs wanted = some (tabOf t M owner, ((liveOf M owner).map (·.2)).toArray) := by
    rw [relaid_eq, hw, e]
    rfl
  have ris := ris_live (fun j => owner.getD j none) (List.range (M + 1)) List.pairwise_lt_range
  have r1 : Ris ((liveOf M owner).map (·.1)) := ris.1
  have r2 : ∀ x ∈ (liveOf M owner).map (·.1), x ∈ List.range (M + 1) := ris.2
  have nd : ((liveOf M owner).map (·.1)).Nodup := List.Pairwise.imp (fun h => Nat.ne_of_lt h) r1
  have in2 : ∀ k, k < hs.size → k ∈ (liveOf M owner).map (·.2) := fun k hk => by
    obtain ⟨j, b1, b2⟩ := W.all k hk
    exact List.mem_map.mpr ⟨(j, k), (mem_live W.sz).2 ⟨b1, b2⟩, rfl⟩
  have hlen : (liveOf M owner).length = hs.size := by
    obtain ⟨ps, p1, p2⟩ := W.ps
    have a := nat_nodup_len _ ps nd fun x hx => by
      obtain ⟨⟨y, k⟩, hq, rfl⟩ := List.mem_map.mp hx
      obtain ⟨b1, b2⟩ := (mem_live W.sz).1 hq
      exact p2 y b1 (by rw [b2]; exact fun z => nomatch z)
    have b := nat_nodup_len (List.range hs.size) _ List.nodup_range fun k hk => in2 k (List.mem_range.mp hk)
    rw [List.length_map] at a b
    rw [List.length_range] at b
    omega
  refine ⟨_, _, hr, perm_range hs.size _ ((List.length_map _).trans hlen) in2, ⟨r1, rfl, ?_, hM, fun x hx => Nat.le_of_lt_succ (List.mem_range.mp (r2 x hx))⟩, rfl, rfl, rfl⟩
  show ((liveOf M owner).map (·.1)).toArray.size = hs.size
  rw [List.size_toArray, List.length_map, hlen]
end Zs
set_option maxRecDepth 100000
set_option maxHeartbeats 4000000
namespace Zs
open PySem PySem.Spec PyProof.Rows L2
section
variable {P : Program} {w : World} {A : Around} {E : Value → Shared → Prop} {s : Shared}
/-- the set of int tuples at a: its rows L in the table's order -/
structure ST (P : Program) (w : World) (h : Heap) (a : Addr) (L : List (Addr × List Int)) (es : Array (Int × Value)) (ep : Nat) (t : SetTable) : Prop where
  ob : ∃ o, h.get? a = some o ∧ o.ExactSet ∧ o.data = .set es ep t
  rows : es.toList = rowsOf P w L
  tab : Tab t L.length
  tup : ∀ p ∈ L, IsT P w h p.2 p.1
  plain : t.plain = true
  led : w.params.followText "set-order" = true ∨ t.led = true
  room : L.length * 5 < t.mask * 3
  few : L.length < 4000
variable {a : Addr} {L : List (Addr × List Int)} {es : Array (Int × Value)} {ep : Nat} {t : SetTable}
theorem rows_size {es : Array (Int × Value)} {L : List (Addr × List Int)} (h : es.toList = rowsOf P w L) : es.size = L.length := by
  have q := congrArg List.length h
  unfold rowsOf at q
  rwa [Array.length_toList, List.length_map] at q
theorem Tab.fit {t : SetTable} {n : Nat} (T : Tab t n) (hn : n ≤ t.mask) : t.fits n = true := by
  have := T.sz
  simp only [SetTable.fits, SetTable.fill, T.dm, Bool.and_eq_true, beq_iff_eq, decide_eq_true_eq]
  exact ⟨this, by show t.place.size + 0 ≤ t.mask; omega⟩
theorem ST.fit (R : ST P w s.heap a L es ep t) : t.fits es.size = true := by
  have := R.room
  rw [rows_size R.rows]
  exact R.tab.fit (by omega)
theorem ST.at_ (R : ST P w s.heap a L es ep t) {i : Nat} {p : Addr × List Int} (h : L[i]? = some p) : es[i]? = some (thash P w p.2, Value.ref p.1) := by
  rw [← Array.getElem?_toList, R.rows]
  simp [rowsOf, h]
theorem nth_dummy (m : Nat) : ∀ (n : Nat) (p : SetTable.Probe), p.dummy = none → (nth m p n).dummy = none
  | 0, _, h => h
  | n + 1, p, h => nth_dummy m n (adv m p) (by unfold adv; split <;> exact h)
/-- the probe's n-th stand -/
abbrev stn (m : Nat) (h : Int) (n : Nat) : SetTable.Probe := nth m (runAt m (SetTable.bits h % (m + 1)) (SetTable.bits h)) n
theorem look (R : ST P w s.heap a L es ep t) {x : Addr} {k : List Int} (hx : IsT P w s.heap k x) (hu : A.units < cLine) {K : Nat} (hKf : K < 10 * SetTable.turns t.mask)
    (hK : way t.mask (thash P w k) K ∉ t.place.toList) (hKb : ∀ c, c < K → way t.mask (thash P w k) c ∈ t.place.toList) {Q : SetFound → Shared → Prop}
    (h1 : k ∈ L.map (·.2) → Q (.there none) s) (h2 : Q (.free (way t.mask (thash P w k) K) false) s) :
    ∀ (f c : Nat) (stand : Option SetTable.Probe), stand.getD (t.probeStart (thash P w k)) = stn t.mask (thash P w k) c → c ≤ K → K - c < f →
      wpAny (model P w) A (setSearchFrom a (.ref x) (thash P w k) true f stand) Q E s := by
  intro f
  induction f with
  | zero => intro c stand _ _ hf; exact absurd hf (Nat.not_lt_zero _)
  | succ f ih =>
    intro c stand hst hc hf
    obtain ⟨o, ho, hex, hd⟩ := R.ob
    rw [setSearchFrom_succ]
    refine wpAny_bind (wpAny_setState_of ho hd R.fit ?_)
    dsimp only
    refine wp_if_neg (by unfold SetTable.gaveWay; rw [R.tab.mok.odd]; decide) ?_
    try refine wpAny_bind (wpAny_pure ?_)
    have sh : ∀ q, nth t.mask (stn t.mask (thash P w k) c) q = stn t.mask (thash P w k) (c + q) := fun q => (nth_add t.mask c _ q).symm
    have e1 : ∀ q, (nth t.mask (stn t.mask (thash P w k) c) q).j = way t.mask (thash P w k) (c + q) := fun q => congrArg SetTable.Probe.j (sh q)
    rcases go_spec t R.tab.ris R.tab.dm (fun i => (es[i]?.map (·.1)).getD 0) (thash P w k) (10 * SetTable.turns t.mask) (K - c) (stn t.mask (thash P w k) c) (nth_dummy _ c _ rfl) (by omega)
      (fun q hq => by rw [e1]; exact hKb (c + q) (by omega)) (by rw [e1, show c + (K - c) = K by omega]; exact hK) with ⟨q, i, hq, hi, _, _, hpr⟩ | ⟨_, hpr⟩
    · have hpr' : t.probe (fun i => (es[i]?.map (·.1)).getD 0) (thash P w k) (stand.getD (t.probeStart (thash P w k))) = some (.candidate (way t.mask (thash P w k) (c + q)) i (stn t.mask (thash P w k) (c + (q + 1)))) := by
        rw [hst, ← e1, ← sh]
        exact hpr
      rw [hpr']
      dsimp only
      rw [e1] at hi
      have hil : i < L.length := by
        have z := (List.getElem?_eq_some_iff.mp hi).1
        rwa [Array.length_toList, R.tab.sz] at z
      obtain ⟨p, hp⟩ : ∃ p, L[i]? = some p := ⟨_, List.getElem?_eq_getElem hil⟩
      have hmem : p ∈ L := List.mem_of_getElem? hp
      have rest : wpAny (model P w) A (searchRest a (.ref x) (thash P w k) true f es t (way t.mask (thash P w k) (c + q)) i (stn t.mask (thash P w k) (c + (q + 1)))) Q E s := by
        unfold searchRest
        rw [R.at_ hp]
        dsimp only
        refine wpAny_bind (wpAny_holding (wpAny_eqBool_tuple hu (R.tup p hmem) hx ?_))
        refine wpAny_bind (wpAny_setState_of ho hd R.fit ?_)
        dsimp only
        by_cases hkk : p.2 = k
        · refine wp_if_pos (by simp [hkk]) ?_
          exact wpAny_pure (h1 (List.mem_map.mpr ⟨p, hmem, hkk⟩))
        · refine wp_if_neg (by simp [hkk]) ?_
          try refine wpAny_bind (wpAny_pure ?_)
          rw [sameMem]
          dsimp only
          simp only [if_true, slot_live R.tab.ris hi, R.at_ hp]
          refine wpAny_bind (wpAny_isSame_ref_self (wpAny_bind (wpAny_pure ?_)))
          simp only [if_true]
          refine wp_if_neg (by simp [hkk]) ?_
          exact ih (c + (q + 1)) _ rfl (by omega) (by omega)
      by_cases hl : t.led = true
      · refine wp_if_neg (by simp [hl]) ?_
        try refine wpAny_bind (wpAny_pure ?_)
        exact rest
      · refine wp_if_pos (by simp [hl]) ?_
        refine wpAny_bind (seen_tup hx (fun y hy => ?_) ?_)
        · obtain ⟨e, he, rfl⟩ := List.mem_map.mp hy
          have he2 : e ∈ es.toList := (by simpa using he : e ∈ es ∧ _).1 |> (by simpa using ·)
          rw [R.rows] at he2
          obtain ⟨p2, hp2, e2⟩ := List.mem_map.mp he2
          exact ⟨p2.2, p2.1, by rw [← e2], R.tup p2 hp2⟩
        · refine wp_if_neg (by decide) ?_
          try refine wpAny_bind (wpAny_pure ?_)
          exact rest
    · have hpr' : t.probe (fun i => (es[i]?.map (·.1)).getD 0) (thash P w k) (stand.getD (t.probeStart (thash P w k))) = some (.empty (way t.mask (thash P w k) K) none) := by
        have e2 : way t.mask (thash P w k) K = (nth t.mask (stn t.mask (thash P w k) c) (K - c)).j := by rw [e1, show c + (K - c) = K by omega]
        rw [hst, e2]
        exact hpr
      rw [hpr']
      dsimp only
      exact wpAny_pure h2
theorem look_all (R : ST P w s.heap a L es ep t) {x : Addr} {k : List Int} (hx : IsT P w s.heap k x) (hu : A.units < cLine) {Q : SetFound → Shared → Prop}
    (h1 : k ∈ L.map (·.2) → Q (.there none) s) (h2 : ∀ j, j ≤ t.mask → j ∉ t.place.toList → Q (.free j false) s) :
    wpAny (model P w) A (setSearch a (.ref x) (thash P w k) true) Q E s := by
  have hroom := R.room
  obtain ⟨K, hKf, hK, hKb⟩ := R.tab.first (by omega) (thash P w k)
  have hbig : 10 * SetTable.turns t.mask ≤ 90000 := by
    unfold SetTable.turns
    rcases R.tab.mok with e | e | e | e | e | e <;> omega
  unfold setSearch
  exact look R hx hu hKf hK hKb h1 (h2 _ (way_in _ _) hK) 100000 0 none rfl (Nat.zero_le _) (by omega)
/-- laid anew, larger -/
theorem relay {o : Obj} (ho : s.heap.get? a = some o) (hex : o.ExactSet) (hd : o.data = .set es ep t) (hrows : es.toList = rowsOf P w L) (T : Tab t L.length) (hfl : L.length ≤ t.mask)
    (tup : ∀ p ∈ L, IsT P w s.heap p.2 p.1) (pl : t.plain = true) (ld : w.params.followText "set-order" = true ∨ t.led = true) (few : L.length < 4000) {wanted M : Nat}
    (hw : SetTable.sizeAbove wanted - 1 = M) (hM : MO M) (hw2 : SetTable.sizeAbove wanted ≤ 8192) (hn : L.length * 5 < M * 3) {Q : Unit → Shared → Prop}
    (hQ : ∀ h' L' es' ep' t', Heap.SameBut a s.heap h' → ST P w h' a L' es' ep' t' → L'.Perm L → Q () { s with heap := h' }) : wpAny (model P w) A (setRelay a wanted) Q E s := by
  have hsl := rows_size hrows
  obtain ⟨t', order, e, hp, T', em, el, ep'⟩ := anew t (hs := es.map (·.1)) (wanted := wanted) hw hM (by rw [Array.size_map, hsl]; omega)
  rw [Array.size_map, hsl] at hp T'
  obtain ⟨L2, r1, r2, _⟩ := order_rows L es order hrows hp
  have hs2 : (order.filterMap (es[·]?)).size = es.size := by rw [rows_size r1, r2.length_eq, hsl]
  rw [setRelay_eq]
  refine wpAny_bind (wpAny_setState_of ho hd (by rw [hsl]; exact T.fit hfl) ?_)
  dsimp only
  refine wp_if_neg (by rw [sizeLine_eq]; omega) ?_
  try refine wpAny_bind (wpAny_pure ?_)
  rw [e]
  dsimp only
  refine wpAny_bind ?_
  refine wp_if_neg (by rw [hs2]; simp) ?_
  try refine wpAny_bind (wpAny_pure ?_)
  refine wpAny_pure ?_
  dsimp only
  refine wpAny_storeSet_of ho hd ?_ (by rw [hs2, hsl, sizeLine_eq]; omega)
  have sb := Heap.SameBut.update s.heap a (Obj.putSet (order.filterMap (es[·]?)) t')
  refine hQ _ L2 _ (ep + 1) t' sb ⟨⟨_, store_at ho hd, ⟨hex.1, hex.2.1, hex.2.2⟩, rfl⟩, r1, by rw [r2.length_eq]; exact T', fun p hpm => isT_same (tup p (r2.mem_iff.mp hpm)) ho hd sb, by rw [ep']; exact pl, by rw [el]; exact ld, ?_, by rw [r2.length_eq]; exact few⟩ r2
  rw [r2.length_eq, em]
  exact hn
theorem sz5 : SetTable.sizeAbove (SetTable.grown 5) = 32 := by decide
theorem sz19 : SetTable.sizeAbove (SetTable.grown 19) = 128 := by decide
theorem sz77 : SetTable.sizeAbove (SetTable.grown 77) = 512 := by decide
theorem sz307 : SetTable.sizeAbove (SetTable.grown 307) = 2048 := by decide
theorem sz1229 : SetTable.sizeAbove (SetTable.grown 1229) = 8192 := by decide
/-- which size comes next -/
theorem next_size {m n : Nat} (h : MO m) (h1 : n * 5 < m * 3) (h2 : (n + 1) * 5 ≥ m * 3) (h3 : n + 1 < 4000) :
    ∃ M, SetTable.sizeAbove (SetTable.grown (n + 1)) - 1 = M ∧ MO M ∧ SetTable.sizeAbove (SetTable.grown (n + 1)) ≤ 8192 ∧ (n + 1) * 5 < M * 3 ∧ n + 1 ≤ m := by
  rcases h with e | e | e | e | e | e
  · have : n = 4 := by omega
    subst this e
    exact ⟨31, by rw [sz5], .inr (.inl rfl), by rw [sz5]; decide, by decide, by decide⟩
  · have : n = 18 := by omega
    subst this e
    exact ⟨127, by rw [sz19], .inr (.inr (.inl rfl)), by rw [sz19]; decide, by decide, by decide⟩
  · have : n = 76 := by omega
    subst this e
    exact ⟨511, by rw [sz77], .inr (.inr (.inr (.inl rfl))), by rw [sz77]; decide, by decide, by decide⟩
  · have : n = 306 := by omega
    subst this e
    exact ⟨2047, by rw [sz307], .inr (.inr (.inr (.inr (.inl rfl)))), by rw [sz307]; decide, by decide, by decide⟩
  · have : n = 1228 := by omega
    subst this e
    exact ⟨8191, by rw [sz1229], .inr (.inr (.inr (.inr (.inr rfl)))), by rw [sz1229]; decide, by decide, by decide⟩
  · exfalso; omega
/-- one more -/
theorem add (R : ST P w s.heap a L es ep t) {x : Addr} {k : List Int} (hx : IsT P w s.heap k x) (hu : A.units < cLine) (hfew : L.length + 1 < 4000) {Q : Bool → Shared → Prop}
    (hQ : ∀ b h' L' es' ep' t', Heap.SameBut a s.heap h' → ST P w h' a L' es' ep' t' → (L' = L ∧ k ∈ L.map (·.2)) ∨ L'.Perm ((x, k) :: L) → Q b { s with heap := h' }) :
    wpAny (model P w) A (setAddHashed a (.ref x) (thash P w k)) Q E s := by
  obtain ⟨o, ho, hex, hd⟩ := R.ob
  have hsl := rows_size R.rows
  have hroom := R.room
  unfold setAddHashed
  refine wpAny_holding ?_
  rw [show (100000 : Nat) = 99999 + 1 from rfl, setAddHashedIn_succ]
  refine wpAny_bind (wpAny_setState_of ho hd R.fit ?_)
  dsimp only
  refine wp_if_neg (by simp [byScan, Value.scannable]) ?_
  try refine wpAny_bind (wpAny_pure ?_)
  refine wpAny_bind (look_all R hx hu (fun hm => ?_) fun j hj hnj => ?_)
  · dsimp only
    exact wpAny_pure (hQ false s.heap L es ep t (Heap.SameBut.refl a s.heap) R (.inl ⟨rfl, hm⟩))
  · dsimp only
    refine wpAny_bind (wpAny_setState_of ho hd R.fit ?_)
    dsimp only
    obtain ⟨q1, q3, q4, q5, q6, q9⟩ := R.tab.put hj hnj
    generalize hpt : t.put j = pt at q1 q3 q4 q5 q6 q9 ⊢
    obtain ⟨t1, p⟩ := pt
    dsimp only at q1 q3 q4 q5 q6 q9 ⊢
    have hp1 : t1.plain = true := by rw [q6]; exact R.plain
    subst q1
    first
      | (refine wpAny_bind ?_; refine wp_if_pos hp1 ?_; refine hashBy_tup hx ?_)
      | refine wp_if_pos hp1 (wpAny_bind (hashBy_tup hx ?_))
    simp only [if_true]
    generalize SetTable.below t.place j = p
    have hin : (SetTable.insertAt es p (thash P w k, Value.ref x)).toList = rowsOf P w (L.take p ++ (x, k) :: L.drop p) := by rw [SetTable.toList_insertAt, rows_put, R.rows]
    have pm := put_perm L p (x, k)
    have hes := rows_size hin
    have hlen : (L.take p ++ (x, k) :: L.drop p).length = L.length + 1 := pm.length_eq
    generalize SetTable.insertAt es p (thash P w k, Value.ref x) = es1 at hin hes ⊢
    generalize L.take p ++ (x, k) :: L.drop p = L1 at pm hlen hin hes
    refine wpAny_bind (wpAny_storeSet_of ho hd ?_ (by rw [hes, sizeLine_eq]; omega))
    have sb := Heap.SameBut.update s.heap a (Obj.putSet es1 t1)
    have ho1 := store_at (es' := es1) (t' := t1) ho hd
    generalize s.heap.update a (Obj.putSet es1 t1) = h1 at sb ho1 ⊢
    have tup1 : ∀ p ∈ L1, IsT P w h1 p.2 p.1 := fun p hp => by
      rcases List.mem_cons.mp (pm.mem_iff.mp hp) with e | hp
      · rw [e]; exact isT_same hx ho hd sb
      · exact isT_same (R.tup p hp) ho hd sb
    have ld1 : w.params.followText "set-order" = true ∨ t1.led = true := by rw [q5]; exact R.led
    rw [← hlen] at q3
    by_cases hf : t1.tooFull = true
    · first
        | (refine wpAny_bind ?_; refine wp_if_pos (by simp [hf]) ?_)
        | (refine wp_if_pos (by simp [hf]) ?_; refine wpAny_bind ?_)
      have hfull : (L.length + 1) * 5 ≥ t.mask * 3 := by
        have h := hf
        unfold SetTable.tooFull at h
        rwa [decide_eq_true_eq, q9, q4] at h
      obtain ⟨M, m1, m2, m3, m4, m5⟩ := next_size R.tab.mok hroom hfull hfew
      rw [hsl]
      refine relay (s := { s with heap := h1 }) ho1 ⟨hex.1, hex.2.1, hex.2.2⟩ rfl hin q3 (by rw [hlen, q4]; exact m5) tup1 hp1 ld1 (by rw [hlen]; exact hfew) m1 m2 m3 (by rw [hlen]; exact m4) ?_
      intro h2 L2 es2 ep2 t2 sb2 R2 pm2
      exact wpAny_pure (hQ true h2 L2 es2 ep2 t2 (sb.trans sb2) R2 (.inr (pm2.trans pm)))
    · first
        | refine wp_if_neg (by simp [hf]) ?_
        | (refine wpAny_bind ?_; refine wp_if_neg (by simp [hf]) ?_; refine wpAny_pure ?_)
      refine wpAny_pure (hQ true h1 L1 es1 (ep + 1) t1 sb ⟨⟨_, ho1, ⟨hex.1, hex.2.1, hex.2.2⟩, rfl⟩, hin, q3, tup1, hp1, ld1, ?_, by rw [hlen]; exact hfew⟩ (.inr pm))
      have h := hf
      unfold SetTable.tooFull at h
      rw [decide_eq_true_eq, q9] at h
      rw [hlen]
      omega
end
end Zs
set_option maxRecDepth 100000
set_option maxHeartbeats 8000000
namespace Zs
open PySem PySem.Spec PyProof.Rows L2
/-- a new set's object -/
abbrev nso (w : World) : Obj := { cls := .type "set", dict := none, data := .set #[] 0 (.fresh 0 0 (!w.params.followText "set-order")) }
/-- what a set at S is after i of the items are in -/
structure Adds (P : Program) (w : World) (S : Addr) (h0 : Heap) (items : Array Value) (J : Nat → Heap → Prop) : Prop where
  start : ∀ h : Heap, h.get? S = some (nso w) → (∀ b o, h0.get? b = some o → h.get? b = some o) → J 0 h
  keep : ∀ i (h h' : Heap), J i h → (∀ o, h.get? S = some o → h'.get? S = some o) → (∀ b o, h0.get? b = some o → h'.get? b = some o) → J i h'
  step : ∀ (A : Around) (i : Nat) (v : Value) (s : Shared) (Q : Bool → Shared → Prop) (E : Value → Shared → Prop), A.units < cLine → items[i]? = some v → J i s.heap → (∀ b o, h0.get? b = some o → s.heap.get? b = some o) →
    (∀ b h' tk, Heap.SameBut S s.heap h' → J (i + 1) h' → s.toks ≤ tk → Q b { s with heap := h', toks := tk }) → wpAny (model P w) A (setAdd S v) Q E s
section
variable {P : Program} {w : World} {A : Around} {E : Value → Shared → Prop} {s : Shared}
theorem fill {I : Addr} {fp wr : List Addr} {G : Array GenState → Array GenState → Prop} {St : Nat → Shared → Prop} {R : Result → Shared → Prop} {S : Addr} {h0 : Heap} {items : Array Value} {J : Nat → Heap → Prop}
    (D : Adds P w S h0 items J) (W : WalksS P w A.in1 I fp wr G items.size (fun i v => items[i]? = some v) St) (hSf : S ∉ fp) (hS0 : h0.get? S = none) (hw0 : ∀ b ∈ wr, h0.get? b = none) (hu : A.in1.units < cLine) :
    ∀ (k i : Nat) (s : Shared), items.size - i = k → i ≤ items.size → St i s → (∀ b o, h0.get? b = some o → s.heap.get? b = some o) → J i s.heap →
      (∀ s', Moved (S :: wr) G s s' → J items.size s'.heap → (∀ b o, h0.get? b = some o → s'.heap.get? b = some o) → R (.ok (.ret .none)) s') →
      codeAny (model P w) A (.builtin "set.update.loop" ⟨[.ref S, .ref I], []⟩) R s := by
  have hSw : S ∉ wr := fun h => hSf (W.sub _ h)
  have hsub : ∀ b ∈ wr, b ∈ S :: wr := fun b hb => List.mem_cons_of_mem _ hb
  have old : ∀ {s s' : Shared}, Moved wr G s s' → (∀ b o, h0.get? b = some o → s.heap.get? b = some o) → ∀ b o, h0.get? b = some o → s'.heap.get? b = some o :=
    fun hm hkp b o e => hm.heap b o (fun hb => by rw [hw0 b hb] at e; cases e) (hkp b o e)
  intro k
  induction k with
  | zero =>
    intro i s hk' hi hst hkp hJ hR
    obtain rfl : i = items.size := by omega
    refine codeAny_builtin F.entry_set_update_loop ?_
    rw [Around.under_plainId F.plain_set_update_loop _]
    show wpAny _ A.in1 (pyNext (.ref I) >>= _) _ _ s
    refine wpAny_bind (W.done s _ _ hst fun s' hm => ?_)
    show wpAny _ A.in1 (ret Value.none) _ _ s'
    exact wpAny_pure (hR s' (hm.mono hsub) (D.keep _ _ _ hJ (fun o e => hm.heap S o hSw e) (old hm hkp)) (old hm hkp))
  | succ k ih =>
    intro i s hk' hi hst hkp hJ hR
    have hlt : i < items.size := by omega
    refine codeAny_builtin F.entry_set_update_loop ?_
    rw [Around.under_plainId F.plain_set_update_loop _]
    show wpAny _ A.in1 (pyNext (.ref I) >>= _) _ _ s
    refine wpAny_bind (W.item i s _ _ hlt hst fun v s' hv hst' hm => ?_)
    have hkp' := old hm hkp
    have hJ' := D.keep _ _ _ hJ (fun o e => hm.heap S o hSw e) hkp'
    show wpAny _ A.in1 (holding [v] (setAdd S v) >>= _) _ _ s'
    refine wpAny_bind (wpAny_holding (D.step _ i v s' _ _ hu hv hJ' hkp' fun b h' tk hsb hJ2 htk => ?_))
    have hkp2 : ∀ b o, h0.get? b = some o → h'.get? b = some o := fun b o e => (hsb.2 b (fun z => by rw [z, hS0] at e; cases e)).trans (hkp' b o e)
    refine wpAny_pure ⟨plainId_quiet F.plain_set_update_loop _, ih (i + 1) _ (by omega) hlt (W.frame _ s' _ _ hst' htk fun b hb o e => ?_) hkp2 hJ2 fun s'' hm'' hJ'' hkp'' => ?_⟩
    · rw [hsb.2 b (fun h : b = S => hSf (h ▸ hb))]; exact e
    · refine hR s'' (Moved.trans W.gtrans ((hm.mono hsub).then_heap htk fun b o hb e => ?_) hm'') hJ'' hkp''
      rw [hsb.2 b (fun h : b = S => hb (by rw [h]; exact List.mem_cons_self))]; exact e
theorem gone {h : Heap} {b : Addr} (hb : h.objs.size ≤ b) : h.get? b = none := by
  cases q : h.get? b with
  | none => rfl
  | some o => exact absurd (Heap.lt_size q) (Nat.not_lt_of_le hb)
theorem call_set_list {l : Addr} {items : Array Value} {J : Nat → Heap → Prop} {Q : Value → Shared → Prop} (D : Adds P w s.heap.objs.size s.heap items J) (hh : A.handled = none) (hl : s.heap.IsList l items) (hu : A.units + 3 < cLine)
    (h : ∀ (h' : Heap) (tk : Nat), J items.size h' → (∀ b o, s.heap.get? b = some o → h'.get? b = some o) → Q (.ref s.heap.objs.size) { s with heap := h', toks := tk }) :
    wpAny (model P w) A (call (.type "set") [.ref l]) Q E s := by
  obtain ⟨c, tl, hmro⟩ := F.called_set.mro
  have hmade := F.called_set.made
  have hsub := F.called_set.sub
  have h1 := F.called_set.notType
  have h2 := F.called_set.canCreate
  have hct := F.typeCall_set_1 (.ref l)
  refine wpAny_call (codeAny_of_tree (?_ : wpAny _ _ (callAny (.type "set") _) _ _ _))
  refine wpAny_pure ⟨Code.quiet_builtin _ (by decide +kernel), codeAny_builtin F.entry_type_call ?_⟩
  rw [Around.under_plain (weight_type_call_type "set" [.ref l] []) rfl]
  repeat (any_goals (first | assumption | wp_step))
  refine codeAny_mono (code_set_led1 (.ref l) (E := E) (Q₁ := fun obj s₁ => obj = .ref s.heap.objs.size ∧ s₁ = { s with heap := s.heap.push (nso w) }) ⟨rfl, rfl⟩) fun r s₁ hr => ?_
  rcases r with e | fl
  · exact hr
  cases fl with
  | ret obj =>
    obtain ⟨rfl, rfl⟩ := hr
    have hS : (s.heap.push (nso w)).get? s.heap.objs.size = some (nso w) := Heap.get?_push_size _ rfl
    have hT : Shared.TypeIs { s with heap := s.heap.push (nso w) } (.ref s.heap.objs.size) "set" := ⟨_, hS, rfl⟩
    have hli := F.called_set.init.lookup
    have hbi := F.called_set.init.bind (.ref s.heap.objs.size)
    repeat (any_goals (first | assumption | wp_step))
    refine codeAny_mono (codeAny_call_builtin (R := wants (fun r s₂ => r = .none ∧ ∃ h' tk, s₂ = { s with heap := h', toks := tk } ∧ J items.size h' ∧ (∀ b o, s.heap.get? b = some o → h'.get? b = some o)) E)
      F.called_set.init.plain F.entry_set_init (check_set_init_1 hT ?_)) fun r₂ s₂ hr₂ => ?_
    · obtain ⟨⟨ocls, odict, odata, oslots⟩, hol, hcl, nl, hdl⟩ := hl
      simp only at hcl hdl
      subst hcl hdl
      have hol' : (s.heap.push (nso w)).get? l = some { cls := .type "list", dict := odict, data := .seq items nl, slots := oslots } := Heap.get?_push_of_some _ hol
      have hsls := F.sub_list_set
      have hslf := F.sub_list_frozenset
      have hne : (Value.type "list" == Value.type "dict") = false := by decide
      have hl1 : (s.heap.push (nso w)).IsList l items := ⟨_, hol', rfl, nl, rfl⟩
      unfold Builtin.«set.__init__» noKeywords Builtin.Frozenset.updateFrom
      generalize hPI : pyIter = PI
      wp_walk
      subst hPI
      refine wpAny_pyIter_list hl1 (wpAny_bind (wpAny_runValue ?_))
      have hlS : l < s.heap.objs.size := Heap.lt_size hol
      have hz1 : (s.heap.push (nso w)).objs.size = s.heap.objs.size + 1 := Heap.size_push ..
      have hneI : l ≠ (s.heap.push (nso w)).objs.size := by rw [hz1]; exact Nat.ne_of_lt (Nat.lt_succ_of_lt hlS)
      refine fill D ((Walks.list (by simp [hh]) _ l hneI items).toS) (?hSf : s.heap.objs.size ∉ _) (gone (Nat.le_refl _)) (fun b hb => gone (by rw [List.mem_singleton.mp hb, hz1]; exact Nat.le_succ _)) hu (items.size - 0) 0 _ (by omega) (Nat.zero_le _)
        ⟨⟨_, Heap.get?_push_size _ rfl, rfl, rfl⟩, hl1.push _⟩ (fun b o e => Heap.get?_push_of_some _ (Heap.get?_push_of_some _ e)) (D.start _ (Heap.get?_push_of_some _ hS) fun b o e => Heap.get?_push_of_some _ (Heap.get?_push_of_some _ e)) ?hR
      case hSf =>
        simp only [hz1, List.mem_cons, List.not_mem_nil, or_false, not_or]
        exact ⟨Nat.ne_of_lt (Nat.lt_succ_self _), Nat.ne_of_gt hlS⟩
      case hR =>
        intro s' hm hJ hkp
        obtain ⟨h', g2, d', tk', os'⟩ := s'
        obtain rfl : g2 = s.gens := hm.gens
        obtain rfl : d' = s.drawn := hm.drawn
        obtain rfl : os' = s.os := hm.os
        show wpAny _ _ _ _ _ _
        refine wpAny_pure ?_
        show wpAny _ _ (ret Value.none) _ _ _
        exact wpAny_pure ⟨rfl, h', tk', rfl, hJ, hkp⟩
    · rcases r₂ with e | fl₂
      · exact hr₂
      cases fl₂ with
      | ret r =>
        obtain ⟨rfl, h', tk, rfl, hJ, hk'⟩ := hr₂
        repeat (any_goals (first | assumption | wp_step))
        exact h _ _ hJ hk'
      | _ => exact hr₂.elim
  | _ => exact hr.elim
theorem call_set_tup {l : Addr} {items : Array Value} {J : Nat → Heap → Prop} {Q : Value → Shared → Prop} (D : Adds P w s.heap.objs.size s.heap items J) (hh : A.handled = none) (hl : s.heap.IsTuple l items) (hu : A.units + 3 < cLine)
    (h : ∀ (h' : Heap) (tk : Nat), J items.size h' → (∀ b o, s.heap.get? b = some o → h'.get? b = some o) → Q (.ref s.heap.objs.size) { s with heap := h', toks := tk }) :
    wpAny (model P w) A (call (.type "set") [.ref l]) Q E s := by
  obtain ⟨c, tl, hmro⟩ := F.called_set.mro
  have hmade := F.called_set.made
  have hsub := F.called_set.sub
  have h1 := F.called_set.notType
  have h2 := F.called_set.canCreate
  have hct := F.typeCall_set_1 (.ref l)
  refine wpAny_call (codeAny_of_tree (?_ : wpAny _ _ (callAny (.type "set") _) _ _ _))
  refine wpAny_pure ⟨Code.quiet_builtin _ (by decide +kernel), codeAny_builtin F.entry_type_call ?_⟩
  rw [Around.under_plain (weight_type_call_type "set" [.ref l] []) rfl]
  repeat (any_goals (first | assumption | wp_step))
  refine codeAny_mono (code_set_led1 (.ref l) (E := E) (Q₁ := fun obj s₁ => obj = .ref s.heap.objs.size ∧ s₁ = { s with heap := s.heap.push (nso w) }) ⟨rfl, rfl⟩) fun r s₁ hr => ?_
  rcases r with e | fl
  · exact hr
  cases fl with
  | ret obj =>
    obtain ⟨rfl, rfl⟩ := hr
    have hS : (s.heap.push (nso w)).get? s.heap.objs.size = some (nso w) := Heap.get?_push_size _ rfl
    have hT : Shared.TypeIs { s with heap := s.heap.push (nso w) } (.ref s.heap.objs.size) "set" := ⟨_, hS, rfl⟩
    have hli := F.called_set.init.lookup
    have hbi := F.called_set.init.bind (.ref s.heap.objs.size)
    repeat (any_goals (first | assumption | wp_step))
    refine codeAny_mono (codeAny_call_builtin (R := wants (fun r s₂ => r = .none ∧ ∃ h' tk, s₂ = { s with heap := h', toks := tk } ∧ J items.size h' ∧ (∀ b o, s.heap.get? b = some o → h'.get? b = some o)) E)
      F.called_set.init.plain F.entry_set_init (check_set_init_1 hT ?_)) fun r₂ s₂ hr₂ => ?_
    · obtain ⟨⟨ocls, odict, odata, oslots⟩, hol, hcl, nl, hdl⟩ := hl
      simp only at hcl hdl
      subst hcl hdl
      have hol' : (s.heap.push (nso w)).get? l = some { cls := .type "tuple", dict := odict, data := .seq items nl, slots := oslots } := Heap.get?_push_of_some _ hol
      have hsls := F.sub_tuple_set
      have hslf := F.sub_tuple_frozenset
      have hne : (Value.type "tuple" == Value.type "dict") = false := by decide
      have hl1 : (s.heap.push (nso w)).IsTuple l items := ⟨_, hol', rfl, nl, rfl⟩
      unfold Builtin.«set.__init__» noKeywords Builtin.Frozenset.updateFrom
      generalize hPI : pyIter = PI
      wp_walk
      subst hPI
      refine wpAny_pyIter_tuple hl1 (wpAny_bind (wpAny_runValue ?_))
      have hlS : l < s.heap.objs.size := Heap.lt_size hol
      have hz1 : (s.heap.push (nso w)).objs.size = s.heap.objs.size + 1 := Heap.size_push ..
      have hneI : l ≠ (s.heap.push (nso w)).objs.size := by rw [hz1]; exact Nat.ne_of_lt (Nat.lt_succ_of_lt hlS)
      refine fill D ((Walks.tuple (by simp [hh]) _ l hneI items).toS) (?hSf : s.heap.objs.size ∉ _) (gone (Nat.le_refl _)) (fun b hb => gone (by rw [List.mem_singleton.mp hb, hz1]; exact Nat.le_succ _)) hu (items.size - 0) 0 _ (by omega) (Nat.zero_le _)
        ⟨⟨_, Heap.get?_push_size _ rfl, rfl, rfl⟩, hl1.push _⟩ (fun b o e => Heap.get?_push_of_some _ (Heap.get?_push_of_some _ e)) (D.start _ (Heap.get?_push_of_some _ hS) fun b o e => Heap.get?_push_of_some _ (Heap.get?_push_of_some _ e)) ?hR
      case hSf =>
        simp only [hz1, List.mem_cons, List.not_mem_nil, or_false, not_or]
        exact ⟨Nat.ne_of_lt (Nat.lt_succ_self _), Nat.ne_of_gt hlS⟩
      case hR =>
        intro s' hm hJ hkp
        obtain ⟨h', g2, d', tk', os'⟩ := s'
        obtain rfl : g2 = s.gens := hm.gens
        obtain rfl : d' = s.drawn := hm.drawn
        obtain rfl : os' = s.os := hm.os
        show wpAny _ _ _ _ _ _
        refine wpAny_pure ?_
        show wpAny _ _ (ret Value.none) _ _ _
        exact wpAny_pure ⟨rfl, h', tk', rfl, hJ, hkp⟩
    · rcases r₂ with e | fl₂
      · exact hr₂
      cases fl₂ with
      | ret r =>
        obtain ⟨rfl, h', tk, rfl, hJ, hk'⟩ := hr₂
        repeat (any_goals (first | assumption | wp_step))
        exact h _ _ hJ hk'
      | _ => exact hr₂.elim
  | _ => exact hr.elim
end
end Zs
set_option maxRecDepth 100000
set_option maxHeartbeats 8000000
namespace Zs
open PySem PySem.Spec PyProof.Rows L2
section
variable {P : Program} {w : World} {A : Around} {E : Value → Shared → Prop} {s : Shared}
/-! ### what is added: int tuples, ints -/
theorem adds_tups {S : Addr} {h0 : Heap} {items : Array Value} (ks : List (Addr × List Int)) (hS0 : h0.get? S = none) (hit : items.toList = ks.map fun p => Value.ref p.1) (hk : ∀ p ∈ ks, IsT P w h0 p.2 p.1) (hfew : ks.length < 4000) :
    Adds P w S h0 items fun i h => (∃ L es ep t, ST P w h S L es ep t ∧ Got ks i L) ∧ ∀ b o, h0.get? b = some o → h.get? b = some o where
  start := fun h hn hk0 => ⟨⟨[], #[], 0, _, ⟨⟨_, hn, ⟨rfl, rfl, rfl⟩, rfl⟩, rfl, ⟨List.Pairwise.nil, rfl, rfl, .inl rfl, fun x hx => (by cases hx)⟩, (fun p hp => by cases hp), rfl,
      (by show _ ∨ (!w.params.followText "set-order") = true; cases w.params.followText "set-order" <;> simp), by show 0 * 5 < 7 * 3; decide, by decide⟩, Got.zero ks⟩, hk0⟩
  keep := fun i h h' ⟨⟨L, es, ep, t, R, g⟩, _⟩ hS hk0 => by
    obtain ⟨o, ho, r⟩ := R.ob
    exact ⟨⟨L, es, ep, t, ⟨⟨o, hS o ho, r⟩, R.rows, R.tab, fun p hp => isT_keep (hk p (List.mem_of_mem_take (g.sub p hp))) hk0, R.plain, R.led, R.room, R.few⟩, g⟩, hk0⟩
  step := fun A i v s Q E hu hv ⟨⟨L, es, ep, t, R, g⟩, _⟩ hk0 q => by
    have hv' : items.toList[i]? = some v := by rw [Array.getElem?_toList]; exact hv
    rw [hit, List.getElem?_map] at hv'
    obtain ⟨p, hp, rfl⟩ := Option.map_eq_some_iff.mp hv'
    have hx : IsT P w s.heap p.2 p.1 := isT_keep (hk p (List.mem_of_getElem? hp)) hk0
    have hi : i < ks.length := (List.getElem?_eq_some_iff.mp hp).1
    unfold setAdd
    refine wpAny_holding (wpAny_bind (wpAny_pyHash_tuple hu hx ?_))
    refine add (s := { s with toks := s.toks + (p.2.length + 1) }) R hx hu (by have := g.len; omega) fun b h' L' es' ep' t' hsb hS2 c => ?_
    refine q b h' _ hsb ⟨⟨L', es', ep', t', hS2, ?_⟩, fun b o e => (hsb.2 b (fun z => by rw [z, hS0] at e; cases e)).trans (hk0 b o e)⟩ (Nat.le_add_right _ _)
    rcases c with ⟨rfl, c⟩ | c
    · exact g.same hp c
    · exact g.more hp c
theorem adds_ints {S : Addr} {h0 : Heap} {items : Array Value} (ns : List Int) (hit : IntsAre items.toList ns) (hfew : ns.length < 4000) :
    Adds P w S h0 items fun i h => ∃ c, c ≤ i ∧ SetR w h S (fun j => decide (j ∈ ns.take i)) c where
  start := fun h hn _ => ⟨0, Nat.le_refl _, setR_new_at hn⟩
  keep := fun i h h' ⟨c, hc, R⟩ hS _ => ⟨c, hc, R.at hS⟩
  step := fun A i v s Q E hu hv ⟨c, hc, R⟩ _ q => by
    have hl := IntsAre.length hit
    rw [Array.length_toList] at hl
    have hi : i < ns.length := by rw [← hl]; exact (Array.getElem?_eq_some_iff.mp hv).1
    obtain ⟨t, rfl⟩ := PyProof.Rows.IntsAre.int_at hit i v (by rw [Array.getElem?_toList]; exact hv)
    generalize hz : ns.getD i 0 = z
    have hz' : ns[i]? = some z := by rw [← hz, List.getD_eq_getElem?_getD, List.getElem?_eq_getElem hi]; rfl
    unfold setAdd
    refine wpAny_holding (wpAny_bind ((intKind P w).pyHash (k := z) (intKind_is _ _ _ _) ?_))
    refine setR_add_hashed (s := { s with toks := s.toks + 1 }) R (by have : scanBound = 4096 := rfl; omega) fun h' hsb hS2 => ?_
    refine q _ h' _ hsb ⟨_, ?_, hS2.congr fun j => ?_⟩ (Nat.le_succ _)
    · split <;> omega
    · rw [List.take_add_one, hz']
      simp [List.mem_append]
/-! ### the sort's questions -/
theorem lex_i {b : Bool} {Q : Bool → Shared → Prop} : ∀ {xs ys : List Value} {ns ms : List Int} (i : Nat), IntsAre xs ns → IntsAre ys ms → ns.length = ms.length → Q (HT.lexLt ns ms) s → PySem.W.KatLex P w A b false Q (xs.zip ys) i s
  | _, _, _, _, i, .nil, .nil, _, h => PySem.W.kat_nil h
  | _, _, _, _, i, .nil, .cons _ _ _, hl, _ => absurd hl (by simp)
  | _, _, _, _, i, .cons _ _ _, .nil, hl, _ => absurd hl (by simp)
  | _, _, _, _, i, .cons n t hx, .cons m u hy, hl, h => by
    rw [HT.lexLt_cons] at h
    refine PySem.W.kat_cons (SeqAt.EqAt.int_int n t m u P w _ _ ?_)
    refine PySem.W.kat_go (fun e => PySem.W.kat_yes (lex_i (i + 1) hx hy (by simpa using hl) ?_)) fun e => PySem.W.kat_no (TS.oneLt_ints _ ?_)
    · rwa [if_pos (by simpa using e)] at h
    · rwa [if_neg (by simpa using e)] at h
/-- v is a tuple of the ints ns -/
def TupV (P : Program) (w : World) (h : Heap) (v : Value) (ns : List Int) : Prop := ∃ a, v = .ref a ∧ IsT P w h ns a
theorem TupV.raw {h : Heap} {v : Value} {ns : List Int} (x : TupV P w h v ns) : ∃ a o xs n, v = .ref a ∧ h.get? a = some o ∧ o.cls = .type "tuple" ∧ o.data = .seq xs n ∧ IntsAre xs.toList ns := by
  obtain ⟨a, rfl, o, items, n, ho, hc, hd, hi⟩ := x
  exact ⟨a, o, items, n, rfl, ho, hc, hd, ints_of_items hi⟩
theorem TupV.keeps {h h' : Heap} {v : Value} {ns : List Int} (x : TupV P w h v ns) (k : ∀ b o, h.get? b = some o → o.cls = .type "tuple" → h'.get? b = some o) : TupV P w h' v ns := by
  obtain ⟨a, rfl, o, items, n, ho, hc, r⟩ := x
  exact ⟨a, rfl, o, items, n, k a o ho hc, hc, r⟩
theorem tups_cmp {vs : List Value} {k : Value → List Int} {d : Nat} (hp : ∀ v ∈ vs, TupV P w s.heap v (k v) ∧ (k v).length = d) : SrtO.Cmp P w A s (tuples' true) (fun p => p.1 ∈ vs) (SrtO.lt2 fun v u => HT.lexLt (k v) (k u)) := by
  intro p q hm hm'
  obtain ⟨h1, l1⟩ := hp _ hm
  obtain ⟨h2, l2⟩ := hp _ hm'
  show wpAny (model P w) A (keyLt' (tuples' true) p.1 q.1) (fun r s' => s' = s ∧ r = HT.lexLt (k p.1) (k q.1)) (fun _ _ => False) s
  obtain ⟨a, o, xs, n, e, ho, _, hd, hi⟩ := h1.raw
  obtain ⟨a', o', xs', n', e', ho', _, hd', hi'⟩ := h2.raw
  have z1 := IntsAre.length hi
  have z2 := IntsAre.length hi'
  rw [Array.length_toList] at z1 z2
  rw [e, e']
  refine PySem.W.kat_lt ho hd ho' hd' ?_
  rw [show decide (xs.size < xs'.size) = false by simp; omega]
  rw [← e, ← e']
  exact lex_i 0 hi hi' (by rw [l1, l2]) ⟨rfl, rfl⟩
theorem firsts {h : Heap} {k : Value → List Int} {d : Nat} (hd : 1 ≤ d) : ∀ vs : List Value, (∀ v ∈ vs, TupV P w h v (k v) ∧ (k v).length = d) → ∃ fs : List Value, PySem.W.KatTups h vs fs ∧ fs.length = vs.length ∧ ∀ f ∈ fs, ∃ i t, f = Value.int i t
  | [], _ => ⟨[], PySem.W.KatTups.nil, rfl, fun f hf => by cases hf⟩
  | v :: vs, x => by
    obtain ⟨fs, k1, hl, hi⟩ := firsts hd vs fun u hu => x u (List.mem_cons_of_mem _ hu)
    obtain ⟨h1, l1⟩ := x v List.mem_cons_self
    obtain ⟨a, o, xs, n, rfl, ho, hc, hd', hi'⟩ := h1.raw
    cases hk : k (.ref a) with
    | nil => rw [hk] at l1; simp at l1; omega
    | cons m ms =>
      rw [hk] at hi'
      cases hx : xs.toList with
      | nil => rw [hx] at hi'; cases hi'
      | cons f r =>
        rw [hx] at hi'
        cases hi' with
        | cons _ t _ =>
          refine ⟨.int m t :: fs, PySem.W.KatTups.cons ho hc hd' (by rw [← Array.getElem?_toList, hx]; rfl) k1, by simp [hl], fun g hg => ?_⟩
          rcases List.mem_cons.mp hg with e | hg
          · exact ⟨m, t, e⟩
          · exact hi g hg
theorem tups_sortable {a : Addr} {vs : List Value} {k : Value → List Int} {d : Nat} (hd : 1 ≤ d) (h2 : 2 ≤ vs.length) (hp : ∀ v ∈ vs, TupV P w s.heap v (k v) ∧ (k v).length = d) (ha : ∀ o, s.heap.get? a = some o → o.cls ≠ .type "tuple") :
    SrtO.SortableO P w A s a vs fun v u => HT.lexLt (k v) (k u) := by
  intro h' keep
  have hp' : ∀ v ∈ vs, TupV P w h' v (k v) ∧ (k v).length = d := fun v hm => ⟨(hp v hm).1.keeps fun b o e c => keep b o (fun z => by subst z; exact ha o e c) e, (hp v hm).2⟩
  obtain ⟨fs, h1, hl, h3⟩ := firsts hd vs hp'
  refine ⟨tuples' true, fun Q E hq => ?_, tups_cmp hp'⟩
  refine PySem.W.kat_kind (T := .type "int") h1 (by omega) (fun f hm => ?_) (by rfl) ?_
  · obtain ⟨x, t, rfl⟩ := h3 f hm
    exact PySem.W.Looks.now
  · rw [show (Value.type "int" != Value.type "tuple") = true by decide]
    exact hq
/-- v is a pair of a tuple of the ints ns and the int n -/
def PairV (P : Program) (w : World) (h : Heap) (v : Value) (ns : List Int) (n : Int) : Prop :=
  ∃ a b t o k, v = .ref a ∧ h.get? a = some o ∧ o.cls = .type "tuple" ∧ o.data = .seq #[.ref b, .int n t] k ∧ IsT P w h ns b
theorem PairV.keeps {h h' : Heap} {v : Value} {ns : List Int} {n : Int} (x : PairV P w h v ns n) (k : ∀ b o, h.get? b = some o → o.cls = .type "tuple" → h'.get? b = some o) : PairV P w h' v ns n := by
  obtain ⟨a, b, t, o, m, rfl, ho, hc, hd, o2, items, n2, ho2, hc2, r⟩ := x
  exact ⟨a, b, t, o, m, rfl, k a o ho hc, hc, hd, o2, items, n2, k b o2 ho2 hc2, hc2, r⟩
theorem lex_snoc : ∀ (xs ys : List Int) (n m : Int), xs.length = ys.length → HT.lexLt (xs ++ [n]) (ys ++ [m]) = if xs = ys then decide (n < m) else HT.lexLt xs ys
  | [], [], n, m, _ => by
    show (if n = m then HT.lexLt [] [] else decide (n < m)) = _
    by_cases h : n = m
    · subst h; simp [HT.lexLt_nil_nil]
    · simp [h]
  | [], _ :: _, _, _, h => absurd h (by simp)
  | _ :: _, [], _, _, h => absurd h (by simp)
  | x :: xs, y :: ys, n, m, h => by
    rw [List.cons_append, List.cons_append, HT.lexLt_cons, HT.lexLt_cons, lex_snoc xs ys n m (by simpa using h)]
    by_cases e : x = y
    · subst e; simp
    · simp [e]
theorem pairs_cmp {vs : List Value} {k : Value → List Int} {g : Value → Int} {d : Nat} (hu : A.units < cLine) (hp : ∀ v ∈ vs, PairV P w s.heap v (k v) (g v) ∧ (k v).length = d) :
    SrtO.Cmp P w A s (tuples' false) (fun p => p.1 ∈ vs) (SrtO.lt2 fun v u => HT.lexLt (k v ++ [g v]) (k u ++ [g u])) := by
  intro p q hm hm'
  obtain ⟨h1, l1⟩ := hp _ hm
  obtain ⟨h2, l2⟩ := hp _ hm'
  show wpAny (model P w) A (keyLt' (tuples' false) p.1 q.1) (fun r s' => s' = s ∧ r = HT.lexLt (k p.1 ++ [g p.1]) (k q.1 ++ [g q.1])) (fun _ _ => False) s
  rw [lex_snoc _ _ _ _ (by rw [l1, l2])]
  generalize k p.1 = x at h1 ⊢
  generalize g p.1 = y at h1 ⊢
  generalize k q.1 = x' at h2 ⊢
  generalize g q.1 = y' at h2 ⊢
  obtain ⟨a, b, t, o, n, e, ho, _, hd, hx⟩ := h1
  obtain ⟨a', b', t', o', n', e', ho', _, hd', hx'⟩ := h2
  obtain ⟨c1, o1, xs1, n1, r1, ho1, hc1, hd1, hi1⟩ := TupV.raw ⟨b, rfl, hx⟩
  obtain ⟨c2, o2, xs2, n2, r2, ho2, hc2, hd2, hi2⟩ := TupV.raw ⟨b', rfl, hx'⟩
  cases r1
  cases r2
  rw [e, e']
  refine PySem.W.kat_lt ho hd ho' hd' ?_
  show PySem.W.KatLex P w A false (decide (2 < 2)) _ [(.ref b, .ref b'), (.int y t, .int y' t')] 0 s
  refine PySem.W.kat_cons (wpAny_eqBool_tuple hu hx hx' ?_)
  refine PySem.W.kat_go (fun e1 => ?_) (fun e1 => ?_)
  · have ex : x = x' := of_decide_eq_true e1
    refine PySem.W.kat_yes (PySem.W.kat_cons (SeqAt.EqAt.int_int y t y' t' P w _ _ ?_))
    refine PySem.W.kat_go (fun e2 => ?_) (fun e2 => ?_)
    · have ey : y = y' := by simpa using e2
      exact PySem.W.kat_yes (PySem.W.kat_nil ⟨rfl, by rw [if_pos ex, ey]; simp⟩)
    · exact PySem.W.kat_no (PySem.W.kat_one _ _ (PyProof.Rows.lt_int ⟨rfl, by rw [if_pos ex]⟩))
  · have ex : ¬ x = x' := of_decide_eq_false e1
    refine PySem.W.kat_no (PySem.W.kat_one _ _ (HT.lt_tupInts ⟨o1, ho1, hc1, n1, hd1⟩ ⟨o2, ho2, hc2, n2, hd2⟩ hi1 hi2 hu ?_))
    exact ⟨rfl, by rw [if_neg ex]⟩
theorem firsts2 {h : Heap} {k : Value → List Int} {g : Value → Int} {d : Nat} : ∀ vs : List Value, (∀ v ∈ vs, PairV P w h v (k v) (g v) ∧ (k v).length = d) → ∃ fs : List Value, PySem.W.KatTups h vs fs ∧ fs.length = vs.length ∧ ∀ f ∈ fs, ∃ b o, f = Value.ref b ∧ h.get? b = some o ∧ o.cls = .type "tuple"
  | [], _ => ⟨[], PySem.W.KatTups.nil, rfl, fun f hf => by cases hf⟩
  | v :: vs, x => by
    obtain ⟨fs, k1, hl, hi⟩ := firsts2 vs fun u hu => x u (List.mem_cons_of_mem _ hu)
    obtain ⟨⟨a, b, t, o, n, rfl, ho, hc, hd, o2, items, n2, ho2, hc2, _⟩, _⟩ := x v List.mem_cons_self
    refine ⟨.ref b :: fs, PySem.W.KatTups.cons ho hc hd rfl k1, by simp [hl], fun f hf => ?_⟩
    rcases List.mem_cons.mp hf with e | hf
    · exact ⟨b, o2, e, ho2, hc2⟩
    · exact hi f hf
theorem pairs_sortable {a : Addr} {vs : List Value} {k : Value → List Int} {g : Value → Int} {d : Nat} (hu : A.units < cLine) (h2 : 2 ≤ vs.length) (hp : ∀ v ∈ vs, PairV P w s.heap v (k v) (g v) ∧ (k v).length = d) (ha : ∀ o, s.heap.get? a = some o → o.cls ≠ .type "tuple") :
    SrtO.SortableO P w A s a vs fun v u => HT.lexLt (k v ++ [g v]) (k u ++ [g u]) := by
  intro h' keep
  have hp' : ∀ v ∈ vs, PairV P w h' v (k v) (g v) ∧ (k v).length = d := fun v hm => ⟨(hp v hm).1.keeps fun b o e c => keep b o (fun z => by subst z; exact ha o e c) e, (hp v hm).2⟩
  obtain ⟨fs, h1, hl, h3⟩ := firsts2 vs hp'
  refine ⟨tuples' false, fun Q E hq => ?_, pairs_cmp hu hp'⟩
  refine PySem.W.kat_kind (T := .type "tuple") h1 (by omega) (fun f hm => ?_) (by rfl) ?_
  · obtain ⟨b, o, rfl, ho, hc⟩ := h3 f hm
    have z : PySem.W.Looks (model P w) h' (typeOf (.ref b)) o.cls := (PySem.W.Looks.ld ho).andThen .now
    rw [hc] at z
    exact z
  · rw [show (Value.type "tuple" != Value.type "tuple") = false by decide]
    exact hq
/-! ### sorted of a set -/
theorem sorted_of {a : Addr} {es : Array (Int × Value)} {ep : Nat} {t : SetTable} {ltv : Value → Value → Bool} {Q : Value → Shared → Prop} (O : SrtO.Swo ltv) (hh : A.handled = none) (ha : SetAt s.heap a es ep t) (hf : t.fits es.size = true) (hsz : es.size < scanBound) (r : Ris t.place.toList)
    (hl : w.params.followText "set-order" = true ∨ t.led = true)
    (hS : ∀ (vs : List Value) (s2 : Shared) (l : Addr), vs.Perm (es.toList.map (·.2)) → 2 ≤ vs.length → (∀ b o, s.heap.get? b = some o → s2.heap.get? b = some o) → (∀ o, s2.heap.get? l = some o → o.cls ≠ .type "tuple") → SrtO.SortableO P w A.in1.in1 s2 l vs ltv)
    (hQ : ∀ s' p (out : List Value) (c : Nat), (∀ b o, s.heap.get? b = some o → s'.heap.get? b = some o) → s'.gens = s.gens → s'.os = s.os → s.heap.objs.size ≤ p → s'.heap.get? p = some (seqObj "list" out.toArray c) → out.Perm (es.toList.map (·.2)) → Q (.ref p) s') :
    wpAny (model P w) A (call (.builtin "sorted") [.ref a]) Q E s := by
  refine Calls.call_function_entry kind_sorted plain_sorted entry_sorted (args_sorted1 _) ?_
  unfold Builtin.«sorted»
  refine wpAny_bind (m := checkCount "sorted" 1 1 _) (wpAny_pure ?_)
  refine wpAny_bind (collect_set (A := A.in1) hh ha hf hsz r hl fun s1 vs k1 hz g1 o1 pm => ?_)
  have hlen : vs.length ≤ sizeLine := by rw [pm.length_eq, List.length_map, Array.length_toList]; exact fits_of_scanBound hsz
  refine wpAny_bind (wpAny_newList ?_ hlen)
  have hoL : (s1.heap.push (seqObj "list" vs.toArray 0)).get? s1.heap.objs.size = some (seqObj "list" vs.toArray 0) := Heap.get?_push_size _ rfl
  refine wpAny_bind (wpAny_holding (wpAny_call_entry slot_list_sort ⟨_, hoL, rfl⟩ entry_list_sort (SrtO.list_sort_ord (s := { s1 with heap := s1.heap.push (seqObj "list" vs.toArray 0) }) O hoL hlen
    (fun h2 => hS vs { s1 with heap := s1.heap.push (seqObj "list" vs.toArray 0) } _ pm h2 (fun b o e => Heap.get?_push_of_some _ (k1 b o e)) fun o e => by rw [hoL] at e; cases e; exact (show Value.type "list" ≠ Value.type "tuple" by decide)) fun out hs hb => ⟨_, rfl, ?_⟩) (args_list_sort _)))
  obtain ⟨c, hc⟩ := sortedHeap_at (vs := vs) (out := out.toArray) hoL
  refine wpAny_pure ⟨_, rfl, hQ _ s1.heap.objs.size out c (fun b u e => ?_) g1 o1 hz hc (hb.perm.trans pm)⟩
  have q := k1 b u e
  have hlt := Heap.lt_size q
  show (sortedHeap (s1.heap.push (seqObj "list" vs.toArray 0)) s1.heap.objs.size vs out.toArray).get? b = some u
  rw [sortedHeap_old (Nat.ne_of_lt hlt) (by rw [size_push']; exact Nat.lt_succ_of_lt hlt)]
  exact Heap.get?_push_of_some _ q
end
end Zs
set_option maxRecDepth 100000
set_option maxHeartbeats 8000000
namespace Zs
open PySem PySem.Spec PyProof.Rows L2
theorem perm_map {α β : Type} {f : α → β} {out m : List β} (h : out.Perm m) : ∀ l : List α, m = l.map f → ∃ l' : List α, l'.Perm l ∧ out = l'.map f := by
  induction h with
  | nil => intro l e; exact ⟨l, .refl _, e⟩
  | cons x p ih =>
    intro l e
    cases l with
    | nil => cases e
    | cons y l =>
      rw [List.map_cons, List.cons.injEq] at e
      obtain ⟨l', pl, e'⟩ := ih l e.2
      exact ⟨y :: l', pl.cons y, by rw [List.map_cons, e', e.1]⟩
  | swap x y p =>
    intro l e
    match l, e with
    | a :: b :: l, e =>
      simp only [List.map_cons, List.cons.injEq] at e
      obtain ⟨rfl, rfl, rfl⟩ := e
      exact ⟨b :: a :: l, .swap .., rfl⟩
  | trans p q ihp ihq =>
    intro l e
    obtain ⟨l2, p2, e2⟩ := ihq l e
    obtain ⟨l1, p1, e1⟩ := ihp l2 e2
    exact ⟨l1, p1.trans p2, e1⟩
/-- a set stands at a, its elements us in the table's order -/
def SetV (w : World) (h : Heap) (a : Addr) (us : List Value) : Prop := ∃ es ep t, SetAt h a es ep t ∧ t.fits es.size = true ∧ es.size < scanBound ∧ Ris t.place.toList ∧ (w.params.followText "set-order" = true ∨ t.led = true) ∧ es.toList.map (·.2) = us
def ZS (w : World) (a : Addr) (xs : List V) : HO := .ext fun h => ∃ us, Vals xs us ∧ SetV w h a us
theorem zs_new {P : Program} {w : World} {H : Hp} {h : Heap} {a : Addr} {xs : List V} {us : List Value} (r : Vals xs us) (x : SetV w h a us) : ObjOk P w H h a (ZS w a xs) := by
  have ⟨es, ep, t, ⟨o, ho, q⟩, _⟩ := x
  refine ⟨⟨us, r, x⟩, ⟨o, ho⟩, fun h1 h2 ⟨us', r', es', ep', t', ⟨o', ho', q'⟩, z⟩ k => ⟨us', r', es', ep', t', ⟨o', k o' ho', q'⟩, z⟩⟩
theorem vals_of_refs' (L : List (Addr × List Int)) : Vals (L.map fun p => V.ref p.1) (L.map fun p => Value.ref p.1) := vals_of_refs L
theorem ST.setV {P : Program} {w : World} {h : Heap} {a : Addr} {L : List (Addr × List Int)} {es : Array (Int × Value)} {ep : Nat} {t : SetTable} (R : ST P w h a L es ep t) : SetV w h a (L.map fun p => Value.ref p.1) := by
  obtain ⟨o, ho, hex, hd⟩ := R.ob
  have hr := R.room
  have hf := R.few
  refine ⟨es, ep, t, ⟨o, ho, hex.1, hd⟩, by rw [rows_size R.rows]; exact R.tab.fit (by omega), by rw [rows_size R.rows, show scanBound = 4096 from rfl]; omega, R.tab.ris, R.led, ?_⟩
  rw [R.rows]
  simp [rowsOf]
section
variable {X : Cx}
/-- what a set's call or a sort leaves, said of the state -/
theorem Inv.new {pins : List (Addr × Obj)} {σ : L2.St} {H : Hp} {s s' : Shared} {p : Addr} {o : HO} (I : Inv X pins σ H s) (k : ∀ b u, s.heap.get? b = some u → s'.heap.get? b = some u) (g : s'.gens = s.gens) (eo : s'.os = s.os) (hp : s.heap.objs.size ≤ p)
    (new : ObjOk X.prog X.w (upd H p o) s'.heap p o) : Inv X pins σ (upd H p o) s' := by
  have hn : H p = none := I.hok.fresh hp
  have J : Inv X pins σ (upd H p o) { s with heap := s'.heap, gens := s'.gens, drawn := s'.drawn, toks := s'.toks } :=
    I.call (ch := []) (Un.laid k hp hn) (I.hok.laid k hp new) (by rw [g]; exact I.bare) (fun _ z => nomatch z)
  have e : s' = { s with heap := s'.heap, gens := s'.gens, drawn := s'.drawn, toks := s'.toks } := by
    cases s'
    cases s
    cases eo
    rfl
  rw [e]
  exact J
/-- set(xs), xs a list or a tuple of tuples of ints -/
def rSetT (K : PySem.W.Frag) (w : World) : List V → Hp → VK → Prop := fun xs H Q => ∃ (l : Addr) (ks : List (Addr × List Int)), xs = [V.ref l] ∧ (SqL K H l (ks.map fun p => V.ref p.1) ∨ SqT K H l (ks.map fun p => V.ref p.1)) ∧
  (∀ p ∈ ks, SqT K H p.1 (p.2.map V.int)) ∧ ks.length < 4000 ∧
  ∀ (a : Addr) (L : List (Addr × List Int)), H a = none → (∀ p ∈ L, p ∈ ks) → (∀ p ∈ ks, p.2 ∈ L.map (·.2)) → L.length ≤ ks.length → Q (.ref a) (upd H a (ZS w a (L.map fun p => V.ref p.1)))
theorem cr_setT (hc : X.calm = true) (hu : X.A.units + 64 < cLine) : CallR X (.type "set") (rSetT X.K X.w) := by
  intro pins s σ H xs us Q I r h
  obtain ⟨l, ks, rfl, hl, hk, hf, q⟩ := h
  rw [Vals.ref1 r]
  have hn : H s.heap.objs.size = none := I.hok.fresh (Nat.le_refl _)
  have fin : ∀ (items : Array Value), items.size = ks.length → ∀ (h' : Heap) (tk : Nat), ((∃ L es ep t, ST X.prog X.w h' s.heap.objs.size L es ep t ∧ Got ks items.size L) ∧ ∀ b o, s.heap.get? b = some o → h'.get? b = some o) → (∀ b o, s.heap.get? b = some o → h'.get? b = some o) →
      EP X pins σ Q (.ref s.heap.objs.size) { s with heap := h', toks := tk } := fun items hi h' tk hJ k => by
    obtain ⟨⟨L, es, ep, t, R, g⟩, _⟩ := hJ
    rw [hi] at g
    refine ⟨.ref s.heap.objs.size, _, I.laid (t' := tk) k (Nat.le_refl _) (zs_new (vals_of_refs L) R.setV), rfl, q _ L hn (fun p hp => List.mem_of_mem_take (g.sub p hp)) (fun p hp => g.all p (by rw [List.take_length]; exact hp)) g.len⟩
  rcases hl with hl | hl
  · obtain ⟨its, rv, pl, hz⟩ := I.list hl
    have e := refs_of_vals rv
    exact call_set_list (adds_tups ks (gone (Nat.le_refl _)) (by simpa using e) (fun p hp => I.isT (hk p hp)) hf) (I.ok.hd hc) pl.isList (by omega) (fin _ (by simp [e]))
  · obtain ⟨its, rv, pl, hz⟩ := I.tuple hl
    have e := refs_of_vals rv
    obtain ⟨o, ho, hcl, n, hd⟩ := pl
    exact call_set_tup (adds_tups ks (gone (Nat.le_refl _)) (by simpa using e) (fun p hp => I.isT (hk p hp)) hf) (I.ok.hd hc) ⟨o, ho, hcl, n, hd⟩ (by omega) (fin _ (by simp [e]))
/-- set(xs), xs a list or a tuple of ints -/
def rSetI (K : PySem.W.Frag) (w : World) : List V → Hp → VK → Prop := fun xs H Q => ∃ (l : Addr) (ns : List Int), xs = [V.ref l] ∧ (SqL K H l (ns.map V.int) ∨ SqT K H l (ns.map V.int)) ∧ ns.length < 4000 ∧
  ∀ (a : Addr) (ms : List Int), H a = none → (∀ n, n ∈ ms ↔ n ∈ ns) → ms.Nodup → ms.length ≤ ns.length → Q (.ref a) (upd H a (ZS w a (ms.map V.int)))
theorem ints_vals : ∀ {vs : List Value} {ns : List Int}, IntsAre vs ns → Vals (ns.map V.int) vs
  | _, _, .nil => .nil
  | _, _, .cons n t r => .cons ⟨t, rfl⟩ (ints_vals r)
theorem setR_setV {w : World} {h : Heap} {a : Addr} {S : Int → Bool} {n : Nat} (R : SetR w h a S n) : ∃ (us : List Value) (ms : List Int), SetV w h a us ∧ Vals (ms.map V.int) us ∧ (∀ k, k ∈ ms ↔ S k = true) ∧ ms.Nodup ∧ ms.length = n := by
  obtain ⟨o, es, ep, t, ho, hex, hd, g, nd, hm, hb, hf, hn, hr, hl⟩ := R
  refine ⟨es.toList.map (·.2), es.toList.map keyOf, ⟨es, ep, t, ⟨o, ho, hex.1, hd⟩, hf, hb, hr, hl, rfl⟩, ?_, fun k => (hm k).symm, nd, by rw [List.length_map, Array.length_toList]; exact hn⟩
  generalize es.toList = l at g
  clear nd hm
  induction l with
  | nil => exact .nil
  | cons e l ih =>
    obtain ⟨k, tk, h1, _⟩ := g e List.mem_cons_self
    refine .cons ⟨tk, ?_⟩ (ih fun e he => g e (List.mem_cons_of_mem _ he))
    show e.2 = Value.int (keyOf e) tk
    unfold keyOf
    rw [h1]
theorem cr_setI (hc : X.calm = true) (hu : X.A.units + 64 < cLine) : CallR X (.type "set") (rSetI X.K X.w) := by
  intro pins s σ H xs us Q I r h
  obtain ⟨l, ns, rfl, hl, hf, q⟩ := h
  rw [Vals.ref1 r]
  have hn : H s.heap.objs.size = none := I.hok.fresh (Nat.le_refl _)
  have fin : ∀ (items : Array Value), items.size = ns.length → ∀ (h' : Heap) (tk : Nat), (∃ c, c ≤ items.size ∧ SetR X.w h' s.heap.objs.size (fun j => decide (j ∈ ns.take items.size)) c) → (∀ b o, s.heap.get? b = some o → h'.get? b = some o) →
      EP X pins σ Q (.ref s.heap.objs.size) { s with heap := h', toks := tk } := fun items hi h' tk hJ k => by
    obtain ⟨c, hc', R⟩ := hJ
    obtain ⟨us, ms, x, rv, hm, nd, hl⟩ := setR_setV R
    refine ⟨.ref s.heap.objs.size, _, I.laid (t' := tk) k (Nat.le_refl _) (zs_new rv x), rfl, q _ ms hn (fun n => ?_) nd (by omega)⟩
    rw [hm, hi, List.take_length, decide_eq_true_eq]
  rcases hl with hl | hl
  · obtain ⟨its, rv, pl, hz⟩ := I.list hl
    have e := rv.length
    rw [List.length_map] at e
    exact call_set_list (adds_ints ns (by simpa using rv.ints) hf) (I.ok.hd hc) pl.isList (by omega) (fin _ (by simp [e]))
  · obtain ⟨its, rv, pl, hz⟩ := I.tuple hl
    have e := rv.length
    rw [List.length_map] at e
    obtain ⟨o, ho, hcl, n, hd⟩ := pl
    exact call_set_tup (adds_ints ns (by simpa using rv.ints) hf) (I.ok.hd hc) ⟨o, ho, hcl, n, hd⟩ (by omega) (fin _ (by simp [e]))
open Classical in
/-- the ints of a tuple -/
noncomputable def keyT (P : Program) (w : World) (h : Heap) (v : Value) : List Int := if x : ∃ ns, TupV P w h v ns then choose x else []
theorem keyT_of {P : Program} {w : World} {h : Heap} {v : Value} {ns : List Int} (x : TupV P w h v ns) : keyT P w h v = ns := by
  have e : ∃ ns, TupV P w h v ns := ⟨ns, x⟩
  unfold keyT
  rw [dif_pos e]
  obtain ⟨a, ea, h1⟩ := Classical.choose_spec e
  obtain ⟨b, eb, h2⟩ := x
  rw [ea] at eb
  cases eb
  exact IsTupleKey.inj h1 h2
theorem TupV.kept {P : Program} {w : World} {h h' : Heap} {v : Value} {ns : List Int} (x : TupV P w h v ns) (k : ∀ b o, h.get? b = some o → h'.get? b = some o) : TupV P w h' v ns := x.keeps fun b o e _ => k b o e
/-- sorted(s), s a set of tuples of d ints -/
def rSortT (K : PySem.W.Frag) (w : World) : List V → Hp → VK → Prop := fun vs H Q => ∃ (a : Addr) (L : List (Addr × List Int)) (d : Nat), vs = [V.ref a] ∧ H a = some (ZS w a (L.map fun p => V.ref p.1)) ∧ (∀ p ∈ L, SqT K H p.1 (p.2.map V.int) ∧ p.2.length = d) ∧ 1 ≤ d ∧
  ∀ (L' : List (Addr × List Int)) (p : Addr), L'.Perm L → H p = none → Q (.ref p) (upd H p (.lst (L'.map fun q => V.ref q.1)))
theorem cr_sortT (hc : X.calm = true) : CallR X (.builtin "sorted") (rSortT X.K X.w) := by
  intro pins s σ H vs us Q I r h
  obtain ⟨a, L, d, rfl, ha, hk, hd, q⟩ := h
  rw [Vals.ref1 r]
  obtain ⟨us', rv, es, ep, t, hat, hf, hsz, hr, hl, hes⟩ := (I.hok a _ ha).1
  have hus := refs_of_vals rv
  rw [hus] at hes
  have tv : ∀ v ∈ L.map (fun p => Value.ref p.1), TupV X.prog X.w s.heap v (keyT X.prog X.w s.heap v) ∧ (keyT X.prog X.w s.heap v).length = d := fun v hv => by
    obtain ⟨p, hp, rfl⟩ := List.mem_map.mp hv
    have z : TupV X.prog X.w s.heap (.ref p.1) p.2 := ⟨p.1, rfl, I.isT (hk p hp).1⟩
    rw [keyT_of z]
    exact ⟨z, (hk p hp).2⟩
  refine sorted_of (ltv := fun v u => HT.lexLt (keyT X.prog X.w s.heap v) (keyT X.prog X.w s.heap u)) (NtL.swo_lexL _) (I.ok.hd hc) hat hf hsz hr hl (fun vs s2 l pm h2 k hne => ?_) fun s' p out c k g o hp hg pm => ?_
  · exact tups_sortable hd h2 (fun v hv => ⟨(tv v (by rw [← hes]; exact pm.mem_iff.mp hv)).1.kept k, (tv v (by rw [← hes]; exact pm.mem_iff.mp hv)).2⟩) hne
  · rw [hes] at pm
    obtain ⟨L', pL, rfl⟩ := perm_map pm L rfl
    have hlen : (L'.map fun q => V.ref q.1).length ≤ sizeLine := by
      have e := congrArg List.length hes
      rw [List.length_map, List.length_map, Array.length_toList] at e
      rw [List.length_map, pL.length_eq, ← e]
      exact fits_of_scanBound hsz
    exact ⟨.ref p, _, Inv.new (o := .lst (L'.map fun q => V.ref q.1)) I k g o hp ⟨hlen, _, c, vals_of_refs L', hg⟩, rfl, q L' p pL (I.hok.fresh hp)⟩
theorem vals_ints {ms : List Int} {us : List Value} (r : Vals (ms.map V.int) us) : IntsAre us ms := r.ints
/-- sorted(s), s a set of ints -/
def rSortI (w : World) : List V → Hp → VK → Prop := fun vs H Q => ∃ (a : Addr) (ms : List Int), vs = [V.ref a] ∧ H a = some (ZS w a (ms.map V.int)) ∧
  ∀ (ns : List Int) (p : Addr), ns.Perm ms → H p = none → Q (.ref p) (upd H p (.lst (ns.map V.int)))
theorem cr_sortI (hc : X.calm = true) : CallR X (.builtin "sorted") (rSortI X.w) := by
  intro pins s σ H vs us Q I r h
  obtain ⟨a, ms, rfl, ha, q⟩ := h
  rw [Vals.ref1 r]
  obtain ⟨us', rv, es, ep, t, hat, hf, hsz, hr, hl, hes⟩ := (I.hok a _ ha).1
  have hI := vals_ints rv
  rw [← hes] at hI
  have all : ∀ vs : List Value, vs.Perm (es.toList.map (·.2)) → IntsAre vs (vs.map SrtO.iv) := fun vs pm => SrtO.ints_iv fun v hv => by
    obtain ⟨i, t, e⟩ := SrtO.ints_mem hI v (pm.mem_iff.mp hv)
    exact ⟨i, t, e⟩
  refine sorted_of SrtO.swo_int (I.ok.hd hc) hat hf hsz hr hl (fun vs s2 l pm h2 k hne => SrtO.ints_sortable (all vs pm) h2) fun s' p out c k g o hp hg pm => ?_
  have pn : (out.map SrtO.iv).Perm ms := by
    have z := pm.map SrtO.iv
    rwa [SrtO.iv_ints hI] at z
  have hlen : ((out.map SrtO.iv).map V.int).length ≤ sizeLine := by
    rw [List.length_map, List.length_map, pm.length_eq, List.length_map, Array.length_toList]
    exact fits_of_scanBound hsz
  exact ⟨.ref p, _, Inv.new (o := .lst ((out.map SrtO.iv).map V.int)) I k g o hp ⟨hlen, _, c, ints_vals (all out pm), hg⟩, rfl, q _ p pn (I.hok.fresh hp)⟩
/-- sorted(xs), xs a list of pairs of a tuple of d ints and an int -/
def rSortP (K : PySem.W.Frag) : List V → Hp → VK → Prop := fun vs H Q => ∃ (a : Addr) (xs : List V) (d : Nat), vs = [V.ref a] ∧ SqL K H a xs ∧ (∀ x ∈ xs, ∃ (t b : Addr) (ns : List Int) (n : Int), x = V.ref t ∧ H t = some (.tup [.ref b, .int n]) ∧ H b = some (.tup (ns.map V.int)) ∧ ns.length = d) ∧
  ∀ (ys : List V) (p : Addr), ys.Perm xs → H p = none → Q (.ref p) (upd H p (.lst ys))
open Classical in
noncomputable def keyP (P : Program) (w : World) (h : Heap) (v : Value) : List Int × Int := if x : ∃ z : List Int × Int, PairV P w h v z.1 z.2 then choose x else ([], 0)
theorem keyP_of {P : Program} {w : World} {h : Heap} {v : Value} {d : Nat} (x : ∃ ns n, PairV P w h v ns n ∧ ns.length = d) : PairV P w h v (keyP P w h v).1 (keyP P w h v).2 ∧ (keyP P w h v).1.length = d := by
  obtain ⟨ns, n, hp, hl⟩ := x
  have e : ∃ z : List Int × Int, PairV P w h v z.1 z.2 := ⟨(ns, n), hp⟩
  have h1 : PairV P w h v (keyP P w h v).1 (keyP P w h v).2 := by
    unfold keyP
    rw [dif_pos e]
    exact Classical.choose_spec e
  refine ⟨h1, ?_⟩
  obtain ⟨a, b, t, o, m, ea, ho, hc, hd, hx⟩ := hp
  obtain ⟨a', b', t', o', m', ea', ho', hc', hd', hx'⟩ := h1
  rw [ea] at ea'
  cases ea'
  rw [ho] at ho'
  cases ho'
  rw [hd] at hd'
  cases hd'
  rw [← IsTupleKey.inj hx hx']
  exact hl
theorem cr_sortP (hu : X.A.units + 64 < cLine) : CallR X (.builtin "sorted") (rSortP X.K) := by
  intro pins s σ H vs us Q I r h
  obtain ⟨a, xs, d, rfl, hs, hk, q⟩ := h
  obtain ⟨its, rv, hl, hz⟩ := I.list hs
  rw [Vals.ref1 r]
  have rl := rv.length
  have pv : ∀ v ∈ its, PairV X.prog X.w s.heap v (keyP X.prog X.w s.heap v).1 (keyP X.prog X.w s.heap v).2 ∧ (keyP X.prog X.w s.heap v).1.length = d := fun v hv => by
    obtain ⟨i, hi⟩ := List.mem_iff_getElem?.mp hv
    have hx : ∃ x, xs[i]? = some x := ⟨_, List.getElem?_eq_getElem (by rw [rl]; exact (List.getElem?_eq_some_iff.mp hi).1)⟩
    obtain ⟨x, hx⟩ := hx
    obtain ⟨u, hu', ru⟩ := rv.get hx
    rw [hi] at hu'
    cases hu'
    obtain ⟨t, b, ns, n, rfl, ht, hb, hn⟩ := hk x (List.mem_of_getElem? hx)
    cases ru
    refine keyP_of ⟨ns, n, ?_, hn⟩
    have ht' : SqT X.K H t [.ref b, .int n] := SqT.of ht
    obtain ⟨i1, r1, p1, _⟩ := I.tuple ht'
    obtain ⟨o, ho, hc, m, hd⟩ := p1
    cases r1 with
    | cons ra r1 =>
      cases r1 with
      | cons rb r1 =>
        cases r1
        cases ra
        obtain ⟨tk, rfl⟩ := rb
        exact ⟨t, b, tk, o, m, rfl, ho, hc, hd, I.isT (SqT.of hb)⟩
  refine SrtO.sorted_ord (ltv := fun v u => HT.lexLt ((keyP X.prog X.w s.heap v).1 ++ [(keyP X.prog X.w s.heap v).2]) ((keyP X.prog X.w s.heap u).1 ++ [(keyP X.prog X.w s.heap u).2])) (NtL.swo_lexL fun v => (keyP X.prog X.w s.heap v).1 ++ [(keyP X.prog X.w s.heap v).2]) hl.isList (by rw [← rl]; exact hz) (fun h2 h₁ a' ha' k => ?_) fun out h1 h2 => ?_
  · refine pairs_sortable (by show X.A.units + _ + _ < cLine; omega) h2 (fun v hv => ⟨(pv v hv).1.keeps fun b o e _ => (k b o e).2, (pv v hv).2⟩) fun o e => ?_
    have e' : h₁.get? a' = some o := e
    rw [ha'] at e'
    cases e'
    exact (show Value.type "list" ≠ Value.type "tuple" by decide)
  · obtain ⟨ep, he'⟩ := PyProof.Rows.sortedAll_at s.heap its out.toArray
    -- the values of the new list
    have back : xs = its.map bkV := (bkV_refs rv fun x hx => let ⟨t, _, _, _, e, _⟩ := hk x hx; ⟨t, e⟩).1
    have allr : ∀ u ∈ its, ∃ a, u = Value.ref a := (bkV_refs rv fun x hx => let ⟨t, _, _, _, e, _⟩ := hk x hx; ⟨t, e⟩).2
    have pm := h2.perm
    have ro : Vals (out.map bkV) out := bkV_vals fun u hu => allr u (pm.mem_iff.mp hu)
    have hlen : (out.map bkV).length ≤ sizeLine := by rw [List.length_map, pm.length_eq, ← rl]; exact hz
    exact ⟨.ref _, upd H (s.heap.objs.size + 1) (.lst (out.map bkV)), I.laid (t' := s.toks) (fun _ _ => PyProof.Rows.sortedAll_old) (Nat.le_succ _) ⟨hlen, out, ep, ro, he'⟩, rfl, q _ _ (by rw [back]; exact pm.map _) (I.hok.fresh (Nat.le_succ _))⟩
end
end Zs
set_option maxRecDepth 100000
set_option maxHeartbeats 8000000
/-! Rules that the layer has not: setdefault and comprehensions with tuple keys, items of such dicts, enumerate of a tuple, zip of a tuple and a list. -/
namespace Zs
open PySem PySem.Spec PyProof.Rows L2
/-! ### d.setdefault(k, x), k a tuple -/
section
variable {X : Cx} {pins : List (Addr × Obj)} {σ : L2.St} {H : Hp} {s : Shared} {a : Addr}
theorem at_setd {kvs : List (List Key × V)} {k : List Key} {b : Addr} {d : V} {r : Value} {E : Value → Shared → Prop} {Q : Value → Shared → Prop} (hu : X.A.units + 1 < cLine) (I : Inv X pins σ H s) (e : H a = some (.dT kvs)) (eb : H b = some (.tup (k.map kV))) (rd : RelV d r) (hl : kvs.length < sizeLine)
    (h1 : ∀ v, valV kvs k = some v → ∀ (u : Value) (s' : Shared), Inv X pins σ H s' → RelV v u → Q u s') (h2 : valV kvs k = none → ∀ (u : Value) (s' : Shared), Inv X pins σ (upd H a (.dT (putK kvs k d))) s' → RelV d u → Q u s') :
    wpAny (model X.prog X.w) X.A (call (.builtin "dict.setdefault") [.ref a, .ref b, r]) Q E s := by
  obtain ⟨z, hd, xs, rel, dd⟩ := dt_of I.hok e
  have q := rel.val k
  refine call_setdefault_heap (hsz := by rw [← Paired.length rel]; exact z) (tupleKind_room_in1 hu) (key_of I.hok eb) hd dd (fun p hp => ?_) fun hn h' dd' hs => ?_
  · rw [hp] at q
    cases q0 : valV kvs k with
    | none => rw [q0] at q; exact (show False from q).elim
    | some v0 => rw [q0] at q; exact h1 v0 q0 _ _ (I.tok _) q
  · rw [hn] at q
    cases q0 : valV kvs k with
    | some v0 => rw [q0] at q; exact (show False from q).elim
    | none =>
      have hl2 : (putK kvs k d).length ≤ sizeLine := by have := length_putK kvs k d; omega
      obtain ⟨o, es, ep, hq, w1, w2, w3, _, w5⟩ := dd'
      refine h2 q0 _ _ (d_write I (by rw [e]; exact True.intro) hs ⟨o, hq⟩ ⟨hl2, hd, _, (rel.put k eb rd).keeps fun c ys ec => ?_, o, es, ep, hq, w1, w2, w3, w5⟩) rd
      rw [upd_ne (ne_of ec e (fun z => nomatch z))]
      exact ec
end
/-- d.setdefault(y, z), the keys of d tuples -/
def tSetdT (td ty tx : TE) : TE := fun σ H Q => td σ H fun x H1 => ∃ a, x = .ref a ∧ IsD H1 a ∧ ty σ H1 fun y H2 => tx σ H2 fun z H3 => ∃ (kvs : List (List Key × V)) (k : List Key) (b : Addr), H3 a = some (.dT kvs) ∧ y = .ref b ∧ H3 b = some (.tup (k.map kV)) ∧ kvs.length < sizeLine ∧
  (∀ v, valV kvs k = some v → Q v H3) ∧ (valV kvs k = none → Q z (upd H3 a (.dT (putK kvs k z))))
theorem pe_setdT {X : Cx} {o e f : Expr} {td ty tx : TE} {apos cpos : Pos} (hu : X.A.units + 1 < cLine) (ho : PE X o td) (he : PE X e ty) (hf : PE X f tx) (m : M2 X o "setdefault" apos e f cpos) : PE X (.Call (.Attribute o "setdefault" apos) [e, f] [] cpos) (tSetdT td ty tx) := by
  refine ⟨fun pins s σ H Q I h => ?_⟩
  refine wpAny_Call_method m.base m.few m.line F.plainAttrs_dict F.slot_dict_setdefault F.type_dict_setdefault (thn (ho.run pins s σ H _ I h) fun u s1 ⟨x, H1, I1, rx, a, ex, d, q1⟩ => ?_)
  subst ex
  cases (show u = Value.ref a from rx)
  obtain ⟨t1, t2, _⟩ := isD_at I1 d
  refine ⟨t1, t2, ?_⟩
  rw [m.trees]
  refine Calls.callWith_builtin rfl (Calls.evalArgs_plain (Calls.spliced_cons (thn (he.run pins s1 σ H1 _ I1 q1) fun iv s2 ⟨y, H2, I2, ry, q2⟩ =>
    Calls.spliced_cons (thn (hf.run pins s2 σ H2 _ I2 q2) fun fv s3 ⟨z, H3, I3, rz, kvs, k, b, ea, ey, eb, hl, q3, q4⟩ => Calls.spliced_nil ?_))))
  subst ey
  cases (show iv = Value.ref b from ry)
  exact at_setd hu I3 ea eb rz hl (fun v hv u s4 I4 ru => ⟨v, _, I4, ru, q3 v hv⟩) fun hn u s4 I4 ru => ⟨z, _, I4, ru, q4 hn⟩

/-! ### {k: v for ..}, k a tuple -/
section
variable {X : Cx}
theorem put_in {pins : List (Addr × Obj)} {σ : L2.St} {H : Hp} {s : Shared} {E : Value → Shared → Prop} {D b : Addr} {kvs : List (List Key × V)} {k : List Key} {v : V} {r : Value} {Q : Unit → Shared → Prop} (hu : X.A.units + 1 < cLine) (I : Inv X pins σ H s) (hD : H D = some (.dT kvs)) (hz : kvs.length < sizeLine)
    (eb : H b = some (.tup (k.map kV))) (rv : RelV v r) (h : ∀ s', Inv X pins σ (upd H D (.dT (putK kvs k v))) s' → Q () s') : wpAny (model X.prog X.w) X.A (dictSet D (.ref b) r) Q E s := by
  obtain ⟨z, hd, xs, rel, dd⟩ := dt_of I.hok hD
  have hl : (putK kvs k v).length ≤ sizeLine := by have := length_putK kvs k v; omega
  refine wpAny_dictSet_heap (hsz := by rw [← Paired.length rel]; exact z) (show (tupleKind (mixKind X.prog X.w)).room X.A from (by show X.A.units < cLine; omega)) (key_of I.hok eb) dd fun h' dd' hs => h _ ?_
  obtain ⟨o, es, ep, hq, w1, w2, w3, _, w5⟩ := dd'
  refine d_write I (by rw [hD]; exact True.intro) hs ⟨o, hq⟩ ⟨hl, hd, _, (rel.put k eb rv).keeps fun c ys ec => ?_, o, es, ep, hq, w1, w2, w3, w5⟩
  rw [upd_ne (ne_of ec hD (fun z => nomatch z))]
  exact ec
/-- what each turn owes: D the new dict -/
def DcTurn (g : TG) (tk tv : TE) (D : Addr) (σw : L2.St) (vs : List Nat) (Nx : Hp → Prop) (x : V) (H' : Hp) : Prop :=
  g x σw H' fun σ2 H2 => wipe σ2 vs = σw ∧ tk σ2 H2 fun y H3 => tv σ2 H3 fun z H4 => ∃ (kvs : List (List Key × V)) (k : List Key) (b : Addr), y = .ref b ∧ H4 b = some (.tup (k.map kV)) ∧ H4 D = some (.dT kvs) ∧ kvs.length < sizeLine ∧ Nx (upd H4 D (.dT (putK kvs k z)))
def tDcT (wi : TI) (g : TG) (tk tv : TE) (vs : List Nat) : TE := fun σ H Q => wi σ H fun J H1 => ∀ D, H1 D = none → ∃ W : Nat → Nat → Hp → Prop, (∃ m, W 0 m (upd H1 D (.dT []))) ∧ ∀ i m H, W i m H →
  (J.stop i H ∧ Q (.ref D) H) ∨ (J.go i H ∧ ∃ Nx : Hp → Prop, (∀ H', Nx H' → ∃ m', m' < m ∧ W (i + 1) m' H') ∧ ∀ x H', J.yld i H x H' → DcTurn g tk tv D (wipe σ vs) vs Nx x H')
theorem dcT_core {pins : List (Addr × Obj)} {s : Shared} {σ : L2.St} {H : Hp} {Q : VK} {use : Option (Value → Sem Unit)} {Qf : Value → Shared → Prop} {pos' : Pos} {kx vx tg iter : Expr} {scope : Scope} {own : List (Str × Nat)} {pos : Pos} {wi : TI} {g : TG} {tk tv : TE} (hu : X.A.units + 1 < cLine) (hc : X.calm = true) (hN : X.N.Nodup) (I : Inv X pins σ H s) (hi : PI X tg iter wi) (ok : BlkOk X.N X.env.scope scope own)
    (hg : ∀ (s : Shared) (H : Hp) (C : Addr) (cl : List (Str × Addr)) (fp : List Addr), PG (X.blk s H scope (compEnvC scope cl C X.env) fp) tg g)
    (hk : ∀ (s : Shared) (H : Hp) (C : Addr) (cl : List (Str × Addr)) (fp : List Addr), PE (X.blk s H scope (compEnvC scope cl C X.env) fp) kx tk)
    (he : ∀ (s : Shared) (H : Hp) (C : Addr) (cl : List (Str × Addr)) (fp : List Addr), PE (X.blk s H scope (compEnvC scope cl C X.env) fp) vx tv) (hs : ∀ x, foldedSetIterable iter X.env x = pure x)
    (h : tDcT wi g tk tv (own.map (·.2)) σ H Q)
    (hRR : ∀ D C s' m H', Inv X pins σ H' s' → Q (.ref D) H' → s'.heap.Ns C m → FpOk X pins H' C → compPost (model X.prog X.w) X.A X.xe use Qf (.ref D) C (.ok .next) s') :
    wpAny (model X.prog X.w) X.A (comprehension (.DictComp kx vx [⟨tg, iter, [], 0⟩] scope pos) scope X.env pos' newDict false (eval iter X.env) use) Qf X.xe s := by
  have hfree : ∀ y ∈ scope.names, y.2 = .free → ∃ c, X.env.cells.lookup y.1 = some c := fun y hy e => (ok.free y hy e).elim (fun k => I.ok.has _ (.inl k)) fun k => I.ok.has _ (.inr k)
  refine wpAny_comprehension_free (use := use) rfl hs (closure_ok hfree) ok.kind (fun y hy e => by rw [ok.uniq y hy, e]) (thn (hi.run pins s σ H _ I h) fun xv s1 hx => thn hx fun itv s2 h2 => ?_)
  obtain ⟨it, fp, tn, J, H2, rfl, I2, T, st2, f2, q⟩ := h2
  refine wpAny_newObj_type (newEnv_comp ?_)
  generalize hD : s2.heap.objs.size = D
  obtain ⟨W, ⟨m0, w0⟩, turn⟩ := q D (I2.hok.fresh (Nat.le_of_eq hD))
  generalize hs3 : ({ s2 with heap := s2.heap.push { cls := .type "dict", data := .dict #[] } } : Shared) = s3
  have h3 : s3.heap = s2.heap.push { cls := .type "dict", data := .dict #[] } := by rw [← hs3]
  have I3 : Inv X pins σ (upd H2 D (.dT [])) s3 := by
    rw [← hs3]
    refine I2.laid (t' := s2.toks) (fun b o e => Heap.get?_push_of_some _ e) (Nat.le_of_eq hD) ?_
    rw [← hD]
    exact dt_empty s2.heap I2.big
  have f3 : ∀ b ∈ fp, FpOk X pins (upd H2 D (.dT [])) b ∧ b < s3.heap.objs.size := fun b hb => by
    obtain ⟨o, e, _⟩ := T.obj _ _ st2 b hb
    have hlt := Heap.lt_size e
    refine ⟨⟨?_, (f2 b hb).2⟩, by rw [h3, Heap.size_push]; exact Nat.lt_succ_of_lt hlt⟩
    rw [upd_ne (by rw [← hD]; exact Nat.ne_of_lt hlt)]
    exact (f2 b hb).1
  have st3 : tn 0 s3.heap := T.keep _ _ _ st2 fun b _ o e => by rw [h3]; exact Heap.get?_push_of_some _ e
  have I4 := block_start I3 ok hN f3
  have pg := hg s3 (upd H2 D (.dT [])) s3.heap.objs.size (cellsFrom (s3.heap.objs.size + 1) scope.names (cloFrom X.env.cells scope.names [])) fp
  have pk := hk s3 (upd H2 D (.dT [])) s3.heap.objs.size (cellsFrom (s3.heap.objs.size + 1) scope.names (cloFrom X.env.cells scope.names [])) fp
  have pe := he s3 (upd H2 D (.dT [])) s3.heap.objs.size (cellsFrom (s3.heap.objs.size + 1) scope.names (cloFrom X.env.cells scope.names [])) fp
  show codeAny _ _ (.compStart (.DictComp kx vx [⟨tg, iter, [], 0⟩] scope pos) 0 (.ref it) (.ref D) (compEnvC scope (cellsFrom (s3.heap.objs.size + 1) scope.names (cloFrom X.env.cells scope.names [])) s3.heap.objs.size X.env)) (compPost (model X.prog X.w) X.A X.xe use Qf (.ref D) s3.heap.objs.size) { s3 with heap := pushCells (s3.heap.push { cls := .type "dict", data := .dict #[] }) scope.names }
  have nfp : ∀ b ∈ fp, (upd H2 D (.dT [])) b = none := fun b hb => (f3 b hb).1.1
  generalize hce : compEnvC scope (cellsFrom (s3.heap.objs.size + 1) scope.names (cloFrom X.env.cells scope.names [])) s3.heap.objs.size X.env = ce at I4 pg pk pe ⊢
  have cL : ce.locals = s3.heap.objs.size := by subst hce; rfl
  generalize hH3 : upd H2 D (.dT []) = H3 at I3 I4 pg pk pe w0 nfp f3
  generalize hs4 : ({ s3 with heap := pushCells (s3.heap.push { cls := .type "dict", data := .dict #[] }) scope.names } : Shared) = s4 at I4 ⊢
  have st4 : tn 0 s4.heap := T.keep _ _ _ st3 fun b _ o e => by rw [← hs4]; exact pushCells_keeps _ _ _ _ (Heap.get?_push_of_some _ e)
  have stat : ∀ {σ' : L2.St} {H' : Hp} {s' : Shared}, Inv (X.blk s3 H3 scope ce fp) [] σ' H' s' → (∀ b ∈ fp, H' b = none) → ∀ b ∈ fp, FpOk (X.blk s3 H3 scope ce fp) [] H' b := fun I' hn b hb =>
    ⟨hn b hb, (I'.ok.exf b hb).1, I'.ok.exfs b hb, .inl hb, fun x c e => (I'.ok.exf b hb).2 x c e, fun p hp => absurd (show p ∈ ([] : List (Addr × Obj)) ++ [] from hp) (by simp)⟩
  have loop : codeAny (model X.prog X.w) X.A (.compLoop (.DictComp kx vx [⟨tg, iter, [], 0⟩] scope pos) 0 (.ref it) (.ref D) ce) (compPost (model X.prog X.w) X.A X.xe use Qf (.ref D) s3.heap.objs.size) s4 := by
    refine compLoop_anyD (fun n s' => ∃ i H', Inv (X.blk s3 H3 scope ce fp) [] (wipe σ (own.map (·.2))) H' s' ∧ tn i s'.heap ∧ (∀ b ∈ fp, H' b = none) ∧ W i n H') ?_ m0 ⟨0, H3, I4, st4, nfp, w0⟩
    rintro n s5 ⟨i, H5, I5, st5, n5, w5⟩
    rcases turn i n H5 w5 with ⟨stop, qq⟩ | ⟨go, Nx, hNx, step⟩
    · refine thnF (T.done (X.blk s3 H3 scope ce fp) rfl rfl rfl hc i [] s5 _ H5 (fun _ _ => False) I5 (stat I5 n5) st5 stop) fun r s6 ⟨hr, I6⟩ => ?_
      subst hr
      have I7 : Inv X pins σ H5 s6 := I3.call' (ch := fp) I6.os I6.base I6.hok I6.bare fun b hb => ⟨(f3 b hb).1.2.2.2.1, (f3 b hb).1.2.1, (f3 b hb).1.2.2.2.2.1, (f3 b hb).1.2.2.2.2.2⟩
      have nC : H5 s3.heap.objs.size = none := by
        have z : H5 ce.locals = none := I6.free
        rwa [cL] at z
      obtain ⟨m, hn, _⟩ := I6.loc
      have hn : s6.heap.Ns ce.locals m := hn
      rw [cL] at hn
      exact hRR D _ s6 m H5 I7 qq hn (I3.fpOk (Nat.le_refl _) nC)
    · refine thnF (T.item (X.blk s3 H3 scope ce fp) rfl rfl rfl hc i [] s5 _ H5 (fun _ _ => False) I5 (stat I5 n5) st5 go) fun r s6 ⟨u, hr, h6⟩ => ?_
      subst hr
      refine thnF h6 fun _ s7 ⟨x, H7, I7, r7, y7, st7, n7⟩ => ?_
      refine thnF (pg.run _ s7 _ H7 x u _ (I7.pinned (stat I7 n7) (T.obj _ _ st7)) r7 (step x H7 y7)) fun _ s8 ⟨σ8, H8, I8, hw8, q8⟩ => ?_
      show wpAny _ _ (pure true) _ _ s8
      refine wpAny_pure ?_
      rw [if_pos rfl]
      refine thnF (pk.run _ s8 σ8 H8 _ I8 q8) fun z s10 ⟨yk, H10, I10, r10, q10⟩ => ?_
      refine thnF (pe.run _ s10 σ8 H10 _ I10 q10) fun z2 s11 ⟨yv, H11, I11, r11, kvs, k, b, ek, eb, hD11, hz11, nx⟩ => ?_
      subst ek
      cases (show z = Value.ref b from r10)
      refine put_in (X := X.blk s3 H3 scope ce fp) hu I11 hD11 hz11 eb r11 fun s12 I12 => ?_
      obtain ⟨m', hm, w'⟩ := hNx _ nx
      have pin' : ∀ b ∈ fp, ∀ o, s7.heap.get? b = some o → s12.heap.get? b = some o ∧ _ := fun b hb o e =>
        let z := I12.pin (b, o) (List.mem_append_right _ (List.mem_append_right _ (mem_pinsAt hb e)))
        ⟨z.1, z.2.1⟩
      have hl : (wipe σ (own.map (·.2))).length = σ8.length := by rw [← hw8, wipe_length]
      refine ⟨m', hm, i + 1, _, (I12.unpinned (pins := [])).weak hl (fun j v e => ?_), T.keep _ _ _ st7 fun b hb o e => (pin' b hb o e).1, fun b hb => ?_, w'⟩
      · rw [← hw8] at e
        exact (wipe_some e).1
      · obtain ⟨o, e, _⟩ := T.obj _ _ st7 b hb
        exact (pin' b hb o e).2
  exact codeAny_compStart_dict loop (T.self X.A 0 _ _ _ st4 loop)
theorem pe_dcT {kx vx tg iter : Expr} {scope : Scope} {own : List (Str × Nat)} {pos : Pos} {wi : TI} {g : TG} {tk tv : TE} (hu : X.A.units + 1 < cLine) (hc : X.calm = true) (hN : X.N.Nodup) (hi : PI X tg iter wi) (ok : BlkOk X.N X.env.scope scope own)
    (hg : ∀ (s : Shared) (H : Hp) (C : Addr) (cl : List (Str × Addr)) (fp : List Addr), PG (X.blk s H scope (compEnvC scope cl C X.env) fp) tg g)
    (hk : ∀ (s : Shared) (H : Hp) (C : Addr) (cl : List (Str × Addr)) (fp : List Addr), PE (X.blk s H scope (compEnvC scope cl C X.env) fp) kx tk)
    (he : ∀ (s : Shared) (H : Hp) (C : Addr) (cl : List (Str × Addr)) (fp : List Addr), PE (X.blk s H scope (compEnvC scope cl C X.env) fp) vx tv) (hs : ∀ x, foldedSetIterable iter X.env x = pure x := by intro _; rfl) :
    PE X (.DictComp kx vx [⟨tg, iter, [], 0⟩] scope pos) (tDcT wi g tk tv (own.map (·.2))) := by
  refine ⟨fun pins s σ H Q I h => ?_⟩
  rw [arm_eval_DictComp]
  refine dcT_core hu hc hN I hi ok hg hk he hs h fun D C s' m H' I' q hn f => ⟨m, hn, fun h'' sb => ?_⟩
  obtain ⟨f0, f1, f2, f3, f4, f5⟩ := f
  exact ⟨.ref D, H', I'.turned (t' := s'.toks) (fun b o hb e => (sb.2 b hb).trans e) f0 f1 f3 f4 f5, rfl, q⟩
/-- name = {k: v for ..}, the name a local -/
theorem ps_setDcT {i : Nat} {y : Str} {py spos : Pos} {kx vx tg iter : Expr} {scope : Scope} {own : List (Str × Nat)} {pos : Pos} {wi : TI} {g : TG} {tk tv : TE} (hu : X.A.units + 1 < cLine) (hc : X.calm = true) (hN : X.N.Nodup) (hy : X.N[i]? = some y) (hyl : X.env.scope.names.lookup y = some .local)
    (hsw : swapsWith (.DictComp kx vx [⟨tg, iter, [], 0⟩] scope pos) (some (.Name y py)) spos.line X.env = pure true) (hi : PI X tg iter wi) (ok : BlkOk X.N X.env.scope scope own)
    (hg : ∀ (s : Shared) (H : Hp) (C : Addr) (cl : List (Str × Addr)) (fp : List Addr), PG (X.blk s H scope (compEnvC scope cl C X.env) fp) tg g)
    (hk : ∀ (s : Shared) (H : Hp) (C : Addr) (cl : List (Str × Addr)) (fp : List Addr), PE (X.blk s H scope (compEnvC scope cl C X.env) fp) kx tk)
    (he : ∀ (s : Shared) (H : Hp) (C : Addr) (cl : List (Str × Addr)) (fp : List Addr), PE (X.blk s H scope (compEnvC scope cl C X.env) fp) vx tv) (hs : ∀ x, foldedSetIterable iter X.env x = pure x := by intro _; rfl) :
    PS X (.Assign [.Name y py] (.DictComp kx vx [⟨tg, iter, [], 0⟩] scope pos) spos) (tAsg (tDcT wi g tk tv (own.map (·.2))) (gName i)) := by
  refine ⟨fun pins s σ H D I h => ?_⟩
  rw [exec_Assign_Name_used _ _ _ _ hsw]
  refine wpAny_bind (wpAny_standAt (wpAny_bind ?_))
  show wpAny _ X.A (do let _ ← comprehension (.DictComp kx vx [⟨tg, iter, [], 0⟩] scope pos) scope X.env (firstIterPos [⟨tg, iter, [], 0⟩] pos) newDict false (eval iter X.env) (some (assign (.Name y py) X.env))) _ _ s
  have h : tDcT wi g tk tv (own.map (·.2)) σ H (fun x H1 => gName i x σ H1 D.nx) := h
  refine wpAny_bind (thn (dcT_core (Qf := fun _ s' => SP X pins D .next s') hu hc hN I hi ok hg hk he hs h fun L C s' m H' I' q hn f => ?_) fun _ s' hq => wpAny_pure (wpAny_pure hq))
  show wpAny _ _ (assign (.Name y py) X.env (.ref L)) _ _ _
  refine wpAny_assign_Name (store_ok2 (v := V.ref L) I' hN hy (.inl hyl) rfl (fun s2 I2 ⟨a, sb, ha⟩ => ?_) (.inr hyl))
  obtain ⟨f0, f1, f2, f3, f4, f5⟩ := f
  have haC : C ≠ a := by
    rcases ha with z | z
    · rw [z]; exact f1
    · exact fun e => f4 y a z e.symm
  refine ⟨m, hn.sameBut sb haC, fun h3 sb3 => ?_⟩
  exact ⟨_, H', I2.turned (t' := s2.toks) (fun b o hb e => (sb3.2 b hb).trans e) f0 f1 f3 f4 f5, q⟩
theorem swd_true {kx vx : Expr} {gs : List Comprehension} {scope : Scope} {pos py : Pos} {y : Str} {l : Nat} {env : Env} (hk : env.scope.kind = .function) (hy : env.scope.names.lookup y = some .local) (hl : (py.line == pos.line) = true)
    (ha : (scope.names.any fun (n, k) => n == y && (k == .local || k == .cell)) = false) : swapsWith (.DictComp kx vx gs scope pos) (some (.Name y py)) l env = pure true := by
  have ky : env.kindOf y = some .local := hy
  have hb : env.blockKind = .function := by unfold Env.blockKind; rw [hk]; rfl
  unfold swapsWith
  simp only [hb, ky, ha, Expr.pos, hl]
  rfl
end
/-- such a comprehension over a walk -/
theorem dcT_it {J : It} {n : Nat} {G : Hp → Prop} {Y : Nat → Hp → V → Hp → Prop} (w : Walk J n G Y) {g : TG} {tk tv : TE} {vs : List Nat} {σw : L2.St} {H1 : Hp} {D : Addr} {Qd : Hp → Prop} (Pv : Nat → Hp → Prop) (h0 : Pv 0 (upd H1 D (.dT []))) (hG : ∀ i H, i ≤ n → Pv i H → G H)
    (hs : ∀ i x H H', i < n → Pv i H → Y i H x H' → DcTurn g tk tv D σw vs (Pv (i + 1)) x H') (hd : ∀ H, Pv n H → Qd H) :
    ∃ W : Nat → Nat → Hp → Prop, (∃ m, W 0 m (upd H1 D (.dT []))) ∧ ∀ i m H, W i m H →
      (J.stop i H ∧ Qd H) ∨ (J.go i H ∧ ∃ Nx : Hp → Prop, (∀ H', Nx H' → ∃ m', m' < m ∧ W (i + 1) m' H') ∧ ∀ x H', J.yld i H x H' → DcTurn g tk tv D σw vs Nx x H') := by
  refine ⟨fun i m H => m = n - i ∧ i ≤ n ∧ Pv i H, ⟨n, rfl, Nat.zero_le _, h0⟩, ?_⟩
  rintro i m H ⟨rfl, hi, p⟩
  by_cases hlt : i < n
  · exact .inr ⟨w.goes i H hlt (hG i H hi p), Pv (i + 1), fun H' p' => ⟨n - (i + 1), by omega, rfl, hlt, p'⟩, fun x H' y => hs i x H H' hlt p (w.yields i H x H' hlt (hG i H hi p) y)⟩
  · obtain rfl : i = n := by omega
    exact .inl ⟨w.stops H (hG i H hi p), hd H p⟩
end Zs
set_option maxRecDepth 100000
set_option maxHeartbeats 8000000
namespace Zs
open PySem PySem.Spec PyProof.Rows L2
/-! ### a list or a tuple, walked -/
theorem pi_either {X : Cx} {tg it : Expr} {w1 w2 : TI} (h1 : PI X tg it w1) (h2 : PI X tg it w2) : PI X tg it fun σ H R => w1 σ H R ∨ w2 σ H R :=
  ⟨fun pins s σ H R I h => h.elim (h1.run pins s σ H R I) (h2.run pins s σ H R I)⟩
theorem pe_either {X : Cx} {e : Expr} {t1 t2 : TE} (h1 : PE X e t1) (h2 : PE X e t2) : PE X e fun σ H Q => t1 σ H Q ∨ t2 σ H Q :=
  ⟨fun pins s σ H Q I h => h.elim (h1.run pins s σ H Q I) (h2.run pins s σ H Q I)⟩
/-! ### d.items(), the keys tuples -/
/-- the pairs, each a new tuple of the key's own tuple and the value -/
def ItT (d : Addr) (o : Obj) (kvs : List (List Key × V)) : It :=
  ⟨fun i H => H d = some (.frz o (.dT kvs)) ∧ i < kvs.length, fun i H x H' => ∃ (T q : Addr) (k : List Key) (v : V), kvs[i]? = some (k, v) ∧ x = .ref T ∧ H T = none ∧ H q = some (.tup (k.map kV)) ∧ H' = upd H T (.tup [.ref q, v]), fun i H => H d = some (.frz o (.dT kvs)) ∧ kvs.length ≤ i⟩
theorem frz_all {X : Cx} {pins : List (Addr × Obj)} {σ : L2.St} {H : Hp} {s : Shared} {d : Addr} {o : Obj} {kvs : List (List Key × V)} (I : Inv X pins σ H s) (h : H d = some (.frz o (.dT kvs))) :
    (d == sysModules) = false ∧ ∃ (es : Array DictEntry) (ep : Nat), o.data = .dict es ep ∧ s.heap.DictRaw d es ep ∧ es.size = kvs.length ∧
      ∀ (i : Nat) (k : List Key) (v : V), kvs[i]? = some (k, v) → ∃ (hi : i < es.size) (q : Addr), es[i].key = .ref q ∧ H q = some (.tup (k.map kV)) ∧ RelV v es[i].val := by
  obtain ⟨hd, z, hs, xs, pr, o', es, ep, ho, hx, hdt, he, _⟩ := I.hok d _ h
  rw [hd] at ho
  cases ho
  have l1 : es.size = xs.length := size_of_entries he
  have l2 : kvs.length = xs.length := Paired.length pr
  refine ⟨hs, es, ep, hdt, ⟨o, hd, hx, hdt⟩, by omega, fun i k v e => ?_⟩
  obtain ⟨b, hb, e1, e2, e3⟩ := paired_get pr e
  have q := entry_at he i
  rw [hb] at q
  have hi : i < es.size := (Array.getElem?_eq_some_iff.mp q).1
  have q' : es[i] = entryOfKey (tupleKind (mixKind X.prog X.w)) b := by
    rw [Array.getElem?_eq_getElem hi] at q
    exact Option.some.inj q
  refine ⟨hi, b.2.1, by rw [q']; rfl, e2, by rw [q']; exact e3⟩
theorem turn_T {P : Program} {w : World} {K : PySem.W.Frag} {d : Addr} {o : Obj} {es : Array DictEntry} {ep : Nat} {kvs : List (List Key × V)} {elts : List Expr} {kk : Nat} {tpos : Pos} (it : Addr) (hod : o.data = .dict es ep) :
    Turn P w K (.Tuple elts kk tpos) (ItT d o kvs) [it] it (fun i h => ∃ ok ov, IsItemIter h it d i es.size ep ok ov) where
  mem := by simp
  obj := fun i h ⟨_, _, e⟩ b hb => by
    obtain rfl : b = it := by simpa using hb
    exact ⟨_, e, fun v z => nomatch z⟩
  keep := fun i h h' ⟨ok, ov, e⟩ k => ⟨ok, ov, k it (by simp) _ e⟩
  item := by
    intro X hP hw hK hc i pins s σ H E I hf ⟨ok, ov, he⟩ ⟨hd, hi⟩
    subst hP hw hK
    obtain ⟨hs, es', ep', hdt, hm, hsz, ent⟩ := frz_all I hd
    obtain ⟨rfl, rfl⟩ := dict_ep hod hdt
    obtain ⟨⟨k, v⟩, hkv⟩ : ∃ p, kvs[i]? = some p := ⟨kvs[i], List.getElem?_eq_getElem hi⟩
    obtain ⟨hi', q, ek, eq, ev⟩ := ent i k v hkv
    have hlt : it < s.heap.objs.size := Heap.lt_size he
    refine wpAny_pyNext_items_item_raw he hm hi' fun h' ho hT hz hk => ?_
    refine ⟨_, rfl, wpAny_letOwnedTupleGo_items (s := { s with heap := h' }) ho fun h'' he' sb => ?_⟩
    have hT2 := (sb.2 _ (Nat.ne_of_gt hlt)).trans hT
    rw [ek] at hT2
    have new : ObjOk X.prog X.w (upd H s.heap.objs.size (.tup [.ref q, v])) h'' s.heap.objs.size (.tup [.ref q, v]) := ⟨by show 2 ≤ sizeLine; decide, [.ref q, _], .cons rfl (.cons ev .nil), ⟨_, hT2, rfl, _, rfl⟩⟩
    have I1 := I.turnedNew (t' := s.toks) (ch := [it]) (fun b ob hb e => (sb.2 b (by simpa using hb)).trans (hk b ob (by simpa using hb) e)) hf (Nat.le_refl _) new
    refine ⟨.ref s.heap.objs.size, _, I1, rfl, ⟨_, q, k, v, hkv, rfl, I.hok.fresh (Nat.le_refl _), eq, rfl⟩, ⟨_, _, he'⟩, fun b hb => ?_⟩
    obtain rfl : b = it := by simpa using hb
    rw [upd_ne (Nat.ne_of_lt hlt)]
    exact (hf b (by simp)).1
  done := by
    intro X hP hw hK hc i pins s σ H E I hf ⟨ok, ov, he⟩ ⟨hd, hi⟩
    subst hP hw hK
    obtain ⟨f0, f1, f2, f3, f4, f5⟩ := hf it (by simp)
    obtain ⟨hs, es', ep', hdt, hm, hsz, ent⟩ := frz_all I hd
    obtain ⟨rfl, rfl⟩ := dict_ep hod hdt
    exact wpAny_pyNext_items_end_raw (I.ok.hd hc) he hm (by omega) fun h' eb => ⟨rfl, I.turned (t' := s.toks) (fun b ob hb e => eb b ob hb e) f0 f1 f3 f4 f5⟩
  self := fun A i s Q E ⟨_, _, e⟩ h => PySem.W.kcp_self e h
def iItT (td : TE) : TI := fun σ H R => td σ H fun x H1 => ∃ d o kvs, x = .ref d ∧ H1 d = some (.frz o (.dT kvs)) ∧ R (ItT d o kvs) H1
theorem pi_itT {X : Cx} {e : Expr} {td : TE} {apos cpos : Pos} {elts : List Expr} {kk : Nat} {tpos : Pos} (he : PE X e td) (hbase : attributeBase e "items" X.env (eval e X.env) = eval e X.env := by rfl) (hline : (apos.endLine == cpos.line) = true := by rfl) :
    PI X (.Tuple elts kk tpos) (.Call (.Attribute e "items" apos) [] [] cpos) (iItT td) := by
  refine ⟨fun pins s σ H R I h => ?_⟩
  refine wpAny_Call_method (T := "dict") (id := "dict.items") hbase rfl hline F.plainAttrs_dict F.slot_dict_items F.type_dict_items (thn (he.run pins s σ H _ I h) fun u s1 ⟨x, H1, I1, rx, d, o, kvs, ex, hd, q⟩ => ?_)
  subst ex
  cases (show u = Value.ref d from rx)
  obtain ⟨hs, es, ep, hdt, hm, hsz, ent⟩ := frz_all I1 hd
  obtain ⟨ob, hob, hex, hda⟩ := id hm
  refine ⟨hm.typeIs, fun b z => by cases z; exact ⟨ob, hob, hex.2.1⟩, ?_⟩
  have I2 : Inv X pins σ H1 { s1 with heap := s1.heap.push { cls := .type "dict_items", data := .fields #[.ref d] } } := I1.kept (t' := s1.toks) fun b ob q => Heap.get?_push_of_some _ q
  have fin : wpAny (model X.prog X.w) X.A (pyIter (.ref s1.heap.objs.size)) (PIE X pins σ (.Tuple elts kk tpos) R) X.xe { s1 with heap := s1.heap.push { cls := .type "dict_items", data := .fields #[.ref d] } } := by
    refine wpAny_pyIter_items_raw (d := d) ⟨_, Heap.get?_push_size _ rfl, rfl, rfl⟩ (hm.at fun o e => Heap.get?_push_of_some _ e) (pi_one (tk := s1.toks) I2 _ (turn_T _ hdt) ⟨.none, .none, ?_⟩ q)
    exact Heap.get?_push_size _ rfl
  show wpAny _ _ (callWith cpos (.builtin "dict.items") [.ref d] [] []) _ X.xe s1
  exact method_meetsIn F.slot_dict_items F.entry_dict_items rfl (PySem.evalArgs_none ⟨rfl, hm.typeIs, F.args_dict_items_1 _, _, meets_dict_items_raw d hs, ⟨es, ep, hm⟩, fin⟩)
theorem walk_T {d : Addr} {o : Obj} {kvs : List (List Key × V)} : Walk (ItT d o kvs) kvs.length (fun H => H d = some (.frz o (.dT kvs)))
    (fun i H x H' => ∃ (T q : Addr) (k : List Key) (v : V), kvs[i]? = some (k, v) ∧ x = .ref T ∧ H T = none ∧ H q = some (.tup (k.map kV)) ∧ H' = upd H T (.tup [.ref q, v])) where
  goes := fun i H hi hG => ⟨hG, hi⟩
  stops := fun H hG => ⟨hG, Nat.le_refl _⟩
  yields := fun i H x H' _ _ y => y
/-! ### enumerate(t), t a tuple -/
set_option maxHeartbeats 1000000 in
theorem new_enumT {v : Value} {o : Obj} {G : Heap → Prop} (B : Begins v o G) :
    Meets (Builtin.«enumerate.__new__» ⟨[.type "enumerate", v], []⟩) (fun _ R s => G s.heap ∧
      R (.ok (.ret (.ref (s.heap.push o).objs.size))) { s with heap := (s.heap.push o).push { cls := .type "enumerate", data := .fields #[.none, .bool false, .ref s.heap.objs.size, rawInt 0, .none, .none] } }) :=
  .of_wp fun prog w A R s h => by
    obtain ⟨hp, g, d, tk, os⟩ := s; obtain ⟨h1, h⟩ := h
    have hsub := sub_enumerate
    have q1 : ∀ {A' : Around} {E : Value → Shared → Prop} {Q : Value → Shared → Prop}, Q (.ref hp.objs.size) ⟨hp.push o, g, d, tk, os⟩ → wpAny (model prog w) A' (pyIter v) Q E ⟨hp, g, d, tk, os⟩ := fun q => B.iter prog w _ _ ⟨hp, g, d, tk, os⟩ _ h1 q
    wp_walk using q1
    refine wpAny_stack_any fun st => wpAny_pure ?_
    split
    · rename_i c _ _ _ _ _
      cases (c == Value.type "enumerate") <;> (wp_walk using q1; exact ⟨_, rfl, h⟩)
    · wp_walk using q1
      exact ⟨_, rfl, h⟩
theorem call_enumT {prog : Program} {w : World} {A : Around} {E : Value → Shared → Prop} {s : Shared} {v : Value} {o : Obj} {G : Heap → Prop} {Q : Value → Shared → Prop} (B : Begins v o G) (h1 : G s.heap)
    (h : ∀ h', IsEnum h' (s.heap.objs.size + 1) s.heap.objs.size 0 .none → h'.get? s.heap.objs.size = some o → (∀ b o, s.heap.get? b = some o → h'.get? b = some o) → Q (.ref (s.heap.objs.size + 1)) { s with heap := h' }) :
    wpAny (model prog w) A (call (.type "enumerate") [v]) Q E s := by
  refine callType_new F.called_enumerate (by decide) (F.typeCall_enumerate_1 _) (F.newCall_enumerate_1 _) (fun obj => F.args_object_init_2 obj _) F.entry_enumerate_new (new_enumT B) ⟨h1, ?_⟩
  have hz : (s.heap.push o).objs.size = s.heap.objs.size + 1 := Heap.size_push ..
  show _ ∧ _
  rw [hz]
  have he := Heap.get?_push_size (s.heap.push o) (o := { cls := .type "enumerate", data := .fields #[.none, .bool false, .ref s.heap.objs.size, rawInt 0, .none, .none] }) rfl
  rw [hz] at he
  exact ⟨⟨_, he, rfl⟩, h _ he (Heap.get?_push_of_some _ (Heap.get?_push_size _ B.free)) fun b o x => Heap.get?_push_of_some _ (Heap.get?_push_of_some _ x)⟩
/-- the tuple at a as it stands, each item in a new pair -/
def IteT (K : PySem.W.Frag) (a : Addr) : It :=
  ⟨fun i H => ∃ (xs : List V) (x : V), SqT K H a xs ∧ xs[i]? = some x, fun i H v H' => ∃ T x, v = .ref T ∧ H T = none ∧ H' = upd H T (.tup [.int (i : Nat), x]) ∧ ∀ xs, SqT K H a xs → xs[i]? = some x, fun i H => ∃ xs : List V, SqT K H a xs ∧ xs.length = i⟩
theorem turn_enumT {P : Program} {w : World} {K : PySem.W.Frag} {elts : List Expr} {kk : Nat} {tpos : Pos} (a e it : Addr) (hai : a ≠ it) (hae : a ≠ e) :
    Turn P w K (.Tuple elts kk tpos) (IteT K a) [e, it] e (fun i h => (∃ old, IsEnum h e it ((i : Nat) : Int) old) ∧ h.IsTupleIter it a i ∧ e ≠ it) where
  mem := by simp
  obj := fun i h ⟨⟨old, he⟩, ⟨o, ho, hc, hd⟩, _⟩ b hb => by
    have e' : b = e ∨ b = it := by simpa using hb
    rcases e' with z | z
    · rw [z]; exact ⟨_, he, fun v q => nomatch q⟩
    · rw [z]; exact ⟨o, ho, fun v q => by rw [hd] at q; cases q⟩
  keep := fun i h h' ⟨⟨old, he⟩, hi, hne⟩ k => ⟨⟨old, k e (by simp) _ he⟩, hi.at fun o q => k it (by simp) o q, hne⟩
  item := by
    intro X hP hw hK hc i pins s σ H E I hf ⟨⟨old, he⟩, hit, hne⟩ ⟨xs, x, hq, hx⟩
    subst hP hw hK
    obtain ⟨its, rv, p, hz⟩ := I.tuple hq
    obtain ⟨u, hu, ru⟩ := rv.get hx
    have hel : e < s.heap.objs.size := Heap.lt_size he
    have hil : it < s.heap.objs.size := by obtain ⟨_, q, _⟩ := hit; exact Heap.lt_size q
    refine wpAny_pyNext_enum_itemD (Draws.tuple (A := X.A.in1) (I.ok.hd hc) it a hai its.toArray) he ⟨hit, p⟩ (by have := (List.getElem?_eq_some_iff.mp hu).1; simpa using this) hne (by simp; exact ⟨hne, hae.symm⟩) fun x' h' tk hx' ho ⟨hit', _⟩ hT hsz hk => ?_
    have ex : u = x' := by
      have z : its[i]? = some x' := by simpa using hx'
      rw [hu] at z
      exact Option.some.inj z
    subst ex
    refine ⟨_, rfl, wpAny_letOwnedTupleGo_enum (s := { s with heap := h', toks := tk + 1 }) ho fun h'' he' sb => ?_⟩
    have hT2 := (sb.2 _ (Nat.ne_of_gt hel)).trans hT
    have new : ObjOk X.prog X.w (upd H s.heap.objs.size (.tup [.int (i : Nat), x])) h'' s.heap.objs.size (.tup [.int (i : Nat), x]) := ⟨by show 2 ≤ sizeLine; decide, _, .cons ⟨tk, rfl⟩ (.cons ru .nil), ⟨_, hT2, rfl, _, rfl⟩⟩
    have I1 := I.turnedNew (t' := tk + 1) (ch := [e, it]) (fun b ob hb q => (sb.2 b (fun z => hb (by simp [z]))).trans (hk b ob (fun z => hb (by simp [z])) (fun z => hb (by simp [z])) q)) hf (Nat.le_refl _) new
    refine ⟨.ref s.heap.objs.size, _, I1, rfl, ⟨_, x, rfl, I.hok.fresh (Nat.le_refl _), rfl, fun ys hy => by rw [I.tuple_inj hy hq]; exact hx⟩, ⟨⟨u, ?_⟩, hit'.at fun o q => (sb.2 it (Ne.symm hne)).trans q, hne⟩, fun b hb => ?_⟩
    · rw [show ((i + 1 : Nat) : Int) = (i : Int) + 1 by omega]; exact he'
    · have e' : b = e ∨ b = it := by simpa using hb
      rw [upd_ne (Nat.ne_of_lt (by rcases e' with z | z <;> rw [z] <;> assumption))]
      exact (hf b hb).1
  done := by
    intro X hP hw hK hc i pins s σ H E I hf ⟨⟨old, he⟩, hit, hne⟩ ⟨xs, hq, hx⟩
    subst hP hw hK
    obtain ⟨its, rv, p, hz⟩ := I.tuple hq
    obtain ⟨f0, f1, f2, f3, f4, f5⟩ := hf it (by simp)
    have hl := rv.length
    obtain rfl : its.toArray.size = i := by simpa using hl.symm.trans hx
    exact wpAny_pyNext_enum_endD (Draws.tuple (A := X.A.in1) (I.ok.hd hc) it a hai its.toArray) he ⟨hit, p⟩ fun h' eb => ⟨rfl, I.turned (t' := s.toks) (fun b o hb q => eb b o hb q) f0 f1 f3 f4 f5⟩
  self := fun A i s Q E ⟨⟨_, he⟩, _⟩ h => wpAny_pyIter_enum he h
end Zs
set_option maxRecDepth 100000
set_option maxHeartbeats 8000000
namespace Zs
open PySem PySem.Spec PyProof.Rows L2
/-! ### zip(t, xs), t a tuple, xs a list -/
def ItzM (K : PySem.W.Frag) (a b : Addr) : It :=
  ⟨fun i H => ∃ (xs ys : List V) (x y : V), SqT K H a xs ∧ SqL K H b ys ∧ xs[i]? = some x ∧ ys[i]? = some y,
    fun i H v H' => ∃ T x y, v = .ref T ∧ H T = none ∧ H' = upd H T (.tup [x, y]) ∧ (∀ xs, SqT K H a xs → xs[i]? = some x) ∧ ∀ ys, SqL K H b ys → ys[i]? = some y,
    fun i H => ∃ xs ys : List V, SqT K H a xs ∧ SqL K H b ys ∧ xs.length = i ∧ ys.length = i⟩
theorem turn_zipM {P : Program} {w : World} {K : PySem.W.Frag} {elts : List Expr} {kk : Nat} {tpos : Pos} {a b z TI TO i1 i2 : Addr} (S : ZipSep2 z TI TO i1 i2 [i1, a] [i2, b]) (ha1 : a ≠ i1) (hb2 : b ≠ i2) :
    Turn P w K (.Tuple elts kk tpos) (ItzM K a b) [z, TI, TO, i1, i2] z (fun i h => IsZip h z TI TO .none ∧ IsTupOf2 h TI (.ref i1) (.ref i2) ∧ (∃ x y, IsTupOf2 h TO x y) ∧ h.IsTupleIter i1 a i ∧ h.IsListIter i2 b i) where
  mem := by simp
  obj := fun i h ⟨hz, hTI, ⟨x, y, hTO⟩, ⟨o1, e1, _, d1⟩, ⟨o2, e2, _, d2⟩⟩ c hc => by
    have e' : c = z ∨ c = TI ∨ c = TO ∨ c = i1 ∨ c = i2 := by simpa using hc
    rcases e' with q | q | q | q | q <;> rw [q]
    · exact ⟨_, hz, fun v q => nomatch q⟩
    · exact ⟨_, hTI, fun v q => nomatch q⟩
    · exact ⟨_, hTO, fun v q => nomatch q⟩
    · exact ⟨o1, e1, fun v q => by rw [d1] at q; cases q⟩
    · exact ⟨o2, e2, fun v q => by rw [d2] at q; cases q⟩
  keep := fun i h h' ⟨hz, hTI, ⟨x, y, hTO⟩, h1, h2⟩ k => ⟨k z (by simp) _ hz, k TI (by simp) _ hTI, ⟨x, y, k TO (by simp) _ hTO⟩, h1.at fun o q => k i1 (by simp) o q, h2.at fun o q => k i2 (by simp) o q⟩
  item := by
    intro X hP hw hK hc i pins s σ H E I hf ⟨hz, hTI, ⟨x0, y0, hTO⟩, h1, h2⟩ ⟨xs, ys, x, y, hqx, hqy, hx, hy⟩
    subst hP hw hK
    obtain ⟨its, rv, p, _⟩ := I.tuple hqx
    obtain ⟨its2, rv2, p2, _⟩ := I.list hqy
    obtain ⟨u, hu, ru⟩ := rv.get hx
    obtain ⟨u2, hu2, ru2⟩ := rv2.get hy
    have hzl : z < s.heap.objs.size := Heap.lt_size hz
    have l1 := (List.getElem?_eq_some_iff.mp hu).1
    have l2 := (List.getElem?_eq_some_iff.mp hu2).1
    refine wpAny_pyNext_zipD2_item S (Draws.tuple (A := X.A.in1) (I.ok.hd hc) i1 a ha1 its.toArray) (Draws.list (A := X.A.in1) (I.ok.hd hc) i2 b hb2 its2.toArray) hz hTI hTO ⟨h1, p⟩ ⟨h2, p2.isList⟩ (by simpa using l1) (by simpa using l2)
      fun x1 x2 h' tk e1 e2 z' TO' ⟨h1', _⟩ ⟨h2', _⟩ hT hsz hk => ?_
    obtain rfl : u = x1 := by
      have z : its[i]? = some x1 := by simpa using e1
      rw [hu] at z
      exact Option.some.inj z
    obtain rfl : u2 = x2 := by
      have z : its2[i]? = some x2 := by simpa using e2
      rw [hu2] at z
      exact Option.some.inj z
    refine ⟨_, rfl, wpAny_letOwnedTupleGo_zip (s := { s with heap := h', toks := tk }) z' fun h'' z'' sb => ?_⟩
    have hT2 := (sb.2 _ (Nat.ne_of_gt hzl)).trans hT
    have new : ObjOk X.prog X.w (upd H s.heap.objs.size (.tup [x, y])) h'' s.heap.objs.size (.tup [x, y]) := ⟨by show 2 ≤ sizeLine; decide, _, .cons ru (.cons ru2 .nil), ⟨_, hT2, rfl, _, rfl⟩⟩
    have I1 := I.turnedNew (t' := tk) (ch := [z, TI, TO, i1, i2]) (fun c o hb q => (sb.2 c (fun q' => hb (by simp [q']))).trans (hk c o (fun q' => hb (by simp [q'])) (fun q' => hb (by simp [q'])) (fun q' => hb (by simp [q'])) (fun q' => hb (by simp [q'])) q)) hf (Nat.le_refl _) new
    have hTIk : IsTupOf2 h' TI (.ref i1) (.ref i2) := hk _ _ S.TIz S.TITO S.TIi1 S.TIi2 hTI
    refine ⟨.ref s.heap.objs.size, _, I1, rfl, ⟨_, x, y, rfl, I.hok.fresh (Nat.le_refl _), rfl, fun l hl => by rw [I.tuple_inj hl hqx]; exact hx, fun l hl => by rw [I.list_inj hl hqy]; exact hy⟩,
      ⟨z'', (sb.2 _ S.TIz).trans hTIk, ⟨u, u2, (sb.2 _ S.TOz).trans TO'⟩, h1'.at fun o q => (sb.2 _ S.zi1.symm).trans q, h2'.at fun o q => (sb.2 _ S.zi2.symm).trans q⟩, fun c hcm => ?_⟩
    have hlt : c < s.heap.objs.size := by
      have e' : c = z ∨ c = TI ∨ c = TO ∨ c = i1 ∨ c = i2 := by simpa using hcm
      rcases e' with q | q | q | q | q <;> rw [q]
      · exact hzl
      · exact Heap.lt_size hTI
      · exact Heap.lt_size hTO
      · obtain ⟨_, e1, _⟩ := h1; exact Heap.lt_size e1
      · obtain ⟨_, e2, _⟩ := h2; exact Heap.lt_size e2
    rw [upd_ne (Nat.ne_of_lt hlt)]
    exact (hf c hcm).1
  done := by
    intro X hP hw hK hc i pins s σ H E I hf ⟨hz, hTI, ⟨x0, y0, hTO⟩, h1, h2⟩ ⟨xs, ys, hqx, hqy, hx, hy⟩
    subst hP hw hK
    obtain ⟨its, rv, p, _⟩ := I.tuple hqx
    obtain ⟨its2, rv2, p2, _⟩ := I.list hqy
    have l1 := rv.length
    have l2 := rv2.length
    refine wpAny_pyNext_zipD2_end S (Draws.tuple (A := X.A.in1) (I.ok.hd hc) i1 a ha1 its.toArray) (Draws.list (A := X.A.in1) (I.ok.hd hc) i2 b hb2 its2.toArray) hz hTI hTO ⟨h1, p⟩ ⟨h2, p2.isList⟩ (by simp; omega) (by simp; omega) (.inl (by simp; omega)) fun h' tk hk =>
      ⟨rfl, I.turnedL (t' := tk) (ch := [z, TI, TO, i1, i2]) (fun c o hb q => hk c o (fun q' => hb (by simp [q'])) (fun q' => hb (by simp [q'])) (fun q' => hb (by simp [q'])) (fun q' => hb (by simp [q'])) q) hf⟩
  self := fun A i s Q E st h => wpAny_pyIter_zip st.1 h
def iZipM (K : PySem.W.Frag) (ta : TA) : TI := fun σ H R => ta σ H fun vs H1 => ∃ a b xs ys, vs = [.ref a, .ref b] ∧ SqT K H1 a xs ∧ SqL K H1 b ys ∧ R (ItzM K a b) H1
theorem pi_zipM {X : Cx} {e e2 : Expr} {ta : TA} {p pos tpos : Pos} {elts : List Expr} {kk : Nat} (hg : Gl X "zip") (hm : X.mg "zip" = none) (ha : PA X [e, e2] ta)
    (hs : starEach [e, e2] X.env = (false, eval e X.env) :: starEach [e2] X.env := by rfl) (hpl : (backTo pos (starEach [e2] X.env)).any (·.1) = false := by rfl) :
    PI X (.Tuple elts kk tpos) (.Call (.Name "zip" p) [e, e2] [] pos) (iZipM X.K ta) := by
  refine ⟨fun pins s σ H R I h => ?_⟩
  refine Call_ (ld_blt I hg hm PyProof.Rows.boot_zip (PyProof.Rows.callWith_type1 (thn (ha.run pos pins s σ H _ I h) fun us s1 ⟨vs, H1, I1, r1, a, b, xs, ys, ex, hqx, hqy, q⟩ => ?_) hs hpl))
  subst ex
  cases r1 with
  | cons r rr =>
    cases rr with
    | cons r' rr =>
      cases rr
      cases r
      cases r'
      obtain ⟨its, rv, p1, _⟩ := I1.tuple hqx
      obtain ⟨its2, rv2, p2, _⟩ := I1.list hqy
      obtain ⟨o1, ho1, _⟩ := id p1
      have la : a < s1.heap.objs.size := Heap.lt_size ho1
      have lb : b < s1.heap.objs.size := p2.lt
      refine zip_begins2 (begins_tuple a its.toArray) (begins_list b its2.toArray) p1 p2.isList fun h' hz hTI hTO g1 g2 hsz hk => wpAny_pyIter_zip hz ?_
      have I2 : Inv X pins σ H1 { s1 with heap := h' } := I1.kept (t' := s1.toks) hk
      refine ⟨s1.heap.objs.size + 4, [s1.heap.objs.size + 4, s1.heap.objs.size + 2, s1.heap.objs.size + 3, s1.heap.objs.size, s1.heap.objs.size + 1], _, _, H1, rfl, I2,
        turn_zipM (zip_sep2 (fun c hc => by rw [List.mem_singleton.mp hc]; exact la) fun c hc => by rw [List.mem_singleton.mp hc]; exact lb) (Nat.ne_of_lt la) (Nat.ne_of_lt (Nat.lt_succ_of_lt lb)), ⟨hz, hTI, ⟨_, _, hTO⟩, ⟨_, g1, rfl, rfl⟩, ⟨_, g2, rfl, rfl⟩⟩, fun c hcm => ?_, q⟩
      have hle : s1.heap.objs.size ≤ c := by
        have e' : c = s1.heap.objs.size + 4 ∨ c = s1.heap.objs.size + 2 ∨ c = s1.heap.objs.size + 3 ∨ c = s1.heap.objs.size ∨ c = s1.heap.objs.size + 1 := by simpa using hcm
        rcases e' with z | z | z | z | z <;> rw [z] <;> first | exact Nat.le_refl _ | exact Nat.le_add_right _ _
      exact I1.fpOk hle (I1.hok.fresh hle)
theorem walk_zipM {K : PySem.W.Frag} {a b : Addr} {xs ys : List V} (hn : xs.length = ys.length) : Walk (ItzM K a b) xs.length (fun H => SqT K H a xs ∧ SqL K H b ys) (YPair (fun i => xs[i]?) (fun i => ys[i]?)) where
  goes := fun i H hi ⟨g1, g2⟩ => ⟨xs, ys, _, _, g1, g2, List.getElem?_eq_getElem hi, List.getElem?_eq_getElem (hn ▸ hi)⟩
  stops := fun H ⟨g1, g2⟩ => ⟨xs, ys, g1, g2, rfl, hn.symm⟩
  yields := fun i H x H' hi ⟨g1, g2⟩ ⟨T, x', y', e, hT, e2, f1, f2⟩ => ⟨T, x', y', e, hT, e2, f1 xs g1, f2 ys g2⟩
theorem walk_zipT {K : PySem.W.Frag} {a b : Addr} {xs ys : List V} (hn : xs.length = ys.length) : Walk (RZ.ItzT K a b) xs.length (fun H => SqT K H a xs ∧ SqT K H b ys) (YPair (fun i => xs[i]?) (fun i => ys[i]?)) where
  goes := fun i H hi ⟨g1, g2⟩ => ⟨xs, ys, _, _, g1, g2, List.getElem?_eq_getElem hi, List.getElem?_eq_getElem (hn ▸ hi)⟩
  stops := fun H ⟨g1, g2⟩ => ⟨xs, ys, g1, g2, .inl (Nat.le_refl _)⟩
  yields := fun i H x H' hi ⟨g1, g2⟩ ⟨T, x', y', e, hT, e2, f1, f2⟩ => ⟨T, x', y', e, hT, e2, f1 xs g1, f2 ys g2⟩
def iEnT (K : PySem.W.Frag) (ta : TA) : TI := fun σ H R => ta σ H fun vs H1 => ∃ a xs, vs = [.ref a] ∧ SqT K H1 a xs ∧ R (IteT K a) H1
theorem pi_enT {X : Cx} {e : Expr} {ta : TA} {p pos tpos : Pos} {elts : List Expr} {kk : Nat} (hg : Gl X "enumerate") (hm : X.mg "enumerate" = none) (ha : PA X [e] ta) (hs : starEach [e] X.env = [(false, eval e X.env)] := by rfl) :
    PI X (.Tuple elts kk tpos) (.Call (.Name "enumerate" p) [e] [] pos) (iEnT X.K ta) := by
  refine ⟨fun pins s σ H R I h => ?_⟩
  refine Call_ (ld_blt I hg hm boot_enumerate (PyProof.Rows.callWith_type1 (thn (ha.run pos pins s σ H _ I h) fun us s1 ⟨vs, H1, I1, r1, a, xs, ex, hq, q⟩ => ?_) hs rfl))
  subst ex
  cases r1 with
  | cons r rr =>
    cases rr
    cases r
    obtain ⟨its, rv, p', hz⟩ := I1.tuple hq
    obtain ⟨o1, ho1, _⟩ := id p'
    have la : a < s1.heap.objs.size := Heap.lt_size ho1
    refine call_enumT (begins_tuple a its.toArray) p' fun h' he g1 hk => wpAny_pyIter_enum he ?_
    have I2 : Inv X pins σ H1 { s1 with heap := h' } := I1.kept (t' := s1.toks) hk
    refine ⟨s1.heap.objs.size + 1, [s1.heap.objs.size + 1, s1.heap.objs.size], _, _, H1, rfl, I2, turn_enumT a (s1.heap.objs.size + 1) s1.heap.objs.size (Nat.ne_of_lt la) (Nat.ne_of_lt (Nat.lt_succ_of_lt la)), ⟨⟨.none, he⟩, ⟨_, g1, rfl, rfl⟩, Nat.succ_ne_self _⟩, fun b hb => ?_, q⟩
    have hle : s1.heap.objs.size ≤ b := by
      have e' : b = s1.heap.objs.size + 1 ∨ b = s1.heap.objs.size := by simpa using hb
      rcases e' with z | z <;> rw [z] <;> first | exact Nat.le_refl _ | exact Nat.le_add_right _ _
    exact I1.fpOk hle (I1.hok.fresh hle)
theorem walk_enT {K : PySem.W.Frag} {a : Addr} {xs : List V} : Walk (IteT K a) xs.length (fun H => SqT K H a xs) (YPair (fun i => some (.int (i : Nat))) (fun i => xs[i]?)) where
  goes := fun i H hi g => ⟨xs, _, g, List.getElem?_eq_getElem hi⟩
  stops := fun H g => ⟨xs, g, rfl⟩
  yields := fun i H x H' hi g ⟨T, x', e, hT, e2, f1⟩ => ⟨T, _, x', e, hT, e2, rfl, f1 xs g⟩
end Zs
/-! The plain laws: paths, runs, derived edges, papers. No program in sight. -/
namespace Pr
abbrev Edge := Int × Int × Int
structure StepD where
  state : Int
  letter : Int
  goal : Int
  laid : List Int
  weight : Int
structure Mach where
  st : Int
  lt : Int
  steps : List StepD
structure NetD where
  st : Int
  lt : Int
  nd : Int
  ed : List Edge
  en : List Int
abbrev Conf := Int × List Int
abbrev ES := Int → Int → Int → Prop
def mem (l : List Edge) : ES := fun n a m => (n, a, m) ∈ l
inductive Path (E : ES) : Int → List Int → Int → Prop
  | nil (n : Int) : Path E n [] n
  | cons {n a m e : Int} {w : List Int} : E n a m → Path E m w e → Path E n (a :: w) e
section
variable {E F : ES} {n m e : Int} {w v : List Int}
theorem Path.nil_eq (h : Path E n [] e) : n = e := by cases h; rfl
theorem Path.uncons {a : Int} (h : Path E n (a :: w) e) : ∃ m, E n a m ∧ Path E m w e := by
  cases h with
  | cons h1 h2 => exact ⟨_, h1, h2⟩
theorem Path.mono (hEF : ∀ a b c, E a b c → F a b c) (h : Path E n w e) : Path F n w e := by
  induction h with
  | nil => exact .nil _
  | cons h1 _ ih => exact .cons (hEF _ _ _ h1) ih
theorem Path.append (h : Path E n w m) (h2 : Path E m v e) : Path E n (w ++ v) e := by
  induction h with
  | nil => exact h2
  | cons h1 _ ih => exact .cons h1 (ih h2)
theorem Path.split : ∀ {w : List Int} {n : Int}, Path E n (w ++ v) e → ∃ m, Path E n w m ∧ Path E m v e
  | [], n, h => ⟨n, .nil n, h⟩
  | a :: w, n, h => by
    obtain ⟨k, h1, h2⟩ := Path.uncons h
    obtain ⟨m, h3, h4⟩ := Path.split h2
    exact ⟨m, .cons h1 h3, h4⟩
theorem Path.snoc {a : Int} (h : Path E n w m) (h2 : E m a e) : Path E n (w ++ [a]) e := h.append (.cons h2 (.nil _))
end
theorem path_last {E : ES} {Q : Int → Prop} (hp : ∀ n a m, E n a m → Q m) {k e : Int} {w : List Int} (h : Path E k w e) (hw : w ≠ []) : Q e := by
  induction h with
  | nil => exact absurd rfl hw
  | @cons n a m e w h1 h2 ih =>
    cases w with
    | nil => exact h2.nil_eq ▸ hp _ _ _ h1
    | cons b w => exact ih (by simp)
/-- a net's set -/
def Acc (N : NetD) (c : Conf) : Prop := ∃ e, e ∈ N.en ∧ Path (mem N.ed) c.1 c.2 e
/-! ### runs -/
inductive Run (M : Mach) : Conf → Conf → Prop
  | refl (c : Conf) : Run M c c
  | step {s : StepD} {u : List Int} {c : Conf} : s ∈ M.steps → Run M (s.goal, s.laid ++ u) c → Run M (s.state, s.letter :: u) c
section
variable {M : Mach} {a b c : Conf}
theorem Run.trans (h : Run M a b) (h2 : Run M b c) : Run M a c := by
  induction h with
  | refl => exact h2
  | step hs _ ih => exact .step hs (ih h2)
theorem Run.suffix (v : List Int) (h : Run M a b) : Run M (a.1, a.2 ++ v) (b.1, b.2 ++ v) := by
  induction h with
  | refl => exact .refl _
  | @step s u c hs _ ih =>
    refine .step hs ?_
    simpa [List.append_assoc] using ih
theorem Run.stuck {p : Int} (h : Run M (p, []) b) : b = (p, []) := by
  generalize hx : ((p, []) : Conf) = x at h
  cases h with
  | refl => rfl
  | step hs _ => cases hx
end
/-- machines whose parts are in range -/
structure MOk (M : Mach) : Prop where
  st : 1 ≤ M.st
  lt : 1 ≤ M.lt
  wt : ∀ s ∈ M.steps, s.weight ≤ 5
  stp : ∀ s ∈ M.steps, (0 ≤ s.state ∧ s.state < M.st) ∧ (0 ≤ s.letter ∧ s.letter < M.lt) ∧ (0 ≤ s.goal ∧ s.goal < M.st) ∧ s.laid.length ≤ 2 ∧ (∀ a ∈ s.laid, 0 ≤ a ∧ a < M.lt) ∧ 0 ≤ s.weight
/-! ### derived edges (numbers into a set) -/
inductive Der (M : Mach) (E : ES) : ES
  | base {n a m : Int} : E n a m → Der M E n a m
  | d0 {s : StepD} : s ∈ M.steps → s.laid = [] → Der M E s.state s.letter s.goal
  | d1 {s : StepD} {x m : Int} : s ∈ M.steps → s.laid = [x] → Der M E s.goal x m → Der M E s.state s.letter m
  | d2 {s : StepD} {x y k m : Int} : s ∈ M.steps → s.laid = [x, y] → Der M E s.goal x k → Der M E k y m → Der M E s.state s.letter m
section
variable {M : Mach} {E : ES}
theorem der_base (hM : MOk M) {k a m : Int} (hk : M.st ≤ k) (h : Der M E k a m) : E k a m := by
  cases h with
  | base h => exact h
  | d0 hs _ => have := (hM.stp _ hs).1; omega
  | d1 hs _ _ => have := (hM.stp _ hs).1; omega
  | d2 hs _ _ _ => have := (hM.stp _ hs).1; omega
theorem path_base (hM : MOk M) (hp : ∀ n a m, E n a m → M.st ≤ m) {k e : Int} {w : List Int} (h : Path (Der M E) k w e) : M.st ≤ k → Path E k w e := by
  induction h with
  | nil => exact fun _ => .nil _
  | cons h1 _ ih => exact fun hk => let z := der_base hM hk h1; .cons z (ih (hp _ _ _ z))
theorem path_end (hp : ∀ n a m, E n a m → M.st ≤ m) {k e : Int} {w : List Int} (h : Path E k w e) (hw : w ≠ []) : M.st ≤ e := by
  induction h with
  | nil => exact absurd rfl hw
  | @cons n a m e w h1 h2 ih =>
    cases w with
    | nil => exact h2.nil_eq ▸ hp _ _ _ h1
    | cons b w => exact ih (by simp)
theorem der_run (hM : MOk M) (hp : ∀ n a m, E n a m → M.st ≤ m) {n a m : Int} (h : Der M E n a m) : ∀ u, ∃ n' w', Run M (n, a :: u) (n', w' ++ u) ∧ Path E n' w' m := by
  induction h with
  | @base n a m h => exact fun u => ⟨n, [a], .refl _, .cons h (.nil _)⟩
  | @d0 s hs hl => exact fun u => ⟨s.goal, [], .step hs (by rw [hl]; exact .refl _), .nil _⟩
  | @d1 s x m hs hl _ ih =>
    intro u
    obtain ⟨n', w', h1, h2⟩ := ih u
    exact ⟨n', w', .step hs (by rw [hl]; exact h1), h2⟩
  | @d2 s x y k m hs hl _ d2 ih1 ih2 =>
    intro u
    obtain ⟨n1, w1, h1, p1⟩ := ih1 (y :: u)
    cases hw : w1 with
    | nil =>
      subst hw
      obtain rfl := p1.nil_eq
      obtain ⟨n2, w2, h2, p2⟩ := ih2 u
      exact ⟨n2, w2, .step hs (by rw [hl]; exact h1.trans h2), p2⟩
    | cons b w1' =>
      have hk : M.st ≤ k := path_end hp p1 (by rw [hw]; simp)
      refine ⟨n1, w1 ++ [y], .step hs (by rw [hl]; simpa using h1), p1.snoc (der_base hM hk d2)⟩
/-- SOUND: what the derived edges accept runs into what the edges accept -/
theorem path_run (hM : MOk M) (hp : ∀ n a m, E n a m → M.st ≤ m) {n e : Int} {w : List Int} (h : Path (Der M E) n w e) : ∃ c : Conf, Run M (n, w) c ∧ Path E c.1 c.2 e := by
  induction h with
  | nil n => exact ⟨(n, []), .refl _, .nil _⟩
  | @cons n a m e w h1 h2 ih =>
    obtain ⟨n1, w1, r1, p1⟩ := der_run hM hp h1 w
    cases hw : w1 with
    | nil =>
      subst hw
      obtain rfl := p1.nil_eq
      obtain ⟨c, r, p⟩ := ih
      exact ⟨c, r1.trans r, p⟩
    | cons b w1' => exact ⟨(n1, w1 ++ w), r1, p1.append (path_base hM hp h2 (path_end hp p1 (by rw [hw]; simp)))⟩
/-- closed under the machine's steps, backwards -/
def Closed (M : Mach) (F : ES) : Prop := ∀ s ∈ M.steps, ∀ m, Path F s.goal s.laid m → F s.state s.letter m
theorem closed_run {F : ES} (hF : Closed M F) {c c' : Conf} {e : Int} (r : Run M c c') : Path F c'.1 c'.2 e → Path F c.1 c.2 e := by
  induction r with
  | refl => exact id
  | @step s u c hs _ ih =>
    intro h
    obtain ⟨m, h1, h2⟩ := Path.split (ih h)
    exact .cons (hF s hs m h1) h2
end
/-! ### closed forwards -/
def Fwd (M : Mach) (N : NetD) : Prop := ∀ s ∈ M.steps, ∀ q, (s.state, s.letter, q) ∈ N.ed →
  (s.laid = [] → (∀ l n, (q, l, n) ∈ N.ed → (s.goal, l, n) ∈ N.ed) ∧ (q ∈ N.en → s.goal ∈ N.en)) ∧
  (∀ a, s.laid = [a] → (s.goal, a, q) ∈ N.ed) ∧ (∀ a b, s.laid = [a, b] → ∃ r, (s.goal, a, r) ∈ N.ed ∧ (r, b, q) ∈ N.ed)
theorem two_cases {l : List Int} (h : l.length ≤ 2) : l = [] ∨ (∃ a, l = [a]) ∨ ∃ a b, l = [a, b] := by
  match l, h with
  | [], _ => exact .inl rfl
  | [a], _ => exact .inr (.inl ⟨a, rfl⟩)
  | [a, b], _ => exact .inr (.inr ⟨a, b, rfl⟩)
  | _ :: _ :: _ :: _, h => simp at h
theorem fwd_run {M : Mach} {N : NetD} (hM : MOk M) (hF : Fwd M N) {c c' : Conf} (r : Run M c c') : Acc N c → Acc N c' := by
  induction r with
  | refl => exact id
  | @step s u c hs _ ih =>
    rintro ⟨e, he, hp⟩
    refine ih ?_
    obtain ⟨q, h1, h2⟩ := Path.uncons hp
    obtain ⟨f0, f1, f2⟩ := hF s hs q h1
    rcases two_cases (hM.stp s hs).2.2.2.1 with hl | ⟨a, hl⟩ | ⟨a, b, hl⟩
    · rw [hl]
      cases u with
      | nil => exact ⟨s.goal, (f0 hl).2 (h2.nil_eq ▸ he), .nil _⟩
      | cons x u =>
        obtain ⟨n, h3, h4⟩ := Path.uncons h2
        exact ⟨e, he, .cons ((f0 hl).1 _ _ h3) h4⟩
    · rw [hl]
      exact ⟨e, he, .cons (f1 a hl) h2⟩
    · rw [hl]
      obtain ⟨r, h3, h4⟩ := f2 a b hl
      exact ⟨e, he, .cons h3 (.cons h4 h2)⟩
/-! ### what is added forwards -/
inductive BE (M : Mach) (E0 : ES) (bt : ES) : ES
  | base {n a m : Int} : E0 n a m → BE M E0 bt n a m
  | pop {s : StepD} {q l n : Int} : s ∈ M.steps → s.laid = [] → BE M E0 bt s.state s.letter q → BE M E0 bt q l n → BE M E0 bt s.goal l n
  | swap {s : StepD} {q a : Int} : s ∈ M.steps → s.laid = [a] → BE M E0 bt s.state s.letter q → BE M E0 bt s.goal a q
  | push1 {s : StepD} {q a b m : Int} : s ∈ M.steps → s.laid = [a, b] → BE M E0 bt s.state s.letter q → bt s.goal a m → BE M E0 bt s.goal a m
  | push2 {s : StepD} {q a b m : Int} : s ∈ M.steps → s.laid = [a, b] → BE M E0 bt s.state s.letter q → bt s.goal a m → BE M E0 bt m b q
inductive BN (M : Mach) (E0 : ES) (N0 : Int → Prop) (bt : ES) : Int → Prop
  | base {n : Int} : N0 n → BN M E0 N0 bt n
  | pop {s : StepD} {q : Int} : s ∈ M.steps → s.laid = [] → BE M E0 bt s.state s.letter q → BN M E0 N0 bt q → BN M E0 N0 bt s.goal
theorem BE.mono {M : Mach} {E0 bt bt' : ES} (h : ∀ a b c, bt a b c → bt' a b c) {n a m : Int} (x : BE M E0 bt n a m) : BE M E0 bt' n a m := by
  induction x with
  | base z => exact .base z
  | pop hs hl _ _ i1 i2 => exact .pop hs hl i1 i2
  | swap hs hl _ i1 => exact .swap hs hl i1
  | push1 hs hl _ hb i1 => exact .push1 hs hl i1 (h _ _ _ hb)
  | push2 hs hl _ hb i1 => exact .push2 hs hl i1 (h _ _ _ hb)
theorem BN.mono {M : Mach} {E0 bt bt' : ES} {N0 : Int → Prop} (h : ∀ a b c, bt a b c → bt' a b c) {n : Int} (x : BN M E0 N0 bt n) : BN M E0 N0 bt' n := by
  induction x with
  | base z => exact .base z
  | pop hs hl hb _ i => exact .pop hs hl (hb.mono h) i
/-- from the set of a net a run leads to it -/
def Reach (M : Mach) (N : NetD) (c : Conf) : Prop := ∃ x : Conf, (0 ≤ x.1 ∧ x.1 < M.st) ∧ Acc N x ∧ Run M x c
section
variable {M : Mach} {N : NetD} {bt : ES}
/-- what a node stands for -/
def In (M : Mach) (N : NetD) (bt : ES) (n : Int) (c : Conf) : Prop := ((0 ≤ c.1 ∧ c.1 < M.st) ∧ Path (mem N.ed) c.1 c.2 n) ∨ ∃ a, bt c.1 a n ∧ c.2 = [a]
def Rr (M : Mach) (N : NetD) (bt : ES) (n : Int) (c : Conf) : Prop := ∃ x, In M N bt n x ∧ Run M x c
structure BtOk (M : Mach) (N : NetD) (bt : ES) : Prop where
  nd : M.st ≤ N.nd
  rng : ∀ g a m, bt g a m → N.nd ≤ m
  inj : ∀ g a g' a' m, bt g a m → bt g' a' m → g = g' ∧ a = a'
  edr : ∀ n a m, (n, a, m) ∈ N.ed → M.st ≤ m ∧ m < N.nd ∧ n < N.nd
theorem rr_state (hb : BtOk M N bt) {g : Int} (hg : g < M.st) {c : Conf} (h : Rr M N bt g c) : c = (g, []) := by
  obtain ⟨⟨p, w⟩, hin, hr⟩ := h
  rcases hin with ⟨_, hp⟩ | ⟨a, ha, _⟩
  · cases hw : w with
    | nil =>
      subst hw
      obtain rfl : p = g := Path.nil_eq hp
      exact hr.stuck
    | cons b w' =>
      have := path_end (M := M) (fun n a m z => (hb.edr n a m z).1) hp (by simp [hw])
      omega
  · have := hb.rng _ _ _ ha
    have := hb.nd
    omega
theorem rr_self {g : Int} (h0 : 0 ≤ g) (h1 : g < M.st) : Rr M N bt g (g, []) := ⟨(g, []), .inl ⟨⟨h0, h1⟩, .nil _⟩, .refl _⟩
theorem be_rr (hM : MOk M) (hb : BtOk M N bt) {n l q : Int} (h : BE M (mem N.ed) bt n l q) : ∀ c, Rr M N bt n c → Rr M N bt q (c.1, c.2 ++ [l]) := by
  induction h with
  | @base n a m h =>
    rintro c ⟨x, hin, hr⟩
    rcases hin with ⟨hx, hp⟩ | ⟨b, hb1, _⟩
    · exact ⟨(x.1, x.2 ++ [a]), .inl ⟨hx, hp.snoc h⟩, hr.suffix [a]⟩
    · have z1 := hb.rng _ _ _ hb1
      have z2 := (hb.edr n a m h).2.2
      omega
  | @pop s q l n hs hl _ _ i1 i2 =>
    intro c hc
    obtain ⟨hst, _, hgl, _⟩ := hM.stp s hs
    have e := rr_state hb hgl.2 hc
    subst e
    obtain ⟨x, hin, hr⟩ := i1 _ (rr_self hst.1 hst.2)
    refine i2 (s.goal, []) ⟨x, hin, hr.trans ?_⟩
    have z : Run M (s.state, s.letter :: []) (s.goal, []) := .step hs (by rw [hl]; exact .refl _)
    exact z
  | @swap s q a hs hl _ i1 =>
    intro c hc
    obtain ⟨hst, _, hgl, _⟩ := hM.stp s hs
    have e := rr_state hb hgl.2 hc
    subst e
    obtain ⟨x, hin, hr⟩ := i1 _ (rr_self hst.1 hst.2)
    refine ⟨x, hin, hr.trans ?_⟩
    have z : Run M (s.state, s.letter :: []) (s.goal, [a]) := .step hs (by rw [hl]; exact .refl _)
    exact z
  | @push1 s q a b m hs hl _ hbt i1 =>
    intro c hc
    obtain ⟨hst, _, hgl, _⟩ := hM.stp s hs
    have e := rr_state hb hgl.2 hc
    subst e
    exact ⟨(s.goal, [a]), .inr ⟨a, hbt, rfl⟩, .refl _⟩
  | @push2 s q a b m hs hl _ hbt i1 =>
    rintro c ⟨x, hin, hr⟩
    obtain ⟨hst, _, hgl, _⟩ := hM.stp s hs
    obtain ⟨y, hin2, hr2⟩ := i1 _ (rr_self hst.1 hst.2)
    have ex : x = (s.goal, [a]) := by
      rcases hin with ⟨hx, hp⟩ | ⟨a', hb', hx⟩
      · exfalso
        have z := hb.rng _ _ _ hbt
        cases hw : x.2 with
        | nil =>
          rw [hw] at hp
          have := hp.nil_eq
          have := hb.nd
          omega
        | cons d w =>
          rw [hw] at hp
          have z2 : m < N.nd := path_last (Q := fun m => m < N.nd) (fun n a m h => (hb.edr n a m h).2.1) hp (by simp)
          omega
      · obtain ⟨e1, e2⟩ := hb.inj _ _ _ _ _ hb' hbt
        exact Prod.ext e1 (by rw [hx, e2])
    subst ex
    refine ⟨y, hin2, hr2.trans ?_⟩
    have z : Run M (s.state, s.letter :: []) (c.1, c.2 ++ [b]) := .step hs (by rw [hl]; exact hr.suffix [b])
    exact z
theorem path_rr (hM : MOk M) (hb : BtOk M N bt) {n q : Int} {w : List Int} (h : Path (BE M (mem N.ed) bt) n w q) : ∀ c, Rr M N bt n c → Rr M N bt q (c.1, c.2 ++ w) := by
  induction h with
  | nil => intro c hc; simpa using hc
  | @cons n a m e w h1 _ ih =>
    intro c hc
    have := ih _ (be_rr hM hb h1 c hc)
    simpa using this
theorem bn_reach (hM : MOk M) (hb : BtOk M N bt) (hen : ∀ n, n ∈ N.en → n < N.nd) {n : Int} (h : BN M (mem N.ed) (· ∈ N.en) bt n) : ∀ c, Rr M N bt n c → Reach M N c := by
  induction h with
  | @base n hn =>
    rintro c ⟨x, hin, hr⟩
    rcases hin with ⟨hx, hp⟩ | ⟨a, hb1, _⟩
    · exact ⟨x, hx, ⟨n, hn, hp⟩, hr⟩
    · have := hb.rng _ _ _ hb1
      have := hen n hn
      omega
  | @pop s q hs hl h1 _ ih =>
    intro c hc
    obtain ⟨hst, _, hgl, _⟩ := hM.stp s hs
    have e := rr_state hb hgl.2 hc
    subst e
    obtain ⟨x, hin, hr⟩ := be_rr hM hb h1 _ (rr_self hst.1 hst.2)
    refine ih _ ⟨x, hin, hr.trans ?_⟩
    have z : Run M (s.state, s.letter :: []) (s.goal, []) := .step hs (by rw [hl]; exact .refl _)
    exact z
/-- SOUND: what the net forwards accepts is reached -/
theorem acc_reach (hM : MOk M) (hb : BtOk M N bt) (hen : ∀ n, n ∈ N.en → n < N.nd) {B : NetD} (hB : ∀ n a m, (n, a, m) ∈ B.ed → BE M (mem N.ed) bt n a m) (hBn : ∀ n, n ∈ B.en → BN M (mem N.ed) (· ∈ N.en) bt n)
    {c : Conf} (h0 : 0 ≤ c.1 ∧ c.1 < M.st) (h : Acc B c) : Reach M N c := by
  obtain ⟨e, he, hp⟩ := h
  have := path_rr hM hb (hp.mono hB) (c.1, []) (rr_self h0.1 h0.2)
  exact bn_reach hM hb hen (hBn e he) c (by simpa using this)
end
/-! ### the net of one configuration -/
def sEd : Int → Int → List Int → List Edge
  | _, _, [] => []
  | n, b, l :: r => (n, l, b) :: sEd b (b + 1) r
def sEn : Int → Int → List Int → Int
  | n, _, [] => n
  | _, b, _ :: r => sEn b (b + 1) r
theorem sEd_rng : ∀ {pile : List Int} {n b x l y : Int}, (x, l, y) ∈ sEd n b pile → (x = n ∨ b ≤ x) ∧ b ≤ y ∧ y < b + pile.length ∧ (x = n ∨ x < b + pile.length) ∧ l ∈ pile
  | [], _, _, _, _, _, h => by cases h
  | a :: r, n, b, x, l, y, h => by
    rcases List.mem_cons.mp h with h | h
    · cases h
      exact ⟨.inl rfl, Int.le_refl _, by rw [List.length_cons]; omega, .inl rfl, List.mem_cons_self⟩
    · have := sEd_rng h
      simp only [List.length_cons, List.mem_cons]
      refine ⟨by omega, by omega, by omega, by omega, .inr this.2.2.2.2⟩
theorem sEn_rng : ∀ {pile : List Int} {n b : Int}, sEn n b pile = n ∨ (b ≤ sEn n b pile ∧ sEn n b pile < b + pile.length)
  | [], _, _ => .inl rfl
  | a :: r, n, b => by
    have : sEn n b (a :: r) = sEn b (b + 1) r := rfl
    rw [this, List.length_cons]
    rcases sEn_rng (pile := r) (n := b) (b := b + 1) with h | h <;> omega
theorem sPath : ∀ (pile : List Int) (n b : Int), Path (mem (sEd n b pile)) n pile (sEn n b pile)
  | [], n, _ => .nil n
  | l :: r, n, b => .cons (show (n, l, b) ∈ _ from List.mem_cons_self) ((sPath r b (b + 1)).mono fun _ _ _ h => List.mem_cons_of_mem _ h)
theorem sPath_high {n b l : Int} {r : List Int} (hn : n < b) {k e : Int} {w : List Int} (h : Path (mem ((n, l, b) :: sEd b (b + 1) r)) k w e) : b ≤ k → Path (mem (sEd b (b + 1) r)) k w e := by
  induction h with
  | nil => exact fun _ => .nil _
  | @cons k a m e w h1 _ ih =>
    intro hk
    have h1' : (k, a, m) ∈ (n, l, b) :: sEd b (b + 1) r := h1
    rcases List.mem_cons.mp h1' with z | z
    · cases z; omega
    · have := sEd_rng z
      exact .cons z (ih (by omega))
theorem sOne : ∀ {pile : List Int} {n b p : Int} {w : List Int}, n < b → p < b → Path (mem (sEd n b pile)) p w (sEn n b pile) → p = n ∧ w = pile
  | [], n, b, p, w, hn, hp, h => by
    cases h with
    | nil => exact ⟨rfl, rfl⟩
    | cons h1 _ => cases h1
  | l :: r, n, b, p, w, hn, hp, h => by
    have he : b ≤ sEn n b (l :: r) := by
      show b ≤ sEn b (b + 1) r
      rcases sEn_rng (pile := r) (n := b) (b := b + 1) with h | h <;> omega
    cases w with
    | nil => have := h.nil_eq; omega
    | cons x w =>
      obtain ⟨q, h1, h2⟩ := Path.uncons h
      have h1' : (p, x, q) ∈ (n, l, b) :: sEd b (b + 1) r := h1
      rcases List.mem_cons.mp h1' with z | z
      · cases z
        obtain ⟨_, e⟩ := sOne (by omega) (by omega) (sPath_high hn h2 (Int.le_refl _))
        exact ⟨rfl, by rw [e]⟩
      · have := sEd_rng z
        omega
end Pr
/-! The numbers on edges: what put keeps, what the end gives; a measure that falls. -/
namespace Pr
/-- parts that read letters from n to m -/
def Chain : Int → List Int → List Edge → Int → Prop
  | n, [], [], m => n = m
  | n, l :: ls, p :: ps, m => p.1 = n ∧ p.2.1 = l ∧ Chain p.2.2 ls ps m
  | _, _, _, _ => False
theorem Chain.len : ∀ {n m : Int} {ls : List Int} {ps : List Edge}, Chain n ls ps m → ps.length = ls.length
  | _, _, [], [], _ => rfl
  | _, _, _ :: ls, _ :: ps, h => by rw [List.length_cons, List.length_cons, Chain.len h.2.2]
theorem Chain.path {E : ES} : ∀ {n m : Int} {ls : List Int} {ps : List Edge}, Chain n ls ps m → (∀ p ∈ ps, E p.1 p.2.1 p.2.2) → Path E n ls m
  | n, m, [], [], h, _ => by cases (show n = m from h); exact .nil n
  | n, m, l :: ls, p :: ps, ⟨h1, h2, h3⟩, hE => by
    have := hE p List.mem_cons_self
    rw [h1, h2] at this
    exact .cons this (Chain.path h3 fun q hq => hE q (List.mem_cons_of_mem _ hq))
theorem path_chain {L : List Edge} {n m : Int} {ls : List Int} (h : Path (mem L) n ls m) : ∃ ps, Chain n ls ps m ∧ ∀ p ∈ ps, p ∈ L := by
  induction h with
  | nil => exact ⟨[], rfl, fun p hp => by cases hp⟩
  | @cons n a m e w h1 _ ih =>
    obtain ⟨ps, h2, h3⟩ := ih
    refine ⟨(n, a, m) :: ps, ⟨rfl, rfl, h2⟩, fun p hp => ?_⟩
    rcases List.mem_cons.mp hp with z | z
    · rw [z]; exact h1
    · exact h3 p z
def sumN (f : Edge → Int) (l : List Edge) : Int := (l.map f).sum
theorem sumN_nil (f : Edge → Int) : sumN f [] = 0 := rfl
theorem sumN_cons (f : Edge → Int) (e : Edge) (l : List Edge) : sumN f (e :: l) = f e + sumN f l := by simp [sumN]
theorem sumN_snoc (f : Edge → Int) (e : Edge) (l : List Edge) : sumN f (l ++ [e]) = sumN f l + f e := by simp [sumN]
theorem sumN_le {f g : Edge → Int} : ∀ {l : List Edge}, (∀ e ∈ l, f e ≤ g e) → sumN f l ≤ sumN g l
  | [], _ => Int.le_refl _
  | e :: l, h => by
    rw [sumN_cons, sumN_cons]
    have := h e List.mem_cons_self
    have := sumN_le (l := l) fun x hx => h x (List.mem_cons_of_mem _ hx)
    omega
theorem sumN_lt {f g : Edge → Int} : ∀ {l : List Edge}, (∀ e ∈ l, f e ≤ g e) → (∃ e ∈ l, f e < g e) → sumN f l < sumN g l
  | [], _, ⟨_, h, _⟩ => by cases h
  | e :: l, h, ⟨x, hx, hlt⟩ => by
    rw [sumN_cons, sumN_cons]
    have h1 := h e List.mem_cons_self
    have h2 := sumN_le (l := l) fun x hx => h x (List.mem_cons_of_mem _ hx)
    rcases List.mem_cons.mp hx with z | z
    · subst z; omega
    · have := sumN_lt (l := l) (fun x hx => h x (List.mem_cons_of_mem _ hx)) ⟨x, z, hlt⟩
      omega
theorem sumN_nonneg {f : Edge → Int} : ∀ {l : List Edge}, (∀ e ∈ l, 0 ≤ f e) → 0 ≤ sumN f l
  | [], _ => Int.le_refl _
  | e :: l, h => by
    rw [sumN_cons]
    have := h e List.mem_cons_self
    have := sumN_nonneg (l := l) fun x hx => h x (List.mem_cons_of_mem _ hx)
    omega
theorem sumN_mem {f : Edge → Int} : ∀ {l : List Edge} {x : Edge}, (∀ e ∈ l, 0 ≤ f e) → x ∈ l → f x ≤ sumN f l
  | e :: l, x, h, hx => by
    rw [sumN_cons]
    have h0 := h e List.mem_cons_self
    have h2 := sumN_nonneg (l := l) fun x hx => h x (List.mem_cons_of_mem _ hx)
    rcases List.mem_cons.mp hx with z | z
    · subst z; omega
    · have := sumN_mem (l := l) (fun x hx => h x (List.mem_cons_of_mem _ hx)) z
      omega
theorem sumN_congr {f g : Edge → Int} {l : List Edge} (h : ∀ e ∈ l, f e = g e) : sumN f l = sumN g l := by
  have := sumN_le (f := f) (g := g) (l := l) fun e he => Int.le_of_eq (h e he)
  have := sumN_le (f := g) (g := f) (l := l) fun e he => Int.le_of_eq (h e he).symm
  omega
/-- the numbers as they stand -/
structure NS where
  ks : List Edge
  num : Edge → Int
  ix : Edge → Option Nat
  ps : Edge → List Edge
def upf {β : Type} (f : Edge → β) (e : Edge) (b : β) : Edge → β := fun x => if x = e then b else f x
theorem upf_same {β : Type} (f : Edge → β) (e : Edge) (b : β) : upf f e b e = b := if_pos rfl
theorem upf_ne {β : Type} {f : Edge → β} {e x : Edge} {b : β} (h : x ≠ e) : upf f e b x = f x := if_neg h
def addK (ks : List Edge) (e : Edge) : List Edge := if e ∈ ks then ks else ks ++ [e]
theorem mem_addK {ks : List Edge} {e x : Edge} : x ∈ addK ks e ↔ x ∈ ks ∨ x = e := by
  unfold addK
  split
  · rename_i h
    exact ⟨.inl, fun z => z.elim id fun z => z ▸ h⟩
  · simp
def NS.set (S : NS) (e : Edge) (n : Int) (i : Option Nat) (p : List Edge) : NS := ⟨addK S.ks e, upf S.num e n, upf S.ix e i, upf S.ps e p⟩
def InR (N : NetD) (e : Edge) : Prop := (0 ≤ e.1 ∧ e.1 < N.nd) ∧ (0 ≤ e.2.1 ∧ e.2.1 < N.lt) ∧ (0 ≤ e.2.2 ∧ e.2.2 < N.nd)
structure Drv (M : Mach) (S : NS) (tm : Edge → Nat) (e : Edge) (i : Nat) : Prop where
  ex : ∃ s, M.steps[i]? = some s ∧ e.1 = s.state ∧ e.2.1 = s.letter ∧ Chain s.goal s.laid (S.ps e) e.2.2 ∧ s.weight + sumN S.num (S.ps e) ≤ S.num e ∧ (s.weight + sumN S.num (S.ps e) = S.num e → ∀ p ∈ S.ps e, tm p < tm e)
  sub : ∀ p ∈ S.ps e, p ∈ S.ks
structure NI (M : Mach) (N : NetD) (S : NS) (tm : Edge → Nat) (clk : Nat) : Prop where
  nd : S.ks.Nodup
  rng : ∀ e ∈ S.ks, InR N e
  pos : ∀ e ∈ S.ks, 0 ≤ S.num e
  base : ∀ e ∈ S.ks, S.ix e = none → e ∈ N.ed ∧ S.ps e = [] ∧ S.num e = 0
  net : ∀ e ∈ N.ed, e ∈ S.ks → S.ix e = none
  drv : ∀ e ∈ S.ks, ∀ i, S.ix e = some i → Drv M S tm e i
  clk : ∀ e ∈ S.ks, tm e < clk
theorem NI.empty (M : Mach) (N : NetD) : NI M N ⟨[], fun _ => 0, fun _ => none, fun _ => []⟩ (fun _ => 0) 0 where
  nd := List.nodup_nil
  rng := fun _ h => absurd h (by simp)
  pos := fun _ h => absurd h (by simp)
  base := fun _ h => absurd h (by simp)
  net := fun _ _ h => absurd h (by simp)
  drv := fun _ h => absurd h (by simp)
  clk := fun _ h => absurd h (by simp)
theorem addK_nodup {ks : List Edge} {e : Edge} (h : ks.Nodup) : (addK ks e).Nodup := by
  unfold addK
  split
  · exact h
  · rename_i hn
    exact List.nodup_append.mpr ⟨h, by simp, fun a ha b hb => by simp at hb; subst hb; exact fun e => hn (e ▸ ha)⟩
/-- an edge of the net is put in -/
theorem NI.putBase {M : Mach} {N : NetD} {S : NS} {tm : Edge → Nat} {c : Nat} (I : NI M N S tm c) {e : Edge} (he : e ∈ N.ed) (hr : InR N e) (hn : e ∉ S.ks) : NI M N (S.set e 0 none []) (upf tm e c) (c + 1) := by
  have ne : ∀ x ∈ S.ks, x ≠ e := fun x hx z => hn (z ▸ hx)
  refine ⟨addK_nodup I.nd, fun x hx => ?_, fun x hx => ?_, fun x hx hi => ?_, fun x hx hk => ?_, fun x hx i hi => ?_, fun x hx => ?_⟩
  all_goals try rcases mem_addK.mp hx with z | z
  · exact I.rng x z
  · rw [z]; exact hr
  · show 0 ≤ upf S.num e 0 x
    rw [upf_ne (ne x z)]; exact I.pos x z
  · subst z; show 0 ≤ upf S.num x 0 x; rw [upf_same]; exact Int.le_refl _
  · have hi' : upf S.ix e none x = none := hi
    rw [upf_ne (ne x z)] at hi'
    show _ ∧ upf S.ps e [] x = [] ∧ upf S.num e 0 x = 0
    rw [upf_ne (ne x z), upf_ne (ne x z)]
    exact I.base x z hi'
  · subst z
    exact ⟨he, upf_same .., upf_same ..⟩
  · show upf S.ix e none x = none
    by_cases z : x = e
    · rw [z, upf_same]
    · rw [upf_ne z]
      exact I.net x hx ((mem_addK.mp hk).resolve_right z)
  · have hi' : upf S.ix e none x = some i := hi
    rw [upf_ne (ne x z)] at hi'
    obtain ⟨⟨s, h1, h2, h3, h4, h5, h6⟩, hs⟩ := I.drv x z i hi'
    have eps : (S.set e 0 none []).ps x = S.ps x := upf_ne (ne x z)
    have esum : sumN (S.set e 0 none []).num (S.ps x) = sumN S.num (S.ps x) := sumN_congr fun p hp => upf_ne (ne p (hs p hp))
    have enum : (S.set e 0 none []).num x = S.num x := upf_ne (ne x z)
    refine ⟨⟨s, h1, h2, h3, ?_⟩, ?_⟩
    · rw [eps, esum, enum]
      refine ⟨h4, h5, fun q p hp => ?_⟩
      rw [upf_ne (ne x z), upf_ne (ne p (hs p hp))]
      exact h6 q p hp
    · rw [eps]
      exact fun p hp => mem_addK.mpr (.inl (hs p hp))
  · subst z
    have hi' : upf S.ix x none x = some i := hi
    rw [upf_same] at hi'
    cases hi'
  · rw [upf_ne (ne x z)]; exact Nat.lt_succ_of_lt (I.clk x z)
  · rw [z, upf_same]; exact Nat.lt_succ_self _
/-- a derived edge is put in -/
theorem NI.putDrv {M : Mach} {N : NetD} {S : NS} {tm : Edge → Nat} {c : Nat} (I : NI M N S tm c) (hM : MOk M) {i : Nat} {s : StepD} {parts : List Edge} {m n : Int} (hs : M.steps[i]? = some s) (hch : Chain s.goal s.laid parts m) (hsub : ∀ p ∈ parts, p ∈ S.ks)
    (hn : sumN S.num parts ≤ n) (hr : InR N (s.state, s.letter, m)) (hput : (s.state, s.letter, m) ∈ S.ks → s.weight + n < S.num (s.state, s.letter, m)) (hall : ∀ e ∈ N.ed, e ∈ S.ks) :
    NI M N (S.set (s.state, s.letter, m) (s.weight + n) (some i) parts) (upf tm (s.state, s.letter, m) c) (c + 1) := by
  generalize he : ((s.state, s.letter, m) : Edge) = e at *
  have hw : 0 ≤ s.weight := (hM.stp s (List.mem_of_getElem? hs)).2.2.2.2.2
  have npar : ∀ p ∈ parts, p ≠ e := fun p hp z => by
    subst z
    have h1 := sumN_mem (fun q hq => I.pos q (hsub q hq)) hp
    have h2 := hput (hsub p hp)
    omega
  have e1 : ∀ x, x ≠ e → (S.set e (s.weight + n) (some i) parts).num x = S.num x := fun x hx => upf_ne hx
  have e2 : ∀ x, x ≠ e → (S.set e (s.weight + n) (some i) parts).ps x = S.ps x := fun x hx => upf_ne hx
  have e3 : ∀ x, x ≠ e → (S.set e (s.weight + n) (some i) parts).ix x = S.ix x := fun x hx => upf_ne hx
  have esum : sumN (S.set e (s.weight + n) (some i) parts).num parts = sumN S.num parts := sumN_congr fun p hp => e1 p (npar p hp)
  have hsum0 : 0 ≤ sumN S.num parts := sumN_nonneg fun q hq => I.pos q (hsub q hq)
  have enet : e ∉ N.ed := fun h1 => by
    have h3 := (I.base e (hall e h1) (I.net e h1 (hall e h1))).2.2
    have h4 := hput (hall e h1)
    omega
  have old : ∀ x ∈ addK S.ks e, x ≠ e → x ∈ S.ks := fun x hx hne => (mem_addK.mp hx).resolve_right hne
  have le : ∀ x ∈ S.ks, (S.set e (s.weight + n) (some i) parts).num x ≤ S.num x := fun x hx => by
    by_cases z : x = e
    · subst z
      show upf S.num x _ x ≤ _
      rw [upf_same]
      exact Int.le_of_lt (hput hx)
    · exact Int.le_of_eq (e1 x z)
  refine ⟨addK_nodup I.nd, fun x hx => ?_, fun x hx => ?_, fun x hx hi => ?_, fun x hx hk => ?_, fun x hx j hi => ?_, fun x hx => ?_⟩
  · by_cases z : x = e
    · rw [z]; exact hr
    · exact I.rng x (old x hx z)
  · by_cases z : x = e
    · subst z
      show 0 ≤ upf S.num x _ x
      rw [upf_same]
      omega
    · rw [e1 x z]; exact I.pos x (old x hx z)
  · by_cases z : x = e
    · subst z
      have hi' : upf S.ix x (some i) x = none := hi
      rw [upf_same] at hi'
      cases hi'
    · rw [e3 x z] at hi
      rw [e1 x z, e2 x z]
      exact I.base x (old x hx z) hi
  · have z : x ≠ e := fun z => enet (z ▸ hx)
    rw [e3 x z]
    exact I.net x hx (hall x hx)
  · by_cases z : x = e
    · subst z
      have hi' : upf S.ix x (some i) x = some j := hi
      rw [upf_same] at hi'
      cases hi'
      have ep : (S.set x (s.weight + n) (some i) parts).ps x = parts := upf_same ..
      have en : (S.set x (s.weight + n) (some i) parts).num x = s.weight + n := upf_same ..
      refine ⟨⟨s, hs, by rw [← he], by rw [← he], ?_⟩, ?_⟩
      · rw [ep, en, esum, ← he]
        refine ⟨hch, by omega, fun _ p hp => ?_⟩
        rw [he, upf_same, upf_ne (npar p hp)]
        exact I.clk p (hsub p hp)
      · rw [ep]
        exact fun p hp => mem_addK.mpr (.inl (hsub p hp))
    · rw [e3 x z] at hi
      obtain ⟨⟨t, h1, h2, h3, h4, h5, h6⟩, h7⟩ := I.drv x (old x hx z) j hi
      have hle : sumN (S.set e (s.weight + n) (some i) parts).num (S.ps x) ≤ sumN S.num (S.ps x) := sumN_le fun p hp => le p (h7 p hp)
      refine ⟨⟨t, h1, h2, h3, ?_⟩, ?_⟩
      · rw [e2 x z, e1 x z]
        refine ⟨h4, by omega, fun q p hp => ?_⟩
        by_cases hin : e ∈ S.ps x
        · have hlt : sumN (S.set e (s.weight + n) (some i) parts).num (S.ps x) < sumN S.num (S.ps x) := sumN_lt (fun p hp => le p (h7 p hp)) ⟨e, hin, by
            show upf S.num e _ e < _
            rw [upf_same]
            exact hput (h7 e hin)⟩
          omega
        · have np : p ≠ e := fun z => hin (z ▸ hp)
          rw [upf_ne z, upf_ne np]
          have es : sumN (S.set e (s.weight + n) (some i) parts).num (S.ps x) = sumN S.num (S.ps x) := sumN_congr fun p hp => e1 p fun z => hin (z ▸ hp)
          rw [es] at q
          exact h6 q p hp
      · rw [e2 x z]
        exact fun p hp => mem_addK.mpr (.inl (h7 p hp))
  · by_cases z : x = e
    · subst z
      rw [upf_same]
      exact Nat.lt_succ_self _
    · rw [upf_ne z]
      exact Nat.lt_succ_of_lt (I.clk x (old x hx z))
/-! ### the end -/
/-- no step makes a number smaller -/
def Still (M : Mach) (S : NS) (i : Nat) : Prop := ∀ s, M.steps[i]? = some s → ∀ parts m, Chain s.goal s.laid parts m → (∀ p ∈ parts, p ∈ S.ks) → (s.state, s.letter, m) ∈ S.ks ∧ S.num (s.state, s.letter, m) ≤ s.weight + sumN S.num parts
/-- what stands at the end: the edges with their derivations -/
structure NF (M : Mach) (N : NetD) (ks : List Edge) (ix : Edge → Option Nat) (ps : Edge → List Edge) (tm : Edge → Nat) : Prop where
  nd : ks.Nodup
  rng : ∀ e ∈ ks, InR N e
  base : ∀ e ∈ ks, ix e = none → e ∈ N.ed
  bps : ∀ e ∈ ks, ix e = none → ps e = []
  all : ∀ e ∈ N.ed, e ∈ ks
  drv : ∀ e ∈ ks, ∀ i, ix e = some i → ∃ s, M.steps[i]? = some s ∧ e.1 = s.state ∧ e.2.1 = s.letter ∧ Chain s.goal s.laid (ps e) e.2.2 ∧ ∀ p ∈ ps e, p ∈ ks ∧ tm p < tm e
  cl : Closed M (mem ks)
theorem NI.final {M : Mach} {N : NetD} {S : NS} {tm : Edge → Nat} {c : Nat} (I : NI M N S tm c) (hall : ∀ e ∈ N.ed, e ∈ S.ks) (h : ∀ i, Still M S i) : NF M N S.ks S.ix S.ps tm where
  nd := I.nd
  rng := I.rng
  base := fun e he hi => (I.base e he hi).1
  bps := fun e he hi => (I.base e he hi).2.1
  all := hall
  drv := fun e he i hi => by
    obtain ⟨⟨s, h1, h2, h3, h4, h5, h6⟩, h7⟩ := I.drv e he i hi
    refine ⟨s, h1, h2, h3, h4, fun p hp => ⟨h7 p hp, h6 ?_ p hp⟩⟩
    have := (h i s h1 (S.ps e) e.2.2 h4 h7).2
    rw [show (s.state, s.letter, e.2.2) = e by rw [← h2, ← h3]] at this
    omega
  cl := fun s hs m hp => by
    obtain ⟨i, hi⟩ := List.mem_iff_getElem?.mp hs
    obtain ⟨ps, h1, h2⟩ := path_chain hp
    exact (h i s hi ps m h1 h2).1
/-- the edges at the end are derived -/
theorem NF.der {M : Mach} {N : NetD} {ks : List Edge} {ix : Edge → Option Nat} {ps : Edge → List Edge} {tm : Edge → Nat} (I : NF M N ks ix ps tm) (hM : MOk M) : ∀ (k : Nat) (e : Edge), tm e < k → e ∈ ks → Der M (mem N.ed) e.1 e.2.1 e.2.2 := by
  intro k
  induction k with
  | zero => intro e h; exact absurd h (Nat.not_lt_zero _)
  | succ k ih =>
    intro e hk he
    cases hi : ix e with
    | none => exact .base (I.base e he hi)
    | some i =>
      obtain ⟨s, h1, h2, h3, h4, h5⟩ := I.drv e he i hi
      have hs := List.mem_of_getElem? h1
      rw [h2, h3]
      have dp : ∀ p ∈ ps e, Der M (mem N.ed) p.1 p.2.1 p.2.2 := fun p hp => ih p (by have := (h5 p hp).2; omega) (h5 p hp).1
      rcases two_cases (hM.stp s hs).2.2.2.1 with hl | ⟨x, hl⟩ | ⟨x, y, hl⟩
      · rw [hl] at h4
        cases hp : ps e with
        | nil => rw [hp] at h4; rw [← (show s.goal = e.2.2 from h4)]; exact .d0 hs hl
        | cons p r => rw [hp] at h4; exact h4.elim
      · rw [hl] at h4
        match hp : ps e, h4 with
        | [p], ⟨a1, a2, a3⟩ =>
          have := dp p (by rw [hp]; simp)
          rw [a1, a2, (show p.2.2 = e.2.2 from a3)] at this
          exact .d1 hs hl this
      · rw [hl] at h4
        match hp : ps e, h4 with
        | [p, q], ⟨a1, a2, b1, b2, b3⟩ =>
          have z1 := dp p (by rw [hp]; simp)
          have z2 := dp q (by rw [hp]; simp)
          rw [a1, a2] at z1
          rw [b1, b2, (show q.2.2 = e.2.2 from b3)] at z2
          exact .d2 hs hl z1 z2
/-! ### a measure -/
theorem nd_len {α : Type} [DecidableEq α] : ∀ (l D : List α), l.Nodup → (∀ x ∈ l, x ∈ D) → l.length ≤ D.length
  | [], _, _, _ => Nat.zero_le _
  | x :: l, D, hn, hs => by
    obtain ⟨h1, h2⟩ := List.nodup_cons.mp hn
    have hx := hs x List.mem_cons_self
    have := nd_len l (D.erase x) h2 fun y hy => (List.mem_erase_of_ne (fun (e : y = x) => h1 (e ▸ hy))).mpr (hs y (List.mem_cons_of_mem _ hy))
    rw [List.length_erase_of_mem hx] at this
    have := List.length_pos_of_mem hx
    simp only [List.length_cons]
    omega
def codeE (N : NetD) (e : Edge) : Nat := (e.1.toNat * N.lt.toNat + e.2.1.toNat) * N.nd.toNat + e.2.2.toNat
theorem code_inj {a b c d k : Nat} (hb : b < k) (hd : d < k) (h : a * k + b = c * k + d) : a = c ∧ b = d := by
  have h1 : (a * k + b) / k = a := by rw [Nat.mul_comm, Nat.mul_add_div (by omega)]; simp [Nat.div_eq_of_lt hb]
  have h2 : (c * k + d) / k = c := by rw [Nat.mul_comm, Nat.mul_add_div (by omega)]; simp [Nat.div_eq_of_lt hd]
  have e : a = c := by rw [← h1, h, h2]
  subst e
  exact ⟨rfl, by omega⟩
theorem codeE_lt {N : NetD} {e : Edge} (h : InR N e) : codeE N e < N.nd.toNat * N.lt.toNat * N.nd.toNat := by
  obtain ⟨⟨h1, h2⟩, ⟨h3, h4⟩, h5, h6⟩ := h
  unfold codeE
  have a1 : e.1.toNat + 1 ≤ N.nd.toNat := by omega
  have a2 : e.2.1.toNat + 1 ≤ N.lt.toNat := by omega
  have a3 : e.2.2.toNat + 1 ≤ N.nd.toNat := by omega
  have b1 : e.1.toNat * N.lt.toNat + e.2.1.toNat + 1 ≤ N.nd.toNat * N.lt.toNat := by
    have := Nat.mul_le_mul_right N.lt.toNat a1
    rw [Nat.add_mul, Nat.one_mul] at this
    omega
  have := Nat.mul_le_mul_right N.nd.toNat b1
  rw [Nat.add_mul, Nat.one_mul] at this
  omega
theorem codeE_inj {N : NetD} {e f : Edge} (h : InR N e) (h' : InR N f) (hc : codeE N e = codeE N f) : e = f := by
  obtain ⟨⟨h1, h2⟩, ⟨h3, h4⟩, h5, h6⟩ := h
  obtain ⟨⟨g1, g2⟩, ⟨g3, g4⟩, g5, g6⟩ := h'
  unfold codeE at hc
  obtain ⟨c1, c2⟩ := code_inj (by omega) (by omega) hc
  obtain ⟨c3, c4⟩ := code_inj (by omega) (by omega) c1
  exact Prod.ext (by omega) (Prod.ext (by omega) (by omega))
def capE (N : NetD) : Nat := N.nd.toNat * N.lt.toNat * N.nd.toNat
theorem edges_len {N : NetD} {l : List Edge} (hn : l.Nodup) (hr : ∀ e ∈ l, InR N e) : l.length ≤ capE N := by
  have h := nd_len (l.map (codeE N)) (List.range (capE N)) ?_ ?_
  · simpa using h
  · refine List.pairwise_map.mpr (List.Pairwise.imp_of_mem (fun {a b} ha hb hne e => hne (codeE_inj (hr a ha) (hr b hb) e)) hn)
  · intro x hx
    obtain ⟨e, he, rfl⟩ := List.mem_map.mp hx
    exact List.mem_range.mpr (codeE_lt (hr e he))
def bnd : Nat → Int
  | 0 => 0
  | k + 1 => 2 * bnd k + 5
theorem bnd_pos : ∀ k, 0 ≤ bnd k
  | 0 => Int.le_refl _
  | k + 1 => by have := bnd_pos k; show 0 ≤ 2 * bnd k + 5; omega
theorem bnd_mono : ∀ {k j : Nat}, k ≤ j → bnd k ≤ bnd j
  | k, 0, h => by rw [Nat.le_zero.mp h]; exact Int.le_refl _
  | k, j + 1, h => by
    rcases Nat.lt_or_eq_of_le h with z | z
    · have := bnd_mono (k := k) (j := j) (by omega)
      have := bnd_pos j
      show bnd k ≤ 2 * bnd j + 5
      omega
    · rw [z]; exact Int.le_refl _
/-- all numbers are small -/
def NB (S : NS) : Prop := ∀ e ∈ S.ks, S.num e ≤ bnd S.ks.length
def Mu (B : Nat) (S : NS) : Nat := (B - S.ks.length) * ((bnd B).toNat + 1) + (sumN S.num S.ks).toNat
theorem sumN_two {f : Edge → Int} {b : Int} {l : List Edge} (hb : 0 ≤ b) (h : l.length ≤ 2) (hf : ∀ e ∈ l, f e ≤ b) : sumN f l ≤ 2 * b := by
  match l, h with
  | [], _ => simp [sumN]; omega
  | [x], _ => have := hf x (by simp); simp [sumN]; omega
  | [x, y], _ => have := hf x (by simp); have := hf y (by simp); simp [sumN]; omega
  | _ :: _ :: _ :: _, h => simp at h
theorem addK_new {ks : List Edge} {e : Edge} (h : e ∉ ks) : addK ks e = ks ++ [e] := if_neg h
theorem addK_old {ks : List Edge} {e : Edge} (h : e ∈ ks) : addK ks e = ks := if_pos h
theorem NB.set {S : NS} {e : Edge} {n : Int} {i : Option Nat} {p : List Edge} (h : NB S) (hn : n ≤ bnd (S.ks.length + 1)) (hp : e ∈ S.ks → n < S.num e) : NB (S.set e n i p) := by
  intro x hx
  show upf S.num e n x ≤ bnd (addK S.ks e).length
  by_cases he : e ∈ S.ks
  · rw [addK_old he]
    by_cases z : x = e
    · subst z
      rw [upf_same]
      have := hp he
      have := h x he
      omega
    · rw [upf_ne z]
      exact h x ((mem_addK.mp hx).resolve_right z)
  · rw [addK_new he, List.length_append]
    by_cases z : x = e
    · subst z
      rw [upf_same]
      exact hn
    · rw [upf_ne z]
      have := h x ((mem_addK.mp hx).resolve_right z)
      have := bnd_mono (k := S.ks.length) (j := S.ks.length + [e].length) (by simp)
      omega
theorem sumN_set {f : Edge → Int} {e : Edge} {n : Int} : ∀ {l : List Edge}, l.Nodup → e ∈ l → sumN (upf f e n) l + f e = sumN f l + n
  | x :: l, hn, he => by
    obtain ⟨h1, h2⟩ := List.nodup_cons.mp hn
    rw [sumN_cons, sumN_cons]
    rcases List.mem_cons.mp he with z | z
    · subst z
      rw [upf_same, sumN_congr (g := f) fun y hy => upf_ne fun (q : y = e) => h1 (q ▸ hy)]
      omega
    · have := sumN_set (f := f) (n := n) h2 z
      rw [upf_ne fun (q : x = e) => h1 (q ▸ z)]
      omega
theorem Mu_set {B : Nat} {S : NS} {e : Edge} {n : Int} {i : Option Nat} {p : List Edge} (hnd : S.ks.Nodup) (hpos : ∀ x ∈ S.ks, 0 ≤ S.num x) (h0 : 0 ≤ n) (hn : n ≤ bnd (S.ks.length + 1)) (hp : e ∈ S.ks → n < S.num e) (hB : (addK S.ks e).length ≤ B) : Mu B (S.set e n i p) < Mu B S := by
  unfold Mu
  show (B - (addK S.ks e).length) * _ + (sumN (upf S.num e n) (addK S.ks e)).toNat < _
  have s0 := sumN_nonneg hpos
  by_cases he : e ∈ S.ks
  · rw [addK_old he]
    have h1 := sumN_set (f := S.num) (n := n) hnd he
    have h2 := hp he
    have h3 : 0 ≤ sumN (upf S.num e n) S.ks := sumN_nonneg fun x hx => by
      by_cases z : x = e
      · rw [z, upf_same]; exact h0
      · rw [upf_ne z]; exact hpos x hx
    omega
  · rw [addK_new he] at hB ⊢
    rw [List.length_append] at hB ⊢
    have hl : [e].length = 1 := rfl
    rw [hl] at hB ⊢
    rw [sumN_snoc, upf_same, sumN_congr (g := S.num) fun y hy => upf_ne fun (q : y = e) => he (q ▸ hy)]
    have h4 : n ≤ bnd B := Int.le_trans hn (bnd_mono hB)
    have h5 : B - S.ks.length = (B - (S.ks.length + 1)) + 1 := by omega
    rw [h5, Nat.add_mul, Nat.one_mul]
    omega
end Pr
/-! Papers: rows read, rows put together. -/
namespace Pr
inductive Item where
  | net (e : Edge)
  | row (i : Int)
inductive All2 {α β : Type} (R : α → β → Prop) : List α → List β → Prop
  | nil : All2 R [] []
  | cons {a : α} {b : β} {l : List α} {m : List β} : R a b → All2 R l m → All2 R (a :: l) (b :: m)
theorem All2.len {α β : Type} {R : α → β → Prop} {l : List α} {m : List β} (h : All2 R l m) : l.length = m.length := by
  induction h with
  | nil => rfl
  | cons _ _ ih => simp [ih]
theorem All2.imp {α β : Type} {R S : α → β → Prop} {l : List α} {m : List β} (h : All2 R l m) (f : ∀ a b, a ∈ l → R a b → S a b) : All2 S l m := by
  induction h with
  | nil => exact .nil
  | cons r _ ih => exact .cons (f _ _ List.mem_cons_self r) (ih fun a b ha => f a b (List.mem_cons_of_mem _ ha))
def edgeOf (K es : List Edge) : Item → Option Edge
  | .net e => if e ∈ K then some e else none
  | .row i => if 0 ≤ i ∧ i < (es.length : Int) then es[i.toNat]? else none
def chainO : Int → List Int → List (Option Edge) → Option Int
  | n, [], [] => some n
  | n, l :: ls, some p :: ps => if p.1 = n ∧ p.2.1 = l then chainO p.2.2 ls ps else none
  | _, _, _ => none
def joinedD (s : StepD) (os : List (Option Edge)) : Option Edge := if os.length = s.laid.length then (chainO s.goal s.laid os).map fun m => (s.state, s.letter, m) else none
def readD (M : Mach) (K es : List Edge) (row : Int × List Item) : Option (List Edge) :=
  if 0 ≤ row.1 ∧ row.1 < (M.steps.length : Int) then (M.steps[row.1.toNat]?).bind fun s => (joinedD s (row.2.map (edgeOf K es))).map fun e => es ++ [e] else none
def readAll (M : Mach) (K : List Edge) : List Edge → List (Int × List Item) → Option (List Edge)
  | es, [] => some es
  | es, r :: rs => (readD M K es r).bind fun es' => readAll M K es' rs
def wayD (K es : List Edge) (n : Int) (pile : List Int) (way : List Item) : Option Int := if way.length = pile.length then chainO n pile (way.map (edgeOf K es)) else none
def PaperOk (M : Mach) (K : List Edge) (ends : List Int) (c : Conf) (rows : List (Int × List Item)) (way : List Item) : Prop :=
  ∃ es, readAll M K [] rows = some es ∧ ∃ n, wayD K es c.1 c.2 way = some n ∧ n ∈ ends
theorem chainO_some : ∀ {n m : Int} {ls : List Int} {os : List (Option Edge)}, chainO n ls os = some m → ∃ ps : List Edge, os = ps.map some ∧ Chain n ls ps m
  | n, m, [], [], h => ⟨[], rfl, Option.some.inj h⟩
  | n, m, [], _ :: _, h => by simp [chainO] at h
  | n, m, _ :: _, [], h => by simp [chainO] at h
  | n, m, l :: ls, none :: os, h => by simp [chainO] at h
  | n, m, l :: ls, some p :: os, h => by
    unfold chainO at h
    split at h
    · rename_i hp
      obtain ⟨ps, e, c⟩ := chainO_some h
      exact ⟨p :: ps, by rw [e]; rfl, hp.1, hp.2, c⟩
    · cases h
theorem chainO_of : ∀ {n m : Int} {ls : List Int} {ps : List Edge}, Chain n ls ps m → chainO n ls (ps.map some) = some m
  | n, m, [], [], h => by rw [show n = m from h]; rfl
  | n, m, l :: ls, p :: ps, ⟨h1, h2, h3⟩ => by
    show (if p.1 = n ∧ p.2.1 = l then _ else _) = _
    rw [if_pos ⟨h1, h2⟩]
    exact chainO_of h3
theorem edgeOf_net (K es : List Edge) (f : Edge) : edgeOf K es (.net f) = if f ∈ K then some f else none := rfl
theorem edgeOf_row (K es : List Edge) (i : Int) : edgeOf K es (.row i) = if 0 ≤ i ∧ i < (es.length : Int) then es[i.toNat]? else none := rfl
theorem edgeOf_two {Pe : Edge → Prop} {K1 K2 es : List Edge} {it : Item} {e e' : Edge} (hes : ∀ e ∈ es, Pe e) (h1 : edgeOf K1 es it = some e) (h2 : edgeOf K2 es it = some e') (hb : ∀ e, e ∈ K1 → e ∈ K2 → Pe e) : e = e' ∧ Pe e := by
  cases it with
  | net f =>
    rw [edgeOf_net] at h1 h2
    by_cases a : f ∈ K1
    · rw [if_pos a] at h1
      by_cases b : f ∈ K2
      · rw [if_pos b] at h2
        cases h1; cases h2
        exact ⟨rfl, hb _ a b⟩
      · rw [if_neg b] at h2; cases h2
    · rw [if_neg a] at h1; cases h1
  | row i =>
    rw [edgeOf_row] at h1 h2
    by_cases a : 0 ≤ i ∧ i < (es.length : Int)
    · rw [if_pos a] at h1 h2
      rw [h1] at h2
      exact ⟨Option.some.inj h2, hes _ (List.mem_of_getElem? h1)⟩
    · rw [if_neg a] at h1; cases h1
theorem nodup_at {α : Type} {l : List α} (h : l.Nodup) {i j : Nat} {x : α} (hi : l[i]? = some x) (hj : l[j]? = some x) : i = j := by
  obtain ⟨a, ea⟩ := List.getElem?_eq_some_iff.mp hi
  obtain ⟨b, eb⟩ := List.getElem?_eq_some_iff.mp hj
  rcases Nat.lt_trichotomy i j with c | c | c
  · exact absurd (ea.trans eb.symm) (List.pairwise_iff_getElem.mp h i j a b c)
  · exact c
  · exact absurd (eb.trans ea.symm) (List.pairwise_iff_getElem.mp h j i b a c)
section
variable {M : Mach} {K1 K2 : List Edge}
def Both (K1 K2 : List Edge) : ES := fun n a m => (n, a, m) ∈ K1 ∧ (n, a, m) ∈ K2
def DB (M : Mach) (K1 K2 : List Edge) (e : Edge) : Prop := Der M (Both K1 K2) e.1 e.2.1 e.2.2
theorem parts_two {es : List Edge} (hes : ∀ e ∈ es, DB M K1 K2 e) : ∀ {its : List Item} {ps qs : List Edge}, its.map (edgeOf K1 es) = ps.map some → its.map (edgeOf K2 es) = qs.map some → ps = qs ∧ ∀ p ∈ ps, DB M K1 K2 p
  | [], [], [], _, _ => ⟨rfl, fun p hp => by cases hp⟩
  | [], [], _ :: _, _, h => by simp at h
  | [], _ :: _, _, h, _ => by simp at h
  | _ :: _, [], _, h, _ => by simp at h
  | _ :: _, _ :: _, [], _, h => by simp at h
  | it :: its, p :: ps, q :: qs, h1, h2 => by
    simp only [List.map_cons, List.cons.injEq] at h1 h2
    obtain ⟨e, d⟩ := edgeOf_two hes h1.1 h2.1 fun e a b => .base ⟨a, b⟩
    obtain ⟨e2, d2⟩ := parts_two hes h1.2 h2.2
    refine ⟨by rw [e, e2], fun x hx => ?_⟩
    rcases List.mem_cons.mp hx with z | z
    · rw [z]; exact d
    · exact d2 x z
theorem chain_db {n m : Int} {ls : List Int} {ps : List Edge} (h : Chain n ls ps m) (hd : ∀ p ∈ ps, DB M K1 K2 p) : Path (Der M (Both K1 K2)) n ls m := h.path hd
theorem read_two (hM : MOk M) {es es1 es2 : List Edge} {r : Int × List Item} (hes : ∀ e ∈ es, DB M K1 K2 e) (h1 : readD M K1 es r = some es1) (h2 : readD M K2 es r = some es2) : es1 = es2 ∧ ∀ e ∈ es1, DB M K1 K2 e := by
  unfold readD at h1 h2
  split at h1
  · rename_i hr
    rw [if_pos hr] at h2
    cases hs : M.steps[r.1.toNat]? with
    | none => rw [hs] at h1; cases h1
    | some s =>
      rw [hs] at h1 h2
      simp only [Option.bind_some, Option.map_eq_some_iff] at h1 h2
      obtain ⟨e, he, rfl⟩ := h1
      obtain ⟨e', he', rfl⟩ := h2
      unfold joinedD at he he'
      split at he
      · rename_i hl
        rw [if_pos (by simpa using hl)] at he'
        obtain ⟨m, hm, rfl⟩ := Option.map_eq_some_iff.mp he
        obtain ⟨m', hm', rfl⟩ := Option.map_eq_some_iff.mp he'
        obtain ⟨ps, e1, c1⟩ := chainO_some hm
        obtain ⟨qs, e2, c2⟩ := chainO_some hm'
        obtain ⟨rfl, d⟩ := parts_two hes e1 e2
        have em : m = m' := by
          have z1 := chainO_of c1
          have z2 := chainO_of c2
          rw [z1] at z2
          exact Option.some.inj z2
        subst em
        refine ⟨rfl, fun x hx => ?_⟩
        rcases List.mem_append.mp hx with z | z
        · exact hes x z
        · rw [List.mem_singleton.mp z]
          have hs' := List.mem_of_getElem? hs
          have hp := chain_db c1 d
          show Der M _ s.state s.letter m
          rcases two_cases (hM.stp s hs').2.2.2.1 with hl | ⟨a, hl⟩ | ⟨a, b, hl⟩
          · rw [hl] at hp
            rw [← hp.nil_eq]
            exact .d0 hs' hl
          · rw [hl] at hp
            obtain ⟨k, p1, p2⟩ := hp.uncons
            rw [← p2.nil_eq]
            exact .d1 hs' hl p1
          · rw [hl] at hp
            obtain ⟨k, p1, p2⟩ := hp.uncons
            obtain ⟨k2, p3, p4⟩ := p2.uncons
            rw [← p4.nil_eq]
            exact .d2 hs' hl p1 p3
      · cases he
  · cases h1
theorem readAll_two (hM : MOk M) : ∀ {rs : List (Int × List Item)} {es es1 es2 : List Edge}, (∀ e ∈ es, DB M K1 K2 e) → readAll M K1 es rs = some es1 → readAll M K2 es rs = some es2 → es1 = es2 ∧ ∀ e ∈ es1, DB M K1 K2 e
  | [], es, es1, es2, hes, h1, h2 => by
    cases h1; cases h2
    exact ⟨rfl, hes⟩
  | r :: rs, es, es1, es2, hes, h1, h2 => by
    unfold readAll at h1 h2
    obtain ⟨a, ha, h1⟩ := Option.bind_eq_some_iff.mp h1
    obtain ⟨b, hb, h2⟩ := Option.bind_eq_some_iff.mp h2
    obtain ⟨rfl, d⟩ := read_two hM hes ha hb
    exact readAll_two hM d h1 h2
/-- a paper that two nets take shows one run into both -/
theorem paper_two (hM : MOk M) (hp : ∀ n a m, (n, a, m) ∈ K1 → M.st ≤ m) {E1 E2 : List Int} {c : Conf} {rows : List (Int × List Item)} {way : List Item} (h1 : PaperOk M K1 E1 c rows way) (h2 : PaperOk M K2 E2 c rows way) :
    ∃ (x : Conf) (n : Int), Run M c x ∧ n ∈ E1 ∧ n ∈ E2 ∧ Path (mem K1) x.1 x.2 n ∧ Path (mem K2) x.1 x.2 n := by
  obtain ⟨es, r1, n, w1, e1⟩ := h1
  obtain ⟨es', r2, n', w2, e2⟩ := h2
  obtain ⟨rfl, d⟩ := readAll_two hM (fun e he => by cases he) r1 r2
  unfold wayD at w1 w2
  split at w1
  · rename_i hl
    rw [if_pos hl] at w2
    obtain ⟨ps, a1, c1⟩ := chainO_some w1
    obtain ⟨qs, a2, c2⟩ := chainO_some w2
    obtain ⟨rfl, dd⟩ := parts_two d a1 a2
    have en : n = n' := by
      have z1 := chainO_of c1
      have z2 := chainO_of c2
      rw [z1] at z2
      exact Option.some.inj z2
    subst en
    obtain ⟨x, r, p⟩ := path_run hM (E := Both K1 K2) (fun n a m h => hp n a m h.1) (chain_db c1 dd)
    exact ⟨x, n, r, e1, e2, p.mono fun _ _ _ h => h.1, p.mono fun _ _ _ h => h.2⟩
  · cases w1
end
/-! ### rows put together -/
/-- p stands at it when the rows pl are there -/
def ItemAt (ix : Edge → Option Nat) (pl : List Edge) (p : Edge) (it : Item) : Prop := (ix p = none ∧ it = .net p) ∨ ∃ k : Nat, pl[k]? = some p ∧ it = .row (k : Int)
structure RI (M : Mach) (ks : List Edge) (ix : Edge → Option Nat) (ps : Edge → List Edge) (pl : List Edge) (rows : List (Int × List Item)) : Prop where
  nd : pl.Nodup
  sub : ∀ e ∈ pl, e ∈ ks ∧ ix e ≠ none
  row : All2 (fun e r => ∃ (j i : Nat), pl[j]? = some e ∧ ix e = some i ∧ r.1 = (i : Int) ∧ All2 (fun p it => ItemAt ix (pl.take j) p it) (ps e) r.2) pl rows
theorem ItemAt.mono {ix : Edge → Option Nat} {pl more : List Edge} {p : Edge} {it : Item} (h : ItemAt ix pl p it) : ItemAt ix (pl ++ more) p it := by
  rcases h with h | ⟨k, h, e⟩
  · exact .inl h
  · exact .inr ⟨k, by rw [List.getElem?_append_left (List.getElem?_eq_some_iff.mp h).1]; exact h, e⟩
theorem All2.snoc {α β : Type} {R : α → β → Prop} {l : List α} {m : List β} {a : α} {b : β} (h : All2 R l m) (r : R a b) : All2 R (l ++ [a]) (m ++ [b]) := by
  induction h with
  | nil => exact .cons r .nil
  | cons q _ ih => exact .cons q ih
theorem All2.get {α β : Type} {R : α → β → Prop} {l : List α} {m : List β} (h : All2 R l m) : ∀ {j : Nat} {a : α}, l[j]? = some a → ∃ b, m[j]? = some b ∧ R a b := by
  induction h with
  | nil => intro j a h; simp at h
  | cons r _ ih =>
    intro j a h
    cases j with
    | zero => simp at h; subst h; exact ⟨_, rfl, r⟩
    | succ j => simpa using ih (by simpa using h)
/-- a row is added behind -/
theorem RI.snoc {M : Mach} {ks : List Edge} {ix : Edge → Option Nat} {ps : Edge → List Edge} {pl : List Edge} {rows : List (Int × List Item)} (I : RI M ks ix ps pl rows) {e : Edge} {i : Nat} {its : List Item} (he : e ∈ ks) (hi : ix e = some i) (hn : e ∉ pl)
    (hit : All2 (fun p it => ItemAt ix pl p it) (ps e) its) : RI M ks ix ps (pl ++ [e]) (rows ++ [((i : Int), its)]) := by
  refine ⟨List.nodup_append.mpr ⟨I.nd, by simp, fun a ha b hb => by simp at hb; subst hb; exact fun z => hn (z ▸ ha)⟩, fun x hx => ?_, ?_⟩
  · rcases List.mem_append.mp hx with z | z
    · exact I.sub x z
    · rw [List.mem_singleton.mp z, hi]; exact ⟨he, by simp⟩
  · refine All2.snoc (I.row.imp fun a r ha ⟨j, i', h1, h2, h3, h4⟩ => ?_) ⟨pl.length, i, by simp, hi, rfl, by simpa using hit⟩
    have hj := (List.getElem?_eq_some_iff.mp h1).1
    exact ⟨j, i', by rw [List.getElem?_append_left hj]; exact h1, h2, h3, by rw [List.take_append_of_le_length (Nat.le_of_lt hj)]; exact h4⟩
theorem items_edges {N : NetD} {ks : List Edge} {ix : Edge → Option Nat} (hb : ∀ e ∈ ks, ix e = none → e ∈ N.ed) {pl ps : List Edge} {its : List Item} (h : All2 (fun p it => ItemAt ix pl p it) ps its) : (∀ p ∈ ps, p ∈ ks) → its.map (edgeOf N.ed pl) = ps.map some := by
  induction h with
  | nil => exact fun _ => rfl
  | @cons p it l m r _ ih =>
    intro hk
    rw [List.map_cons, List.map_cons, ih fun q hq => hk q (List.mem_cons_of_mem _ hq)]
    congr 1
    rcases r with ⟨h1, rfl⟩ | ⟨k, h1, rfl⟩
    · show (if p ∈ N.ed then _ else _) = _
      rw [if_pos (hb p (hk p List.mem_cons_self) h1)]
    · have := (List.getElem?_eq_some_iff.mp h1).1
      show (if 0 ≤ (k : Int) ∧ (k : Int) < (pl.length : Int) then pl[(k : Int).toNat]? else none) = _
      rw [if_pos ⟨by omega, by omega⟩, Int.toNat_natCast]
      exact h1
theorem readAll_snoc {M : Mach} {K : List Edge} : ∀ {rs : List (Int × List Item)} {es es1 es2 : List Edge} {r : Int × List Item}, readAll M K es rs = some es1 → readD M K es1 r = some es2 → readAll M K es (rs ++ [r]) = some es2
  | [], es, es1, es2, r, h1, h2 => by
    cases h1
    show (readD M K es r).bind _ = _
    rw [h2]
    rfl
  | q :: rs, es, es1, es2, r, h1, h2 => by
    unfold readAll at h1
    obtain ⟨a, ha, h1⟩ := Option.bind_eq_some_iff.mp h1
    show (readD M K es q).bind _ = _
    rw [ha]
    exact readAll_snoc h1 h2
/-- the rows are read, each gives its edge -/
theorem RI.read {M : Mach} {N : NetD} {ks : List Edge} {ix : Edge → Option Nat} {ps : Edge → List Edge} {tm : Edge → Nat} {pl : List Edge} {rows : List (Int × List Item)} (F : NF M N ks ix ps tm) (I : RI M ks ix ps pl rows) : readAll M N.ed [] rows = some pl := by
  have hlen := I.row.len
  have key : ∀ j, j ≤ pl.length → readAll M N.ed [] (rows.take j) = some (pl.take j) := by
    intro j
    induction j with
    | zero => intro _; rfl
    | succ j ih =>
      intro hj
      have hj' : j < pl.length := hj
      obtain ⟨e, he⟩ : ∃ e, pl[j]? = some e := ⟨_, List.getElem?_eq_getElem hj'⟩
      obtain ⟨r, hr, j', i, h1, h2, h3, h4⟩ := I.row.get he
      obtain rfl : j' = j := nodup_at I.nd h1 he
      have er : rows.take (j' + 1) = rows.take j' ++ [r] := by rw [List.take_succ, hr]; rfl
      have ep : pl.take (j' + 1) = pl.take j' ++ [e] := by rw [List.take_succ, he]; rfl
      rw [er, ep]
      refine readAll_snoc (ih (Nat.le_of_lt hj')) ?_
      obtain ⟨s, s1, s2, s3, s4, s5⟩ := F.drv e (I.sub e (List.mem_of_getElem? he)).1 i h2
      have hi : i < M.steps.length := (List.getElem?_eq_some_iff.mp s1).1
      unfold readD
      rw [h3, if_pos ⟨by omega, by omega⟩, Int.toNat_natCast, s1]
      have hm := items_edges (N := N) (ks := ks) F.base h4 fun p hp => (s5 p hp).1
      simp only [Option.bind_some]
      rw [hm]
      unfold joinedD
      rw [if_pos (by rw [List.length_map, s4.len]), chainO_of s4, ← s2, ← s3]
      rfl
  have := key pl.length (Nat.le_refl _)
  rwa [List.take_length, List.take_of_length_le (by omega)] at this
/-- the paper of a path of edges -/
theorem RI.paper {M : Mach} {N : NetD} {ks : List Edge} {ix : Edge → Option Nat} {ps : Edge → List Edge} {tm : Edge → Nat} {pl : List Edge} {rows : List (Int × List Item)} (F : NF M N ks ix ps tm) (I : RI M ks ix ps pl rows)
    {c : Conf} {path : List Edge} {n : Int} {way : List Item} (hc : Chain c.1 c.2 path n) (hk : ∀ p ∈ path, p ∈ ks) (hn : n ∈ N.en) (hw : All2 (fun p it => ItemAt ix pl p it) path way) : PaperOk M N.ed N.en c rows way := by
  refine ⟨pl, I.read F, n, ?_, hn⟩
  unfold wayD
  rw [if_pos (by rw [← hw.len, hc.len]), items_edges (N := N) F.base hw hk]
  exact chainO_of hc
end Pr
/-! The stack of add; plain nets; products; what the law needs. -/
namespace Pr
/-! ### the stack, its top first -/
section
variable {ks : List Edge} {ix : Edge → Option Nat} {ps : Edge → List Edge} {tm : Edge → Nat} {pl : List Edge}
def costE (tm : Edge → Nat) (x : Edge × Bool) : Nat := if x.2 then 1 else 3 ^ (tm x.1 + 1)
def costS (tm : Edge → Nat) (sk : List (Edge × Bool)) : Nat := (sk.map (costE tm)).sum
def skOk (ix : Edge → Option Nat) (ps : Edge → List Edge) (pl : List Edge) : List Edge → List (Edge × Bool) → Prop
  | _, [] => True
  | ab, (e, b) :: r => (b = true → ∀ p ∈ ps e, ix p = none ∨ p ∈ pl ∨ p ∈ ab) ∧ skOk ix ps pl (e :: ab) r
def runF : List (Edge × Bool) → Nat
  | (_, false) :: r => runF r + 1
  | _ => 0
def runsOk : List (Edge × Bool) → Prop
  | [] => True
  | x :: r => runF (x :: r) ≤ 2 ∧ runsOk r
structure SK (ks : List Edge) (ix : Edge → Option Nat) (ps : Edge → List Edge) (tm : Edge → Nat) (pl : List Edge) (sk : List (Edge × Bool)) : Prop where
  sub : ∀ x ∈ sk, x.1 ∈ ks
  ok : skOk ix ps pl [] sk
  tms : sk.Pairwise fun a b => b.2 = true → tm a.1 < tm b.1
  runs : runsOk sk
theorem skOk.mono {pl' : List Edge} (hpl : ∀ p ∈ pl, p ∈ pl') : ∀ {sk : List (Edge × Bool)} {ab ab' : List Edge}, (∀ p ∈ ab, ix p = none ∨ p ∈ pl' ∨ p ∈ ab') → skOk ix ps pl ab sk → skOk ix ps pl' ab' sk
  | [], _, _, _, _ => trivial
  | (e, b) :: r, ab, ab', hab, ⟨h1, h2⟩ => by
    refine ⟨fun hb p hp => ?_, skOk.mono hpl (fun p hp => ?_) h2⟩
    · rcases h1 hb p hp with z | z | z
      · exact .inl z
      · exact .inr (.inl (hpl p z))
      · exact hab p z
    · rcases List.mem_cons.mp hp with z | z
      · exact .inr (.inr (z ▸ List.mem_cons_self))
      · rcases hab p z with q | q | q
        · exact .inl q
        · exact .inr (.inl q)
        · exact .inr (.inr (List.mem_cons_of_mem _ q))
theorem costS_cons (x : Edge × Bool) (r : List (Edge × Bool)) : costS tm (x :: r) = costE tm x + costS tm r := by simp [costS]
theorem costE_pos (x : Edge × Bool) : 0 < costE tm x := by
  unfold costE
  split
  · exact Nat.one_pos
  · exact Nat.pow_pos (by decide)
theorem SK.one {e : Edge} (he : e ∈ ks) : SK ks ix ps tm pl [(e, false)] where
  sub := fun x hx => by rw [List.mem_singleton.mp hx]; exact he
  ok := ⟨(fun h => nomatch h), trivial⟩
  tms := by simp
  runs := ⟨by show runF [] + 1 ≤ 2; decide, trivial⟩
/-- the top is there, or needs no row: it is popped; or it has just been placed -/
theorem SK.pop {pl' : List Edge} {x : Edge × Bool} {r : List (Edge × Bool)} (I : SK ks ix ps tm pl (x :: r)) (hpl : ∀ p ∈ pl, p ∈ pl') (hx : ix x.1 = none ∨ x.1 ∈ pl') : SK ks ix ps tm pl' r ∧ costS tm r < costS tm (x :: r) := by
  obtain ⟨e, b⟩ := x
  refine ⟨⟨fun y hy => I.sub y (List.mem_cons_of_mem _ hy), skOk.mono hpl (fun p hp => ?_) I.ok.2, (List.pairwise_cons.mp I.tms).2, I.runs.2⟩, ?_⟩
  · rw [List.mem_singleton.mp hp]
    exact hx.elim .inl fun z => .inr (.inl z)
  · rw [costS_cons]
    have := costE_pos (tm := tm) (e, b)
    omega
theorem runF_map (l : List Edge) (e : Edge) (r : List (Edge × Bool)) : runF (l.map (·, false) ++ (e, true) :: r) = l.length := by
  induction l with
  | nil => rfl
  | cons a l ih => exact congrArg (· + 1) ih
theorem runsOk_map (l : List Edge) (e : Edge) (r : List (Edge × Bool)) (h : l.length ≤ 2) (hr : runsOk r) : runsOk (l.map (·, false) ++ (e, true) :: r) := by
  induction l with
  | nil => exact ⟨Nat.zero_le _, hr⟩
  | cons a l ih => exact ⟨Nat.le_trans (Nat.le_of_eq (runF_map (a :: l) e r)) h, ih (by simp at h; omega)⟩
theorem skOk_map : ∀ (l : List Edge) (ab : List Edge) (r : List (Edge × Bool)), skOk ix ps pl (l.reverse ++ ab) r → skOk ix ps pl ab (l.map (·, false) ++ r)
  | [], _, _, h => h
  | a :: l, ab, r, h => by
    refine ⟨(fun z => nomatch z), skOk_map l (a :: ab) r ?_⟩
    simpa using h
/-- the top is expanded by its missing parts -/
theorem SK.expand {e : Edge} {b : Bool} {r : List (Edge × Bool)} {ms : List Edge} (I : SK ks ix ps tm pl ((e, b) :: r)) (hms : ms ≠ []) (hl : ms.length ≤ 2) (hm : ∀ p ∈ ms, p ∈ ps e ∧ ix p ≠ none ∧ p ∉ pl) (hall : ∀ p ∈ ps e, ix p = none ∨ p ∈ pl ∨ p ∈ ms) (hk : ∀ p ∈ ps e, p ∈ ks ∧ tm p < tm e) :
    SK ks ix ps tm pl (ms.reverse.map (·, false) ++ (e, true) :: r) ∧ costS tm (ms.reverse.map (·, false) ++ (e, true) :: r) < costS tm ((e, b) :: r) := by
  have hb : b = false := by
    cases b with
    | false => rfl
    | true =>
      exfalso
      obtain ⟨p, hp⟩ := List.exists_mem_of_ne_nil ms hms
      obtain ⟨h1, h2, h3⟩ := hm p hp
      rcases I.ok.1 rfl p h1 with z | z | z
      · exact h2 z
      · exact h3 z
      · cases z
  subst hb
  refine ⟨⟨fun x hx => ?_, ?_, ?_, runsOk_map _ e r (by simpa using hl) I.runs.2⟩, ?_⟩
  · rcases List.mem_append.mp hx with z | z
    · obtain ⟨p, hp, rfl⟩ := List.mem_map.mp z
      exact (hk p (hm p (by simpa using hp)).1).1
    · rcases List.mem_cons.mp z with z | z
      · rw [z]; exact I.sub (e, false) List.mem_cons_self
      · exact I.sub x (List.mem_cons_of_mem _ z)
  · refine skOk_map _ _ _ ⟨fun _ p hp => ?_, skOk.mono (fun _ h => h) (fun p hp => ?_) I.ok.2⟩
    · rcases hall p hp with z | z | z
      · exact .inl z
      · exact .inr (.inl z)
      · exact .inr (.inr (by simpa using z))
    · exact .inr (.inr (by rw [List.mem_singleton.mp hp]; exact List.mem_cons_self))
  · obtain ⟨t1, t2⟩ := List.pairwise_cons.mp I.tms
    refine List.pairwise_append.mpr ⟨List.pairwise_map.mpr (List.pairwise_of_forall fun _ _ z => nomatch z), List.pairwise_cons.mpr ⟨fun y hy => t1 y hy, t2⟩, fun a ha y hy => ?_⟩
    obtain ⟨p, hp, rfl⟩ := List.mem_map.mp ha
    have hpt := (hk p (hm p (by simpa using hp)).1).2
    intro hy2
    rcases List.mem_cons.mp hy with z | z
    · rw [z]; exact hpt
    · exact Nat.lt_trans hpt (t1 y z hy2)
  · have hsum : costS tm (ms.reverse.map (·, false) ++ (e, true) :: r) = costS tm (ms.reverse.map (·, false)) + (1 + costS tm r) := by
      simp [costS, costE]
    rw [hsum, costS_cons]
    have hc : costE tm (e, false) = 3 ^ (tm e + 1) := rfl
    rw [hc]
    have hp3 : ∀ p ∈ ms, costE tm (p, false) ≤ 3 ^ tm e := fun p hp => Nat.pow_le_pow_right (by decide) (hk p (hm p hp).1).2
    have hp1 : 0 < 3 ^ tm e := Nat.pow_pos (by decide)
    have hgt : 1 < 3 ^ tm e := by
      obtain ⟨p, hp⟩ := List.exists_mem_of_ne_nil ms hms
      have := (hk p (hm p hp).1).2
      exact Nat.one_lt_pow (by omega) (by decide)
    rw [Nat.pow_succ]
    match ms, hl, hp3 with
    | [], _, _ => exact absurd rfl hms
    | [x], _, h => have := h x (by simp); simp [costS] at *; omega
    | [x, y], _, h => have := h x (by simp); have := h y (by simp); simp [costS] at *; omega
    | _ :: _ :: _ :: _, h, _ => simp at h
theorem SK.len (I : SK ks ix ps tm pl sk) (hn : ks.Nodup) : sk.length ≤ 3 * ks.length + 2 := by
  have h1 : ∀ {sk : List (Edge × Bool)}, runsOk sk → sk.length ≤ 3 * (sk.filter (·.2)).length + runF sk := by
    intro sk
    induction sk with
    | nil => intro _; exact Nat.zero_le _
    | cons x r ih =>
      rintro ⟨h, hr⟩
      have := ih hr
      obtain ⟨e, b⟩ := x
      cases b with
      | false => simp [runF] at *; omega
      | true =>
        have h2 : runF r ≤ 2 := by
          cases r with
          | nil => exact Nat.zero_le _
          | cons y r => exact hr.1
        simp [runF] at *
        omega
  have h2 := h1 I.runs
  have h3 : (sk.filter (·.2)).length ≤ ks.length := by
    have := nd_len ((sk.filter (·.2)).map (·.1)) ks ?_ ?_
    · simpa using this
    · refine List.pairwise_map.mpr (List.Pairwise.imp_of_mem (fun {a b} _ hb hlt e => ?_) (List.Pairwise.filter _ I.tms))
      have := hlt (List.mem_filter.mp hb).2
      rw [e] at this
      exact Nat.lt_irrefl _ this
    · intro x hx
      obtain ⟨y, hy, rfl⟩ := List.mem_map.mp hx
      exact I.sub y (List.mem_filter.mp hy).1
  have h4 : runF sk ≤ 2 := by
    cases sk with
    | nil => exact Nat.zero_le _
    | cons y r => exact I.runs.1
  omega
end
/-! ### plain -/
def inner (N : NetD) (g : Int) : Int := if g < N.st then N.nd + g else g
structure NetOk (N : NetD) : Prop where
  st : 1 ≤ N.st
  lt : 1 ≤ N.lt
  nd : N.st ≤ N.nd
  ed : ∀ e ∈ N.ed, InR N e
  en : ∀ e ∈ N.en, 0 ≤ e ∧ e < N.nd
structure PlainOf (N N' : NetD) : Prop where
  ed : ∀ x l y, (x, l, y) ∈ N'.ed ↔ ∃ n g, (n, l, g) ∈ N.ed ∧ y = inner N g ∧ (x = n ∨ (n < N.st ∧ x = N.nd + n))
  en : ∀ e, e ∈ N'.en ↔ e ∈ N.en ∨ ∃ n ∈ N.en, n < N.st ∧ e = N.nd + n
theorem plain_acc {N N' : NetD} (hN : NetOk N) (h : PlainOf N N') {c : Conf} (hc : 0 ≤ c.1 ∧ c.1 < N.st) : Acc N' c ↔ Acc N c := by
  constructor
  · have key : ∀ {x y : Int} {w : List Int}, Path (mem N'.ed) x w y → Path (mem N.ed) (if N.nd ≤ x then x - N.nd else x) w (if N.nd ≤ y then y - N.nd else y) := by
      intro x y w hp
      induction hp with
      | nil => exact .nil _
      | @cons x l m e w h1 _ ih =>
        obtain ⟨n, g, h2, rfl, h3⟩ := (h.ed x l m).mp h1
        obtain ⟨⟨r1, r2⟩, _, r3, r4⟩ := hN.ed _ h2
        simp only at r1 r2 r3 r4
        have e1 : (if N.nd ≤ x then x - N.nd else x) = n := by
          rcases h3 with z | ⟨_, z⟩
          · rw [z, if_neg (by omega)]
          · rw [z, if_pos (by omega)]; omega
        have e2 : (if N.nd ≤ inner N g then inner N g - N.nd else inner N g) = g := by
          unfold inner
          split
          · rw [if_pos (by omega)]; omega
          · rw [if_neg (by omega)]
        rw [e1]
        rw [e2] at ih
        exact .cons h2 ih
    rintro ⟨e, he, hp⟩
    have hp' := key hp
    have := hN.nd
    rw [if_neg (show ¬ N.nd ≤ c.1 by omega)] at hp'
    refine ⟨_, ?_, hp'⟩
    rcases (h.en e).mp he with z | ⟨n, hn, _, z⟩
    · rw [if_neg (by have := hN.en e z; omega)]; exact z
    · have := hN.en n hn
      rw [z, if_pos (by omega), show N.nd + n - N.nd = n by omega]; exact hn
  · have key : ∀ {n e : Int} {w : List Int}, Path (mem N.ed) n w e → ∀ x, (x = n ∨ (n < N.st ∧ x = N.nd + n)) → ∃ y, (y = e ∨ (e < N.st ∧ y = N.nd + e)) ∧ Path (mem N'.ed) x w y := by
      intro n e w hp
      induction hp with
      | nil => exact fun x hx => ⟨x, hx, .nil _⟩
      | @cons n l g e w h1 _ ih =>
        intro x hx
        obtain ⟨y, hy, hp⟩ := ih (inner N g) (by
          unfold inner
          split
          · rename_i z; exact .inr ⟨z, rfl⟩
          · exact .inl rfl)
        exact ⟨y, hy, .cons ((h.ed _ _ _).mpr ⟨n, g, h1, rfl, hx⟩) hp⟩
    rintro ⟨e, he, hp⟩
    obtain ⟨y, hy, hp'⟩ := key hp c.1 (.inl rfl)
    refine ⟨y, (h.en y).mpr ?_, hp'⟩
    rcases hy with z | ⟨z1, z2⟩
    · rw [z]; exact .inl he
    · exact .inr ⟨e, he, z1, z2⟩
/-! ### both -/
structure ProdOf (A B P : NetD) (pairs : List (Int × Int)) : Prop where
  start : ∀ s : Nat, (s : Int) < A.st → pairs[s]? = some ((s : Int), (s : Int))
  cl : ∀ (k : Nat) x y, pairs[k]? = some (x, y) → ∀ l x' y', (x, l, x') ∈ A.ed → (y, l, y') ∈ B.ed → ∃ j : Nat, pairs[j]? = some (x', y') ∧ ((k : Int), l, (j : Int)) ∈ P.ed
  so : ∀ a l b, (a, l, b) ∈ P.ed → ∃ (k j : Nat) (x y x' y' : Int), a = k ∧ b = j ∧ pairs[k]? = some (x, y) ∧ pairs[j]? = some (x', y') ∧ (x, l, x') ∈ A.ed ∧ (y, l, y') ∈ B.ed
  en : ∀ e, e ∈ P.en ↔ ∃ (k : Nat) (x y : Int), e = k ∧ pairs[k]? = some (x, y) ∧ x ∈ A.en ∧ y ∈ B.en
theorem prod_acc {A B P : NetD} {pairs : List (Int × Int)} (h : ProdOf A B P pairs) {c : Conf} (hc : 0 ≤ c.1 ∧ c.1 < A.st) : Acc P c ↔ Acc A c ∧ Acc B c := by
  have hs := h.start c.1.toNat (by omega)
  have ec : ((c.1.toNat : Nat) : Int) = c.1 := Int.toNat_of_nonneg hc.1
  rw [ec] at hs
  constructor
  · have key : ∀ {a b : Int} {w : List Int}, Path (mem P.ed) a w b → ∀ (k : Nat) x y, a = k → pairs[k]? = some (x, y) → ∃ (j : Nat) (x' y' : Int), b = j ∧ pairs[j]? = some (x', y') ∧ Path (mem A.ed) x w x' ∧ Path (mem B.ed) y w y' := by
      intro a b w hp
      induction hp with
      | nil => exact fun k x y e hk => ⟨k, x, y, e, hk, .nil _, .nil _⟩
      | @cons a l m e w h1 _ ih =>
        intro k x y e' hk
        obtain ⟨k2, j, x2, y2, x3, y3, a1, a2, a3, a4, a5, a6⟩ := h.so _ _ _ h1
        obtain rfl : k = k2 := by omega
        rw [hk] at a3
        cases a3
        obtain ⟨j2, x4, y4, b1, b2, b3, b4⟩ := ih j x3 y3 a2 a4
        exact ⟨j2, x4, y4, b1, b2, .cons a5 b3, .cons a6 b4⟩
    rintro ⟨e, he, hp⟩
    obtain ⟨j, x, y, a1, a2, a3, a4⟩ := key hp c.1.toNat _ _ ec.symm hs
    obtain ⟨k, x2, y2, b1, b2, b3, b4⟩ := (h.en e).mp he
    obtain rfl : j = k := by omega
    rw [a2] at b2
    cases b2
    exact ⟨⟨x, b3, a3⟩, ⟨y, b4, a4⟩⟩
  · have key : ∀ {w : List Int} {x x' y y' : Int}, Path (mem A.ed) x w x' → Path (mem B.ed) y w y' → ∀ k : Nat, pairs[k]? = some (x, y) → ∃ j : Nat, pairs[j]? = some (x', y') ∧ Path (mem P.ed) k w j := by
      intro w
      induction w with
      | nil =>
        intro x x' y y' h1 h2 k hk
        cases h1.nil_eq; cases h2.nil_eq
        exact ⟨k, hk, .nil _⟩
      | cons l w ih =>
        intro x x' y y' h1 h2 k hk
        obtain ⟨m1, a1, a2⟩ := h1.uncons
        obtain ⟨m2, b1, b2⟩ := h2.uncons
        obtain ⟨j, c1, c2⟩ := h.cl k x y hk l m1 m2 a1 b1
        obtain ⟨j2, d1, d2⟩ := ih a2 b2 j c1
        exact ⟨j2, d1, .cons c2 d2⟩
    rintro ⟨⟨e1, he1, hp1⟩, ⟨e2, he2, hp2⟩⟩
    obtain ⟨j, h1, h2⟩ := key hp1 hp2 c.1.toNat hs
    rw [ec] at h2
    exact ⟨j, (h.en _).mpr ⟨j, e1, e2, rfl, h1, he1, he2⟩, h2⟩
/-! ### what the law needs -/
def single (st lt : Int) (c : Conf) : NetD := ⟨st, lt, st + c.2.length, sEd c.1 st c.2, [sEn c.1 st c.2]⟩
theorem run_state {M : Mach} (hM : MOk M) {c d : Conf} (r : Run M c d) : (0 ≤ c.1 ∧ c.1 < M.st) → (0 ≤ d.1 ∧ d.1 < M.st) := by
  induction r with
  | refl => exact id
  | step hs _ ih => exact fun _ => ih (hM.stp _ hs).2.2.1
theorem single_acc {st lt : Int} {c d : Conf} (hc : c.1 < st) (hd : d.1 < st) : Acc (single st lt c) d ↔ d = c := by
  constructor
  · rintro ⟨e, he, hp⟩
    rw [List.mem_singleton.mp he] at hp
    obtain ⟨h1, h2⟩ := sOne hc hd hp
    exact Prod.ext h1 h2
  · rintro rfl
    exact ⟨_, List.mem_singleton.mpr rfl, sPath _ _ _⟩
theorem single_high {st lt : Int} {c : Conf} {n a m : Int} (h : (n, a, m) ∈ (single st lt c).ed) : st ≤ m := (sEd_rng h).2.1
/-- two configurations whose nets take one paper are one -/
theorem paper_one {M : Mach} (hM : MOk M) {b one two : Conf} (hb : 0 ≤ b.1 ∧ b.1 < M.st) (h1 : one.1 < M.st) (h2 : two.1 < M.st) {rows : List (Int × List Item)} {way : List Item}
    (p1 : PaperOk M (single M.st M.lt one).ed (single M.st M.lt one).en b rows way) (p2 : PaperOk M (single M.st M.lt two).ed (single M.st M.lt two).en b rows way) : one = two := by
  obtain ⟨x, n, r, e1, e2, q1, q2⟩ := paper_two hM (fun _ _ _ h => single_high (lt := M.lt) h) p1 p2
  have hx := run_state hM r hb
  have a1 := (single_acc (lt := M.lt) h1 hx.2).mp ⟨n, e1, q1⟩
  have a2 := (single_acc (lt := M.lt) h2 hx.2).mp ⟨n, e2, q2⟩
  rw [← a1, a2]
theorem paper_reach {M : Mach} (hM : MOk M) {N : NetD} {b c : Conf} (hb : 0 ≤ b.1 ∧ b.1 < M.st) (hc : c.1 < M.st) (hN : Acc N b) {rows : List (Int × List Item)} {way : List Item}
    (p : PaperOk M (single M.st M.lt c).ed (single M.st M.lt c).en b rows way) : Reach M N c := by
  obtain ⟨x, n, r, e1, e2, q1, q2⟩ := paper_two hM (fun _ _ _ h => single_high (lt := M.lt) h) p p
  have hx := run_state hM r hb
  obtain rfl := (single_acc (lt := M.lt) hc hx.2).mp ⟨n, e1, q1⟩
  exact ⟨b, hb, hN, r⟩
/-- a net that extends another one -/
def Ext (N B : NetD) : Prop := (∀ e ∈ N.ed, e ∈ B.ed) ∧ ∀ e ∈ N.en, e ∈ B.en
theorem ext_reach {M : Mach} {N B : NetD} (hM : MOk M) (hF : Fwd M B) (hE : Ext N B) {c : Conf} (h : Reach M N c) : Acc B c := by
  obtain ⟨x, _, ⟨e, he, hp⟩, r⟩ := h
  exact fwd_run hM hF r ⟨e, hE.2 e he, hp.mono fun _ _ _ z => hE.1 _ z⟩
end Pr
set_option maxRecDepth 100000
set_option maxHeartbeats 8000000
namespace Zp
open PySem L2 Zs
def top (i : Nat) : Stmt := PySem.Challenge.pw_pilereach_k92_whole_came_is_judged.main.body.getD i (.Pass ⟨0, 0, 0, 0⟩)
abbrev s_fits_net : Stmt := top 7
abbrev nm_fits_net : List Str := ["edge", "letters", "nodes"]
theorem sc_fits_net : FnScope nm_fits_net ["edge", "letters", "nodes"] (defScope s_fits_net) := ⟨rfl, rfl, rfl, by decide +kernel, rfl, by decide +kernel, by decide +kernel⟩
abbrev s_Net_init : Stmt := inClass (top 9) 0
abbrev nm_Net_init : List Str := ["self", "states", "letters", "nodes", "edges", "ends", "edge", "end", "node", "letter", "goal"]
theorem sc_Net_init : FnScope nm_Net_init ["self", "states", "letters", "nodes", "edges", "ends"] (defScope s_Net_init) := ⟨rfl, rfl, rfl, by decide +kernel, rfl, by decide +kernel, by decide +kernel⟩
abbrev s_Net_is_plain : Stmt := inClass (top 9) 2
abbrev nm_Net_is_plain : List Str := ["self", "edge"]
theorem sc_Net_is_plain : FnScope nm_Net_is_plain ["self"] (defScope s_Net_is_plain) := ⟨rfl, rfl, rfl, by decide +kernel, rfl, by decide +kernel, by decide +kernel⟩
abbrev s_Net_goals : Stmt := inClass (top 9) 3
abbrev nm_Net_goals : List Str := ["self", "node", "letter"]
theorem sc_Net_goals : FnScope nm_Net_goals ["self", "node", "letter"] (defScope s_Net_goals) := ⟨rfl, rfl, rfl, by decide +kernel, rfl, by decide +kernel, by decide +kernel⟩
abbrev s_Net_moved : Stmt := inClass (top 9) 4
abbrev nm_Net_moved : List Str := ["self", "nodes", "letter", "found", "node", "goal"]
theorem sc_Net_moved : FnScope nm_Net_moved ["self", "nodes", "letter"] (defScope s_Net_moved) := ⟨rfl, rfl, rfl, by decide +kernel, rfl, by decide +kernel, by decide +kernel⟩
abbrev s_Net_has_end : Stmt := inClass (top 9) 5
abbrev nm_Net_has_end : List Str := ["self", "nodes", "node"]
theorem sc_Net_has_end : FnScope nm_Net_has_end ["self", "nodes"] (defScope s_Net_has_end) := ⟨rfl, rfl, rfl, by decide +kernel, rfl, by decide +kernel, by decide +kernel⟩
abbrev s_Net_accepts : Stmt := inClass (top 9) 6
abbrev nm_Net_accepts : List Str := ["self", "configuration", "state", "pile", "nodes", "letter"]
theorem sc_Net_accepts : FnScope nm_Net_accepts ["self", "configuration"] (defScope s_Net_accepts) := ⟨rfl, rfl, rfl, by decide +kernel, rfl, by decide +kernel, by decide +kernel⟩
abbrev s_plain : Stmt := top 10
abbrev nm_plain : List Str := ["net", "edges", "node", "letter", "goal", "inner", "ends", "end"]
theorem sc_plain : FnScope nm_plain ["net"] (defScope s_plain) := ⟨rfl, rfl, rfl, by decide +kernel, rfl, by decide +kernel, by decide +kernel⟩
abbrev s_single : Stmt := top 11
abbrev nm_single : List Str := ["states", "letters", "configuration", "state", "pile", "edges", "node", "index", "letter"]
theorem sc_single : FnScope nm_single ["states", "letters", "configuration"] (defScope s_single) := ⟨rfl, rfl, rfl, by decide +kernel, rfl, by decide +kernel, by decide +kernel⟩
abbrev s_Edges_init : Stmt := inClass (top 13) 0
abbrev nm_Edges_init : List Str := ["self", "net", "edge", "node", "letter", "end"]
theorem sc_Edges_init : FnScope nm_Edges_init ["self", "net"] (defScope s_Edges_init) := ⟨rfl, rfl, rfl, by decide +kernel, rfl, by decide +kernel, by decide +kernel⟩
abbrev s_Edges_has_path : Stmt := inClass (top 13) 1
abbrev nm_Edges_has_path : List Str := ["self", "node", "letters", "end", "middles", "middle"]
theorem sc_Edges_has_path : FnScope nm_Edges_has_path ["self", "node", "letters", "end"] (defScope s_Edges_has_path) := ⟨rfl, rfl, rfl, by decide +kernel, rfl, by decide +kernel, by decide +kernel⟩
abbrev s_Edges_covers : Stmt := inClass (top 13) 2
abbrev nm_Edges_covers : List Str := ["self", "node", "other", "letter", "end"]
theorem sc_Edges_covers : FnScope nm_Edges_covers ["self", "node", "other"] (defScope s_Edges_covers) := ⟨rfl, rfl, rfl, by decide +kernel, rfl, by decide +kernel, by decide +kernel⟩
abbrev s_Edges_answers : Stmt := inClass (top 13) 3
abbrev nm_Edges_answers : List Str := ["self", "step", "end"]
theorem sc_Edges_answers : FnScope nm_Edges_answers ["self", "step"] (defScope s_Edges_answers) := ⟨rfl, rfl, rfl, by decide +kernel, rfl, by decide +kernel, by decide +kernel⟩
abbrev s_is_closed_forwards : Stmt := top 14
abbrev nm_is_closed_forwards : List Str := ["machine", "net", "edges", "step"]
theorem sc_is_closed_forwards : FnScope nm_is_closed_forwards ["machine", "net"] (defScope s_is_closed_forwards) := ⟨rfl, rfl, rfl, by decide +kernel, rfl, by decide +kernel, by decide +kernel⟩
abbrev s_extends_ : Stmt := top 15
abbrev nm_extends_ : List Str := ["larger", "net", "edges", "node", "edge"]
theorem sc_extends_ : FnScope nm_extends_ ["larger", "net"] (defScope s_extends_) := ⟨rfl, rfl, rfl, by decide +kernel, rfl, by decide +kernel, by decide +kernel⟩
abbrev s_shows_staying : Stmt := top 16
abbrev nm_shows_staying : List Str := ["machine", "net", "configuration", "nodes", "edges", "ends", "larger"]
theorem sc_shows_staying : FnScope nm_shows_staying ["machine", "net", "configuration", "nodes", "edges", "ends"] (defScope s_shows_staying) := ⟨rfl, rfl, rfl, by decide +kernel, rfl, by decide +kernel, by decide +kernel⟩
abbrev s_joined : Stmt := top 18
abbrev nm_joined : List Str := ["step", "edges", "node", "letter", "edge"]
theorem sc_joined : FnScope nm_joined ["step", "edges"] (defScope s_joined) := ⟨rfl, rfl, rfl, by decide +kernel, rfl, by decide +kernel, by decide +kernel⟩
abbrev s_RowsW_init : Stmt := inClass (top 19) 0
abbrev nm_RowsW_init : List Str := ["self", "machine", "net", "edge"]
theorem sc_RowsW_init : FnScope nm_RowsW_init ["self", "machine", "net"] (defScope s_RowsW_init) := ⟨rfl, rfl, rfl, by decide +kernel, rfl, by decide +kernel, by decide +kernel⟩
abbrev s_RowsW_edge_of : Stmt := inClass (top 19) 1
abbrev nm_RowsW_edge_of : List Str := ["self", "item", "word", "what"]
theorem sc_RowsW_edge_of : FnScope nm_RowsW_edge_of ["self", "item"] (defScope s_RowsW_edge_of) := ⟨rfl, rfl, rfl, by decide +kernel, rfl, by decide +kernel, by decide +kernel⟩
abbrev s_RowsW_cost_of : Stmt := inClass (top 19) 2
abbrev nm_RowsW_cost_of : List Str := ["self", "item", "word", "what"]
theorem sc_RowsW_cost_of : FnScope nm_RowsW_cost_of ["self", "item"] (defScope s_RowsW_cost_of) := ⟨rfl, rfl, rfl, by decide +kernel, rfl, by decide +kernel, by decide +kernel⟩
abbrev s_RowsW_read : Stmt := inClass (top 19) 3
abbrev nm_RowsW_read : List Str := ["self", "row", "index", "parts", "step", "edge", "item"]
theorem sc_RowsW_read : FnScope nm_RowsW_read ["self", "row"] (defScope s_RowsW_read) := ⟨rfl, rfl, rfl, by decide +kernel, rfl, by decide +kernel, by decide +kernel⟩
abbrev s_way_weight : Stmt := top 21
abbrev nm_way_weight : List Str := ["found", "net", "configuration", "way", "node", "pile", "total", "letter", "item", "edge"]
theorem sc_way_weight : FnScope nm_way_weight ["found", "net", "configuration", "way"] (defScope s_way_weight) := ⟨rfl, rfl, rfl, by decide +kernel, rfl, by decide +kernel, by decide +kernel⟩
abbrev s_paper_weight : Stmt := top 22
abbrev nm_paper_weight : List Str := ["machine", "net", "configuration", "rows", "way", "found", "row"]
theorem sc_paper_weight : FnScope nm_paper_weight ["machine", "net", "configuration", "rows", "way"] (defScope s_paper_weight) := ⟨rfl, rfl, rfl, by decide +kernel, rfl, by decide +kernel, by decide +kernel⟩
abbrev s_check_net : Stmt := top 24
abbrev nm_check_net : List Str := ["machine", "net"]
theorem sc_check_net : FnScope nm_check_net ["machine", "net"] (defScope s_check_net) := ⟨rfl, rfl, rfl, by decide +kernel, rfl, by decide +kernel, by decide +kernel⟩
abbrev s_is_accepted : Stmt := top 25
abbrev nm_is_accepted : List Str := ["net", "configuration", "state", "pile", "letter"]
theorem sc_is_accepted : FnScope nm_is_accepted ["net", "configuration"] (defScope s_is_accepted) := ⟨rfl, rfl, rfl, by decide +kernel, rfl, by decide +kernel, by decide +kernel⟩
abbrev s_takes_came : Stmt := top 26
abbrev nm_takes_came : List Str := ["machine", "net", "configuration", "verdict", "paper", "_", "nodes", "edges", "ends", "begin", "rows", "way", "target"]
theorem sc_takes_came : FnScope nm_takes_came ["machine", "net", "configuration", "verdict", "paper"] (defScope s_takes_came) := ⟨rfl, rfl, rfl, by decide +kernel, rfl, by decide +kernel, by decide +kernel⟩
abbrev s_RowsD_init : Stmt := inClass (top 28) 0
abbrev nm_RowsD_init : List Str := ["self", "found"]
theorem sc_RowsD_init : FnScope nm_RowsD_init ["self", "found"] (defScope s_RowsD_init) := ⟨rfl, rfl, rfl, by decide +kernel, rfl, by decide +kernel, by decide +kernel⟩
abbrev s_RowsD_missing : Stmt := inClass (top 28) 1
abbrev nm_RowsD_missing : List Str := ["self", "key", "parts", "part"]
theorem sc_RowsD_missing : FnScope nm_RowsD_missing ["self", "key"] (defScope s_RowsD_missing) := ⟨rfl, rfl, rfl, by decide +kernel, rfl, by decide +kernel, by decide +kernel⟩
abbrev s_RowsD_item : Stmt := inClass (top 28) 2
abbrev nm_RowsD_item : List Str := ["self", "key"]
theorem sc_RowsD_item : FnScope nm_RowsD_item ["self", "key"] (defScope s_RowsD_item) := ⟨rfl, rfl, rfl, by decide +kernel, rfl, by decide +kernel, by decide +kernel⟩
abbrev s_RowsD_add : Stmt := inClass (top 28) 3
abbrev nm_RowsD_add : List Str := ["self", "key", "with_items", "pending", "last", "step", "parts", "before", "written", "part"]
theorem sc_RowsD_add : FnScope nm_RowsD_add ["self", "key", "with_items"] (defScope s_RowsD_add) := ⟨rfl, rfl, rfl, by decide +kernel, rfl, by decide +kernel, by decide +kernel⟩
abbrev s_need_fit : Stmt := top 31
abbrev nm_need_fit : List Str := ["machine", "net"]
theorem sc_need_fit : FnScope nm_need_fit ["machine", "net"] (defScope s_need_fit) := ⟨rfl, rfl, rfl, by decide +kernel, rfl, by decide +kernel, by decide +kernel⟩
abbrev s_Numbers_put : Stmt := inClass (top 33) 1
abbrev nm_Numbers_put : List Str := ["self", "edge", "number", "index", "parts"]
theorem sc_Numbers_put : FnScope nm_Numbers_put ["self", "edge", "number", "index", "parts"] (defScope s_Numbers_put) := ⟨rfl, rfl, rfl, by decide +kernel, rfl, by decide +kernel, by decide +kernel⟩
abbrev s_Numbers_ways : Stmt := inClass (top 33) 2
abbrev nm_Numbers_ways : List Str := ["self", "node", "laid", "paths", "letter", "longer", "end", "number", "edges", "edge"]
theorem sc_Numbers_ways : FnScope nm_Numbers_ways ["self", "node", "laid"] (defScope s_Numbers_ways) := ⟨rfl, rfl, rfl, by decide +kernel, rfl, by decide +kernel, by decide +kernel⟩
abbrev s_Numbers_improve : Stmt := inClass (top 33) 3
abbrev nm_Numbers_improve : List Str := ["self", "index", "step", "changed", "end", "number", "edges"]
theorem sc_Numbers_improve : FnScope nm_Numbers_improve ["self", "index"] (defScope s_Numbers_improve) := ⟨rfl, rfl, rfl, by decide +kernel, rfl, by decide +kernel, by decide +kernel⟩
abbrev s_Numbers_init : Stmt := inClass (top 33) 0
abbrev nm_Numbers_init : List Str := ["self", "machine", "net", "edge", "changed", "index"]
theorem sc_Numbers_init : FnScope nm_Numbers_init ["self", "machine", "net"] (defScope s_Numbers_init) := ⟨rfl, rfl, rfl, by decide +kernel, rfl, by decide +kernel, by decide +kernel⟩
abbrev s_ahead : Stmt := top 35
abbrev nm_ahead : List Str := ["machine", "net"]
theorem sc_ahead : FnScope nm_ahead ["machine", "net"] (defScope s_ahead) := ⟨rfl, rfl, rfl, by decide +kernel, rfl, by decide +kernel, by decide +kernel⟩
abbrev s_least_path : Stmt := top 36
abbrev nm_least_path : List Str := ["numbers", "net", "configuration", "state", "pile", "paths", "letter", "longer", "node", "number", "edges", "edge", "total", "best"]
theorem sc_least_path : FnScope nm_least_path ["numbers", "net", "configuration"] (defScope s_least_path) := ⟨rfl, rfl, rfl, by decide +kernel, rfl, by decide +kernel, by decide +kernel⟩
abbrev s_told_numbers : Stmt := top 37
abbrev nm_told_numbers : List Str := ["numbers", "edge", "found"]
theorem sc_told_numbers : FnScope nm_told_numbers ["numbers"] (defScope s_told_numbers) := ⟨rfl, rfl, rfl, by decide +kernel, rfl, by decide +kernel, by decide +kernel⟩
abbrev s_least : Stmt := top 38
abbrev nm_least : List Str := ["machine", "net", "configuration", "numbers", "best", "derivations", "edge", "_", "index", "parts", "rows", "way"]
theorem sc_least : FnScope nm_least ["machine", "net", "configuration"] (defScope s_least) := ⟨rfl, rfl, rfl, by decide +kernel, rfl, by decide +kernel, by decide +kernel⟩
abbrev s_need_alike : Stmt := top 40
abbrev nm_need_alike : List Str := ["a", "b"]
theorem sc_need_alike : FnScope nm_need_alike ["a", "b"] (defScope s_need_alike) := ⟨rfl, rfl, rfl, by decide +kernel, rfl, by decide +kernel, by decide +kernel⟩
abbrev s_goal_pairs : Stmt := top 41
abbrev nm_goal_pairs : List Str := ["a", "b", "pair", "letter", "x", "y"]
theorem sc_goal_pairs : FnScope nm_goal_pairs ["a", "b", "pair", "letter"] (defScope s_goal_pairs) := ⟨rfl, rfl, rfl, by decide +kernel, rfl, by decide +kernel, by decide +kernel⟩
abbrev s_paired : Stmt := top 42
abbrev nm_paired : List Str := ["a", "b", "pairs", "state", "numbers", "pair", "edges", "taken", "letter"]
theorem sc_paired : FnScope nm_paired ["a", "b"] (defScope s_paired) := ⟨rfl, rfl, rfl, by decide +kernel, rfl, by decide +kernel, by decide +kernel⟩
abbrev s_both : Stmt := top 43
abbrev nm_both : List Str := ["a", "b", "first", "second", "pairs", "edges", "ends", "index", "pair"]
theorem sc_both : FnScope nm_both ["a", "b"] (defScope s_both) := ⟨rfl, rfl, rfl, by decide +kernel, rfl, by decide +kernel, by decide +kernel⟩
abbrev s_closer : Stmt := top 45
abbrev nm_closer : List Str := ["net", "found", "number", "changed", "node", "_", "goal"]
theorem sc_closer : FnScope nm_closer ["net", "found", "number"] (defScope s_closer) := ⟨rfl, rfl, rfl, by decide +kernel, rfl, by decide +kernel, by decide +kernel⟩
abbrev s_distances : Stmt := top 46
abbrev nm_distances : List Str := ["net", "found", "_", "end", "number"]
theorem sc_distances : FnScope nm_distances ["net"] (defScope s_distances) := ⟨rfl, rfl, rfl, by decide +kernel, rfl, by decide +kernel, by decide +kernel⟩
abbrev s_leads_on : Stmt := top 47
abbrev nm_leads_on : List Str := ["net", "groups", "letter", "distance", "left", "group", "node"]
theorem sc_leads_on : FnScope nm_leads_on ["net", "groups", "letter", "distance", "left"] (defScope s_leads_on) := ⟨rfl, rfl, rfl, by decide +kernel, rfl, by decide +kernel, by decide +kernel⟩
abbrev s_least_letter : Stmt := top 48
abbrev nm_least_letter : List Str := ["net", "groups", "distance", "left", "letter"]
theorem sc_least_letter : FnScope nm_least_letter ["net", "groups", "distance", "left"] (defScope s_least_letter) := ⟨rfl, rfl, rfl, by decide +kernel, rfl, by decide +kernel, by decide +kernel⟩
abbrev s_first : Stmt := top 49
abbrev nm_first : List Str := ["net", "distance", "heights", "state", "groups", "pile", "left", "letter", "group"]
theorem sc_first : FnScope nm_first ["net"] (defScope s_first) := ⟨rfl, rfl, rfl, by decide +kernel, rfl, by decide +kernel, by decide +kernel⟩
abbrev s_Forwards_put : Stmt := inClass (top 51) 1
abbrev nm_Forwards_put : List Str := ["self", "edge"]
theorem sc_Forwards_put : FnScope nm_Forwards_put ["self", "edge"] (defScope s_Forwards_put) := ⟨rfl, rfl, rfl, by decide +kernel, rfl, by decide +kernel, by decide +kernel⟩
abbrev s_Forwards_node_between : Stmt := inClass (top 51) 2
abbrev nm_Forwards_node_between : List Str := ["self", "goal", "letter"]
theorem sc_Forwards_node_between : FnScope nm_Forwards_node_between ["self", "goal", "letter"] (defScope s_Forwards_node_between) := ⟨rfl, rfl, rfl, by decide +kernel, rfl, by decide +kernel, by decide +kernel⟩
abbrev s_Forwards_go_on : Stmt := inClass (top 51) 3
abbrev nm_Forwards_go_on : List Str := ["self", "step", "end", "letter", "node"]
theorem sc_Forwards_go_on : FnScope nm_Forwards_go_on ["self", "step", "end"] (defScope s_Forwards_go_on) := ⟨rfl, rfl, rfl, by decide +kernel, rfl, by decide +kernel, by decide +kernel⟩
abbrev s_Forwards_init : Stmt := inClass (top 51) 0
abbrev nm_Forwards_init : List Str := ["self", "machine", "net", "edge", "node", "step", "end"]
theorem sc_Forwards_init : FnScope nm_Forwards_init ["self", "machine", "net"] (defScope s_Forwards_init) := ⟨rfl, rfl, rfl, by decide +kernel, rfl, by decide +kernel, by decide +kernel⟩
abbrev s_behind : Stmt := top 52
abbrev nm_behind : List Str := ["machine", "net", "found"]
theorem sc_behind : FnScope nm_behind ["machine", "net"] (defScope s_behind) := ⟨rfl, rfl, rfl, by decide +kernel, rfl, by decide +kernel, by decide +kernel⟩
abbrev s_came : Stmt := top 53
abbrev nm_came : List Str := ["machine", "net", "configuration", "target", "start", "bound", "_", "rows", "way"]
theorem sc_came : FnScope nm_came ["machine", "net", "configuration"] (defScope s_came) := ⟨rfl, rfl, rfl, by decide +kernel, rfl, by decide +kernel, by decide +kernel⟩
abbrev s_Step_init : Stmt := inClass (top 55) 0
abbrev nm_Step_init : List Str := ["self", "state", "letter", "goal", "laid", "weight"]
theorem sc_Step_init : FnScope nm_Step_init ["self", "state", "letter", "goal", "laid", "weight"] (defScope s_Step_init) := ⟨rfl, rfl, rfl, by decide +kernel, rfl, by decide +kernel, by decide +kernel⟩
abbrev s_fits_machine : Stmt := top 56
abbrev nm_fits_machine : List Str := ["step", "states", "letters", "letter"]
theorem sc_fits_machine : FnScope nm_fits_machine ["step", "states", "letters"] (defScope s_fits_machine) := ⟨rfl, rfl, rfl, by decide +kernel, rfl, by decide +kernel, by decide +kernel⟩
abbrev s_Machine_init : Stmt := inClass (top 58) 0
abbrev nm_Machine_init : List Str := ["self", "states", "letters", "steps", "step"]
theorem sc_Machine_init : FnScope nm_Machine_init ["self", "states", "letters", "steps"] (defScope s_Machine_init) := ⟨rfl, rfl, rfl, by decide +kernel, rfl, by decide +kernel, by decide +kernel⟩
abbrev s_l_numbers : Stmt := top 60
abbrev nm_l_numbers : List Str := ["_law_script", "_law_count", "_law_rest", "_law_by_digits", "_law_numbers_here", "_law_k", "_law_cell"]
theorem sc_l_numbers : FnScope nm_l_numbers ["_law_script", "_law_count"] (defScope s_l_numbers) := ⟨rfl, rfl, rfl, by decide +kernel, rfl, by decide +kernel, by decide +kernel⟩
abbrev s_l_rows : Stmt := top 61
abbrev nm_l_rows : List Str := ["_law_numbers_here", "_law_place", "_law_states", "_law_letters", "_law_count", "_law_rows_here", "_law_i", "_law_number", "_law_size", "_law_laid", "_law_j", "_law_state", "_law_letter", "_law_goal"]
theorem sc_l_rows : FnScope nm_l_rows ["_law_numbers_here", "_law_place", "_law_states", "_law_letters", "_law_count"] (defScope s_l_rows) := ⟨rfl, rfl, rfl, by decide +kernel, rfl, by decide +kernel, by decide +kernel⟩
abbrev s_l_machine : Stmt := top 62
abbrev nm_l_machine : List Str := ["_law_numbers_here", "_law_place", "_law_states", "_law_letters"]
theorem sc_l_machine : FnScope nm_l_machine ["_law_numbers_here", "_law_place"] (defScope s_l_machine) := ⟨rfl, rfl, rfl, by decide +kernel, rfl, by decide +kernel, by decide +kernel⟩
abbrev s_l_made : Stmt := top 63
abbrev nm_l_made : List Str := ["_law_parts", "_law_row"]
theorem sc_l_made : FnScope nm_l_made ["_law_parts"] (defScope s_l_made) := ⟨rfl, rfl, rfl, by decide +kernel, rfl, by decide +kernel, by decide +kernel⟩
abbrev s_l_configuration : Stmt := top 64
abbrev nm_l_configuration : List Str := ["_law_number", "_law_states", "_law_letters", "_law_most", "_law_pile", "_law_rest", "_law_k"]
theorem sc_l_configuration : FnScope nm_l_configuration ["_law_number", "_law_states", "_law_letters", "_law_most"] (defScope s_l_configuration) := ⟨rfl, rfl, rfl, by decide +kernel, rfl, by decide +kernel, by decide +kernel⟩
abbrev s_l_net : Stmt := top 65
abbrev nm_l_net : List Str := ["_law_numbers_here", "_law_place", "_law_states", "_law_letters", "_law_extra", "_law_nodes", "_law_edges", "_law_k", "_law_number", "_law_ends"]
theorem sc_l_net : FnScope nm_l_net ["_law_numbers_here", "_law_place", "_law_states", "_law_letters"] (defScope s_l_net) := ⟨rfl, rfl, rfl, by decide +kernel, rfl, by decide +kernel, by decide +kernel⟩
abbrev s_l_net_made : Stmt := top 66
abbrev nm_l_net_made : List Str := ["_law_parts", "_law_net_here"]
theorem sc_l_net_made : FnScope nm_l_net_made ["_law_parts", "_law_net_here"] (defScope s_l_net_made) := ⟨rfl, rfl, rfl, by decide +kernel, rfl, by decide +kernel, by decide +kernel⟩
abbrev s_l_accepts : Stmt := top 67
abbrev nm_l_accepts : List Str := ["_law_net_here", "_law_configuration_here", "_law_nodes", "_law_letter", "_law_edge", "_law_node"]
theorem sc_l_accepts : FnScope nm_l_accepts ["_law_net_here", "_law_configuration_here"] (defScope s_l_accepts) := ⟨rfl, rfl, rfl, by decide +kernel, rfl, by decide +kernel, by decide +kernel⟩
abbrev s_law : Stmt := top 68
abbrev nm_law : List Str := ["_law_script", "_law_numbers_here", "_law_parts", "_law_machine_here", "_law_net_here", "_law_one", "_law_two", "_law_found", "_law_due", "_law_larger"]
theorem sc_law : FnScope nm_law ["_law_script"] (defScope s_law) := ⟨rfl, rfl, rfl, by decide +kernel, rfl, by decide +kernel, by decide +kernel⟩
structure DF (K : PySem.W.Frag) (x qual : Str) (st : Stmt) (ps : List Str) where
  f : Addr
  fd : FuncData
  F : Fun K x qual st f fd
  b : Binds K fd ps []
structure DFD (K : PySem.W.Frag) (x qual : Str) (st : Stmt) (ps : List Str) where
  f : Addr
  fd : FuncData
  F : ∃ dvs : List V, FunD K x qual (defArgs st) (defBody st) (defScope st) dvs [] f fd
  b : Binds K fd ps []
structure CNet (K : PySem.W.Frag) (mg : Str → Option Value) where
  C : Addr
  cl : Cls K C
  mg : mg "Net" = some (.ref C)
  n_states : NoAttr K C "states"
  n_letters : NoAttr K C "letters"
  n_nodes : NoAttr K C "nodes"
  n_edges : NoAttr K C "edges"
  n_ends : NoAttr K C "ends"
  n__goals : NoAttr K C "_goals"
  init : DF K "__init__" "Net.__init__" s_Net_init ["self", "states", "letters", "nodes", "edges", "ends"]
  made : Mk K C init.f
  is_plain : DF K "is_plain" "Net.is_plain" s_Net_is_plain ["self"]
  prp : Addr
  pr : PropOf K C "is_plain" prp is_plain.f
  goals : DF K "goals" "Net.goals" s_Net_goals ["self", "node", "letter"]
  m_goals : Meth K C "goals" goals.f
  moved : DF K "moved" "Net.moved" s_Net_moved ["self", "nodes", "letter"]
  m_moved : Meth K C "moved" moved.f
  has_end : DF K "has_end" "Net.has_end" s_Net_has_end ["self", "nodes"]
  m_has_end : Meth K C "has_end" has_end.f
  accepts : DF K "accepts" "Net.accepts" s_Net_accepts ["self", "configuration"]
  m_accepts : Meth K C "accepts" accepts.f
structure CEdges (K : PySem.W.Frag) (mg : Str → Option Value) where
  C : Addr
  cl : Cls K C
  mg : mg "Edges" = some (.ref C)
  n_known : NoAttr K C "known"
  n_ends : NoAttr K C "ends"
  n_by_node : NoAttr K C "by_node"
  n_by_start : NoAttr K C "by_start"
  init : DF K "__init__" "Edges.__init__" s_Edges_init ["self", "net"]
  made : Mk K C init.f
  has_path : DF K "has_path" "Edges.has_path" s_Edges_has_path ["self", "node", "letters", "end"]
  m_has_path : Meth K C "has_path" has_path.f
  covers : DF K "covers" "Edges.covers" s_Edges_covers ["self", "node", "other"]
  m_covers : Meth K C "covers" covers.f
  answers : DF K "answers" "Edges.answers" s_Edges_answers ["self", "step"]
  m_answers : Meth K C "answers" answers.f
structure CRowsW (K : PySem.W.Frag) (mg : Str → Option Value) where
  C : Addr
  cl : Cls K C
  mg : mg "Rows_waypaper" = some (.ref C)
  n_steps : NoAttr K C "steps"
  n_known : NoAttr K C "known"
  n_edges : NoAttr K C "edges"
  n_weights : NoAttr K C "weights"
  init : DF K "__init__" "Rows.__init__" s_RowsW_init ["self", "machine", "net"]
  made : Mk K C init.f
  edge_of : DF K "edge_of" "Rows.edge_of" s_RowsW_edge_of ["self", "item"]
  m_edge_of : Meth K C "edge_of" edge_of.f
  cost_of : DF K "cost_of" "Rows.cost_of" s_RowsW_cost_of ["self", "item"]
  m_cost_of : Meth K C "cost_of" cost_of.f
  read : DF K "read" "Rows.read" s_RowsW_read ["self", "row"]
  m_read : Meth K C "read" read.f
structure CRowsD (K : PySem.W.Frag) (mg : Str → Option Value) where
  C : Addr
  cl : Cls K C
  mg : mg "Rows_derived" = some (.ref C)
  n_found : NoAttr K C "found"
  n_places : NoAttr K C "places"
  n_rows : NoAttr K C "rows"
  init : DF K "__init__" "Rows.__init__" s_RowsD_init ["self", "found"]
  made : Mk K C init.f
  missing : DF K "missing" "Rows.missing" s_RowsD_missing ["self", "key"]
  m_missing : Meth K C "missing" missing.f
  item : DF K "item" "Rows.item" s_RowsD_item ["self", "key"]
  m_item : Meth K C "item" item.f
  add : DF K "add" "Rows.add" s_RowsD_add ["self", "key", "with_items"]
  m_add : Meth K C "add" add.f
structure CNumbers (K : PySem.W.Frag) (mg : Str → Option Value) where
  C : Addr
  cl : Cls K C
  mg : mg "Numbers" = some (.ref C)
  n_machine : NoAttr K C "machine"
  n_found : NoAttr K C "found"
  n_leaving : NoAttr K C "leaving"
  init : DF K "__init__" "Numbers.__init__" s_Numbers_init ["self", "machine", "net"]
  made : Mk K C init.f
  put : DF K "put" "Numbers.put" s_Numbers_put ["self", "edge", "number", "index", "parts"]
  m_put : Meth K C "put" put.f
  ways : DF K "ways" "Numbers.ways" s_Numbers_ways ["self", "node", "laid"]
  m_ways : Meth K C "ways" ways.f
  improve : DF K "improve" "Numbers.improve" s_Numbers_improve ["self", "index"]
  m_improve : Meth K C "improve" improve.f
structure CForwards (K : PySem.W.Frag) (mg : Str → Option Value) where
  C : Addr
  cl : Cls K C
  mg : mg "Forwards" = some (.ref C)
  n_machine : NoAttr K C "machine"
  n_nodes : NoAttr K C "nodes"
  n_edges : NoAttr K C "edges"
  n_leaving : NoAttr K C "leaving"
  n_ends : NoAttr K C "ends"
  n_between : NoAttr K C "between"
  n_changed : NoAttr K C "changed"
  init : DF K "__init__" "Forwards.__init__" s_Forwards_init ["self", "machine", "net"]
  made : Mk K C init.f
  put : DF K "put" "Forwards.put" s_Forwards_put ["self", "edge"]
  m_put : Meth K C "put" put.f
  node_between : DF K "node_between" "Forwards.node_between" s_Forwards_node_between ["self", "goal", "letter"]
  m_node_between : Meth K C "node_between" node_between.f
  go_on : DF K "go_on" "Forwards.go_on" s_Forwards_go_on ["self", "step", "end"]
  m_go_on : Meth K C "go_on" go_on.f
structure CStep (K : PySem.W.Frag) (mg : Str → Option Value) where
  C : Addr
  cl : Cls K C
  mg : mg "Step" = some (.ref C)
  n_state : NoAttr K C "state"
  n_letter : NoAttr K C "letter"
  n_goal : NoAttr K C "goal"
  n_laid : NoAttr K C "laid"
  n_weight : NoAttr K C "weight"
  init : DFD K "__init__" "Step.__init__" s_Step_init ["self", "state", "letter", "goal", "laid", "weight"]
  made : Mk K C init.f
structure CMachine (K : PySem.W.Frag) (mg : Str → Option Value) where
  C : Addr
  cl : Cls K C
  mg : mg "Machine" = some (.ref C)
  n_states : NoAttr K C "states"
  n_letters : NoAttr K C "letters"
  n_steps : NoAttr K C "steps"
  init : DF K "__init__" "Machine.__init__" s_Machine_init ["self", "states", "letters", "steps"]
  made : Mk K C init.f
structure Fns (K : PySem.W.Frag) (mg : Str → Option Value) where
  fits_net : DF K "fits" "fits" s_fits_net ["edge", "letters", "nodes"]
  g_fits_net : mg "fits_net" = some (.ref fits_net.f)
  plain : DF K "plain" "plain" s_plain ["net"]
  g_plain : mg "plain" = some (.ref plain.f)
  single : DF K "single" "single" s_single ["states", "letters", "configuration"]
  g_single : mg "single" = some (.ref single.f)
  is_closed_forwards : DF K "is_closed_forwards" "is_closed_forwards" s_is_closed_forwards ["machine", "net"]
  g_is_closed_forwards : mg "is_closed_forwards" = some (.ref is_closed_forwards.f)
  extends_ : DF K "extends" "extends" s_extends_ ["larger", "net"]
  g_extends_ : mg "extends" = some (.ref extends_.f)
  shows_staying : DF K "shows_staying" "shows_staying" s_shows_staying ["machine", "net", "configuration", "nodes", "edges", "ends"]
  g_shows_staying : mg "shows_staying" = some (.ref shows_staying.f)
  joined : DF K "joined" "joined" s_joined ["step", "edges"]
  g_joined : mg "joined" = some (.ref joined.f)
  way_weight : DF K "way_weight" "way_weight" s_way_weight ["found", "net", "configuration", "way"]
  g_way_weight : mg "way_weight" = some (.ref way_weight.f)
  paper_weight : DF K "paper_weight" "paper_weight" s_paper_weight ["machine", "net", "configuration", "rows", "way"]
  g_paper_weight : mg "paper_weight" = some (.ref paper_weight.f)
  check_net : DF K "check_net" "check_net" s_check_net ["machine", "net"]
  g_check_net : mg "check_net" = some (.ref check_net.f)
  is_accepted : DF K "is_accepted" "is_accepted" s_is_accepted ["net", "configuration"]
  g_is_accepted : mg "is_accepted" = some (.ref is_accepted.f)
  takes_came : DF K "takes_came" "takes_came" s_takes_came ["machine", "net", "configuration", "verdict", "paper"]
  g_takes_came : mg "takes_came" = some (.ref takes_came.f)
  need_fit : DF K "need_fit" "need_fit" s_need_fit ["machine", "net"]
  g_need_fit : mg "need_fit" = some (.ref need_fit.f)
  ahead : DF K "ahead" "ahead" s_ahead ["machine", "net"]
  g_ahead : mg "ahead" = some (.ref ahead.f)
  least_path : DF K "least_path" "least_path" s_least_path ["numbers", "net", "configuration"]
  g_least_path : mg "least_path" = some (.ref least_path.f)
  told_numbers : DF K "told_numbers" "told_numbers" s_told_numbers ["numbers"]
  g_told_numbers : mg "told_numbers" = some (.ref told_numbers.f)
  least : DF K "least" "least" s_least ["machine", "net", "configuration"]
  g_least : mg "least" = some (.ref least.f)
  need_alike : DF K "need_alike" "need_alike" s_need_alike ["a", "b"]
  g_need_alike : mg "need_alike" = some (.ref need_alike.f)
  goal_pairs : DF K "goal_pairs" "goal_pairs" s_goal_pairs ["a", "b", "pair", "letter"]
  g_goal_pairs : mg "goal_pairs" = some (.ref goal_pairs.f)
  paired : DF K "paired" "paired" s_paired ["a", "b"]
  g_paired : mg "paired" = some (.ref paired.f)
  both : DF K "both" "both" s_both ["a", "b"]
  g_both : mg "both" = some (.ref both.f)
  closer : DF K "closer" "closer" s_closer ["net", "found", "number"]
  g_closer : mg "closer" = some (.ref closer.f)
  distances : DF K "distances" "distances" s_distances ["net"]
  g_distances : mg "distances" = some (.ref distances.f)
  leads_on : DF K "leads_on" "leads_on" s_leads_on ["net", "groups", "letter", "distance", "left"]
  g_leads_on : mg "leads_on" = some (.ref leads_on.f)
  least_letter : DF K "least_letter" "least_letter" s_least_letter ["net", "groups", "distance", "left"]
  g_least_letter : mg "least_letter" = some (.ref least_letter.f)
  first : DF K "first" "first" s_first ["net"]
  g_first : mg "first" = some (.ref first.f)
  behind : DF K "behind" "behind" s_behind ["machine", "net"]
  g_behind : mg "behind" = some (.ref behind.f)
  came : DF K "came" "came" s_came ["machine", "net", "configuration"]
  g_came : mg "came" = some (.ref came.f)
  fits_machine : DF K "fits" "fits" s_fits_machine ["step", "states", "letters"]
  g_fits_machine : mg "fits_machine" = some (.ref fits_machine.f)
  l_numbers : DF K "_law_numbers" "_law_numbers" s_l_numbers ["_law_script", "_law_count"]
  g_l_numbers : mg "_law_numbers" = some (.ref l_numbers.f)
  l_rows : DF K "_law_rows" "_law_rows" s_l_rows ["_law_numbers_here", "_law_place", "_law_states", "_law_letters", "_law_count"]
  g_l_rows : mg "_law_rows" = some (.ref l_rows.f)
  l_machine : DF K "_law_machine" "_law_machine" s_l_machine ["_law_numbers_here", "_law_place"]
  g_l_machine : mg "_law_machine" = some (.ref l_machine.f)
  l_made : DF K "_law_made" "_law_made" s_l_made ["_law_parts"]
  g_l_made : mg "_law_made" = some (.ref l_made.f)
  l_configuration : DF K "_law_configuration" "_law_configuration" s_l_configuration ["_law_number", "_law_states", "_law_letters", "_law_most"]
  g_l_configuration : mg "_law_configuration" = some (.ref l_configuration.f)
  l_net : DF K "_law_net" "_law_net" s_l_net ["_law_numbers_here", "_law_place", "_law_states", "_law_letters"]
  g_l_net : mg "_law_net" = some (.ref l_net.f)
  l_net_made : DF K "_law_net_made" "_law_net_made" s_l_net_made ["_law_parts", "_law_net_here"]
  g_l_net_made : mg "_law_net_made" = some (.ref l_net_made.f)
  l_accepts : DF K "_law_accepts" "_law_accepts" s_l_accepts ["_law_net_here", "_law_configuration_here"]
  g_l_accepts : mg "_law_accepts" = some (.ref l_accepts.f)
  law : DF K "law" "law" s_law ["_law_script"]
  g_law : mg "law" = some (.ref law.f)
structure Bts (mg : Str → Option Value) : Prop where
  len : mg "len" = none
  all : mg "all" = none
  any : mg "any" = none
  sum : mg "sum" = none
  min : mg "min" = none
  sorted : mg "sorted" = none
  set : mg "set" = none
  tuple : mg "tuple" = none
  list : mg "list" = none
  int : mg "int" = none
  range : mg "range" = none
  enumerate : mg "enumerate" = none
  zip : mg "zip" = none
structure Txt (K : PySem.W.Frag) (mg : Str → Option Value) where
  cNet : CNet K mg
  cEdges : CEdges K mg
  cRowsW : CRowsW K mg
  cRowsD : CRowsD K mg
  cNumbers : CNumbers K mg
  cForwards : CForwards K mg
  cStep : CStep K mg
  cMachine : CMachine K mg
  f : Fns K mg
  b : Bts mg

end Zp
set_option maxRecDepth 100000
set_option maxHeartbeats 0
/-! What the top has left, told by names; the run of the top. -/
namespace Zh
open PySem PySem.Spec PyProof.Rows L2 Zp
/-! ### the property's getter -/
def pAd (K : PySem.W.Frag) : Addr := He.ma K (He.ga K "Net") "is_plain"
def gAd (K : PySem.W.Frag) : Addr := match PySem.W.recIn K (pAd K) "property" with
  | some (.ref g :: _) => g
  | _ => 0
abbrev GW : Type := Option (Str × Str × Arguments × FuncBody × Scope × Addr × List (Str × Addr) × Value × Addr)
def gW (K : PySem.W.Frag) : GW := match K.lookup (gAd K) with
  | some ⟨_, _, .func d, _⟩ => some (d.name, d.qualname, d.params, d.body, d.scope, d.globals, d.closure, d.defaults, d.builtins)
  | _ => none
def gV : GW := some ("is_plain", "Net.is_plain", defArgs s_Net_is_plain, .stmts (defBody s_Net_is_plain), defScope s_Net_is_plain, mainGlobals, [], .none, builtinsNs)
def gOk (K : PySem.W.Frag) : Bool := match K.lookup (gAd K) with
  | some ⟨_, _, .func d, _⟩ => PySem.W.codeIn K d.code "Net.is_plain"
  | _ => false
def hasG : Option (List Value) → Bool
  | some (.ref _ :: _) => true
  | _ => false
def pOk (K : PySem.W.Frag) : Bool :=
  (He.eqO (PySem.W.findIn K (.ref (He.ga K "Net")) "is_plain") (some (some (.ref (pAd K)))) && He.eqO (PySem.W.specialIn K (.ref (pAd K)) "__get__") (some (some (.builtin "property.__get__")))) &&
  ((decide (PySem.W.takesIn K (.ref (pAd K)) = some true) && hasG (PySem.W.recIn K (pAd K) "property")) && (PySem.W.keepIn K (.ref (gAd K)) && gOk K))
theorem prop_of {K : PySem.W.Frag} (h : pOk K = true) : PropOf K (He.ga K "Net") "is_plain" (pAd K) (gAd K) := by
  unfold pOk at h
  simp only [Bool.and_eq_true] at h
  obtain ⟨⟨h1, h2⟩, ⟨h3, h4⟩, _⟩ := h
  refine ⟨He.eqO_ok h1, He.eqO_ok h2, of_decide_eq_true h3, ?_⟩
  unfold gAd
  cases e : PySem.W.recIn K (pAd K) "property" with
  | none => rw [e] at h4; cases h4
  | some l =>
    rw [e] at h4
    cases l with
    | nil => cases h4
    | cons v r =>
      cases v with
      | ref g => exact ⟨r, rfl⟩
      | _ => cases h4
theorem getter_of {K : PySem.W.Frag} (h : pOk K = true) (e : gW K = gV) : ∃ fd, FunD K "is_plain" "Net.is_plain" (defArgs s_Net_is_plain) (defBody s_Net_is_plain) (defScope s_Net_is_plain) [] [] (gAd K) fd := by
  unfold pOk at h
  simp only [Bool.and_eq_true] at h
  obtain ⟨_, _, h5, h6⟩ := h
  unfold gOk at h6
  unfold gW at e
  generalize gAd K = a at h5 h6 e
  cases q : K.lookup a with
  | none => rw [q] at h6; cases h6
  | some o =>
    obtain ⟨oc, od, dt, sl⟩ := o
    rw [q] at h6 e
    cases dt with
    | func d =>
      obtain ⟨m1, m2, m3, m4, m5, m6, m7, m8, m9, m10, m11, m12, m13, m14, m15⟩ := d
      replace e : some (m1, m2, m3, m4, m5, m6, m7, m8, m15) = gV := e
      unfold gV at e
      simp only [Option.some.injEq, Prod.mk.injEq] at e
      obtain ⟨rfl, rfl, rfl, rfl, rfl, rfl, rfl, rfl, rfl⟩ := e
      exact ⟨_, ⟨oc, od, .none, m9, m10, m11, m12, m13, m14, sl, rfl, q, h6, .inl ⟨rfl, rfl⟩, .inl rfl⟩, h5⟩
    | _ => cases h6
/-! ### the defs -/
theorem fun_of {K : PySem.W.Frag} {x q : Str} {st : Stmt} {a : Addr} {fd : FuncData} (F : FunD K x q (defArgs st) (defBody st) (defScope st) [] [] a fd) : Fun K x q st a fd := by
  obtain ⟨⟨oc, od, dV, kV, doc, pm, an, cdv, ct, osl, h1, h2, h3, h4, _⟩, kp⟩ := F
  rcases h4 with ⟨_, rfl⟩ | ⟨h, _⟩
  · exact ⟨⟨oc, od, kV, doc, pm, an, cdv, ct, osl, h1, h2, h3⟩, kp⟩
  · exact absurd rfl h
theorem df_of {K : PySem.W.Frag} {x q : Str} {st : Stmt} {ps : List Str} {a : Addr} (h : ∃ fd, FunD K x q (defArgs st) (defBody st) (defScope st) [] [] a fd)
    (hb : ∀ (kV doc pm : Value) (an : Option Addr) (cdv ct : Value) (us : List Value), us.length = ps.length → bindArgs (PySem.W.fnOf x q (defArgs st) (defBody st) (defScope st) .none kV doc pm an cdv ct) ⟨us, []⟩ = pure (ps.zip us)) : ∃ D : DF K x q st ps, D.f = a := by
  obtain ⟨fd, F⟩ := h
  exact ⟨⟨a, fd, fun_of F, (fun_of F).binds hb⟩, rfl⟩
theorem dfd_of {K : PySem.W.Frag} {v1 v2 : V} {a : Addr} (h : ∃ fd, FunD K "__init__" "Step.__init__" (defArgs s_Step_init) (defBody s_Step_init) (defScope s_Step_init) [v1, v2] [] a fd) : ∃ D : DFD K "__init__" "Step.__init__" s_Step_init ["self", "state", "letter", "goal", "laid", "weight"], D.f = a := by
  obtain ⟨fd, F⟩ := h
  obtain ⟨ds, h1, h2⟩ := FunD.binds1 (ps := ["self", "state", "letter", "goal", "laid", "weight"]) F 6 2 (by simp) rfl fun T kV doc pm an cdv ct us its hu hi => match us, hu, its, hi with
    | [_, _, _, _, _, _], _, [_, _], _ => ⟨_, rfl, rfl⟩
  cases h1
  exact ⟨⟨a, fd, ⟨_, F⟩, h2⟩, rfl⟩
def d_fits_net : He.DefD := ⟨("fits_net", none), "fits", "fits", defArgs s_fits_net, defBody s_fits_net, defScope s_fits_net, [], []⟩
def d_Net_init : He.DefD := ⟨("Net", some "__init__"), "__init__", "Net.__init__", defArgs s_Net_init, defBody s_Net_init, defScope s_Net_init, [], []⟩
def d_Net_goals : He.DefD := ⟨("Net", some "goals"), "goals", "Net.goals", defArgs s_Net_goals, defBody s_Net_goals, defScope s_Net_goals, [], []⟩
def d_Net_moved : He.DefD := ⟨("Net", some "moved"), "moved", "Net.moved", defArgs s_Net_moved, defBody s_Net_moved, defScope s_Net_moved, [], []⟩
def d_Net_has_end : He.DefD := ⟨("Net", some "has_end"), "has_end", "Net.has_end", defArgs s_Net_has_end, defBody s_Net_has_end, defScope s_Net_has_end, [], []⟩
def d_Net_accepts : He.DefD := ⟨("Net", some "accepts"), "accepts", "Net.accepts", defArgs s_Net_accepts, defBody s_Net_accepts, defScope s_Net_accepts, [], []⟩
def d_plain : He.DefD := ⟨("plain", none), "plain", "plain", defArgs s_plain, defBody s_plain, defScope s_plain, [], []⟩
def d_single : He.DefD := ⟨("single", none), "single", "single", defArgs s_single, defBody s_single, defScope s_single, [], []⟩
def d_Edges_init : He.DefD := ⟨("Edges", some "__init__"), "__init__", "Edges.__init__", defArgs s_Edges_init, defBody s_Edges_init, defScope s_Edges_init, [], []⟩
def d_Edges_has_path : He.DefD := ⟨("Edges", some "has_path"), "has_path", "Edges.has_path", defArgs s_Edges_has_path, defBody s_Edges_has_path, defScope s_Edges_has_path, [], []⟩
def d_Edges_covers : He.DefD := ⟨("Edges", some "covers"), "covers", "Edges.covers", defArgs s_Edges_covers, defBody s_Edges_covers, defScope s_Edges_covers, [], []⟩
def d_Edges_answers : He.DefD := ⟨("Edges", some "answers"), "answers", "Edges.answers", defArgs s_Edges_answers, defBody s_Edges_answers, defScope s_Edges_answers, [], []⟩
def d_is_closed_forwards : He.DefD := ⟨("is_closed_forwards", none), "is_closed_forwards", "is_closed_forwards", defArgs s_is_closed_forwards, defBody s_is_closed_forwards, defScope s_is_closed_forwards, [], []⟩
def d_extends_ : He.DefD := ⟨("extends", none), "extends", "extends", defArgs s_extends_, defBody s_extends_, defScope s_extends_, [], []⟩
def d_shows_staying : He.DefD := ⟨("shows_staying", none), "shows_staying", "shows_staying", defArgs s_shows_staying, defBody s_shows_staying, defScope s_shows_staying, [], []⟩
def d_joined : He.DefD := ⟨("joined", none), "joined", "joined", defArgs s_joined, defBody s_joined, defScope s_joined, [], []⟩
def d_RowsW_init : He.DefD := ⟨("Rows_waypaper", some "__init__"), "__init__", "Rows.__init__", defArgs s_RowsW_init, defBody s_RowsW_init, defScope s_RowsW_init, [], []⟩
def d_RowsW_edge_of : He.DefD := ⟨("Rows_waypaper", some "edge_of"), "edge_of", "Rows.edge_of", defArgs s_RowsW_edge_of, defBody s_RowsW_edge_of, defScope s_RowsW_edge_of, [], []⟩
def d_RowsW_cost_of : He.DefD := ⟨("Rows_waypaper", some "cost_of"), "cost_of", "Rows.cost_of", defArgs s_RowsW_cost_of, defBody s_RowsW_cost_of, defScope s_RowsW_cost_of, [], []⟩
def d_RowsW_read : He.DefD := ⟨("Rows_waypaper", some "read"), "read", "Rows.read", defArgs s_RowsW_read, defBody s_RowsW_read, defScope s_RowsW_read, [], []⟩
def d_way_weight : He.DefD := ⟨("way_weight", none), "way_weight", "way_weight", defArgs s_way_weight, defBody s_way_weight, defScope s_way_weight, [], []⟩
def d_paper_weight : He.DefD := ⟨("paper_weight", none), "paper_weight", "paper_weight", defArgs s_paper_weight, defBody s_paper_weight, defScope s_paper_weight, [], []⟩
def d_check_net : He.DefD := ⟨("check_net", none), "check_net", "check_net", defArgs s_check_net, defBody s_check_net, defScope s_check_net, [], []⟩
def d_is_accepted : He.DefD := ⟨("is_accepted", none), "is_accepted", "is_accepted", defArgs s_is_accepted, defBody s_is_accepted, defScope s_is_accepted, [], []⟩
def d_takes_came : He.DefD := ⟨("takes_came", none), "takes_came", "takes_came", defArgs s_takes_came, defBody s_takes_came, defScope s_takes_came, [], []⟩
def d_RowsD_init : He.DefD := ⟨("Rows_derived", some "__init__"), "__init__", "Rows.__init__", defArgs s_RowsD_init, defBody s_RowsD_init, defScope s_RowsD_init, [], []⟩
def d_RowsD_missing : He.DefD := ⟨("Rows_derived", some "missing"), "missing", "Rows.missing", defArgs s_RowsD_missing, defBody s_RowsD_missing, defScope s_RowsD_missing, [], []⟩
def d_RowsD_item : He.DefD := ⟨("Rows_derived", some "item"), "item", "Rows.item", defArgs s_RowsD_item, defBody s_RowsD_item, defScope s_RowsD_item, [], []⟩
def d_RowsD_add : He.DefD := ⟨("Rows_derived", some "add"), "add", "Rows.add", defArgs s_RowsD_add, defBody s_RowsD_add, defScope s_RowsD_add, [], []⟩
def d_need_fit : He.DefD := ⟨("need_fit", none), "need_fit", "need_fit", defArgs s_need_fit, defBody s_need_fit, defScope s_need_fit, [], []⟩
def d_Numbers_put : He.DefD := ⟨("Numbers", some "put"), "put", "Numbers.put", defArgs s_Numbers_put, defBody s_Numbers_put, defScope s_Numbers_put, [], []⟩
def d_Numbers_ways : He.DefD := ⟨("Numbers", some "ways"), "ways", "Numbers.ways", defArgs s_Numbers_ways, defBody s_Numbers_ways, defScope s_Numbers_ways, [], []⟩
def d_Numbers_improve : He.DefD := ⟨("Numbers", some "improve"), "improve", "Numbers.improve", defArgs s_Numbers_improve, defBody s_Numbers_improve, defScope s_Numbers_improve, [], []⟩
def d_Numbers_init : He.DefD := ⟨("Numbers", some "__init__"), "__init__", "Numbers.__init__", defArgs s_Numbers_init, defBody s_Numbers_init, defScope s_Numbers_init, [], []⟩
def d_ahead : He.DefD := ⟨("ahead", none), "ahead", "ahead", defArgs s_ahead, defBody s_ahead, defScope s_ahead, [], []⟩
def d_least_path : He.DefD := ⟨("least_path", none), "least_path", "least_path", defArgs s_least_path, defBody s_least_path, defScope s_least_path, [], []⟩
def d_told_numbers : He.DefD := ⟨("told_numbers", none), "told_numbers", "told_numbers", defArgs s_told_numbers, defBody s_told_numbers, defScope s_told_numbers, [], []⟩
def d_least : He.DefD := ⟨("least", none), "least", "least", defArgs s_least, defBody s_least, defScope s_least, [], []⟩
def d_need_alike : He.DefD := ⟨("need_alike", none), "need_alike", "need_alike", defArgs s_need_alike, defBody s_need_alike, defScope s_need_alike, [], []⟩
def d_goal_pairs : He.DefD := ⟨("goal_pairs", none), "goal_pairs", "goal_pairs", defArgs s_goal_pairs, defBody s_goal_pairs, defScope s_goal_pairs, [], []⟩
def d_paired : He.DefD := ⟨("paired", none), "paired", "paired", defArgs s_paired, defBody s_paired, defScope s_paired, [], []⟩
def d_both : He.DefD := ⟨("both", none), "both", "both", defArgs s_both, defBody s_both, defScope s_both, [], []⟩
def d_closer : He.DefD := ⟨("closer", none), "closer", "closer", defArgs s_closer, defBody s_closer, defScope s_closer, [], []⟩
def d_distances : He.DefD := ⟨("distances", none), "distances", "distances", defArgs s_distances, defBody s_distances, defScope s_distances, [], []⟩
def d_leads_on : He.DefD := ⟨("leads_on", none), "leads_on", "leads_on", defArgs s_leads_on, defBody s_leads_on, defScope s_leads_on, [], []⟩
def d_least_letter : He.DefD := ⟨("least_letter", none), "least_letter", "least_letter", defArgs s_least_letter, defBody s_least_letter, defScope s_least_letter, [], []⟩
def d_first : He.DefD := ⟨("first", none), "first", "first", defArgs s_first, defBody s_first, defScope s_first, [], []⟩
def d_Forwards_put : He.DefD := ⟨("Forwards", some "put"), "put", "Forwards.put", defArgs s_Forwards_put, defBody s_Forwards_put, defScope s_Forwards_put, [], []⟩
def d_Forwards_node_between : He.DefD := ⟨("Forwards", some "node_between"), "node_between", "Forwards.node_between", defArgs s_Forwards_node_between, defBody s_Forwards_node_between, defScope s_Forwards_node_between, [], []⟩
def d_Forwards_go_on : He.DefD := ⟨("Forwards", some "go_on"), "go_on", "Forwards.go_on", defArgs s_Forwards_go_on, defBody s_Forwards_go_on, defScope s_Forwards_go_on, [], []⟩
def d_Forwards_init : He.DefD := ⟨("Forwards", some "__init__"), "__init__", "Forwards.__init__", defArgs s_Forwards_init, defBody s_Forwards_init, defScope s_Forwards_init, [], []⟩
def d_behind : He.DefD := ⟨("behind", none), "behind", "behind", defArgs s_behind, defBody s_behind, defScope s_behind, [], []⟩
def d_came : He.DefD := ⟨("came", none), "came", "came", defArgs s_came, defBody s_came, defScope s_came, [], []⟩
def d_Step_init : He.DefD := ⟨("Step", some "__init__"), "__init__", "Step.__init__", defArgs s_Step_init, defBody s_Step_init, defScope s_Step_init, [.adr (He.dflAt ("Step", some "__init__") 0), .int 1], []⟩
def d_fits_machine : He.DefD := ⟨("fits_machine", none), "fits", "fits", defArgs s_fits_machine, defBody s_fits_machine, defScope s_fits_machine, [], []⟩
def d_Machine_init : He.DefD := ⟨("Machine", some "__init__"), "__init__", "Machine.__init__", defArgs s_Machine_init, defBody s_Machine_init, defScope s_Machine_init, [], []⟩
def d_l_numbers : He.DefD := ⟨("_law_numbers", none), "_law_numbers", "_law_numbers", defArgs s_l_numbers, defBody s_l_numbers, defScope s_l_numbers, [], []⟩
def d_l_rows : He.DefD := ⟨("_law_rows", none), "_law_rows", "_law_rows", defArgs s_l_rows, defBody s_l_rows, defScope s_l_rows, [], []⟩
def d_l_machine : He.DefD := ⟨("_law_machine", none), "_law_machine", "_law_machine", defArgs s_l_machine, defBody s_l_machine, defScope s_l_machine, [], []⟩
def d_l_made : He.DefD := ⟨("_law_made", none), "_law_made", "_law_made", defArgs s_l_made, defBody s_l_made, defScope s_l_made, [], []⟩
def d_l_configuration : He.DefD := ⟨("_law_configuration", none), "_law_configuration", "_law_configuration", defArgs s_l_configuration, defBody s_l_configuration, defScope s_l_configuration, [], []⟩
def d_l_net : He.DefD := ⟨("_law_net", none), "_law_net", "_law_net", defArgs s_l_net, defBody s_l_net, defScope s_l_net, [], []⟩
def d_l_net_made : He.DefD := ⟨("_law_net_made", none), "_law_net_made", "_law_net_made", defArgs s_l_net_made, defBody s_l_net_made, defScope s_l_net_made, [], []⟩
def d_l_accepts : He.DefD := ⟨("_law_accepts", none), "_law_accepts", "_law_accepts", defArgs s_l_accepts, defBody s_l_accepts, defScope s_l_accepts, [], []⟩
def d_law : He.DefD := ⟨("law", none), "law", "law", defArgs s_law, defBody s_law, defScope s_law, [], []⟩
def fa0 : List He.Fa := [.cls "Net", .glo "Net", .noat "Net" "states", .noat "Net" "letters", .noat "Net" "nodes", .noat "Net" "edges", .noat "Net" "ends", .noat "Net" "_goals", .mkr "Net", .meth "Net" "goals", .meth "Net" "moved", .meth "Net" "has_end", .meth "Net" "accepts", .cls "Edges", .glo "Edges", .noat "Edges" "known", .noat "Edges" "ends", .noat "Edges" "by_node", .noat "Edges" "by_start", .mkr "Edges", .meth "Edges" "has_path", .meth "Edges" "covers", .meth "Edges" "answers", .cls "Rows_waypaper", .glo "Rows_waypaper", .noat "Rows_waypaper" "steps", .noat "Rows_waypaper" "known", .noat "Rows_waypaper" "edges", .noat "Rows_waypaper" "weights", .mkr "Rows_waypaper"]
def fa1 : List He.Fa := [.meth "Rows_waypaper" "edge_of", .meth "Rows_waypaper" "cost_of", .meth "Rows_waypaper" "read", .cls "Rows_derived", .glo "Rows_derived", .noat "Rows_derived" "found", .noat "Rows_derived" "places", .noat "Rows_derived" "rows", .mkr "Rows_derived", .meth "Rows_derived" "missing", .meth "Rows_derived" "item", .meth "Rows_derived" "add", .cls "Numbers", .glo "Numbers", .noat "Numbers" "machine", .noat "Numbers" "found", .noat "Numbers" "leaving", .mkr "Numbers", .meth "Numbers" "put", .meth "Numbers" "ways", .meth "Numbers" "improve", .cls "Forwards", .glo "Forwards", .noat "Forwards" "machine", .noat "Forwards" "nodes", .noat "Forwards" "edges", .noat "Forwards" "leaving", .noat "Forwards" "ends", .noat "Forwards" "between", .noat "Forwards" "changed"]
def fa2 : List He.Fa := [.mkr "Forwards", .meth "Forwards" "put", .meth "Forwards" "node_between", .meth "Forwards" "go_on", .cls "Step", .glo "Step", .noat "Step" "state", .noat "Step" "letter", .noat "Step" "goal", .noat "Step" "laid", .noat "Step" "weight", .mkr "Step", .cls "Machine", .glo "Machine", .noat "Machine" "states", .noat "Machine" "letters", .noat "Machine" "steps", .mkr "Machine", .glo "fits_net", .glo "plain", .glo "single", .glo "is_closed_forwards", .glo "extends", .glo "shows_staying", .glo "joined", .glo "way_weight", .glo "paper_weight", .glo "check_net", .glo "is_accepted", .glo "takes_came"]
def fa3 : List He.Fa := [.glo "need_fit", .glo "ahead", .glo "least_path", .glo "told_numbers", .glo "least", .glo "need_alike", .glo "goal_pairs", .glo "paired", .glo "both", .glo "closer", .glo "distances", .glo "leads_on", .glo "least_letter", .glo "first", .glo "behind", .glo "came", .glo "fits_machine", .glo "_law_numbers", .glo "_law_rows", .glo "_law_machine", .glo "_law_made", .glo "_law_configuration", .glo "_law_net", .glo "_law_net_made", .glo "_law_accepts", .glo "law", .free "len", .free "all", .free "any", .free "sum"]
def fa4 : List He.Fa := [.free "min", .free "sorted", .free "set", .free "tuple", .free "list", .free "int", .free "range", .free "enumerate", .free "zip"]
def fa : List He.Fa := fa0 ++ (fa1 ++ (fa2 ++ (fa3 ++ (fa4))))
def fn0 : List He.DefD := [d_fits_net, d_Net_init, d_Net_goals, d_Net_moved, d_Net_has_end, d_Net_accepts, d_plain, d_single, d_Edges_init, d_Edges_has_path, d_Edges_covers, d_Edges_answers, d_is_closed_forwards, d_extends_, d_shows_staying, d_joined, d_RowsW_init, d_RowsW_edge_of, d_RowsW_cost_of, d_RowsW_read, d_way_weight, d_paper_weight, d_check_net, d_is_accepted, d_takes_came, d_RowsD_init, d_RowsD_missing, d_RowsD_item, d_RowsD_add, d_need_fit]
def fn1 : List He.DefD := [d_Numbers_put, d_Numbers_ways, d_Numbers_improve, d_Numbers_init, d_ahead, d_least_path, d_told_numbers, d_least, d_need_alike, d_goal_pairs, d_paired, d_both, d_closer, d_distances, d_leads_on, d_least_letter, d_first, d_Forwards_put, d_Forwards_node_between, d_Forwards_go_on, d_Forwards_init, d_behind, d_came, d_Step_init, d_fits_machine, d_Machine_init, d_l_numbers, d_l_rows, d_l_machine, d_l_made]
def fn2 : List He.DefD := [d_l_configuration, d_l_net, d_l_net_made, d_l_accepts, d_law]
def fn : List He.DefD := fn0 ++ (fn1 ++ (fn2))
abbrev AlX : Type := He.AlD × Bool × GW
def obX (K : PySem.W.Frag) : AlX := (He.obsD fa fn K, pOk K, gW K)
def valX : AlX := (He.valD fn, true, gV)
theorem txt_of {K : PySem.W.Frag} {h : Heap} {mg : Str → Option Value} (X : K.In h) (G : h.Ns mainGlobals mg) (c : obX K = valX) : ∃ T : Txt K mg, T.f.law.f = He.ga K "law" := by
  have c0 : He.SaysD fa fn K := congrArg Prod.fst c
  have c1 : pOk K = true := congrArg (fun z : AlX => z.2.1) c
  have cp := prop_of c1
  have cg := getter_of c1 (congrArg (fun z : AlX => z.2.2) c)
  obtain ⟨D_fits_net, h_fits_net⟩ := df_of (x := "fits") (q := "fits") (st := s_fits_net) (ps := ["edge", "letters", "nodes"]) (c0.def_ 0 (d := d_fits_net) rfl) (fun _ _ _ _ _ _ us hl => match us, hl with | [_, _, _], _ => rfl)
  obtain ⟨D_Net_init, h_Net_init⟩ := df_of (x := "__init__") (q := "Net.__init__") (st := s_Net_init) (ps := ["self", "states", "letters", "nodes", "edges", "ends"]) (c0.def_ 1 (d := d_Net_init) rfl) (fun _ _ _ _ _ _ us hl => match us, hl with | [_, _, _, _, _, _], _ => rfl)
  obtain ⟨D_Net_is_plain, h_Net_is_plain⟩ := df_of (st := s_Net_is_plain) (ps := ["self"]) cg (fun _ _ _ _ _ _ us hl => match us, hl with | [_], _ => rfl)
  obtain ⟨D_Net_goals, h_Net_goals⟩ := df_of (x := "goals") (q := "Net.goals") (st := s_Net_goals) (ps := ["self", "node", "letter"]) (c0.def_ 2 (d := d_Net_goals) rfl) (fun _ _ _ _ _ _ us hl => match us, hl with | [_, _, _], _ => rfl)
  obtain ⟨D_Net_moved, h_Net_moved⟩ := df_of (x := "moved") (q := "Net.moved") (st := s_Net_moved) (ps := ["self", "nodes", "letter"]) (c0.def_ 3 (d := d_Net_moved) rfl) (fun _ _ _ _ _ _ us hl => match us, hl with | [_, _, _], _ => rfl)
  obtain ⟨D_Net_has_end, h_Net_has_end⟩ := df_of (x := "has_end") (q := "Net.has_end") (st := s_Net_has_end) (ps := ["self", "nodes"]) (c0.def_ 4 (d := d_Net_has_end) rfl) (fun _ _ _ _ _ _ us hl => match us, hl with | [_, _], _ => rfl)
  obtain ⟨D_Net_accepts, h_Net_accepts⟩ := df_of (x := "accepts") (q := "Net.accepts") (st := s_Net_accepts) (ps := ["self", "configuration"]) (c0.def_ 5 (d := d_Net_accepts) rfl) (fun _ _ _ _ _ _ us hl => match us, hl with | [_, _], _ => rfl)
  obtain ⟨D_plain, h_plain⟩ := df_of (x := "plain") (q := "plain") (st := s_plain) (ps := ["net"]) (c0.def_ 6 (d := d_plain) rfl) (fun _ _ _ _ _ _ us hl => match us, hl with | [_], _ => rfl)
  obtain ⟨D_single, h_single⟩ := df_of (x := "single") (q := "single") (st := s_single) (ps := ["states", "letters", "configuration"]) (c0.def_ 7 (d := d_single) rfl) (fun _ _ _ _ _ _ us hl => match us, hl with | [_, _, _], _ => rfl)
  obtain ⟨D_Edges_init, h_Edges_init⟩ := df_of (x := "__init__") (q := "Edges.__init__") (st := s_Edges_init) (ps := ["self", "net"]) (c0.def_ 8 (d := d_Edges_init) rfl) (fun _ _ _ _ _ _ us hl => match us, hl with | [_, _], _ => rfl)
  obtain ⟨D_Edges_has_path, h_Edges_has_path⟩ := df_of (x := "has_path") (q := "Edges.has_path") (st := s_Edges_has_path) (ps := ["self", "node", "letters", "end"]) (c0.def_ 9 (d := d_Edges_has_path) rfl) (fun _ _ _ _ _ _ us hl => match us, hl with | [_, _, _, _], _ => rfl)
  obtain ⟨D_Edges_covers, h_Edges_covers⟩ := df_of (x := "covers") (q := "Edges.covers") (st := s_Edges_covers) (ps := ["self", "node", "other"]) (c0.def_ 10 (d := d_Edges_covers) rfl) (fun _ _ _ _ _ _ us hl => match us, hl with | [_, _, _], _ => rfl)
  obtain ⟨D_Edges_answers, h_Edges_answers⟩ := df_of (x := "answers") (q := "Edges.answers") (st := s_Edges_answers) (ps := ["self", "step"]) (c0.def_ 11 (d := d_Edges_answers) rfl) (fun _ _ _ _ _ _ us hl => match us, hl with | [_, _], _ => rfl)
  obtain ⟨D_is_closed_forwards, h_is_closed_forwards⟩ := df_of (x := "is_closed_forwards") (q := "is_closed_forwards") (st := s_is_closed_forwards) (ps := ["machine", "net"]) (c0.def_ 12 (d := d_is_closed_forwards) rfl) (fun _ _ _ _ _ _ us hl => match us, hl with | [_, _], _ => rfl)
  obtain ⟨D_extends_, h_extends_⟩ := df_of (x := "extends") (q := "extends") (st := s_extends_) (ps := ["larger", "net"]) (c0.def_ 13 (d := d_extends_) rfl) (fun _ _ _ _ _ _ us hl => match us, hl with | [_, _], _ => rfl)
  obtain ⟨D_shows_staying, h_shows_staying⟩ := df_of (x := "shows_staying") (q := "shows_staying") (st := s_shows_staying) (ps := ["machine", "net", "configuration", "nodes", "edges", "ends"]) (c0.def_ 14 (d := d_shows_staying) rfl) (fun _ _ _ _ _ _ us hl => match us, hl with | [_, _, _, _, _, _], _ => rfl)
  obtain ⟨D_joined, h_joined⟩ := df_of (x := "joined") (q := "joined") (st := s_joined) (ps := ["step", "edges"]) (c0.def_ 15 (d := d_joined) rfl) (fun _ _ _ _ _ _ us hl => match us, hl with | [_, _], _ => rfl)
  obtain ⟨D_RowsW_init, h_RowsW_init⟩ := df_of (x := "__init__") (q := "Rows.__init__") (st := s_RowsW_init) (ps := ["self", "machine", "net"]) (c0.def_ 16 (d := d_RowsW_init) rfl) (fun _ _ _ _ _ _ us hl => match us, hl with | [_, _, _], _ => rfl)
  obtain ⟨D_RowsW_edge_of, h_RowsW_edge_of⟩ := df_of (x := "edge_of") (q := "Rows.edge_of") (st := s_RowsW_edge_of) (ps := ["self", "item"]) (c0.def_ 17 (d := d_RowsW_edge_of) rfl) (fun _ _ _ _ _ _ us hl => match us, hl with | [_, _], _ => rfl)
  obtain ⟨D_RowsW_cost_of, h_RowsW_cost_of⟩ := df_of (x := "cost_of") (q := "Rows.cost_of") (st := s_RowsW_cost_of) (ps := ["self", "item"]) (c0.def_ 18 (d := d_RowsW_cost_of) rfl) (fun _ _ _ _ _ _ us hl => match us, hl with | [_, _], _ => rfl)
  obtain ⟨D_RowsW_read, h_RowsW_read⟩ := df_of (x := "read") (q := "Rows.read") (st := s_RowsW_read) (ps := ["self", "row"]) (c0.def_ 19 (d := d_RowsW_read) rfl) (fun _ _ _ _ _ _ us hl => match us, hl with | [_, _], _ => rfl)
  obtain ⟨D_way_weight, h_way_weight⟩ := df_of (x := "way_weight") (q := "way_weight") (st := s_way_weight) (ps := ["found", "net", "configuration", "way"]) (c0.def_ 20 (d := d_way_weight) rfl) (fun _ _ _ _ _ _ us hl => match us, hl with | [_, _, _, _], _ => rfl)
  obtain ⟨D_paper_weight, h_paper_weight⟩ := df_of (x := "paper_weight") (q := "paper_weight") (st := s_paper_weight) (ps := ["machine", "net", "configuration", "rows", "way"]) (c0.def_ 21 (d := d_paper_weight) rfl) (fun _ _ _ _ _ _ us hl => match us, hl with | [_, _, _, _, _], _ => rfl)
  obtain ⟨D_check_net, h_check_net⟩ := df_of (x := "check_net") (q := "check_net") (st := s_check_net) (ps := ["machine", "net"]) (c0.def_ 22 (d := d_check_net) rfl) (fun _ _ _ _ _ _ us hl => match us, hl with | [_, _], _ => rfl)
  obtain ⟨D_is_accepted, h_is_accepted⟩ := df_of (x := "is_accepted") (q := "is_accepted") (st := s_is_accepted) (ps := ["net", "configuration"]) (c0.def_ 23 (d := d_is_accepted) rfl) (fun _ _ _ _ _ _ us hl => match us, hl with | [_, _], _ => rfl)
  obtain ⟨D_takes_came, h_takes_came⟩ := df_of (x := "takes_came") (q := "takes_came") (st := s_takes_came) (ps := ["machine", "net", "configuration", "verdict", "paper"]) (c0.def_ 24 (d := d_takes_came) rfl) (fun _ _ _ _ _ _ us hl => match us, hl with | [_, _, _, _, _], _ => rfl)
  obtain ⟨D_RowsD_init, h_RowsD_init⟩ := df_of (x := "__init__") (q := "Rows.__init__") (st := s_RowsD_init) (ps := ["self", "found"]) (c0.def_ 25 (d := d_RowsD_init) rfl) (fun _ _ _ _ _ _ us hl => match us, hl with | [_, _], _ => rfl)
  obtain ⟨D_RowsD_missing, h_RowsD_missing⟩ := df_of (x := "missing") (q := "Rows.missing") (st := s_RowsD_missing) (ps := ["self", "key"]) (c0.def_ 26 (d := d_RowsD_missing) rfl) (fun _ _ _ _ _ _ us hl => match us, hl with | [_, _], _ => rfl)
  obtain ⟨D_RowsD_item, h_RowsD_item⟩ := df_of (x := "item") (q := "Rows.item") (st := s_RowsD_item) (ps := ["self", "key"]) (c0.def_ 27 (d := d_RowsD_item) rfl) (fun _ _ _ _ _ _ us hl => match us, hl with | [_, _], _ => rfl)
  obtain ⟨D_RowsD_add, h_RowsD_add⟩ := df_of (x := "add") (q := "Rows.add") (st := s_RowsD_add) (ps := ["self", "key", "with_items"]) (c0.def_ 28 (d := d_RowsD_add) rfl) (fun _ _ _ _ _ _ us hl => match us, hl with | [_, _, _], _ => rfl)
  obtain ⟨D_need_fit, h_need_fit⟩ := df_of (x := "need_fit") (q := "need_fit") (st := s_need_fit) (ps := ["machine", "net"]) (c0.def_ 29 (d := d_need_fit) rfl) (fun _ _ _ _ _ _ us hl => match us, hl with | [_, _], _ => rfl)
  obtain ⟨D_Numbers_put, h_Numbers_put⟩ := df_of (x := "put") (q := "Numbers.put") (st := s_Numbers_put) (ps := ["self", "edge", "number", "index", "parts"]) (c0.def_ 30 (d := d_Numbers_put) rfl) (fun _ _ _ _ _ _ us hl => match us, hl with | [_, _, _, _, _], _ => rfl)
  obtain ⟨D_Numbers_ways, h_Numbers_ways⟩ := df_of (x := "ways") (q := "Numbers.ways") (st := s_Numbers_ways) (ps := ["self", "node", "laid"]) (c0.def_ 31 (d := d_Numbers_ways) rfl) (fun _ _ _ _ _ _ us hl => match us, hl with | [_, _, _], _ => rfl)
  obtain ⟨D_Numbers_improve, h_Numbers_improve⟩ := df_of (x := "improve") (q := "Numbers.improve") (st := s_Numbers_improve) (ps := ["self", "index"]) (c0.def_ 32 (d := d_Numbers_improve) rfl) (fun _ _ _ _ _ _ us hl => match us, hl with | [_, _], _ => rfl)
  obtain ⟨D_Numbers_init, h_Numbers_init⟩ := df_of (x := "__init__") (q := "Numbers.__init__") (st := s_Numbers_init) (ps := ["self", "machine", "net"]) (c0.def_ 33 (d := d_Numbers_init) rfl) (fun _ _ _ _ _ _ us hl => match us, hl with | [_, _, _], _ => rfl)
  obtain ⟨D_ahead, h_ahead⟩ := df_of (x := "ahead") (q := "ahead") (st := s_ahead) (ps := ["machine", "net"]) (c0.def_ 34 (d := d_ahead) rfl) (fun _ _ _ _ _ _ us hl => match us, hl with | [_, _], _ => rfl)
  obtain ⟨D_least_path, h_least_path⟩ := df_of (x := "least_path") (q := "least_path") (st := s_least_path) (ps := ["numbers", "net", "configuration"]) (c0.def_ 35 (d := d_least_path) rfl) (fun _ _ _ _ _ _ us hl => match us, hl with | [_, _, _], _ => rfl)
  obtain ⟨D_told_numbers, h_told_numbers⟩ := df_of (x := "told_numbers") (q := "told_numbers") (st := s_told_numbers) (ps := ["numbers"]) (c0.def_ 36 (d := d_told_numbers) rfl) (fun _ _ _ _ _ _ us hl => match us, hl with | [_], _ => rfl)
  obtain ⟨D_least, h_least⟩ := df_of (x := "least") (q := "least") (st := s_least) (ps := ["machine", "net", "configuration"]) (c0.def_ 37 (d := d_least) rfl) (fun _ _ _ _ _ _ us hl => match us, hl with | [_, _, _], _ => rfl)
  obtain ⟨D_need_alike, h_need_alike⟩ := df_of (x := "need_alike") (q := "need_alike") (st := s_need_alike) (ps := ["a", "b"]) (c0.def_ 38 (d := d_need_alike) rfl) (fun _ _ _ _ _ _ us hl => match us, hl with | [_, _], _ => rfl)
  obtain ⟨D_goal_pairs, h_goal_pairs⟩ := df_of (x := "goal_pairs") (q := "goal_pairs") (st := s_goal_pairs) (ps := ["a", "b", "pair", "letter"]) (c0.def_ 39 (d := d_goal_pairs) rfl) (fun _ _ _ _ _ _ us hl => match us, hl with | [_, _, _, _], _ => rfl)
  obtain ⟨D_paired, h_paired⟩ := df_of (x := "paired") (q := "paired") (st := s_paired) (ps := ["a", "b"]) (c0.def_ 40 (d := d_paired) rfl) (fun _ _ _ _ _ _ us hl => match us, hl with | [_, _], _ => rfl)
  obtain ⟨D_both, h_both⟩ := df_of (x := "both") (q := "both") (st := s_both) (ps := ["a", "b"]) (c0.def_ 41 (d := d_both) rfl) (fun _ _ _ _ _ _ us hl => match us, hl with | [_, _], _ => rfl)
  obtain ⟨D_closer, h_closer⟩ := df_of (x := "closer") (q := "closer") (st := s_closer) (ps := ["net", "found", "number"]) (c0.def_ 42 (d := d_closer) rfl) (fun _ _ _ _ _ _ us hl => match us, hl with | [_, _, _], _ => rfl)
  obtain ⟨D_distances, h_distances⟩ := df_of (x := "distances") (q := "distances") (st := s_distances) (ps := ["net"]) (c0.def_ 43 (d := d_distances) rfl) (fun _ _ _ _ _ _ us hl => match us, hl with | [_], _ => rfl)
  obtain ⟨D_leads_on, h_leads_on⟩ := df_of (x := "leads_on") (q := "leads_on") (st := s_leads_on) (ps := ["net", "groups", "letter", "distance", "left"]) (c0.def_ 44 (d := d_leads_on) rfl) (fun _ _ _ _ _ _ us hl => match us, hl with | [_, _, _, _, _], _ => rfl)
  obtain ⟨D_least_letter, h_least_letter⟩ := df_of (x := "least_letter") (q := "least_letter") (st := s_least_letter) (ps := ["net", "groups", "distance", "left"]) (c0.def_ 45 (d := d_least_letter) rfl) (fun _ _ _ _ _ _ us hl => match us, hl with | [_, _, _, _], _ => rfl)
  obtain ⟨D_first, h_first⟩ := df_of (x := "first") (q := "first") (st := s_first) (ps := ["net"]) (c0.def_ 46 (d := d_first) rfl) (fun _ _ _ _ _ _ us hl => match us, hl with | [_], _ => rfl)
  obtain ⟨D_Forwards_put, h_Forwards_put⟩ := df_of (x := "put") (q := "Forwards.put") (st := s_Forwards_put) (ps := ["self", "edge"]) (c0.def_ 47 (d := d_Forwards_put) rfl) (fun _ _ _ _ _ _ us hl => match us, hl with | [_, _], _ => rfl)
  obtain ⟨D_Forwards_node_between, h_Forwards_node_between⟩ := df_of (x := "node_between") (q := "Forwards.node_between") (st := s_Forwards_node_between) (ps := ["self", "goal", "letter"]) (c0.def_ 48 (d := d_Forwards_node_between) rfl) (fun _ _ _ _ _ _ us hl => match us, hl with | [_, _, _], _ => rfl)
  obtain ⟨D_Forwards_go_on, h_Forwards_go_on⟩ := df_of (x := "go_on") (q := "Forwards.go_on") (st := s_Forwards_go_on) (ps := ["self", "step", "end"]) (c0.def_ 49 (d := d_Forwards_go_on) rfl) (fun _ _ _ _ _ _ us hl => match us, hl with | [_, _, _], _ => rfl)
  obtain ⟨D_Forwards_init, h_Forwards_init⟩ := df_of (x := "__init__") (q := "Forwards.__init__") (st := s_Forwards_init) (ps := ["self", "machine", "net"]) (c0.def_ 50 (d := d_Forwards_init) rfl) (fun _ _ _ _ _ _ us hl => match us, hl with | [_, _, _], _ => rfl)
  obtain ⟨D_behind, h_behind⟩ := df_of (x := "behind") (q := "behind") (st := s_behind) (ps := ["machine", "net"]) (c0.def_ 51 (d := d_behind) rfl) (fun _ _ _ _ _ _ us hl => match us, hl with | [_, _], _ => rfl)
  obtain ⟨D_came, h_came⟩ := df_of (x := "came") (q := "came") (st := s_came) (ps := ["machine", "net", "configuration"]) (c0.def_ 52 (d := d_came) rfl) (fun _ _ _ _ _ _ us hl => match us, hl with | [_, _, _], _ => rfl)
  obtain ⟨D_Step_init, h_Step_init⟩ := dfd_of (c0.def_ 53 (d := d_Step_init) rfl)
  obtain ⟨D_fits_machine, h_fits_machine⟩ := df_of (x := "fits") (q := "fits") (st := s_fits_machine) (ps := ["step", "states", "letters"]) (c0.def_ 54 (d := d_fits_machine) rfl) (fun _ _ _ _ _ _ us hl => match us, hl with | [_, _, _], _ => rfl)
  obtain ⟨D_Machine_init, h_Machine_init⟩ := df_of (x := "__init__") (q := "Machine.__init__") (st := s_Machine_init) (ps := ["self", "states", "letters", "steps"]) (c0.def_ 55 (d := d_Machine_init) rfl) (fun _ _ _ _ _ _ us hl => match us, hl with | [_, _, _, _], _ => rfl)
  obtain ⟨D_l_numbers, h_l_numbers⟩ := df_of (x := "_law_numbers") (q := "_law_numbers") (st := s_l_numbers) (ps := ["_law_script", "_law_count"]) (c0.def_ 56 (d := d_l_numbers) rfl) (fun _ _ _ _ _ _ us hl => match us, hl with | [_, _], _ => rfl)
  obtain ⟨D_l_rows, h_l_rows⟩ := df_of (x := "_law_rows") (q := "_law_rows") (st := s_l_rows) (ps := ["_law_numbers_here", "_law_place", "_law_states", "_law_letters", "_law_count"]) (c0.def_ 57 (d := d_l_rows) rfl) (fun _ _ _ _ _ _ us hl => match us, hl with | [_, _, _, _, _], _ => rfl)
  obtain ⟨D_l_machine, h_l_machine⟩ := df_of (x := "_law_machine") (q := "_law_machine") (st := s_l_machine) (ps := ["_law_numbers_here", "_law_place"]) (c0.def_ 58 (d := d_l_machine) rfl) (fun _ _ _ _ _ _ us hl => match us, hl with | [_, _], _ => rfl)
  obtain ⟨D_l_made, h_l_made⟩ := df_of (x := "_law_made") (q := "_law_made") (st := s_l_made) (ps := ["_law_parts"]) (c0.def_ 59 (d := d_l_made) rfl) (fun _ _ _ _ _ _ us hl => match us, hl with | [_], _ => rfl)
  obtain ⟨D_l_configuration, h_l_configuration⟩ := df_of (x := "_law_configuration") (q := "_law_configuration") (st := s_l_configuration) (ps := ["_law_number", "_law_states", "_law_letters", "_law_most"]) (c0.def_ 60 (d := d_l_configuration) rfl) (fun _ _ _ _ _ _ us hl => match us, hl with | [_, _, _, _], _ => rfl)
  obtain ⟨D_l_net, h_l_net⟩ := df_of (x := "_law_net") (q := "_law_net") (st := s_l_net) (ps := ["_law_numbers_here", "_law_place", "_law_states", "_law_letters"]) (c0.def_ 61 (d := d_l_net) rfl) (fun _ _ _ _ _ _ us hl => match us, hl with | [_, _, _, _], _ => rfl)
  obtain ⟨D_l_net_made, h_l_net_made⟩ := df_of (x := "_law_net_made") (q := "_law_net_made") (st := s_l_net_made) (ps := ["_law_parts", "_law_net_here"]) (c0.def_ 62 (d := d_l_net_made) rfl) (fun _ _ _ _ _ _ us hl => match us, hl with | [_, _], _ => rfl)
  obtain ⟨D_l_accepts, h_l_accepts⟩ := df_of (x := "_law_accepts") (q := "_law_accepts") (st := s_l_accepts) (ps := ["_law_net_here", "_law_configuration_here"]) (c0.def_ 63 (d := d_l_accepts) rfl) (fun _ _ _ _ _ _ us hl => match us, hl with | [_, _], _ => rfl)
  obtain ⟨D_law, h_law⟩ := df_of (x := "law") (q := "law") (st := s_law) (ps := ["_law_script"]) (c0.def_ 64 (d := d_law) rfl) (fun _ _ _ _ _ _ us hl => match us, hl with | [_], _ => rfl)
  let C_Net : CNet K mg := { C := He.ga K "Net", cl := He.cls_ok (c0.fact 0 rfl), mg := He.glo_ok X G (c0.fact 1 rfl), n_states := He.noat_ok (c0.fact 2 rfl), n_letters := He.noat_ok (c0.fact 3 rfl), n_nodes := He.noat_ok (c0.fact 4 rfl), n_edges := He.noat_ok (c0.fact 5 rfl), n_ends := He.noat_ok (c0.fact 6 rfl), n__goals := He.noat_ok (c0.fact 7 rfl), init := D_Net_init, made := by rw [h_Net_init]; exact He.mkr_ok (c0.fact 8 rfl), is_plain := D_Net_is_plain, prp := pAd K, pr := by rw [h_Net_is_plain]; exact cp, goals := D_Net_goals, m_goals := by rw [h_Net_goals]; exact He.meth_ok (c0.fact 9 rfl), moved := D_Net_moved, m_moved := by rw [h_Net_moved]; exact He.meth_ok (c0.fact 10 rfl), has_end := D_Net_has_end, m_has_end := by rw [h_Net_has_end]; exact He.meth_ok (c0.fact 11 rfl), accepts := D_Net_accepts, m_accepts := by rw [h_Net_accepts]; exact He.meth_ok (c0.fact 12 rfl) }
  let C_Edges : CEdges K mg := { C := He.ga K "Edges", cl := He.cls_ok (c0.fact 13 rfl), mg := He.glo_ok X G (c0.fact 14 rfl), n_known := He.noat_ok (c0.fact 15 rfl), n_ends := He.noat_ok (c0.fact 16 rfl), n_by_node := He.noat_ok (c0.fact 17 rfl), n_by_start := He.noat_ok (c0.fact 18 rfl), init := D_Edges_init, made := by rw [h_Edges_init]; exact He.mkr_ok (c0.fact 19 rfl), has_path := D_Edges_has_path, m_has_path := by rw [h_Edges_has_path]; exact He.meth_ok (c0.fact 20 rfl), covers := D_Edges_covers, m_covers := by rw [h_Edges_covers]; exact He.meth_ok (c0.fact 21 rfl), answers := D_Edges_answers, m_answers := by rw [h_Edges_answers]; exact He.meth_ok (c0.fact 22 rfl) }
  let C_RowsW : CRowsW K mg := { C := He.ga K "Rows_waypaper", cl := He.cls_ok (c0.fact 23 rfl), mg := He.glo_ok X G (c0.fact 24 rfl), n_steps := He.noat_ok (c0.fact 25 rfl), n_known := He.noat_ok (c0.fact 26 rfl), n_edges := He.noat_ok (c0.fact 27 rfl), n_weights := He.noat_ok (c0.fact 28 rfl), init := D_RowsW_init, made := by rw [h_RowsW_init]; exact He.mkr_ok (c0.fact 29 rfl), edge_of := D_RowsW_edge_of, m_edge_of := by rw [h_RowsW_edge_of]; exact He.meth_ok (c0.fact 30 rfl), cost_of := D_RowsW_cost_of, m_cost_of := by rw [h_RowsW_cost_of]; exact He.meth_ok (c0.fact 31 rfl), read := D_RowsW_read, m_read := by rw [h_RowsW_read]; exact He.meth_ok (c0.fact 32 rfl) }
  let C_RowsD : CRowsD K mg := { C := He.ga K "Rows_derived", cl := He.cls_ok (c0.fact 33 rfl), mg := He.glo_ok X G (c0.fact 34 rfl), n_found := He.noat_ok (c0.fact 35 rfl), n_places := He.noat_ok (c0.fact 36 rfl), n_rows := He.noat_ok (c0.fact 37 rfl), init := D_RowsD_init, made := by rw [h_RowsD_init]; exact He.mkr_ok (c0.fact 38 rfl), missing := D_RowsD_missing, m_missing := by rw [h_RowsD_missing]; exact He.meth_ok (c0.fact 39 rfl), item := D_RowsD_item, m_item := by rw [h_RowsD_item]; exact He.meth_ok (c0.fact 40 rfl), add := D_RowsD_add, m_add := by rw [h_RowsD_add]; exact He.meth_ok (c0.fact 41 rfl) }
  let C_Numbers : CNumbers K mg := { C := He.ga K "Numbers", cl := He.cls_ok (c0.fact 42 rfl), mg := He.glo_ok X G (c0.fact 43 rfl), n_machine := He.noat_ok (c0.fact 44 rfl), n_found := He.noat_ok (c0.fact 45 rfl), n_leaving := He.noat_ok (c0.fact 46 rfl), init := D_Numbers_init, made := by rw [h_Numbers_init]; exact He.mkr_ok (c0.fact 47 rfl), put := D_Numbers_put, m_put := by rw [h_Numbers_put]; exact He.meth_ok (c0.fact 48 rfl), ways := D_Numbers_ways, m_ways := by rw [h_Numbers_ways]; exact He.meth_ok (c0.fact 49 rfl), improve := D_Numbers_improve, m_improve := by rw [h_Numbers_improve]; exact He.meth_ok (c0.fact 50 rfl) }
  let C_Forwards : CForwards K mg := { C := He.ga K "Forwards", cl := He.cls_ok (c0.fact 51 rfl), mg := He.glo_ok X G (c0.fact 52 rfl), n_machine := He.noat_ok (c0.fact 53 rfl), n_nodes := He.noat_ok (c0.fact 54 rfl), n_edges := He.noat_ok (c0.fact 55 rfl), n_leaving := He.noat_ok (c0.fact 56 rfl), n_ends := He.noat_ok (c0.fact 57 rfl), n_between := He.noat_ok (c0.fact 58 rfl), n_changed := He.noat_ok (c0.fact 59 rfl), init := D_Forwards_init, made := by rw [h_Forwards_init]; exact He.mkr_ok (c0.fact 60 rfl), put := D_Forwards_put, m_put := by rw [h_Forwards_put]; exact He.meth_ok (c0.fact 61 rfl), node_between := D_Forwards_node_between, m_node_between := by rw [h_Forwards_node_between]; exact He.meth_ok (c0.fact 62 rfl), go_on := D_Forwards_go_on, m_go_on := by rw [h_Forwards_go_on]; exact He.meth_ok (c0.fact 63 rfl) }
  let C_Step : CStep K mg := { C := He.ga K "Step", cl := He.cls_ok (c0.fact 64 rfl), mg := He.glo_ok X G (c0.fact 65 rfl), n_state := He.noat_ok (c0.fact 66 rfl), n_letter := He.noat_ok (c0.fact 67 rfl), n_goal := He.noat_ok (c0.fact 68 rfl), n_laid := He.noat_ok (c0.fact 69 rfl), n_weight := He.noat_ok (c0.fact 70 rfl), init := D_Step_init, made := by rw [h_Step_init]; exact He.mkr_ok (c0.fact 71 rfl) }
  let C_Machine : CMachine K mg := { C := He.ga K "Machine", cl := He.cls_ok (c0.fact 72 rfl), mg := He.glo_ok X G (c0.fact 73 rfl), n_states := He.noat_ok (c0.fact 74 rfl), n_letters := He.noat_ok (c0.fact 75 rfl), n_steps := He.noat_ok (c0.fact 76 rfl), init := D_Machine_init, made := by rw [h_Machine_init]; exact He.mkr_ok (c0.fact 77 rfl) }
  exact ⟨⟨C_Net, C_Edges, C_RowsW, C_RowsD, C_Numbers, C_Forwards, C_Step, C_Machine, { fits_net := D_fits_net, g_fits_net := by rw [h_fits_net]; exact He.glo_ok X G (c0.fact 78 rfl), plain := D_plain, g_plain := by rw [h_plain]; exact He.glo_ok X G (c0.fact 79 rfl), single := D_single, g_single := by rw [h_single]; exact He.glo_ok X G (c0.fact 80 rfl), is_closed_forwards := D_is_closed_forwards, g_is_closed_forwards := by rw [h_is_closed_forwards]; exact He.glo_ok X G (c0.fact 81 rfl), extends_ := D_extends_, g_extends_ := by rw [h_extends_]; exact He.glo_ok X G (c0.fact 82 rfl), shows_staying := D_shows_staying, g_shows_staying := by rw [h_shows_staying]; exact He.glo_ok X G (c0.fact 83 rfl), joined := D_joined, g_joined := by rw [h_joined]; exact He.glo_ok X G (c0.fact 84 rfl), way_weight := D_way_weight, g_way_weight := by rw [h_way_weight]; exact He.glo_ok X G (c0.fact 85 rfl), paper_weight := D_paper_weight, g_paper_weight := by rw [h_paper_weight]; exact He.glo_ok X G (c0.fact 86 rfl), check_net := D_check_net, g_check_net := by rw [h_check_net]; exact He.glo_ok X G (c0.fact 87 rfl), is_accepted := D_is_accepted, g_is_accepted := by rw [h_is_accepted]; exact He.glo_ok X G (c0.fact 88 rfl), takes_came := D_takes_came, g_takes_came := by rw [h_takes_came]; exact He.glo_ok X G (c0.fact 89 rfl), need_fit := D_need_fit, g_need_fit := by rw [h_need_fit]; exact He.glo_ok X G (c0.fact 90 rfl), ahead := D_ahead, g_ahead := by rw [h_ahead]; exact He.glo_ok X G (c0.fact 91 rfl), least_path := D_least_path, g_least_path := by rw [h_least_path]; exact He.glo_ok X G (c0.fact 92 rfl), told_numbers := D_told_numbers, g_told_numbers := by rw [h_told_numbers]; exact He.glo_ok X G (c0.fact 93 rfl), least := D_least, g_least := by rw [h_least]; exact He.glo_ok X G (c0.fact 94 rfl), need_alike := D_need_alike, g_need_alike := by rw [h_need_alike]; exact He.glo_ok X G (c0.fact 95 rfl), goal_pairs := D_goal_pairs, g_goal_pairs := by rw [h_goal_pairs]; exact He.glo_ok X G (c0.fact 96 rfl), paired := D_paired, g_paired := by rw [h_paired]; exact He.glo_ok X G (c0.fact 97 rfl), both := D_both, g_both := by rw [h_both]; exact He.glo_ok X G (c0.fact 98 rfl), closer := D_closer, g_closer := by rw [h_closer]; exact He.glo_ok X G (c0.fact 99 rfl), distances := D_distances, g_distances := by rw [h_distances]; exact He.glo_ok X G (c0.fact 100 rfl), leads_on := D_leads_on, g_leads_on := by rw [h_leads_on]; exact He.glo_ok X G (c0.fact 101 rfl), least_letter := D_least_letter, g_least_letter := by rw [h_least_letter]; exact He.glo_ok X G (c0.fact 102 rfl), first := D_first, g_first := by rw [h_first]; exact He.glo_ok X G (c0.fact 103 rfl), behind := D_behind, g_behind := by rw [h_behind]; exact He.glo_ok X G (c0.fact 104 rfl), came := D_came, g_came := by rw [h_came]; exact He.glo_ok X G (c0.fact 105 rfl), fits_machine := D_fits_machine, g_fits_machine := by rw [h_fits_machine]; exact He.glo_ok X G (c0.fact 106 rfl), l_numbers := D_l_numbers, g_l_numbers := by rw [h_l_numbers]; exact He.glo_ok X G (c0.fact 107 rfl), l_rows := D_l_rows, g_l_rows := by rw [h_l_rows]; exact He.glo_ok X G (c0.fact 108 rfl), l_machine := D_l_machine, g_l_machine := by rw [h_l_machine]; exact He.glo_ok X G (c0.fact 109 rfl), l_made := D_l_made, g_l_made := by rw [h_l_made]; exact He.glo_ok X G (c0.fact 110 rfl), l_configuration := D_l_configuration, g_l_configuration := by rw [h_l_configuration]; exact He.glo_ok X G (c0.fact 111 rfl), l_net := D_l_net, g_l_net := by rw [h_l_net]; exact He.glo_ok X G (c0.fact 112 rfl), l_net_made := D_l_net_made, g_l_net_made := by rw [h_l_net_made]; exact He.glo_ok X G (c0.fact 113 rfl), l_accepts := D_l_accepts, g_l_accepts := by rw [h_l_accepts]; exact He.glo_ok X G (c0.fact 114 rfl), law := D_law, g_law := by rw [h_law]; exact He.glo_ok X G (c0.fact 115 rfl) }, { len := He.free_ok X G (c0.fact 116 rfl), all := He.free_ok X G (c0.fact 117 rfl), any := He.free_ok X G (c0.fact 118 rfl), sum := He.free_ok X G (c0.fact 119 rfl), min := He.free_ok X G (c0.fact 120 rfl), sorted := He.free_ok X G (c0.fact 121 rfl), set := He.free_ok X G (c0.fact 122 rfl), tuple := He.free_ok X G (c0.fact 123 rfl), list := He.free_ok X G (c0.fact 124 rfl), int := He.free_ok X G (c0.fact 125 rfl), range := He.free_ok X G (c0.fact 126 rfl), enumerate := He.free_ok X G (c0.fact 127 rfl), zip := He.free_ok X G (c0.fact 128 rfl) }⟩, h_law⟩
end Zh
set_option maxRecDepth 100000
set_option maxHeartbeats 0
/-! The run of the top, in the kernel. -/
namespace Zh
open PySem PySem.Spec PyProof.Rows L2 Zp
abbrev R : PySem.W.OpenRow := PySem.W.OpenLaw.row PySem.Challenge.rw_pilereach_k92_whole_came_is_judged
abbrev qv : Program := PySem.W.view R.prog [68]
def n1 : List Str := ["PileError", "InvalidMachine", "InvalidNet", "Mismatch", "NotPlain", "fits", "fits_net", "Net", "plain", "single", "Edges", "is_closed_forwards", "extends", "shows_staying", "joined", "Rows", "Rows_waypaper", "way_weight", "paper_weight", "check_net", "is_accepted", "takes_came", "Rows_derived", "need_fit", "Numbers", "ahead", "least_path", "told_numbers", "least", "need_alike"]
def n2 : List Str := ["goal_pairs", "paired", "both", "closer", "distances", "leads_on", "least_letter", "first", "Forwards", "behind", "came", "Step", "fits_machine", "Machine", "_law_numbers", "_law_rows", "_law_machine", "_law_made", "_law_configuration", "_law_net", "_law_net_made", "_law_accepts"]
def names : List Str := n1 ++ n2
/-- what an object names, as far as the facts go -/
def refsX (o : Obj) : List Addr := match o.data with
  | .dict es _ => es.toList.flatMap fun e => He.refV e.val
  | .func d => He.refV d.code ++ He.refV d.defaults
  | .cls cd => [cd.ns]
  | .fields vs => (match o.cls with
    | .type c => (match decide (c = "property") with
      | true => vs.toList.flatMap He.refV
      | false => [])
    | _ => [])
  | _ => []
def stepX (g : Addr → Option Obj) (as : List Addr) : List Addr := as.flatMap fun a => match g a with
  | some o => refsX o
  | none => []
def asX (g : Addr → Option Obj) : Nat → List Addr → List Addr
  | 0, _ => []
  | n + 1, as => as ++ asX g n (stepX g as)
def partX (g : Addr → Option Obj) : PySem.W.Frag := He.frG g (asX g 6 [mainGlobals])
def hk : PySem.W.Hook where
  α := AlX
  obs := fun s => obX (partX s.heap.get?)
  val := fun _ => valX
  says := fun _ h => ∃ K : PySem.W.Frag, K.In h ∧ obX K = valX
  of := fun _ _ e => ⟨_, He.frG_in, e⟩
  keeps := fun _ _ _ ⟨K, hK, c⟩ k => ⟨K, PySem.W.Frag.In.keeps hK k, c⟩
def ob (s : PySem.W.SharedT) : AlX := obX (partX (HandSHeadRun.getT s))
theorem ob_eq (s : PySem.W.SharedT) : ob s = hk.obs s.abs := by
  have e : HandSHeadRun.getT s = s.abs.heap.get? := funext (HandSHeadRun.getT_eq s)
  show obX _ = obX _
  rw [e]
theorem run (w : World) : HandSHeadRun.RunEq R qv hk ob 6000 names w := by
  intro os
  kernel_rfl
end Zh
set_option maxRecDepth 100000
set_option maxHeartbeats 8000000
/-! Data in the heap: tuples of ints, bools, texts, None and tuples (Is); what an extension keeps; an instance's fields by place. -/
namespace Zp
open PySem L2 Zs Evl Pr
/-! ### fields by place -/
def fz (ns : List Str) (vs : List V) : List (Str × V) := ns.zip vs
theorem fz_at : ∀ {ns : List Str} {vs : List V} {i : Nat} {f : Str} {v : V}, ns.Nodup → ns[i]? = some f → vs[i]? = some v → (fz ns vs).lookup f = some v
  | [], _, i, f, v, _, h, _ => by simp at h
  | n :: ns, [], i, f, v, _, _, h => by simp at h
  | n :: ns, w :: vs, 0, f, v, nd, h1, h2 => by
    simp at h1 h2
    subst h1 h2
    show List.lookup n ((n, w) :: fz ns vs) = some w
    simp [List.lookup]
  | n :: ns, w :: vs, i + 1, f, v, nd, h1, h2 => by
    simp at h1 h2
    obtain ⟨n1, n2⟩ := List.nodup_cons.mp nd
    have hne : f ≠ n := fun e => n1 (e ▸ List.mem_of_getElem? h1)
    show List.lookup f ((n, w) :: fz ns vs) = some v
    have : (f == n) = false := by simpa using hne
    rw [List.lookup_cons, this]
    exact fz_at n2 h1 h2
theorem fz_no {f : Str} : ∀ {ns : List Str} {vs : List V}, f ∉ ns → (fz ns vs).lookup f = none
  | [], _, _ => rfl
  | n :: ns, [], _ => rfl
  | n :: ns, w :: vs, h => by
    show List.lookup f ((n, w) :: fz ns vs) = none
    have hne : f ≠ n := fun e => h (e ▸ List.mem_cons_self)
    have : (f == n) = false := by simpa using hne
    rw [List.lookup_cons, this]
    exact fz_no fun z => h (List.mem_cons_of_mem _ z)
theorem fz_new {f : Str} {v : V} : ∀ {ns : List Str} {vs : List V}, ns.Nodup → ns[vs.length]? = some f → putF f v (fz ns vs) = fz ns (vs ++ [v])
  | [], vs, _, h => by simp at h
  | n :: ns, [], _, h => by
    simp at h
    subst h
    show [(n, v)] = [(n, v)] ++ List.zip ns []
    cases ns <;> rfl
  | n :: ns, w :: vs, nd, h => by
    obtain ⟨n1, n2⟩ := List.nodup_cons.mp nd
    simp at h
    have hne : n ≠ f := fun e => n1 (e ▸ List.mem_of_getElem? h)
    show (if n = f then (n, v) :: fz ns vs else (n, w) :: putF f v (fz ns vs)) = (n, w) :: fz ns (vs ++ [v])
    rw [if_neg hne, fz_new n2 h]
theorem fz_set {f : Str} {v : V} : ∀ {ns : List Str} {vs : List V} {i : Nat}, ns.Nodup → ns[i]? = some f → i < vs.length → putF f v (fz ns vs) = fz ns (vs.set i v)
  | [], vs, i, _, h, _ => by simp at h
  | n :: ns, [], i, _, _, h => by simp at h
  | n :: ns, w :: vs, 0, nd, h, _ => by
    simp at h
    subst h
    show (if n = n then (n, v) :: fz ns vs else _) = (n, v) :: fz ns vs
    rw [if_pos rfl]
  | n :: ns, w :: vs, i + 1, nd, h, hl => by
    obtain ⟨n1, n2⟩ := List.nodup_cons.mp nd
    simp at h hl
    have hne : n ≠ f := fun e => n1 (e ▸ List.mem_of_getElem? h)
    show (if n = f then (n, v) :: fz ns vs else (n, w) :: putF f v (fz ns vs)) = (n, w) :: fz ns (vs.set i v)
    rw [if_neg hne, fz_set n2 h hl]
theorem fz_len {ns : List Str} {vs : List V} {n : Nat} (h : ns.length < n) : (fz ns vs).length < n := by
  unfold fz
  rw [List.length_zip]
  omega
/-! ### data -/
/-- every tuple is kept -/
def Tk (H H' : Hp) : Prop := ∀ a xs, H a = some (.tup xs) → H' a = some (.tup xs)
theorem Tk.refl (H : Hp) : Tk H H := fun _ _ h => h
theorem Tk.trans {H H1 H2 : Hp} (a : Tk H H1) (b : Tk H1 H2) : Tk H H2 := fun p xs h => b p xs (a p xs h)
theorem Tk.of {H H' : Hp} (e : Ex H H') : Tk H H' := fun a xs h => e a _ h
theorem Tk.wr {H : Hp} {p : Addr} {o o' : HO} (h : H p = some o) (ht : ∀ xs, o ≠ .tup xs) : Tk H (L2.upd H p o') := fun a xs e => by
  rw [upd_ne (fun q => by subst q; rw [h] at e; exact ht xs (Option.some.inj e))]
  exact e
theorem Tk.new {H : Hp} {p : Addr} {o : HO} (h : H p = none) : Tk H (upd H p o) := Tk.of (Ex.new h)
inductive PD where
  | i (n : Int) | b (x : Bool) | s (z : Str) | n | t (l : List PD)
mutual
def Is (H : Hp) : V → PD → Prop
  | v, .i n => v = .int n
  | v, .b x => v = .bl x
  | v, .s z => v = .str z
  | v, .n => v = .non
  | v, .t ds => ∃ a vs, v = .ref a ∧ H a = some (.tup vs) ∧ IsL H vs ds
def IsL (H : Hp) : List V → List PD → Prop
  | [], [] => True
  | v :: vs, d :: ds => Is H v d ∧ IsL H vs ds
  | _, _ => False
end
mutual
theorem Is.mono {H H' : Hp} (e : Tk H H') : ∀ {v : V} {d : PD}, Is H v d → Is H' v d
  | v, .i n, h => by unfold Is at h ⊢; exact h
  | v, .b x, h => by unfold Is at h ⊢; exact h
  | v, .s z, h => by unfold Is at h ⊢; exact h
  | v, .n, h => by unfold Is at h ⊢; exact h
  | v, .t ds, h => by
    unfold Is at h ⊢
    obtain ⟨a, vs, h1, h2, h3⟩ := h
    exact ⟨a, vs, h1, e a vs h2, IsL.mono e h3⟩
theorem IsL.mono {H H' : Hp} (e : Tk H H') : ∀ {vs : List V} {ds : List PD}, IsL H vs ds → IsL H' vs ds
  | [], [], h => by unfold IsL; trivial
  | v :: vs, d :: ds, h => by
    unfold IsL at h ⊢
    exact ⟨Is.mono e h.1, IsL.mono e h.2⟩
  | [], d :: ds, h => by unfold IsL at h; exact h.elim
  | v :: vs, [], h => by unfold IsL at h; exact h.elim
end
section
variable {H H' : Hp} {v : V} {vs : List V} {ds : List PD}
theorem Is.i_iff {n : Int} : Is H v (.i n) ↔ v = .int n := by unfold Is; exact Iff.rfl
theorem Is.b_iff {x : Bool} : Is H v (.b x) ↔ v = .bl x := by unfold Is; exact Iff.rfl
theorem Is.s_iff {z : Str} : Is H v (.s z) ↔ v = .str z := by unfold Is; exact Iff.rfl
theorem Is.n_iff : Is H v .n ↔ v = .non := by unfold Is; exact Iff.rfl
theorem Is.t_iff : Is H v (.t ds) ↔ ∃ a vs, v = .ref a ∧ H a = some (.tup vs) ∧ IsL H vs ds := by
  constructor
  · intro h; unfold Is at h; exact h
  · intro h; unfold Is; exact h
theorem IsL.nil_iff : IsL H vs [] ↔ vs = [] := by
  cases vs with
  | nil => unfold IsL; exact ⟨fun _ => rfl, fun _ => trivial⟩
  | cons v vs => unfold IsL; exact ⟨fun h => h.elim, fun h => nomatch h⟩
theorem IsL.cons_iff {d : PD} : IsL H vs (d :: ds) ↔ ∃ v r, vs = v :: r ∧ Is H v d ∧ IsL H r ds := by
  cases vs with
  | nil => unfold IsL; exact ⟨fun h => h.elim, fun ⟨_, _, h, _⟩ => nomatch h⟩
  | cons v vs =>
    constructor
    · intro h
      unfold IsL at h
      exact ⟨v, vs, rfl, h⟩
    · rintro ⟨v', r, h, h2⟩
      cases h
      unfold IsL
      exact h2
theorem Is.int (n : Int) : Is H (.int n) (.i n) := Is.i_iff.mpr rfl
theorem Is.bl (x : Bool) : Is H (.bl x) (.b x) := Is.b_iff.mpr rfl
theorem Is.str (z : Str) : Is H (.str z) (.s z) := Is.s_iff.mpr rfl
theorem Is.non : Is H .non .n := Is.n_iff.mpr rfl
theorem Is.mk {a : Addr} (h : H a = some (.tup vs)) (l : IsL H vs ds) : Is H (.ref a) (.t ds) := Is.t_iff.mpr ⟨a, vs, rfl, h, l⟩
theorem IsL.nil : IsL H [] [] := IsL.nil_iff.mpr rfl
theorem IsL.cons {d : PD} (h : Is H v d) (t : IsL H vs ds) : IsL H (v :: vs) (d :: ds) := IsL.cons_iff.mpr ⟨v, vs, rfl, h, t⟩
theorem IsL.len : ∀ {vs : List V} {ds : List PD}, IsL H vs ds → vs.length = ds.length
  | [], [], _ => rfl
  | v :: vs, d :: ds, h => by
    obtain ⟨_, _, e, _, t⟩ := IsL.cons_iff.mp h
    cases e
    simp [IsL.len t]
  | [], d :: ds, h => by obtain ⟨_, _, e, _⟩ := IsL.cons_iff.mp h; cases e
  | v :: vs, [], h => by cases IsL.nil_iff.mp h
theorem IsL.get : ∀ {vs : List V} {ds : List PD} {i : Nat} {v : V}, IsL H vs ds → vs[i]? = some v → ∃ d, ds[i]? = some d ∧ Is H v d
  | [], ds, i, v, _, h => by simp at h
  | w :: vs, [], i, v, h, _ => by cases IsL.nil_iff.mp h
  | w :: vs, d :: ds, 0, v, h, e => by
    obtain ⟨_, _, e2, h1, _⟩ := IsL.cons_iff.mp h
    cases e2
    simp at e
    subst e
    exact ⟨d, rfl, h1⟩
  | w :: vs, d :: ds, i + 1, v, h, e => by
    obtain ⟨_, _, e2, _, t⟩ := IsL.cons_iff.mp h
    cases e2
    simp at e
    simpa using IsL.get t e
theorem IsL.get' {i : Nat} {d : PD} (h : IsL H vs ds) (e : ds[i]? = some d) : ∃ v, vs[i]? = some v ∧ Is H v d := by
  have hl : i < vs.length := by rw [h.len]; exact (List.getElem?_eq_some_iff.mp e).1
  obtain ⟨d', h1, h2⟩ := h.get (List.getElem?_eq_getElem hl)
  rw [e] at h1
  cases h1
  exact ⟨_, List.getElem?_eq_getElem hl, h2⟩
theorem IsL.app : ∀ {vs ws : List V} {ds es : List PD}, IsL H vs ds → IsL H ws es → IsL H (vs ++ ws) (ds ++ es)
  | [], ws, [], es, _, h => h
  | v :: vs, ws, d :: ds, es, h, h' => by
    obtain ⟨_, _, e2, h1, t⟩ := IsL.cons_iff.mp h
    cases e2
    exact .cons h1 (IsL.app t h')
  | [], ws, d :: ds, es, h, _ => by obtain ⟨_, _, e, _⟩ := IsL.cons_iff.mp h; cases e
  | v :: vs, ws, [], es, h, _ => by cases IsL.nil_iff.mp h
/-- ints -/
theorem IsL.ints_iff {ns : List Int} : IsL H vs (ns.map .i) ↔ vs = ns.map V.int := by
  induction ns generalizing vs with
  | nil => exact IsL.nil_iff
  | cons n ns ih =>
    rw [List.map_cons, IsL.cons_iff]
    constructor
    · rintro ⟨v, r, rfl, h1, h2⟩
      rw [Is.i_iff.mp h1, ih.mp h2]
      rfl
    · rintro rfl
      exact ⟨_, _, rfl, Is.int n, ih.mpr rfl⟩
def iD (ns : List Int) : PD := .t (ns.map .i)
def eD (e : Edge) : PD := iD [e.1, e.2.1, e.2.2]
def cD (c : Conf) : PD := .t [.i c.1, iD c.2]
theorem Is.ints_iff {ns : List Int} : Is H v (iD ns) ↔ ∃ a, v = .ref a ∧ H a = some (.tup (ns.map V.int)) := by
  unfold iD
  rw [Is.t_iff]
  constructor
  · rintro ⟨a, vs, h1, h2, h3⟩
    rw [IsL.ints_iff] at h3
    exact ⟨a, h1, by rw [h2, h3]⟩
  · rintro ⟨a, h1, h2⟩
    exact ⟨a, _, h1, h2, IsL.ints_iff.mpr rfl⟩
theorem Is.edge_iff {e : Edge} : Is H v (eD e) ↔ ∃ a, v = .ref a ∧ H a = some (.tup [.int e.1, .int e.2.1, .int e.2.2]) := Is.ints_iff
theorem Is.conf_iff {c : Conf} : Is H v (cD c) ↔ ∃ a b, v = .ref a ∧ H a = some (.tup [.int c.1, .ref b]) ∧ H b = some (.tup (c.2.map V.int)) := by
  unfold cD
  rw [Is.t_iff]
  constructor
  · rintro ⟨a, vs, h1, h2, h3⟩
    obtain ⟨x, r, rfl, h4, h5⟩ := IsL.cons_iff.mp h3
    obtain ⟨y, r2, rfl, h6, h7⟩ := IsL.cons_iff.mp h5
    cases IsL.nil_iff.mp h7
    obtain ⟨b, rfl, h8⟩ := Is.ints_iff.mp h6
    cases Is.i_iff.mp h4
    exact ⟨a, b, h1, h2, h8⟩
  · rintro ⟨a, b, h1, h2, h3⟩
    exact ⟨a, _, h1, h2, .cons (Is.int _) (.cons (Is.ints_iff.mpr ⟨b, rfl, h3⟩) .nil)⟩
end
def eK (e : Edge) : List Key := [Sum.inl e.1, Sum.inl e.2.1, Sum.inl e.2.2]
theorem eK_map (e : Edge) : (eK e).map kV = [V.int e.1, V.int e.2.1, V.int e.2.2] := rfl
theorem eK_inj {e f : Edge} (h : eK e = eK f) : e = f := by
  obtain ⟨a, b, c⟩ := e
  obtain ⟨x, y, z⟩ := f
  simp only [eK, List.cons.injEq, Sum.inl.injEq] at h
  obtain ⟨rfl, rfl, rfl, _⟩ := h
  rfl
def pK (a b : Int) : List Key := [Sum.inl a, Sum.inl b]
theorem pK_inj {a b c d : Int} (h : pK a b = pK c d) : a = c ∧ b = d := by
  simp only [pK, List.cons.injEq, Sum.inl.injEq] at h
  exact ⟨h.1, h.2.1⟩
/-! ### what a caller owns apart -/
/-- H0, and all that is new from H to H' -/
def gr (H0 H H' : Hp) : Hp := fun a => match H a with
  | none => H' a
  | some _ => H0 a
theorem gr_ex {H0 H H' : Hp} (e0 : Ex H0 H) (e : Ex H H') : Ex (gr H0 H H') H' := fun a o h => by
  unfold gr at h
  split at h
  · exact h
  · rename_i u hu
    exact e a o (e0 a o h)
theorem gr_old {H0 H H' : Hp} (e0 : Ex H0 H) : Ex H0 (gr H0 H H') := fun a o h => by
  unfold gr
  rw [e0 a o h]
  exact h
theorem gr_new {H0 H H' : Hp} {a : Addr} {o : HO} (h : H a = none) (h' : H' a = some o) : gr H0 H H' a = some o := by
  unfold gr
  rw [h]
  exact h'
theorem gr_own {H0 H H' : Hp} {a : Addr} {o : HO} (h : H a = some o) (h0 : H0 a = none) : gr H0 H H' a = none := by
  unfold gr
  rw [h]
  exact h0
/-! ### readings in short -/
theorem ex_tup {K : PySem.W.Frag} {H : Hp} {a : Addr} {xs : List V} (h : H a = some (.tup xs)) : SqT K H a xs := SqT.of h
theorem iteD {c A B : Prop} [Decidable c] (h1 : c → A) (h2 : ¬ c → B) : if decide c = true then A else B := by
  by_cases h : c
  · rw [decide_eq_true h]; exact iteT (h1 h)
  · rw [decide_eq_false h]; exact iteF (h2 h)
theorem iteN {c A B : Prop} [Decidable c] (h1 : c → B) (h2 : ¬ c → A) : if (!decide c) = true then A else B := by
  by_cases h : c
  · rw [decide_eq_true h]; exact iteF (h1 h)
  · rw [decide_eq_false h]; exact iteT (h2 h)
theorem iteB {b : Bool} {A B : Prop} (h1 : b = true → A) (h2 : b = false → B) : if b = true then A else B := by
  cases b
  · exact iteF (h2 rfl)
  · exact iteT (h1 rfl)
theorem iteNB {b : Bool} {A B : Prop} (h1 : b = true → B) (h2 : b = false → A) : if (!b) = true then A else B := by
  cases b
  · exact iteT (h2 rfl)
  · exact iteF (h1 rfl)
theorem lineOf {n : Nat} (h : n ≤ 100000) : n ≤ sizeLine := Nat.le_trans h (by decide)
theorem lineLt {n : Nat} (h : n < 100000) : n < sizeLine := Nat.lt_of_lt_of_le h (by decide)
end Zp
set_option maxRecDepth 100000
set_option maxHeartbeats 8000000
/-! Dicts of lists; an object that alone changes; comprehensions told by what they give; either a list or a tuple. -/
namespace Zp
open PySem L2 Zs Evl Pr
/-! ### all but p is kept -/
def Off (p : Addr) (H H' : Hp) : Prop := ∀ q o, H q = some o → q ≠ p → H' q = some o
theorem Off.refl {p : Addr} (H : Hp) : Off p H H := fun _ _ h _ => h
theorem Off.trans {p : Addr} {H H1 H2 : Hp} (a : Off p H H1) (b : Off p H1 H2) : Off p H H2 := fun q o h n => b q o (a q o h n) n
theorem Off.of {p : Addr} {H H' : Hp} (e : Ex H H') : Off p H H' := fun q o h _ => e q o h
theorem Off.put {p : Addr} {H : Hp} {o : HO} : Off p H (upd H p o) := fun q u h n => by rw [upd_ne n]; exact h
theorem Off.ex {p : Addr} {H0 H H' : Hp} (e : Ex H0 H) (h0 : H0 p = none) (h : Off p H H') : Ex H0 H' := fun q o z => h q o (e q o z) fun x => by rw [x, h0] at z; cases z
theorem Off.tk {p : Addr} {H H' : Hp} (h : Off p H H') (hp : ∀ xs, H p ≠ some (.tup xs)) : Tk H H' := fun q xs z => h q _ z fun x => hp xs (x ▸ z)
theorem fresh_of {H H' : Hp} {p : Addr} (e : Ex H H') (h : H' p = none) : H p = none := fresh_back e h
/-! ### dicts of lists -/
section
variable {κ : Type} [DecidableEq κ]
/-- read only -/
def DR (H : Hp) (kvs : List (κ × V)) (L : κ → List V) : Prop := ∀ k, (∀ v, valV kvs k = some v → ∃ b, v = .ref b ∧ H b = some (.lst (L k))) ∧ (valV kvs k = none → L k = [])
theorem DR.mono {H H' : Hp} {kvs : List (κ × V)} {L : κ → List V} (e : Ex H H') (h : DR H kvs L) : DR H' kvs L := fun k => ⟨fun v hv => by
  obtain ⟨b, h1, h2⟩ := (h k).1 v hv
  exact ⟨b, h1, e _ _ h2⟩, (h k).2⟩
/-- owned apart from H0 -/
structure DL (mk : List (κ × V) → HO) (H0 H : Hp) (d : Addr) (kvs : List (κ × V)) (L : κ → List V) : Prop where
  at_ : H d = some (mk kvs)
  d0 : H0 d = none
  ls : ∀ k v, valV kvs k = some v → ∃ b, v = .ref b ∧ H0 b = none ∧ b ≠ d ∧ H b = some (.lst (L k))
  no : ∀ k, valV kvs k = none → L k = []
  inj : ∀ k k' b, valV kvs k = some (.ref b) → valV kvs k' = some (.ref b) → k = k'
theorem DL.dr {mk : List (κ × V) → HO} {H0 H : Hp} {d : Addr} {kvs : List (κ × V)} {L : κ → List V} (D : DL mk H0 H d kvs L) : DR H kvs L := fun k => ⟨fun v hv => by
  obtain ⟨b, h1, _, _, h2⟩ := D.ls k v hv
  exact ⟨b, h1, h2⟩, D.no k⟩
theorem DL.mono {mk : List (κ × V) → HO} {H0 H H' : Hp} {d : Addr} {kvs : List (κ × V)} {L : κ → List V} (e : Ex H H') (D : DL mk H0 H d kvs L) : DL mk H0 H' d kvs L where
  at_ := e _ _ D.at_
  d0 := D.d0
  ls := fun k v hv => by
    obtain ⟨b, h1, h2, h3, h4⟩ := D.ls k v hv
    exact ⟨b, h1, h2, h3, e _ _ h4⟩
  no := D.no
  inj := D.inj
theorem DL.base {mk : List (κ × V) → HO} {H0 H0' H : Hp} {d : Addr} {kvs : List (κ × V)} {L : κ → List V} (D : DL mk H0 H d kvs L) (h : ∀ a, H0 a = none → (∃ o, H a = some o) → H0' a = none) : DL mk H0' H d kvs L where
  at_ := D.at_
  d0 := h _ D.d0 ⟨_, D.at_⟩
  ls := fun k v hv => by
    obtain ⟨b, h1, h2, h3, h4⟩ := D.ls k v hv
    exact ⟨b, h1, h _ h2 ⟨_, h4⟩, h3, h4⟩
  no := D.no
  inj := D.inj
theorem DL.empty {mk : List (κ × V) → HO} {H0 H : Hp} {d : Addr} (h : H d = some (mk [])) (h0 : H0 d = none) : DL mk H0 H d [] (fun _ => []) where
  at_ := h
  d0 := h0
  ls := fun k v hv => nomatch hv
  no := fun _ _ => rfl
  inj := fun k k' b h => nomatch h
/-- an object that is none of its own changes -/
theorem DL.off {mk : List (κ × V) → HO} {H0 H H' : Hp} {d p : Addr} {kvs : List (κ × V)} {L : κ → List V} (D : DL mk H0 H d kvs L) (e : Off p H H') (hp : p ≠ d) (hl : ∀ xs, H p ≠ some (.lst xs)) : DL mk H0 H' d kvs L where
  at_ := e _ _ D.at_ hp.symm
  d0 := D.d0
  ls := fun k v hv => by
    obtain ⟨b, h1, h2, h3, h4⟩ := D.ls k v hv
    exact ⟨b, h1, h2, h3, e _ _ h4 fun x => hl _ (x ▸ h4)⟩
  no := D.no
  inj := D.inj
def pushL (L : κ → List V) (k : κ) (x : V) : κ → List V := fun j => if j = k then L k ++ [x] else L j
/-- all that is no list and not d is kept -/
def Kp (d : Addr) (H H' : Hp) : Prop := ∀ q o, H q = some o → q ≠ d → (∀ xs, o ≠ .lst xs) → H' q = some o
theorem Kp.tk {d : Addr} {H H' : Hp} (h : Kp d H H') (hd : ∀ xs, H d ≠ some (.tup xs)) : Tk H H' := fun q xs z => h q _ z (fun x => hd xs (x ▸ z)) fun _ x => nomatch x
/-- d.setdefault(k, []).append(x), H3 holding the new empty list at r; H4: behind x -/
theorem DL.core {mk : List (κ × V) → HO} {H0 H H3 : Hp} {d r : Addr} {kvs : List (κ × V)} {L : κ → List V} (D : DL mk H0 H d kvs L) (e0 : Ex H0 H) (e : Ex H H3) (hr : H r = none) (hr3 : H3 r = some (.lst [])) (hm : ∀ kvs xs, mk kvs ≠ .lst xs) (hmt : ∀ kvs xs, mk kvs ≠ .tup xs) (k : κ) :
    (∀ v, valV kvs k = some v → ∃ b, v = .ref b ∧ H3 b = some (.lst (L k)) ∧ ∀ x H4, Ex H3 H4 → H4 b = some (.lst (L k)) ∧ DL mk H0 (upd H4 b (.lst (L k ++ [x]))) d kvs (pushL L k x) ∧ Ex H0 (upd H4 b (.lst (L k ++ [x]))) ∧ Kp d H (upd H4 b (.lst (L k ++ [x]))) ∧ Tk H4 (upd H4 b (.lst (L k ++ [x])))) ∧
    (valV kvs k = none → L k = [] ∧ Tk H (upd H3 d (mk (putK kvs k (.ref r)))) ∧ upd H3 d (mk (putK kvs k (.ref r))) r = some (.lst []) ∧ ∀ x H4, Ex (upd H3 d (mk (putK kvs k (.ref r)))) H4 → H4 r = some (.lst []) ∧ DL mk H0 (upd H4 r (.lst ([] ++ [x]))) d (putK kvs k (.ref r)) (pushL L k x) ∧ Ex H0 (upd H4 r (.lst ([] ++ [x]))) ∧ Kp d H (upd H4 r (.lst ([] ++ [x]))) ∧ Tk H4 (upd H4 r (.lst ([] ++ [x])))) := by
  constructor
  · intro v hv
    obtain ⟨b, rfl, h2, h3, h4⟩ := D.ls k v hv
    refine ⟨b, rfl, e _ _ h4, fun x H4 e4 => ?_⟩
    have hb := e4 _ _ (e _ _ h4)
    have e14 := e.trans e4
    refine ⟨hb, ⟨?_, D.d0, fun j u hu => ?_, fun j hj => ?_, D.inj⟩, Ex.mut (e0.trans e14) h2, fun q o hq hqd hl => ?_, Tk.wr hb (fun _ z => nomatch z)⟩
    · rw [upd_ne h3.symm]
      exact e14 _ _ D.at_
    · obtain ⟨c, rfl, c2, c3, c4⟩ := D.ls j u hu
      refine ⟨c, rfl, c2, c3, ?_⟩
      by_cases hjk : j = k
      · subst hjk
        rw [hu] at hv
        cases hv
        rw [upd_same]
        unfold pushL
        rw [if_pos rfl]
      · have hcb : c ≠ b := fun z => hjk (D.inj j k b (z ▸ hu) hv)
        rw [upd_ne hcb, e14 _ _ c4]
        unfold pushL
        rw [if_neg hjk]
    · have hjk : j ≠ k := fun z => by rw [z, hv] at hj; cases hj
      unfold pushL
      rw [if_neg hjk]
      exact D.no j hj
    · rw [upd_ne (fun z => by subst z; rw [h4] at hq; cases hq; exact hl _ rfl)]
      exact e14 _ _ hq
  · intro hv
    have hrd : r ≠ d := (ne_of_none D.at_ hr).symm
    have h0 : H0 r = none := fresh_back e0 hr
    refine ⟨D.no k hv, (Tk.of e).trans (Tk.wr (e _ _ D.at_) fun _ => hmt _ _), by rw [upd_ne hrd]; exact hr3, fun x H4 e4 => ?_⟩
    have hr4 : H4 r = some (.lst []) := e4 _ _ (by rw [upd_ne hrd]; exact hr3)
    have hd4 := e4 d _ upd_same
    have old : ∀ q o, H q = some o → q ≠ d → H4 q = some o := fun q o hq hqd => e4 _ _ (by rw [upd_ne hqd]; exact e _ _ hq)
    refine ⟨hr4, ⟨by rw [upd_ne hrd.symm]; exact hd4, D.d0, fun j u hu => ?_, fun j hj => ?_, fun j j' b h1 h2 => ?_⟩, Ex.mut (fun q o hq => old q o (e0 _ _ hq) fun z => by rw [z, D.d0] at hq; cases hq) h0, fun q o hq hqd _ => ?_, Tk.wr hr4 (fun _ z => nomatch z)⟩
    · rw [valV_put] at hu
      by_cases hjk : j = k
      · rw [if_pos hjk] at hu
        cases hu
        refine ⟨r, rfl, h0, hrd, ?_⟩
        rw [upd_same]
        unfold pushL
        rw [if_pos hjk, D.no k hv]
      · rw [if_neg hjk] at hu
        obtain ⟨c, rfl, c2, c3, c4⟩ := D.ls j u hu
        refine ⟨c, rfl, c2, c3, ?_⟩
        rw [upd_ne (ne_of_none c4 hr), old _ _ c4 c3]
        unfold pushL
        rw [if_neg hjk]
    · rw [valV_put] at hj
      by_cases hjk : j = k
      · rw [if_pos hjk] at hj; cases hj
      · rw [if_neg hjk] at hj
        unfold pushL
        rw [if_neg hjk]
        exact D.no j hj
    · have key : ∀ i, i ≠ k → valV kvs i = some (.ref r) → False := fun i _ z => by
        obtain ⟨c, e2, _, _, c4⟩ := D.ls i _ z
        cases e2
        rw [hr] at c4
        cases c4
      rw [valV_put] at h1 h2
      by_cases hj : j = k
      · rw [if_pos hj] at h1
        cases h1
        by_cases hj' : j' = k
        · rw [hj, hj']
        · rw [if_neg hj'] at h2
          exact (key j' hj' h2).elim
      · rw [if_neg hj] at h1
        by_cases hj' : j' = k
        · rw [if_pos hj'] at h2
          cases h2
          exact (key j hj h1).elim
        · rw [if_neg hj'] at h2
          exact D.inj j j' b h1 h2
    · rw [upd_ne (ne_of_none hq hr)]
      exact old _ _ hq hqd
end
/-! ### a list or a tuple -/
def SeqAt (H : Hp) (a : Addr) (xs : List V) : Prop := H a = some (.lst xs) ∨ H a = some (.tup xs)
theorem SeqAt.mono {H H' : Hp} {a : Addr} {xs : List V} (e : Ex H H') : SeqAt H a xs → SeqAt H' a xs := Or.imp (e _ _) (e _ _)
theorem either_of {K : PySem.W.Frag} {te : TE} {σ : L2.St} {H : Hp} {a : Addr} {xs : List V} {R : It → Hp → Prop} (hs : SeqAt H a xs) (ht : ∀ Q : VK, Q (.ref a) H → te σ H Q)
    (k : ∀ J (G : Hp → Prop), (∀ H', Ex H H' → G H') → Walk J xs.length G (YAt xs) → R J H) : iList K te σ H R ∨ iTup K te σ H R := by
  rcases hs with h | h
  · exact .inl (ht _ ⟨a, rfl, ⟨_, SqL.of h⟩, k _ _ (fun H' e => SqL.of (e _ _ h)) walk_list⟩)
  · exact .inr (ht _ ⟨a, rfl, ⟨_, SqT.of h⟩, k _ _ (fun H' e => SqT.of (e _ _ h)) walk_tup⟩)
/-! ### comprehensions -/
theorem lcR {J : It} {n : Nat} {G : Hp → Prop} {Y : Nat → Hp → V → Hp → Prop} (w : Walk J n G Y) {g : TG} {tt : TT} {te : TE} {vs : List Nat} {σ : L2.St} {H1 : Hp} {D : Addr} {Qd : Hp → Prop} (hD : H1 D = none) (hn : n ≤ 100000) (hG : ∀ H', Ex H1 H' → G H')
    (R : Nat → List V → Hp → Prop) (hR : ∀ i acc H H', Off D H H' → (∃ l, H D = some (.lst l)) → R i acc H → R i acc H') (h0 : R 0 [] (upd H1 D (.lst [])))
    (hs : ∀ i acc x H H' (B : VK) (B' : Hp → Prop), i < n → acc.length ≤ i → Ex H1 H → H D = some (.lst acc) → R i acc H → Y i H x H' → (∀ y H4, Ex H H4 → R (i + 1) (acc ++ [y]) H4 → B y H4) → (∀ H3, Ex H H3 → R (i + 1) acc H3 → B' H3) →
      g x (wipe σ vs) H' fun σ2 H2 => wipe σ2 vs = wipe σ vs ∧ tt σ2 H2 fun b H3 => if b = true then te σ2 H3 B else B' H3)
    (hd : ∀ acc H', Ex H1 H' → H' D = some (.lst acc) → acc.length ≤ n → R n acc H' → Qd H') :
    ∃ W : Nat → Nat → Hp → Prop, (∃ m, W 0 m (upd H1 D (.lst []))) ∧ ∀ i m H, W i m H →
      (J.stop i H ∧ Qd H) ∨ (J.go i H ∧ ∃ Nx : Hp → Prop, (∀ H', Nx H' → ∃ m', m' < m ∧ W (i + 1) m' H') ∧ ∀ x H', J.yld i H x H' → g x (wipe σ vs) H' fun σ2 H2 => wipe σ2 vs = wipe σ vs ∧ tt σ2 H2 fun b H3 =>
        if b = true then te σ2 H3 fun y H4 => ∃ acc, H4 D = some (.lst acc) ∧ acc.length < sizeLine ∧ Nx (upd H4 D (.lst (acc ++ [y]))) else Nx H3) := by
  refine lc_it w (fun i H => ∃ acc, Ex H1 H ∧ H D = some (.lst acc) ∧ acc.length ≤ i ∧ R i acc H) ⟨[], Ex.new hD, upd_same, Nat.le_refl _, h0⟩ (fun i H _ ⟨_, e, _⟩ => hG H e) ?_ ?_
  · rintro i x H H' hi ⟨acc, e, hDa, hl, r⟩ y
    refine hs i acc x H H' _ _ hi hl e hDa r y (fun y H4 e4 r4 => ?_) fun H3 e3 r3 => ⟨acc, e.trans e3, e3 _ _ hDa, by omega, r3⟩
    have d4 := e4 _ _ hDa
    refine ⟨acc, d4, Nat.lt_of_lt_of_le (by omega : acc.length < 100001) (by decide), acc ++ [y], fun q o hq => ?_, upd_same, by rw [List.length_append, List.length_singleton]; omega, hR _ _ _ _ Off.put ⟨_, d4⟩ r4⟩
    rw [upd_ne (ne_of_none hq hD)]
    exact e4 _ _ (e q o hq)
  · rintro H ⟨acc, e, hDa, hl, r⟩
    exact hd acc H e hDa hl r
/-- bools -/
def Bls (Rb : Nat → Bool → Prop) (i : Nat) (acc : List V) : Prop := ∃ bs : List Bool, acc = bs.map V.bl ∧ bs.length = i ∧ ∀ j b, bs[j]? = some b → Rb j b
theorem Bls.nil {Rb : Nat → Bool → Prop} : Bls Rb 0 [] := ⟨[], rfl, rfl, fun j b h => by simp at h⟩
theorem Bls.snoc {Rb : Nat → Bool → Prop} {i : Nat} {acc : List V} (h : Bls Rb i acc) {b : Bool} (hb : Rb i b) : Bls Rb (i + 1) (acc ++ [.bl b]) := by
  obtain ⟨bs, rfl, rfl, h2⟩ := h
  refine ⟨bs ++ [b], by simp, by simp, fun j c hj => ?_⟩
  rcases Nat.lt_trichotomy j bs.length with z | z | z
  · rw [List.getElem?_append_left z] at hj
    exact h2 j c hj
  · subst z
    simp at hj
    subst hj
    exact hb
  · rw [List.getElem?_eq_none (by simp; omega)] at hj
    cases hj
theorem Bls.all {P : Nat → Prop} {i : Nat} {acc : List V} (h : Bls (fun j b => b = true ↔ P j) i acc) : ∃ bs : List Bool, acc = bs.map V.bl ∧ (bs.all id = true ↔ ∀ j, j < i → P j) := by
  obtain ⟨bs, h1, h2, h3⟩ := h
  refine ⟨bs, h1, ?_⟩
  rw [List.all_eq_true]
  constructor
  · intro h j hj
    have hj' : j < bs.length := by omega
    exact (h3 j _ (List.getElem?_eq_getElem hj')).mp (h _ (List.getElem_mem hj'))
  · intro h b hb
    obtain ⟨j, hj, rfl⟩ := List.mem_iff_getElem.mp hb
    exact (h3 j _ (List.getElem?_eq_getElem hj)).mpr (h j (by omega))
theorem Bls.any {P : Nat → Prop} {i : Nat} {acc : List V} (h : Bls (fun j b => b = true ↔ P j) i acc) : ∃ bs : List Bool, acc = bs.map V.bl ∧ (bs.any id = true ↔ ∃ j, j < i ∧ P j) := by
  obtain ⟨bs, h1, h2, h3⟩ := h
  refine ⟨bs, h1, ?_⟩
  rw [List.any_eq_true]
  constructor
  · rintro ⟨b, hb, hb2⟩
    obtain ⟨j, hj, rfl⟩ := List.mem_iff_getElem.mp hb
    exact ⟨j, by omega, (h3 j _ (List.getElem?_eq_getElem hj)).mp hb2⟩
  · rintro ⟨j, hj, hP⟩
    have hj' : j < bs.length := by omega
    exact ⟨_, List.getElem_mem hj', (h3 j _ (List.getElem?_eq_getElem hj')).mpr hP⟩
theorem Off.fresh {p q : Addr} {H H' : Hp} {o : HO} (h : Off p H H') (hp : H' p = some o) (hq : H' q = none) : H q = none := by
  cases e : H q with
  | none => rfl
  | some u =>
    by_cases hqp : q = p
    · rw [hqp, hp] at hq; cases hq
    · rw [h q u e hqp] at hq; cases hq
/-! ### fields stored -/
section
variable {K : PySem.W.Frag} {ta tv : TE} {f : Str} {D : Ends} {σ : L2.St} {H : Hp} {p C dx : Addr} {ns : List Str} {vs : List V} {v : V}
/-- a new one -/
theorem st_fld (hv : ∀ Q : VK, Q v H → tv σ H Q) (ho : ∀ Q : VK, Q (.ref p) H → ta σ H Q) (hp : H p = some (.ins C dx (fz ns vs))) (cl : Cls K C) (na : NoAttr K C f) (hnd : ns.Nodup) (hi : ns[vs.length]? = some f) (hl : ns.length < 1000)
    (k : ∀ H', Off p H H' → H' p = some (.ins C dx (fz ns (vs ++ [v]))) → D.nx σ H') : sFld K ta tv f D σ H := by
  refine hv _ (ho _ ⟨p, C, dx, _, rfl, hp, cl, na, fz_len hl, k _ Off.put ?_⟩)
  rw [upd_same, fz_new hnd hi]
/-- one that is there -/
theorem st_fldU {i : Nat} (hv : ∀ Q : VK, Q v H → tv σ H Q) (ho : ∀ Q : VK, Q (.ref p) H → ta σ H Q) (hp : H p = some (.ins C dx (fz ns vs))) (cl : Cls K C) (na : NoAttr K C f) (hnd : ns.Nodup) (hi : ns[i]? = some f) (hl : ns.length < 1000) (hiv : i < vs.length)
    (k : ∀ H', Off p H H' → H' p = some (.ins C dx (fz ns (vs.set i v))) → D.nx σ H') : sFld K ta tv f D σ H := by
  refine hv _ (ho _ ⟨p, C, dx, _, rfl, hp, cl, na, fz_len hl, k _ Off.put ?_⟩)
  rw [upd_same, fz_set hnd hi hiv]
/-- .. with something behind -/
theorem q_fld {u : TS} (hv : ∀ Q : VK, Q v H → tv σ H Q) (ho : ∀ Q : VK, Q (.ref p) H → ta σ H Q) (hp : H p = some (.ins C dx (fz ns vs))) (cl : Cls K C) (na : NoAttr K C f) (hnd : ns.Nodup) (hi : ns[vs.length]? = some f) (hl : ns.length < 1000)
    (k : ∀ H', Off p H H' → H' p = some (.ins C dx (fz ns (vs ++ [v]))) → u D σ H') : tSeq (sFld K ta tv f) u D σ H := st_fld (D := { D with nx := u D }) hv ho hp cl na hnd hi hl k
theorem q_fldU {u : TS} {i : Nat} (hv : ∀ Q : VK, Q v H → tv σ H Q) (ho : ∀ Q : VK, Q (.ref p) H → ta σ H Q) (hp : H p = some (.ins C dx (fz ns vs))) (cl : Cls K C) (na : NoAttr K C f) (hnd : ns.Nodup) (hi : ns[i]? = some f) (hl : ns.length < 1000) (hiv : i < vs.length)
    (k : ∀ H', Off p H H' → H' p = some (.ins C dx (fz ns (vs.set i v))) → u D σ H') : tSeq (sFld K ta tv f) u D σ H := st_fldU (D := { D with nx := u D }) hv ho hp cl na hnd hi hl hiv k
theorem fld_put {u : Hp → Prop} (hnd : ns.Nodup) (hi : ns[vs.length]? = some f) (k : ∀ H', Off p H H' → H' p = some (.ins C dx (fz ns (vs ++ [v]))) → u H') : u (upd H p (.ins C dx (putF f v (fz ns vs)))) := by
  refine k _ Off.put ?_
  rw [upd_same, fz_new hnd hi]
theorem fld_set {u : Hp → Prop} {i : Nat} (hnd : ns.Nodup) (hi : ns[i]? = some f) (hiv : i < vs.length) (k : ∀ H', Off p H H' → H' p = some (.ins C dx (fz ns (vs.set i v))) → u H') : u (upd H p (.ins C dx (putF f v (fz ns vs)))) := by
  refine k _ Off.put ?_
  rw [upd_same, fz_set hnd hi hiv]
/-- the end of an if without else -/
theorem iteFn {t : L2.St → Hp → Prop} {r b c} {σ : L2.St} {H : Hp} {A : Prop} (h : t σ H) : if false = true then A else tNext ⟨t, r, b, c⟩ σ H := iteF h
theorem nxT {t : L2.St → Hp → Prop} {r b c} {σ : L2.St} {H : Hp} (h : t σ H) : tNext ⟨t, r, b, c⟩ σ H := h
theorem nxS {t : L2.St → Hp → Prop} {r b c} {σ : L2.St} {H : Hp} (h : t σ H) : Ends.nx ⟨t, r, b, c⟩ σ H := h
end
theorem fz_nil {ns : List Str} : ([] : List (Str × V)) = fz ns [] := by
  cases ns <;> rfl
/-! ### edges as they stand -/
def eL (e : Edge) : List Int := [e.1, e.2.1, e.2.2]
theorem eL_inj {e f : Edge} (h : eL e = eL f) : e = f := by
  obtain ⟨a, b, c⟩ := e
  obtain ⟨x, y, z⟩ := f
  simp only [eL, List.cons.injEq] at h
  obtain ⟨rfl, rfl, rfl, _⟩ := h
  rfl
theorem ks_of {H : Hp} : ∀ {es : List V} {ed : List Edge}, IsL H es (ed.map eD) → ∃ ks : List (Addr × Edge), es = ks.map (fun p => V.ref p.1) ∧ ks.map (·.2) = ed ∧ ∀ p ∈ ks, H p.1 = some (.tup ((eL p.2).map V.int))
  | es, [], h => by
    cases IsL.nil_iff.mp h
    exact ⟨[], rfl, rfl, fun p hp => nomatch hp⟩
  | es, e :: ed, h => by
    obtain ⟨v, r, rfl, h1, h2⟩ := IsL.cons_iff.mp h
    obtain ⟨a, rfl, ha⟩ := Is.edge_iff.mp h1
    obtain ⟨ks, rfl, rfl, h3⟩ := ks_of h2
    refine ⟨(a, e) :: ks, rfl, rfl, fun p hp => ?_⟩
    rcases List.mem_cons.mp hp with z | z
    · rw [z]; exact ha
    · exact h3 p z
theorem isL_of {H : Hp} : ∀ {ks : List (Addr × Edge)}, (∀ p ∈ ks, H p.1 = some (.tup ((eL p.2).map V.int))) → IsL H (ks.map fun p => V.ref p.1) ((ks.map (·.2)).map eD)
  | [], _ => .nil
  | p :: ks, h => .cons (Is.edge_iff.mpr ⟨p.1, rfl, h p List.mem_cons_self⟩) (isL_of fun q hq => h q (List.mem_cons_of_mem _ hq))
theorem lift_list {α β : Type} {f : α → β} {ks : List α} : ∀ {L : List β}, (∀ p ∈ L, ∃ q ∈ ks, f q = p) → ∃ L0 : List α, L0.map f = L ∧ ∀ q ∈ L0, q ∈ ks
  | [], _ => ⟨[], rfl, fun _ h => nomatch h⟩
  | p :: L, h => by
    obtain ⟨q, h1, h2⟩ := h p List.mem_cons_self
    obtain ⟨L0, h3, h4⟩ := lift_list fun r hr => h r (List.mem_cons_of_mem _ hr)
    refine ⟨q :: L0, by rw [List.map_cons, h2, h3], fun r hr => ?_⟩
    rcases List.mem_cons.mp hr with z | z
    · rw [z]; exact h1
    · exact h4 r z
open Classical in
/-- H without the addresses of O -/
noncomputable def minus (H : Hp) (O : Addr → Prop) : Hp := fun q => if O q then none else H q
theorem minus_ex (H : Hp) (O : Addr → Prop) : Ex (minus H O) H := fun q o h => by
  unfold minus at h
  split at h
  · cases h
  · exact h
theorem minus_at {H : Hp} {O : Addr → Prop} {q : Addr} (h : O q) : minus H O q = none := if_pos h
theorem minus_ne {H : Hp} {O : Addr → Prop} {q : Addr} (h : ¬ O q) : minus H O q = H q := if_neg h
section
variable {κ : Type} [DecidableEq κ]
def Own (d : Addr) (kvs : List (κ × V)) (q : Addr) : Prop := q = d ∨ ∃ k, valV kvs k = some (.ref q)
theorem DL.own0 {mk : List (κ × V) → HO} {H0 H : Hp} {d : Addr} {kvs : List (κ × V)} {L : κ → List V} (D : DL mk H0 H d kvs L) {q : Addr} (h : Own d kvs q) : H0 q = none ∧ ∃ o, H q = some o := by
  rcases h with rfl | ⟨k, hk⟩
  · exact ⟨D.d0, _, D.at_⟩
  · obtain ⟨b, e, h2, _, h4⟩ := D.ls k _ hk
    cases e
    exact ⟨h2, _, h4⟩
theorem DL.self {mk : List (κ × V) → HO} {H0 H : Hp} {d : Addr} {kvs : List (κ × V)} {L : κ → List V} (D : DL mk H0 H d kvs L) : DL mk (minus H (Own d kvs)) H d kvs L where
  at_ := D.at_
  d0 := minus_at (.inl rfl)
  ls := fun k v hv => by
    obtain ⟨b, rfl, h2, h3, h4⟩ := D.ls k v hv
    exact ⟨b, rfl, minus_at (.inr ⟨k, hv⟩), h3, h4⟩
  no := D.no
  inj := D.inj
theorem DL.back {mk : List (κ × V) → HO} {H0 H H' : Hp} {d : Addr} {kvs kvs' : List (κ × V)} {L L' : κ → List V} (e0 : Ex H0 H) (D : DL mk H0 H d kvs L) (D' : DL mk (minus H (Own d kvs)) H' d kvs' L') : DL mk H0 H' d kvs' L' :=
  D'.base fun a ha _ => by
    by_cases h : Own d kvs a
    · exact (D.own0 h).1
    · rw [minus_ne h] at ha
      exact fresh_back e0 ha
theorem DL.exb {mk : List (κ × V) → HO} {H0 H H' : Hp} {d : Addr} {kvs : List (κ × V)} {L : κ → List V} (e0 : Ex H0 H) (D : DL mk H0 H d kvs L) (e : Ex (minus H (Own d kvs)) H') : Ex H0 H' := fun q o h => by
  refine e q o ?_
  rw [minus_ne fun z => by rw [(D.own0 z).1] at h; cases h]
  exact e0 q o h
/-- what another one owns is kept -/
theorem DL.keep {mk : List (κ × V) → HO} {H0 H H' : Hp} {d : Addr} {kvs : List (κ × V)} {L : κ → List V} {O : Addr → Prop} (D : DL mk H0 H d kvs L) (e : Ex (minus H O) H') (h : ∀ q, Own d kvs q → ¬ O q) : DL mk H0 H' d kvs L where
  at_ := e _ _ (by rw [minus_ne (h d (.inl rfl))]; exact D.at_)
  d0 := D.d0
  ls := fun k v hv => by
    obtain ⟨b, rfl, h2, h3, h4⟩ := D.ls k v hv
    exact ⟨b, rfl, h2, h3, e _ _ (by rw [minus_ne (h b (.inr ⟨k, hv⟩))]; exact h4)⟩
  no := D.no
  inj := D.inj
theorem own_put {d r q : Addr} {gs : List (κ × V)} {k : κ} {H : Hp} (hr : H r = none) (h : Own d (putK gs k (.ref r)) q) : Own d gs q ∨ H q = none := by
  rcases h with rfl | ⟨j, hj⟩
  · exact .inl (.inl rfl)
  · rw [valV_put] at hj
    split at hj
    · cases hj; exact .inr hr
    · exact .inl (.inr ⟨j, hj⟩)
end
/-- d.setdefault(k, []).append(x), the keys tuples; X: what is known of x -/
theorem setdT_app {K : PySem.W.Frag} {td ty tz : TE} {E : Ends} {σ : L2.St} {H0 H : Hp} {d : Addr} {gs : List (List Key × V)} {L : List Key → List V} {k : List Key} {X : V → Hp → Prop} (D : DL HO.dT H0 H d gs L) (e0 : Ex H0 H) (hlen : gs.length < 100000) (hL : (L k).length < 100000)
    (hd : ∀ Q : VK, Q (.ref d) H → td σ H Q) (hk : ∀ Q : VK, (∀ kq, H kq = none → Q (.ref kq) (upd H kq (.tup (k.map kV)))) → ty σ H Q) (hx : ∀ H1, Tk H H1 → ∀ Q : VK, (∀ x H2, Ex H1 H2 → X x H2 → Q x H2) → tz σ H1 Q)
    (kk : ∀ x H2 H' gs', Ex H0 H' → Tk H H' → Ex (minus H (Own d gs)) H' → gs'.length ≤ gs.length + 1 → (∀ q, Own d gs' q → Own d gs q ∨ H q = none) → DL HO.dT H0 H' d gs' (pushL L k x) → X x H2 → Tk H2 H' → E.nx σ H') :
    tDrop (tBM K "list" rAppend (tSetdT td ty (tLst tNil)) (tCons tz tNil)) E σ H := by
  refine hd _ ⟨d, rfl, .inr ⟨_, .inl D.at_⟩, hk _ fun kq hkq => ⟨Nat.zero_le _, fun r hr => ?_⟩⟩
  have hnt : ∀ xs, H d ≠ some (.tup xs) := fun xs z => by rw [D.at_] at z; cases z
  have e13 : Ex H (upd (upd H kq (.tup (k.map kV))) r (.lst [])) := (Ex.new hkq).trans (Ex.new hr)
  have hr0 := fresh_back (Ex.new hkq) hr
  have hkq3 : upd (upd H kq (.tup (k.map kV))) r (.lst []) kq = some (.tup (k.map kV)) := Ex.new hr _ _ upd_same
  obtain ⟨c1, c2⟩ := D.self.core (minus_ex _ _) e13 hr0 upd_same (fun _ _ z => nomatch z) (fun _ _ z => nomatch z) k
  generalize upd (upd H kq (.tup (k.map kV))) r (.lst []) = H3 at e13 hkq3 c1 c2
  refine ⟨gs, k, kq, e13 _ _ D.at_, rfl, hkq3, lineLt hlen, fun v hv => ?_, fun hv => ?_⟩
  · obtain ⟨b, rfl, hb, c⟩ := c1 v hv
    refine ⟨.inl ⟨rfl, _, SqL.of hb⟩, hx _ (Tk.of e13) _ fun x H4 e4 hX => ?_⟩
    obtain ⟨h1, h2, h3, h4, h5⟩ := c x H4 e4
    exact ⟨b, _, x, rfl, rfl, h1, lineLt hL, kk x H4 _ gs (D.exb e0 h3) (h4.tk hnt) h3 (Nat.le_succ _) (fun q h => .inl h) (D.back e0 h2) hX h5⟩
  · obtain ⟨_, hT, hb, c⟩ := c2 hv
    refine ⟨.inl ⟨rfl, _, SqL.of hb⟩, hx _ hT _ fun x H4 e4 hX => ?_⟩
    obtain ⟨h1, h2, h3, h4, h5⟩ := c x H4 e4
    exact ⟨r, _, x, rfl, rfl, h1, lineLt (by decide), kk x H4 _ _ (D.exb e0 h3) (h4.tk hnt) h3 (length_putK _ _ _) (fun q h => own_put hr0 h) (D.back e0 h2) hX h5⟩
/-- .. the keys ints -/
theorem setdK_app {K : PySem.W.Frag} {td ty tz : TE} {E : Ends} {σ : L2.St} {H0 H : Hp} {d : Addr} {gs : List (Key × V)} {L : Key → List V} {k : Key} {X : V → Hp → Prop} (D : DL HO.dK H0 H d gs L) (e0 : Ex H0 H) (hlen : gs.length < 100000) (hL : (L k).length < 100000)
    (hd : ∀ Q : VK, Q (.ref d) H → td σ H Q) (hk : ∀ Q : VK, Q (kV k) H → ty σ H Q) (hx : ∀ H1, Tk H H1 → ∀ Q : VK, (∀ x H2, Ex H1 H2 → X x H2 → Q x H2) → tz σ H1 Q)
    (kk : ∀ x H2 H' gs', Ex H0 H' → Tk H H' → Ex (minus H (Own d gs)) H' → gs'.length ≤ gs.length + 1 → (∀ q, Own d gs' q → Own d gs q ∨ H q = none) → DL HO.dK H0 H' d gs' (pushL L k x) → X x H2 → Tk H2 H' → E.nx σ H') :
    tDrop (tBM K "list" rAppend (tDSetd td ty (tLst tNil)) (tCons tz tNil)) E σ H := by
  refine hd _ ⟨d, rfl, .inl ⟨_, .inl D.at_⟩, hk _ ⟨Nat.zero_le _, fun r hr => ?_⟩⟩
  have hnt : ∀ xs, H d ≠ some (.tup xs) := fun xs z => by rw [D.at_] at z; cases z
  have e13 : Ex H (upd H r (.lst [])) := Ex.new hr
  obtain ⟨c1, c2⟩ := D.self.core (minus_ex _ _) e13 hr upd_same (fun _ _ z => nomatch z) (fun _ _ z => nomatch z) k
  generalize upd H r (.lst []) = H3 at e13 c1 c2
  refine ⟨gs, k, e13 _ _ D.at_, rfl, lineLt hlen, fun v hv => ?_, fun hv => ?_⟩
  · obtain ⟨b, rfl, hb, c⟩ := c1 v hv
    refine ⟨.inl ⟨rfl, _, SqL.of hb⟩, hx _ (Tk.of e13) _ fun x H4 e4 hX => ?_⟩
    obtain ⟨h1, h2, h3, h4, h5⟩ := c x H4 e4
    exact ⟨b, _, x, rfl, rfl, h1, lineLt hL, kk x H4 _ gs (D.exb e0 h3) (h4.tk hnt) h3 (Nat.le_succ _) (fun q h => .inl h) (D.back e0 h2) hX h5⟩
  · obtain ⟨_, hT, hb, c⟩ := c2 hv
    refine ⟨.inl ⟨rfl, _, SqL.of hb⟩, hx _ hT _ fun x H4 e4 hX => ?_⟩
    obtain ⟨h1, h2, h3, h4, h5⟩ := c x H4 e4
    exact ⟨r, _, x, rfl, rfl, h1, lineLt (by decide), kk x H4 _ _ (D.exb e0 h3) (h4.tk hnt) h3 (length_putK _ _ _) (fun q h => own_put hr h) (D.back e0 h2) hX h5⟩
/-- all of H but g -/
def lessH (H : Hp) (g : Addr) : Hp := fun q => if q = g then none else H q
theorem lessH_ex (H : Hp) (g : Addr) : Ex (lessH H g) H := fun q o h => by
  unfold lessH at h
  split at h
  · cases h
  · exact h
theorem lessH_at {H : Hp} {g : Addr} : lessH H g g = none := if_pos rfl
theorem lessH_ne {H : Hp} {g q : Addr} (h : q ≠ g) : lessH H g q = H q := if_neg h
/-! ### dicts that stand for sets -/
section
variable {α κ : Type} [DecidableEq α] [DecidableEq κ] {f : α → κ}
def kd (f : α → κ) (ms : List α) : List (κ × V) := ms.map fun m => (f m, V.bl true)
theorem kd_len (ms : List α) : (kd f ms).length = ms.length := List.length_map ..
theorem kd_val (hf : ∀ a b, f a = f b → a = b) : ∀ (ms : List α) (m : α), valV (kd f ms) (f m) = if m ∈ ms then some (.bl true) else none
  | [], m => by rw [if_neg (by simp)]; rfl
  | x :: ms, m => by
    by_cases h : f x = f m
    · rw [show kd f (x :: ms) = (f x, V.bl true) :: kd f ms from rfl, valV_pos (p := (f x, V.bl true)) h, if_pos (by rw [hf _ _ h]; exact List.mem_cons_self)]
    · rw [show kd f (x :: ms) = (f x, V.bl true) :: kd f ms from rfl, valV_neg (p := (f x, V.bl true)) h, kd_val hf ms m]
      have hne : m ≠ x := fun z => h (z ▸ rfl)
      simp [hne]
theorem kd_put (hf : ∀ a b, f a = f b → a = b) (ms : List α) (m : α) : putK (kd f ms) (f m) (.bl true) = kd f (if m ∈ ms then ms else ms ++ [m]) := by
  by_cases h : m ∈ ms
  · rw [if_pos h]
    unfold putK
    rw [valV_any, kd_val hf, if_pos h]
    simp only [Option.isSome_some, if_true]
    unfold kd
    rw [List.map_map]
    refine List.map_congr_left fun x _ => ?_
    show (if f x = f m then (f x, V.bl true) else (f x, V.bl true)) = (f x, V.bl true)
    split <;> rfl
  · rw [if_neg h, putK_new _ (by rw [kd_val hf, if_neg h])]
    simp [kd]
theorem kd_some (hf : ∀ a b, f a = f b → a = b) (ms : List α) (m : α) : (valV (kd f ms) (f m)).isSome = decide (m ∈ ms) := by
  rw [kd_val hf]
  by_cases h : m ∈ ms
  · rw [if_pos h, decide_eq_true h]; rfl
  · rw [if_neg h, decide_eq_false h]; rfl
theorem kd_mem (hf : ∀ a b, f a = f b → a = b) (ms : List α) (m : α) : (valV (kd f ms) (f m)).isSome = true ↔ m ∈ ms := by
  rw [kd_some hf]
  exact decide_eq_true_iff
/-- the members, one more -/
def addM (ms : List α) (m : α) : List α := if m ∈ ms then ms else ms ++ [m]
theorem mem_addM {ms : List α} {m x : α} : x ∈ addM ms m ↔ x ∈ ms ∨ x = m := by
  unfold addM
  split
  · exact ⟨.inl, fun h => h.elim id fun z => z ▸ ‹_›⟩
  · simp
theorem addM_nodup {ms : List α} {m : α} (h : ms.Nodup) : (addM ms m).Nodup := by
  unfold addM
  split
  · exact h
  · rename_i hm
    exact List.nodup_append.mpr ⟨h, by simp, fun a ha b hb e => hm (by rw [← List.mem_singleton.mp hb, ← e]; exact ha)⟩
end
theorem inl_inj {a b : Int} (h : (Sum.inl a : Key) = Sum.inl b) : a = b := Sum.inl.inj h
def iK (n : Int) : Key := Sum.inl n
theorem iK_inj (a b : Int) (h : iK a = iK b) : a = b := Sum.inl.inj h
theorem eK_inj' (a b : Edge) (h : eK a = eK b) : a = b := eK_inj h
theorem inV_ints (n : Int) (ns : List Int) : inV (.int n) (ns.map V.int) = decide (n ∈ ns) := by
  unfold inV
  rw [List.any_map, Bool.eq_iff_iff, List.any_eq_true, decide_eq_true_iff]
  constructor
  · rintro ⟨x, hx, h⟩
    have : x = n := by simpa [eqV] using h
    exact this ▸ hx
  · intro h
    exact ⟨n, h, by simp [eqV]⟩
theorem flat_ints (ns : List Int) : (ns.map V.int).all flatV = true := by
  rw [List.all_eq_true]
  intro x hx
  obtain ⟨n, _, rfl⟩ := List.mem_map.mp hx
  rfl
theorem isInts {H : Hp} {a : Addr} {ns : List Int} (h : H a = some (.tup (ns.map V.int))) : Is H (.ref a) (iD ns) := Is.ints_iff.mpr ⟨a, rfl, h⟩
/-! ### rules whose readings name K -/
section
variable {X : Cx} {K : PySem.W.Frag} {e o value : Expr} {f : Str} {pos : Pos} {ta : TE} {tg : Expr}
theorem pe_fldK (hK : X.K = K) (he : PE X e ta) (hb : attributeBase e f X.env (eval e X.env) = eval e X.env) : PE X (.Attribute e f pos) (tFld K ta f) := hK ▸ pe_fld he hb
theorem ix_tupK (hK : X.K = K) : IxR X (rIxT K) := hK ▸ ix_tup
theorem ix_listK (hK : X.K = K) : IxR X (rIxL K) := hK ▸ ix_list
theorem op_in_seqK (hK : X.K = K) : OpR X (compareOp .In) (rIn K false) := hK ▸ op_in_seq
theorem pi_listK (hK : X.K = K) (hl : PE X e ta) : PI X tg e (iList K ta) := hK ▸ pi_list hl
end
/-! ### a list of data grows -/
theorem app_is {K : PySem.W.Frag} {ta tx : TE} {D : Ends} {σ : L2.St} {H0 H : Hp} {d : Addr} {fs : List V} {ds : List PD} {pd : PD} (hD : H d = some (.lst fs)) (hfs : IsL H fs ds) (hl : ds.length < 100000) (e0 : Ex H0 H) (h0 : H0 d = none)
    (hd : ∀ Q : VK, Q (.ref d) H → ta σ H Q) (hx : ∀ Q : VK, (∀ x H1, Ex H H1 → Is H1 x pd → Q x H1) → tx σ H Q)
    (k : ∀ H' fs', Ex H0 H' → Off d H H' → Tk H H' → H' d = some (.lst fs') → IsL H' fs' (ds ++ [pd]) → D.nx σ H') : tDrop (tBM K "list" rAppend ta (tCons tx tNil)) D σ H := by
  refine hd _ ⟨.inl ⟨rfl, _, SqL.of hD⟩, hx _ fun x H1 e1 hX => ⟨d, fs, x, rfl, rfl, e1 _ _ hD, lineLt (by rw [hfs.len]; exact hl), ?_⟩⟩
  have tk1 : Tk H1 (upd H1 d (.lst (fs ++ [x]))) := Tk.wr (e1 _ _ hD) fun _ q => nomatch q
  exact k _ (fs ++ [x]) (Ex.mut (e0.trans e1) h0) ((Off.of e1).trans Off.put) ((Tk.of e1).trans tk1) upd_same ((hfs.mono ((Tk.of e1).trans tk1)).app (.cons (hX.mono tk1) .nil))
theorem isEdge {H : Hp} {u : Addr} {e : Edge} (h : H u = some (.tup [.int e.1, .int e.2.1, .int e.2.2])) : Is H (.ref u) (eD e) := Is.edge_iff.mpr ⟨u, rfl, h⟩
/-- a list of ints grows -/
theorem app_int {K : PySem.W.Frag} {ta tx : TE} {D : Ends} {σ : L2.St} {H0 H : Hp} {d : Addr} {ns : List Int} {n : Int} (hD : H d = some (.lst (ns.map V.int))) (hl : ns.length < 100000) (e0 : Ex H0 H) (h0 : H0 d = none)
    (hd : ∀ Q : VK, Q (.ref d) H → ta σ H Q) (hx : ∀ Q : VK, (∀ H1, Ex H H1 → Q (.int n) H1) → tx σ H Q)
    (k : ∀ H', Ex H0 H' → Off d H H' → Tk H H' → H' d = some (.lst ((ns ++ [n]).map V.int)) → D.nx σ H') : tDrop (tBM K "list" rAppend ta (tCons tx tNil)) D σ H := by
  refine hd _ ⟨.inl ⟨rfl, _, SqL.of hD⟩, hx _ fun H1 e1 => ⟨d, _, _, rfl, rfl, e1 _ _ hD, lineLt (by rw [List.length_map]; exact hl), ?_⟩⟩
  have tk1 : Tk H1 (upd H1 d (.lst (ns.map V.int ++ [V.int n]))) := Tk.wr (e1 _ _ hD) fun _ q => nomatch q
  exact k _ (Ex.mut (e0.trans e1) h0) ((Off.of e1).trans Off.put) ((Tk.of e1).trans tk1) (by rw [upd_same, List.map_append]; rfl)
end Zp
set_option maxRecDepth 100000
set_option maxHeartbeats 8000000
namespace Zp
open PySem L2 Zs Evl Pr
/-! ### nets -/
def nsNet : List Str := ["states", "letters", "nodes", "edges", "ends", "_goals"]
theorem ndNet : nsNet.Nodup := by decide +kernel
/-- the goals of an edge list by node and letter -/
def Lof (ed : List Edge) (k : List Key) : List V := (ed.filter fun e => decide (pK e.1 e.2.1 = k)).map fun e => V.int e.2.2
theorem Lof_snoc (ed : List Edge) (e : Edge) : Lof (ed ++ [e]) = pushL (Lof ed) (pK e.1 e.2.1) (.int e.2.2) := by
  funext k
  unfold Lof pushL
  by_cases h : k = pK e.1 e.2.1
  · subst h
    simp [Lof]
  · simp [Lof, h, Ne.symm h]
theorem Lof_len (ed : List Edge) (k : List Key) : (Lof ed k).length ≤ ed.length := by
  unfold Lof
  rw [List.length_map]
  exact List.length_filter_le _ _
theorem Lof_ints (ed : List Edge) (n l : Int) : ∃ xs : List Int, Lof ed (pK n l) = xs.map V.int ∧ (∀ g, g ∈ xs ↔ (n, l, g) ∈ ed) ∧ xs.length ≤ ed.length := by
  refine ⟨(ed.filter fun e => decide (pK e.1 e.2.1 = pK n l)).map (·.2.2), by simp [Lof], fun g => ?_, by rw [List.length_map]; exact List.length_filter_le _ _⟩
  simp only [List.mem_map, List.mem_filter, decide_eq_true_eq]
  constructor
  · rintro ⟨⟨a, b, c⟩, ⟨h1, h2⟩, rfl⟩
    obtain ⟨rfl, rfl⟩ := pK_inj h2
    exact h1
  · intro h
    exact ⟨_, ⟨h, rfl⟩, rfl⟩
structure NetIs (C : Addr) (H : Hp) (p : Addr) (N : NetD) (dx a b g : Addr) (es : List V) (gs : List (List Key × V)) : Prop where
  ob : H p = some (.ins C dx (fz nsNet [.int N.st, .int N.lt, .int N.nd, .ref a, .ref b, .ref g]))
  ea : H a = some (.tup es)
  el : IsL H es (N.ed.map eD)
  nb : H b = some (.tup (N.en.map V.int))
  gd : H g = some (.dT gs)
  go : DR H gs (Lof N.ed)
  ok : NetOk N
  szE : N.ed.length < 4000
  szN : N.en.length < 4000
def NetAt (C : Addr) (H : Hp) (p : Addr) (N : NetD) : Prop := ∃ dx a b g es gs, NetIs C H p N dx a b g es gs
theorem NetIs.mono {C : Addr} {H H' : Hp} {p : Addr} {N : NetD} {dx a b g : Addr} {es : List V} {gs : List (List Key × V)} (e : Ex H H') (h : NetIs C H p N dx a b g es gs) : NetIs C H' p N dx a b g es gs where
  ob := e _ _ h.ob
  ea := e _ _ h.ea
  el := h.el.mono (Tk.of e)
  nb := e _ _ h.nb
  gd := e _ _ h.gd
  go := h.go.mono e
  ok := h.ok
  szE := h.szE
  szN := h.szN
theorem NetAt.mono {C : Addr} {H H' : Hp} {p : Addr} {N : NetD} (e : Ex H H') : NetAt C H p N → NetAt C H' p N := fun ⟨dx, a, b, g, es, gs, h⟩ => ⟨dx, a, b, g, es, gs, h.mono e⟩
/-- in range -/
def Rg (lt nd : Int) (e : Edge) : Prop := (0 ≤ e.1 ∧ e.1 < nd) ∧ (0 ≤ e.2.1 ∧ e.2.1 < lt) ∧ (0 ≤ e.2.2 ∧ e.2.2 < nd)
section
variable {P : Program} {w : World} {K : PySem.W.Frag} {mg : Str → Option Value} {base : Heap}
def sp_fits_net (T : Txt K mg) : Sp := fun vs H Q _ => ∃ (v : V) (e : Edge) (lt nd : Int), vs = [v, .int lt, .int nd] ∧ Is H v (eD e) ∧ ∀ b : Bool, (b = true ↔ Rg lt nd e) → Q (.bl b) H
theorem ok_fits_net (T : Txt K mg) : FnOk P w K mg base CX0 1 T.f.fits_net.f T.f.fits_net.fd ["edge", "letters", "nodes"] (sp_fits_net T) := by
  refine T.f.fits_net.F.ok sc_fits_net (fun vs H Q E h => ?_) (fun cdv A outer s H vs Q E hr h => ?_)
  · obtain ⟨v, e, lt, nd, rfl, _⟩ := h
    rfl
  · obtain ⟨v, e, lt, nd, rfl, hv, k⟩ := h
    obtain ⟨a, rfl, ha⟩ := Is.edge_iff.mp hv
    have hu := hu_of hr
    have hnd := sc_fits_net.nd
    refine ⟨_, (pss_one (ps_ret (pe_and (pe_chain op_le op_lt (pe_int) (pe_ix (ix_tupK (K := K) rfl) (L2.pv 0) (pe_int) (fun _ _ => rfl)) (L2.pv 2)) (pe_and (pe_chain op_le op_lt (pe_int) (pe_ix (ix_tupK (K := K) rfl) (L2.pv 0) (pe_int) (fun _ _ => rfl)) (L2.pv 1)) (pe_one (pe_chain op_le op_lt (pe_int) (pe_ix (ix_tupK (K := K) rfl) (L2.pv 0) (pe_int) (fun _ _ => rfl)) (L2.pv 2))))))), ?_⟩
    refine ⟨_, rfl, a, _, _, _, rfl, rfl, SqT.of ha, rfl, _, _, rfl, rfl, _, rfl, ?_⟩
    have hf : ¬ Rg lt nd e → Q (.bl false) H := fun z => k false ⟨fun q => (nomatch q), fun q => (z q).elim⟩
    refine iteD (fun h1 => ?_) fun h1 => ⟨_, rfl, iteF (hf fun z => h1 z.1.1)⟩
    refine ⟨_, rfl, _, _, rfl, rfl, _, rfl, ?_⟩
    refine iteD (fun h2 => ?_) fun h2 => hf fun z => h2 z.1.2
    refine ⟨_, rfl, a, _, _, _, rfl, rfl, SqT.of ha, rfl, _, _, rfl, rfl, _, rfl, ?_⟩
    refine iteD (fun h3 => ?_) fun h3 => ⟨_, rfl, iteF (hf fun z => h3 z.2.1.1)⟩
    refine ⟨_, rfl, _, _, rfl, rfl, _, rfl, ?_⟩
    refine iteD (fun h4 => ?_) fun h4 => hf fun z => h4 z.2.1.2
    refine ⟨_, rfl, a, _, _, _, rfl, rfl, SqT.of ha, rfl, _, _, rfl, rfl, _, rfl, ?_⟩
    refine iteD (fun h5 => ?_) fun h5 => hf fun z => h5 z.2.2.1
    refine ⟨_, rfl, _, _, rfl, rfl, k _ ⟨fun z => ⟨⟨h1, h2⟩, ⟨h3, h4⟩, h5, of_decide_eq_true z⟩, fun z => decide_eq_true z.2.2.2⟩⟩
def sp_Net_init (T : Txt K mg) : Sp := fun vs H Q _ => ∃ (p dx a b : Addr) (N : NetD) (es : List V), vs = [.ref p, .int N.st, .int N.lt, .int N.nd, .ref a, .ref b] ∧ H p = some (.ins T.cNet.C dx []) ∧
  SeqAt H a es ∧ IsL H es (N.ed.map eD) ∧ SeqAt H b (N.en.map V.int) ∧ NetOk N ∧ N.ed.length < 4000 ∧ N.en.length < 4000 ∧
  ∀ (N' : NetD) (H' : Hp), N'.st = N.st → N'.lt = N.lt → N'.nd = N.nd → (∀ e, e ∈ N'.ed ↔ e ∈ N.ed) → (∀ e, e ∈ N'.en ↔ e ∈ N.en) → N'.ed.length ≤ N.ed.length → N'.en.length ≤ N.en.length → NetAt T.cNet.C H' p N' → Off p H H' → Q .non H'
set_option maxHeartbeats 0 in
theorem ok_Net_init (T : Txt K mg) : FnOk P w K mg base CX0 2 T.cNet.init.f T.cNet.init.fd ["self", "states", "letters", "nodes", "edges", "ends"] (sp_Net_init T) := by
  refine T.cNet.init.F.ok sc_Net_init (fun vs H Q E h => ?_) (fun cdv A outer s H vs Q E hr h => ?_)
  · obtain ⟨p, dx, a, b, N, es, rfl, _⟩ := h
    rfl
  · obtain ⟨p, dx, a, b, N, es, rfl, hp, ha, hes, hb, hok, hl1, hl2, k⟩ := h
    have hu := hu_of hr
    have hnd := sc_Net_init.nd
    refine ⟨_, (pss_cons (ps_if (PW.pt (pw_or (pt_cmpR op_lt (L2.pv 1) (pe_int) (nomark _)) (pw_or (pt_cmpR op_lt (L2.pv 2) (pe_int) (nomark _)) (pw_or1 (pt_cmpR op_lt (L2.pv 3) (L2.pv 1) (nomark _)))))) (pss_one (ps_never)) pss_nil)
    (pss_cons (ps_if (PW.pt (pw_or (pt_not (pt_val (pe_callB (cr_all rfl) (by rfl) T.b.all (by decide +kernel) (pa_cons (pe_lc (own := [("edge", 6)]) (g := (gName 6)) (tt := tYes) rfl hnd (pi_either (pi_list (L2.pv 4)) (pi_tup (L2.pv 4))) (blkOk_by (own := [("edge", 6)]) (N := nm_Net_init) (sc := defScope s_Net_init) (by decide +kernel)) (fun _ _ _ _ _ => (pg_name (i := 6) hnd rfl (by first | exact Or.inl rfl | exact Or.inr rfl))) (fun _ _ _ _ _ => pts_nil) (fun _ _ _ _ _ => (pe_call (ok_fits_net T) (hr.mono (by decide)) (by rfl) T.f.g_fits_net T.f.fits_net.F.kp T.f.fits_net.b .nil pass0 (pa_cons (L2.pv 6) (pa_cons (L2.pv 2) (pa_cons (L2.pv 3) pa_nil)))))) pa_nil)))) (pw_or1 (pt_not (pt_val (pe_callB (cr_all rfl) (by rfl) T.b.all (by decide +kernel) (pa_cons (pe_lc (own := [("end", 7)]) (g := (gName 7)) (tt := tYes) rfl hnd (pi_either (pi_list (L2.pv 5)) (pi_tup (L2.pv 5))) (blkOk_by (own := [("end", 7)]) (N := nm_Net_init) (sc := defScope s_Net_init) (by decide +kernel)) (fun _ _ _ _ _ => (pg_name (i := 7) hnd rfl (by first | exact Or.inl rfl | exact Or.inr rfl))) (fun _ _ _ _ _ => pts_nil) (fun _ _ _ _ _ => (pe_chain op_le op_lt (pe_int) (L2.pv 7) (L2.pv 3)))) pa_nil))))))) (pss_one (ps_never)) pss_nil)
    (pss_cons (ps_fld (L2.pv 0) (L2.pv 1) rfl)
    (pss_cons (ps_fld (L2.pv 0) (L2.pv 2) rfl)
    (pss_cons (ps_fld (L2.pv 0) (L2.pv 3) rfl)
    (pss_cons (ps_fld (L2.pv 0) (pe_callTy call_tuple_of (by rfl) T.b.tuple (by decide +kernel) (pa_cons (pe_callB (cr_sortT rfl) (by rfl) T.b.sorted (by decide +kernel) (pa_cons (pe_callTy (cr_setT rfl hr.units) (by rfl) T.b.set (by decide +kernel) (pa_cons (L2.pv 4) pa_nil)) pa_nil)) pa_nil)) rfl)
    (pss_cons (ps_fld (L2.pv 0) (pe_callTy call_tuple_of (by rfl) T.b.tuple (by decide +kernel) (pa_cons (pe_callB (cr_sortI rfl) (by rfl) T.b.sorted (by decide +kernel) (pa_cons (pe_callTy (cr_setI rfl hr.units) (by rfl) T.b.set (by decide +kernel) (pa_cons (L2.pv 5) pa_nil)) pa_nil)) pa_nil)) rfl)
    (pss_cons (ps_fld (L2.pv 0) (pe_dnewT) rfl)
    (pss_one (ps_for PassesOwn.never rfl (pi_tup (pe_fldK (K := K) rfl (L2.pv 0) rfl)) (pg_tup rfl (pgs_cons (pg_name (i := 8) hnd rfl (by first | exact Or.inl rfl | exact Or.inr rfl)) (pgs_cons (pg_name (i := 9) hnd rfl (by first | exact Or.inl rfl | exact Or.inr rfl)) (pgs_cons (pg_name (i := 10) hnd rfl (by first | exact Or.inl rfl | exact Or.inr rfl)) pgs_nil))))
      (pss_one (ps_expr (pe_bm PySem.F.plainAttrs_list PySem.F.slot_list_append PySem.F.type_list_append mt_append (pe_setdT hu (pe_fldK (K := K) rfl (L2.pv 0) rfl) (pe_tup (pa_cons (L2.pv 8) (pa_cons (L2.pv 9) pa_nil))) (pe_lst pa_nil) ⟨rfl, rfl, rfl, rfl⟩) (pa_cons (L2.pv 10) pa_nil)))))))))))))), ?_⟩
    -- states, letters, nodes
    refine ⟨_, rfl, _, _, rfl, rfl, _, rfl, iteD (fun z => absurd hok.st (by omega)) fun _ => ?_⟩
    refine ⟨_, rfl, _, _, rfl, rfl, _, rfl, iteD (fun z => absurd hok.lt (by omega)) fun _ => ?_⟩
    refine ⟨_, rfl, _, rfl, _, _, rfl, rfl, _, rfl, iteD (fun z => absurd hok.nd (by omega)) fun _ => ?_⟩
    -- all([fits_net(edge, letters, nodes) for edge in edges])
    refine either_of ha (fun Q z => ⟨_, rfl, z⟩) fun J G hG hw D hD => ?_
    refine lcR hw hD (by have := hes.len; rw [List.length_map] at this; omega) hG (fun i acc _ => Bls (fun _ b => b = true ↔ True) i acc) (fun _ _ _ _ _ _ z => z) .nil ?_ ?_
    · rintro i acc x H1 H2 B B' hi hl e1 hD1 r ⟨rfl, hx⟩ kB _
      obtain ⟨d, hd, hv⟩ := hes.get hx
      rw [List.getElem?_map] at hd
      obtain ⟨ed, he, rfl⟩ := Option.map_eq_some_iff.mp hd
      refine ⟨rfl, ⟨_, rfl, _, rfl, _, rfl, x, ed, N.lt, N.nd, rfl, hv.mono (Tk.of e1), fun b hb => kB _ _ (Ex.refl _) (r.snoc (hb.trans ⟨fun _ => trivial, fun _ => ?_⟩))⟩⟩
      exact hok.ed ed (List.mem_of_getElem? he)
    · intro acc H1 e1 hD1 _ r
      obtain ⟨bs, rfl, hbs⟩ := r.all
      refine ⟨D, bs, rfl, SqL.of hD1, _, rfl, ?_⟩
      rw [hbs.mpr fun _ _ => trivial]
      refine iteF ?_
      -- all([0 <= end < nodes for end in ends])
      refine either_of (hb.mono e1) (fun Q z => ⟨_, rfl, z⟩) fun J2 G2 hG2 hw2 D2 hD2 => ?_
      refine lcR hw2 hD2 (by rw [List.length_map]; omega) hG2 (fun i acc _ => Bls (fun _ b => b = true ↔ True) i acc) (fun _ _ _ _ _ _ z => z) .nil ?_ ?_
      · rintro i acc x H2 H3 B B' hi hl e2 hD3 r2 ⟨rfl, hx⟩ kB _
        rw [List.getElem?_map] at hx
        obtain ⟨en, he, rfl⟩ := Option.map_eq_some_iff.mp hx
        have hr := hok.en en (List.mem_of_getElem? he)
        refine ⟨rfl, ⟨_, rfl, _, _, rfl, rfl, _, rfl, iteD (fun _ => ⟨_, rfl, _, _, rfl, rfl, ?_⟩) fun z => absurd hr.1 z⟩⟩
        exact kB _ _ (Ex.refl _) (r2.snoc ⟨fun _ => trivial, fun _ => decide_eq_true hr.2⟩)
      · intro acc2 H2 e2 hD3 _ r2
        obtain ⟨bs2, rfl, hbs2⟩ := r2.all
        refine ⟨D2, bs2, rfl, SqL.of hD3, _, rfl, ?_⟩
        rw [hbs2.mpr fun _ _ => trivial]
        refine iteFn ?_
        have e12 := e1.trans e2
        have hp2 := e12 _ _ hp
        rw [fz_nil (ns := nsNet)] at hp2
        refine q_fld (fun Q z => ⟨_, rfl, z⟩) (fun Q z => ⟨_, rfl, z⟩) hp2 T.cNet.cl T.cNet.n_states ndNet rfl (by decide) fun H3 o3 hp3 => ?_
        refine q_fld (fun Q z => ⟨_, rfl, z⟩) (fun Q z => ⟨_, rfl, z⟩) hp3 T.cNet.cl T.cNet.n_letters ndNet rfl (by decide) fun H4 o4 hp4 => ?_
        refine q_fld (fun Q z => ⟨_, rfl, z⟩) (fun Q z => ⟨_, rfl, z⟩) hp4 T.cNet.cl T.cNet.n_nodes ndNet rfl (by decide) fun H5 o5 hp5 => ?_
        have o25 := ((Off.of (p := p) e12).trans o3).trans (o4.trans o5)
        have nap : a ≠ p := by
          rcases ha with z | z <;> exact ne_of z hp (by intro q; cases q)
        have nbp : b ≠ p := by
          rcases hb with z | z <;> exact ne_of z hp (by intro q; cases q)
        have ha5 : SeqAt H5 a es := ha.imp (fun z => o25 _ _ z nap) fun z => o25 _ _ z nap
        have hb5 : SeqAt H5 b (N.en.map V.int) := hb.imp (fun z => o25 _ _ z nbp) fun z => o25 _ _ z nbp
        have hes5 := hes.mono (o25.tk (p := p) (by rw [hp]; intro xs q; cases q))
        obtain ⟨ks, rfl, hked, hks⟩ := ks_of hes5
        -- self.edges = tuple(sorted(set(edges)))
        refine ⟨_, rfl, a, ks.map (fun q => (q.1, eL q.2)), rfl, ?_, ?_, ?_, fun z L hz hL1 hL2 hL3 => ?_⟩
        · rw [List.map_map]; exact ha5.imp SqL.of SqT.of
        · intro q hq
          obtain ⟨r, hr1, rfl⟩ := List.mem_map.mp hq
          exact SqT.of (hks r hr1)
        · rw [List.length_map]
          have : ks.length = N.ed.length := by rw [← hked, List.length_map]
          omega
        refine ⟨z, L, 3, rfl, upd_same, fun q hq => ?_, by decide, fun L' y hL' hy => ?_⟩
        · obtain ⟨r, hr1, rfl⟩ := List.mem_map.mp (hL1 q hq)
          exact ⟨SqT.of (Ex.new hz _ _ (hks r hr1)), rfl⟩
        obtain ⟨L0, rfl, hL0⟩ := lift_list (f := fun q : Addr × Edge => (q.1, eL q.2)) (ks := ks) (L := L') fun q hq => List.mem_map.mp (hL1 q (hL'.mem_iff.mp hq))
        refine ⟨y, _, rfl, .inl ⟨SqL.of upd_same, fun t ht => ?_⟩⟩
        generalize hX6 : upd (upd (upd H5 z _) y _) t _ = H6
        have e56 : Ex H5 H6 := by rw [← hX6]; exact (Ex.new hz).trans ((Ex.new hy).trans (Ex.new ht))
        have hs6 : H6 t = some (.tup ((L0.map (fun q : Addr × Edge => (q.1, eL q.2))).map fun q => V.ref q.1)) := by rw [← hX6]; exact upd_same
        clear hX6
        refine ⟨_, rfl, p, _, _, _, rfl, e56 _ _ hp5, T.cNet.cl, T.cNet.n_edges, fz_len (by decide), fld_put ndNet rfl fun H7 o7 hp7 => ?_⟩
        have o57 := (Off.of (p := p) e56).trans o7
        have hb7 : SeqAt H7 b (N.en.map V.int) := hb5.imp (fun z => o57 _ _ z nbp) fun z => o57 _ _ z nbp
        -- self.ends = tuple(sorted(set(ends)))
        refine ⟨_, rfl, b, N.en, rfl, hb7.imp SqL.of SqT.of, hl2, fun z2 ms hz2 hm1 hm2 hm3 => ⟨z2, ms, rfl, upd_same, fun ns y2 hns hy2 => ⟨y2, _, rfl, .inl ⟨SqL.of upd_same, fun t2 ht2 => ?_⟩⟩⟩⟩
        generalize hX8 : upd (upd (upd H7 z2 _) y2 _) t2 _ = H8
        have e78 : Ex H7 H8 := by rw [← hX8]; exact (Ex.new hz2).trans ((Ex.new hy2).trans (Ex.new ht2))
        have hs8 : H8 t2 = some (.tup (ns.map V.int)) := by rw [← hX8]; exact upd_same
        clear hX8
        refine ⟨_, rfl, p, _, _, _, rfl, e78 _ _ hp7, T.cNet.cl, T.cNet.n_ends, fz_len (by decide), fld_put ndNet rfl fun H9 o9 hp9 => ?_⟩
        have o79 := (Off.of (p := p) e78).trans o9
        -- self._goals = {}
        intro g hg
        have eg := Ex.new (o := .dT []) hg
        refine ⟨_, rfl, p, _, _, _, rfl, eg _ _ hp9, T.cNet.cl, T.cNet.n__goals, fz_len (by decide), fld_put ndNet rfl fun H11 o11 hp11 => ?_⟩
        have hgp : g ≠ p := fun q => by rw [q, hp9] at hg; cases hg
        have hg11 : H11 g = some (.dT []) := o11 _ _ upd_same hgp
        have o911 : Off p H9 H11 := (Off.of eg).trans o11
        have o711 := o79.trans o911
        rw [List.map_map] at hs6
        have tp : t ≠ p := ne_of hs6 (e56 _ _ hp5) (by intro q; cases q)
        have t2p : t2 ≠ p := ne_of hs8 (e78 _ _ hp7) (by intro q; cases q)
        have ht11 : H11 t = some (.tup (L0.map fun q => V.ref q.1)) := o711 _ _ (o7 _ _ hs6 tp) tp
        have ht211 : H11 t2 = some (.tup (ns.map V.int)) := o911 _ _ (o9 _ _ hs8 t2p) t2p
        have tk5 : Tk H5 H11 := (o57.trans o711).tk (by rw [hp5]; intro xs q; cases q)
        have hLe : ∀ q ∈ L0, H11 q.1 = some (.tup ((eL q.2).map V.int)) := fun q hq => tk5 _ _ (hks q (hL0 q hq))
        have hmem : ∀ e, e ∈ L0.map (·.2) ↔ e ∈ N.ed := fun e => by
          rw [← hked]
          constructor
          · intro he
            obtain ⟨q, hq, rfl⟩ := List.mem_map.mp he
            exact List.mem_map.mpr ⟨q, hL0 q hq, rfl⟩
          · intro he
            obtain ⟨q, hq, rfl⟩ := List.mem_map.mp he
            obtain ⟨r, hr1, hr2⟩ := List.mem_map.mp (hL2 _ (List.mem_map.mpr ⟨q, hq, rfl⟩))
            obtain ⟨u, hu, rfl⟩ := List.mem_map.mp (hL'.mem_iff.mpr hr1)
            exact List.mem_map.mpr ⟨u, hu, eL_inj hr2⟩
        have hlen1 : L0.length ≤ N.ed.length := by
          have h1 := hL'.length_eq
          rw [List.length_map] at h1 hL3
          have : ks.length = N.ed.length := by rw [← hked, List.length_map]
          omega
        have hlen0 : L0.length < 4000 := by omega
        have o211 := ((o25.trans o57).trans o711)
        -- for node, letter, goal in self.edges
        refine ⟨_, rfl, p, _, _, _, _, rfl, hp11, T.cNet.cl, T.cNet.n_edges, fz_at ndNet (i := 3) rfl rfl, t, rfl, ⟨_, SqT.of ht11⟩, for_tup (K := K) (a := t) (xs := L0.map fun q => V.ref q.1)
          (fun i σ' H' => ∃ (v8 v9 v10 : Option V) (gs : List (List Key × V)), σ' = [some (.ref p), some (.int N.st), some (.int N.lt), some (.int N.nd), some (.ref a), some (.ref b), none, none, v8, v9, v10] ∧ Ex (lessH H11 g) H' ∧ gs.length ≤ i ∧ DL HO.dT (lessH H11 g) H' g gs (Lof ((L0.map (·.2)).take i))) ?_ ?_ ?_ ?_⟩
        · exact ⟨none, none, none, [], rfl, lessH_ex _ _, Nat.le_refl _, DL.empty hg11 lessH_at⟩
        · rintro i σ' H' _ ⟨v8, v9, v10, gs, rfl, e, _⟩
          exact SqT.of (e _ _ (by rw [lessH_ne (ne_of ht11 hg11 (by intro q; cases q))]; exact ht11))
        · rintro i x σ' H' hx ⟨v8, v9, v10, gs, rfl, e, hgl, D⟩
          rw [List.getElem?_map] at hx
          obtain ⟨q, hq, rfl⟩ := Option.map_eq_some_iff.mp hx
          have hqi : i < L0.length := (List.getElem?_eq_some_iff.mp hq).1
          have hq11 := hLe q (List.mem_of_getElem? hq)
          have hq' := e q.1 _ (by rw [lessH_ne (ne_of hq11 hg11 (by intro q; cases q))]; exact hq11)
          have hp' := e p _ (by rw [lessH_ne hgp.symm]; exact hp11)
          refine ⟨q.1, _, rfl, SqT.of hq', rfl, _, _, rfl, _, _, rfl, _, _, rfl, rfl, ?_⟩
          refine setdT_app (k := pK q.2.1 q.2.2.1) (X := fun x _ => x = .int q.2.2.2) D e (by omega) (by have := Lof_len ((L0.map (·.2)).take i) (pK q.2.1 q.2.2.1); rw [List.length_take, List.length_map] at this; omega)
            (fun Q z => ⟨_, rfl, p, _, _, _, _, rfl, hp', T.cNet.cl, T.cNet.n__goals, fz_at ndNet (i := 5) rfl rfl, z⟩) (fun Q z => ⟨_, rfl, _, rfl, by show 2 ≤ sizeLine; decide, z⟩) (fun H1 _ Q z => ⟨_, rfl, z _ _ (Ex.refl _) rfl⟩) fun x H2 H3 gs' e3 tk3 kp3 hl3 _ D3 hX _ => ?_
          subst hX
          refine ⟨_, _, _, gs', rfl, e3, by omega, ?_⟩
          have e9 : (L0.map (·.2)).take (i + 1) = (L0.map (·.2)).take i ++ [q.2] := by
            rw [List.take_add_one, List.getElem?_map, hq]
            rfl
          rw [e9, Lof_snoc]
          exact D3
        · rintro σ' H' ⟨v8, v9, v10, gs, rfl, e, hgl, D⟩
          rw [List.length_map, ← List.length_map (f := (·.2)), List.take_length] at D
          have e11 : Off g H11 H' := fun q o hq hne => e q o (by rw [lessH_ne hne]; exact hq)
          refine k ⟨N.st, N.lt, N.nd, L0.map (·.2), ns⟩ H' rfl rfl rfl hmem (fun e => (hns.mem_iff).trans (hm1 e)) (by show (L0.map (·.2)).length ≤ _; rw [List.length_map]; exact hlen1) (by show ns.length ≤ _; rw [hns.length_eq]; exact hm3) ⟨dx, t, t2, g, L0.map fun q => V.ref q.1, gs, ?_⟩ ?_
          · refine ⟨e11 _ _ hp11 hgp.symm, e11 _ _ ht11 (ne_of ht11 hg11 (by intro q; cases q)), (isL_of hLe).mono (e11.tk (by rw [hg11]; intro xs q; cases q)), e11 _ _ ht211 (ne_of ht211 hg11 (by intro q; cases q)), D.at_, D.dr, ⟨hok.st, hok.lt, hok.nd, fun e he => hok.ed e ((hmem e).mp he), fun e he => hok.en e ((hm1 e).mp (hns.mem_iff.mp he))⟩, by show (L0.map (·.2)).length < 4000; rw [List.length_map]; exact hlen0, ?_⟩
            show ns.length < 4000
            rw [hns.length_eq]
            omega
          · intro q o hq hqp
            have hg0 : H g = none := o25.fresh hp5 (o57.fresh hp7 (o79.fresh hp9 hg))
            refine e11 q o (o211 q o hq hqp) fun z => ?_
            rw [z, hg0] at hq
            cases hq
end
end Zp
set_option maxRecDepth 100000
set_option maxHeartbeats 0
namespace Zp
open PySem L2 Zs Evl Pr
section
variable {P : Program} {w : World} {K : PySem.W.Frag} {mg : Str → Option Value} {base : Heap}
def sp_Net_is_plain (T : Txt K mg) : Sp := fun vs H Q _ => ∃ (p : Addr) (N : NetD), vs = [.ref p] ∧ NetAt T.cNet.C H p N ∧ ∀ (b : Bool) H', Ex H H' → (b = true ↔ ∀ e ∈ N.ed, N.st ≤ e.2.2) → Q (.bl b) H'
theorem ok_Net_is_plain (T : Txt K mg) : FnOk P w K mg base CX0 1 T.cNet.is_plain.f T.cNet.is_plain.fd ["self"] (sp_Net_is_plain T) := by
  refine T.cNet.is_plain.F.ok sc_Net_is_plain (fun vs H Q E h => ?_) (fun cdv A outer s H vs Q E hr h => ?_)
  · obtain ⟨p, N, rfl, _⟩ := h
    rfl
  · obtain ⟨p, N, rfl, ⟨dx, a, b, g, es, gs, n⟩, k⟩ := h
    have hu := hu_of hr
    have hnd := sc_Net_is_plain.nd
    refine ⟨_, (pss_one (ps_ret (pe_callB (cr_all rfl) (by rfl) T.b.all (by decide +kernel) (pa_cons (pe_lc (own := [("edge", 1)]) (g := (gName 1)) (tt := tYes) rfl hnd (pi_tup (pe_fldK (K := K) rfl (L2.pv 0) rfl)) (blkOk_by (own := [("edge", 1)]) (N := nm_Net_is_plain) (sc := defScope s_Net_is_plain) (by decide +kernel)) (fun _ _ _ _ _ => (pg_name (i := 1) hnd rfl (by first | exact Or.inl rfl | exact Or.inr rfl))) (fun _ _ _ _ _ => pts_nil) (fun _ _ _ _ _ => (pe_cmpR op_ge (pe_ix (ix_tupK (K := K) rfl) (L2.pv 1) (pe_int) (fun _ _ => rfl)) (pe_fldK (K := K) rfl (L2.pv 0) rfl) (nomark _)))) pa_nil)))), ?_⟩
    refine ⟨_, rfl, _, _, _, _, _, rfl, n.ob, T.cNet.cl, T.cNet.n_edges, fz_at ndNet (i := 3) rfl rfl, a, rfl, ⟨_, SqT.of n.ea⟩, fun D hD => ?_⟩
    have hl := n.el.len
    rw [List.length_map] at hl
    refine lcR (walk_tup (xs := es)) hD (by have := n.szE; omega) (fun H' e => SqT.of (e _ _ n.ea)) (fun i acc _ => Bls (fun j b => b = true ↔ ∀ e, N.ed[j]? = some e → N.st ≤ e.2.2) i acc) (fun _ _ _ _ _ _ z => z) .nil ?_ ?_
    · rintro i acc x H1 H2 B B' hi hl e1 hD1 r ⟨rfl, hx⟩ kB _
      obtain ⟨d, hd, hv⟩ := n.el.get hx
      rw [List.getElem?_map] at hd
      obtain ⟨ed, he, rfl⟩ := Option.map_eq_some_iff.mp hd
      obtain ⟨t, rfl, ht⟩ := Is.edge_iff.mp (hv.mono (Tk.of e1))
      refine ⟨rfl, ⟨_, rfl, t, _, _, _, rfl, rfl, SqT.of ht, rfl, _, rfl, _, _, _, _, _, rfl, (e1 _ _ n.ob), T.cNet.cl, T.cNet.n_states, fz_at ndNet (i := 0) rfl rfl, _, _, rfl, rfl, kB _ _ (Ex.refl _) (r.snoc ?_)⟩⟩
      rw [decide_eq_true_iff]
      exact ⟨fun h e' z => by rw [he] at z; cases z; exact h, fun h => h _ he⟩
    · intro acc H1 e1 hD1 hacc r
      obtain ⟨bs, rfl, hbs⟩ := r.all
      refine ⟨D, bs, rfl, SqL.of hD1, k _ _ e1 (hbs.trans ⟨fun h e he => ?_, fun h j hj e he => h e (List.mem_of_getElem? he)⟩)⟩
      obtain ⟨j, hj⟩ := List.mem_iff_getElem?.mp he
      exact h j (by have := (List.getElem?_eq_some_iff.mp hj).1; omega) e hj
def sp_Net_goals (T : Txt K mg) : Sp := fun vs H Q _ => ∃ (p : Addr) (N : NetD) (n l : Int), vs = [.ref p, .int n, .int l] ∧ NetAt T.cNet.C H p N ∧
  ∀ (b : Addr) (xs : List Int) H', Ex H H' → H b = none → H' b = some (.lst (xs.map V.int)) → (∀ g, g ∈ xs ↔ (n, l, g) ∈ N.ed) → xs.map V.int = Lof N.ed (pK n l) → Q (.ref b) H'
theorem ok_Net_goals (T : Txt K mg) : FnOk P w K mg base CX0 1 T.cNet.goals.f T.cNet.goals.fd ["self", "node", "letter"] (sp_Net_goals T) := by
  refine T.cNet.goals.F.ok sc_Net_goals (fun vs H Q E h => ?_) (fun cdv A outer s H vs Q E hr h => ?_)
  · obtain ⟨p, N, n, l, rfl, _⟩ := h
    rfl
  · obtain ⟨p, N, n, l, rfl, ⟨dx, a, b, g, es, gs, hn⟩, k⟩ := h
    have hu := hu_of hr
    have hnd := sc_Net_goals.nd
    refine ⟨_, (pss_one (ps_ret (pe_callTy call_list_of (by rfl) T.b.list (by decide +kernel) (pa_cons (pe_dget2 hu (pe_fldK (K := K) rfl (L2.pv 0) rfl) (pe_tup (pa_cons (L2.pv 1) (pa_cons (L2.pv 2) pa_nil))) (pe_lst pa_nil) ⟨rfl, rfl, rfl, rfl⟩) pa_nil)))), ?_⟩
    refine ⟨_, rfl, _, _, _, _, _, rfl, hn.ob, T.cNet.cl, T.cNet.n__goals, fz_at ndNet (i := 5) rfl rfl, g, rfl, .inr ⟨_, .inl hn.gd⟩, _, rfl, _, rfl, by show 2 ≤ sizeLine; decide, fun kq hkq => ⟨Nat.zero_le _, fun r hr => ?_⟩⟩
    generalize hX : upd (upd H kq _) r _ = H3
    have e3 : Ex H H3 := by rw [← hX]; exact (Ex.new hkq).trans (Ex.new hr)
    have hk3 : H3 kq = some (.tup ((pK n l).map kV)) := by rw [← hX]; exact Ex.new hr _ _ upd_same
    have hr3 : H3 r = some (.lst []) := by rw [← hX]; exact upd_same
    clear hX
    obtain ⟨xs, hxs, hm, hxl⟩ := Lof_ints N.ed n l
    refine ⟨valV gs (pK n l), DGet.t (e3 _ _ hn.gd) hk3, ?_⟩
    obtain ⟨v, hv, hvl⟩ : ∃ c, (valV gs (pK n l)).getD (.ref r) = .ref c ∧ H3 c = some (.lst (xs.map V.int)) := by
      obtain ⟨h1, h2⟩ := hn.go (pK n l)
      cases e : valV gs (pK n l) with
      | none =>
        rw [h2 e] at hxs
        exact ⟨r, rfl, by rw [← hxs]; exact hr3⟩
      | some v =>
        obtain ⟨c, rfl, hc⟩ := h1 v e
        exact ⟨c, rfl, by rw [← hxs]; exact e3 _ _ hc⟩
    refine ⟨v, _, by rw [hv], .inl (SqL.of hvl), fun q hq => k q xs _ (e3.trans (Ex.new hq)) (fresh_back e3 hq) upd_same hm hxs.symm⟩
def sp_Net_moved (T : Txt K mg) : Sp := fun vs H Q _ => ∃ (p : Addr) (v : V) (N : NetD) (ns : List Int) (l : Int), vs = [.ref p, v, .int l] ∧ NetAt T.cNet.C H p N ∧ Is H v (iD ns) ∧
  ∀ (v' : V) (ms : List Int) H', Ex H H' → Is H' v' (iD ms) → (∀ g, g ∈ ms ↔ ∃ n ∈ ns, (n, l, g) ∈ N.ed) → ms.length ≤ N.ed.length → Q v' H'
theorem ok_Net_moved (T : Txt K mg) : FnOk P w K mg base CX0 2 T.cNet.moved.f T.cNet.moved.fd ["self", "nodes", "letter"] (sp_Net_moved T) := by
  refine T.cNet.moved.F.ok sc_Net_moved (fun vs H Q E h => ?_) (fun cdv A outer s H vs Q E hr h => ?_)
  · obtain ⟨p, v, N, ns, l, rfl, _⟩ := h
    rfl
  · obtain ⟨p, v, N, ns, l, rfl, hN, hv, k⟩ := h
    obtain ⟨t, rfl, ht⟩ := Is.ints_iff.mp hv
    have hu := hu_of hr
    have hnd := sc_Net_moved.nd
    refine ⟨_, (pss_cons (ps_set (i := 3) hnd rfl (by first | exact Or.inl rfl | exact Or.inr rfl) (pe_dnewK))
    (pss_cons (ps_for PassesOwn.never rfl (pi_tup (L2.pv 1)) (pg_name (i := 4) hnd rfl (by first | exact Or.inl rfl | exact Or.inr rfl))
      (pss_one (ps_for PassesOwn.never rfl (pi_listK (K := K) rfl (pe_meth (L2.pv 0) T.cNet.cl T.cNet.m_goals (ok_Net_goals T) (hr.mono (by decide)) T.cNet.goals.b .nil pass0 (pa_cons (L2.pv 4) (pa_cons (L2.pv 2) pa_nil)))) (pg_name (i := 5) hnd rfl (by first | exact Or.inl rfl | exact Or.inr rfl))
      (pss_one (ps_dput hu (L2.pv 3) (L2.pv 5) (pe_bl) rfl)))))
    (pss_one (ps_ret (pe_callTy call_tuple_of (by rfl) T.b.tuple (by decide +kernel) (pa_cons (pe_callB cr_sortedI (by rfl) T.b.sorted (by decide +kernel) (pa_cons (pe_callTy (call_list_dK rfl) (by rfl) T.b.list (by decide +kernel) (pa_cons (L2.pv 3) pa_nil)) pa_nil)) pa_nil)))))), ?_⟩
    intro d hd
    have lenOk : ∀ ms : List Int, ms.Nodup → (∀ m ∈ ms, ∃ n, (n, l, m) ∈ N.ed) → ms.length ≤ N.ed.length := fun ms h1 h2 => by
      have := nd_len ms (N.ed.map (·.2.2)) h1 fun m hm => by
        obtain ⟨n, hn⟩ := h2 m hm
        exact List.mem_map.mpr ⟨_, hn, rfl⟩
      simpa using this
    have szE : N.ed.length < 4000 := by
      obtain ⟨_, _, _, _, _, _, n⟩ := hN
      exact n.szE
    refine ⟨_, rfl, t, rfl, ⟨_, SqT.of (Ex.new hd _ _ ht)⟩, for_tup (K := K) (a := t) (xs := ns.map V.int)
      (fun i σ' H' => ∃ (v4 v5 : Option V) (ms : List Int), σ' = [some (.ref p), some (.ref t), some (.int l), some (.ref d), v4, v5] ∧ Ex H H' ∧ H' d = some (.dK (kd iK ms)) ∧ ms.Nodup ∧ ∀ g, g ∈ ms ↔ ∃ n ∈ ns.take i, (n, l, g) ∈ N.ed) ?_ ?_ ?_ ?_⟩
    · exact ⟨none, none, [], rfl, Ex.new hd, upd_same, List.nodup_nil, fun g => by simp⟩
    · rintro i σ' H' _ ⟨_, _, _, rfl, e, _⟩
      exact SqT.of (e _ _ ht)
    · rintro i x σ' H' hx ⟨v4, v5, ms, rfl, e, hD, hms, hm⟩
      rw [List.getElem?_map] at hx
      obtain ⟨n, hn, rfl⟩ := Option.map_eq_some_iff.mp hx
      have et : ns.take (i + 1) = ns.take i ++ [n] := by rw [List.take_add_one, hn]; rfl
      -- for goal in self.goals(node, letter)
      obtain ⟨dx, a, b, g, es, gs, hn0⟩ := id hN
      refine ⟨_, rfl, _, _, _, rfl, (e _ _ hn0.ob), fz_no (by decide +kernel), _, rfl, _, rfl, p, N, n, l, rfl, hN.mono e, fun b xs H1 e1 hb hb1 hg hxl => ?_⟩
      refine ⟨b, rfl, ⟨_, SqL.of hb1⟩, for_list (K := K) (a := b) (xs := xs.map V.int)
        (fun j σ2 H2 => ∃ (v5 : Option V) (ms2 : List Int), σ2 = [some (.ref p), some (.ref t), some (.int l), some (.ref d), some (.int n), v5] ∧ Ex H H2 ∧ H2 b = some (.lst (xs.map V.int)) ∧ H2 d = some (.dK (kd iK ms2)) ∧ ms2.Nodup ∧ ∀ g, g ∈ ms2 ↔ g ∈ ms ∨ g ∈ xs.take j) ?_ ?_ ?_ ?_⟩
      · exact ⟨v5, ms, rfl, e.trans e1, hb1, e1 _ _ hD, hms, fun g => by simp⟩
      · rintro j σ2 H2 _ ⟨_, _, rfl, _, h, _⟩
        exact SqL.of h
      · rintro j y σ2 H2 hy ⟨v5, ms2, rfl, e2, hb2, hD2, hms2, hm2⟩
        rw [List.getElem?_map] at hy
        obtain ⟨gl, hgl, rfl⟩ := Option.map_eq_some_iff.mp hy
        have hl2 : ms2.length ≤ N.ed.length := lenOk ms2 hms2 fun m h => by
          rcases (hm2 m).mp h with z | z
          · obtain ⟨n', _, z2⟩ := (hm m).mp z
            exact ⟨n', z2⟩
          · exact ⟨n, (hg m).mp (List.mem_of_mem_take z)⟩
        refine ⟨_, rfl, _, rfl, d, _, rfl, DPut.k (k := iK gl) hD2 (lineLt (by rw [kd_len]; omega)), _, addM ms2 gl, rfl, Ex.mut e2 hd, ?_, ?_, addM_nodup hms2, fun g => ?_⟩
        · rw [upd_ne (ne_of hb2 hD2 (by intro q; cases q))]; exact hb2
        · rw [upd_same, kd_put iK_inj]; rfl
        · rw [mem_addM, hm2, List.take_add_one, hgl, Option.toList, List.mem_append, List.mem_singleton, or_assoc]
      · rintro σ2 H2 ⟨v5, ms2, rfl, e2, hb2, hD2, hms2, hm2⟩
        rw [List.length_map, List.take_length] at hm2
        refine ⟨_, _, ms2, rfl, e2, hD2, hms2, fun g => (hm2 g).trans ?_⟩
        rw [et, hm, hg]
        simp only [List.mem_append, List.mem_singleton]
        constructor
        · rintro (⟨n', h1, h2⟩ | h)
          · exact ⟨n', .inl h1, h2⟩
          · exact ⟨n, .inr rfl, h⟩
        · rintro ⟨n', h1 | rfl, h2⟩
          · exact .inl ⟨n', h1, h2⟩
          · exact .inr h2
    · rintro σ' H' ⟨v4, v5, ms, rfl, e, hD, hms, hm⟩
      rw [List.length_map, List.take_length] at hm
      refine ⟨_, rfl, d, _, rfl, hD, fun q hq => ⟨q, ms, rfl, ?_, fun ms' y hperm _ hy => ⟨y, _, rfl, .inl ⟨SqL.of upd_same, fun u hu => ?_⟩⟩⟩⟩
      · rw [show (kd iK ms).map (fun kv => kV kv.1) = ms.map V.int by simp [kd, iK, kV]]
        exact SqL.of upd_same
      · refine k _ ms' _ (e.trans ((Ex.new hq).trans ((Ex.new hy).trans (Ex.new hu)))) (isInts upd_same) (fun g => (hperm.mem_iff).trans (hm g)) ?_
        rw [hperm.length_eq]
        exact lenOk ms hms fun m h => by
          obtain ⟨n, _, h2⟩ := (hm m).mp h
          exact ⟨n, h2⟩
def sp_Net_has_end (T : Txt K mg) : Sp := fun vs H Q _ => ∃ (p : Addr) (v : V) (N : NetD) (ns : List Int), vs = [.ref p, v] ∧ NetAt T.cNet.C H p N ∧ Is H v (iD ns) ∧ ns.length ≤ 100000 ∧
  ∀ (b : Bool) H', Ex H H' → (b = true ↔ ∃ n ∈ ns, n ∈ N.en) → Q (.bl b) H'
theorem ok_Net_has_end (T : Txt K mg) : FnOk P w K mg base CX0 1 T.cNet.has_end.f T.cNet.has_end.fd ["self", "nodes"] (sp_Net_has_end T) := by
  refine T.cNet.has_end.F.ok sc_Net_has_end (fun vs H Q E h => ?_) (fun cdv A outer s H vs Q E hr h => ?_)
  · obtain ⟨p, v, N, ns, rfl, _⟩ := h
    rfl
  · obtain ⟨p, v, N, ns, rfl, ⟨dx, a, b, g, es, gs, hn⟩, hv, hl, k⟩ := h
    obtain ⟨t, rfl, ht⟩ := Is.ints_iff.mp hv
    have hu := hu_of hr
    have hnd := sc_Net_has_end.nd
    refine ⟨_, (pss_one (ps_ret (pe_callB (cr_any rfl) (by rfl) T.b.any (by decide +kernel) (pa_cons (pe_lc (own := [("node", 2)]) (g := (gName 2)) (tt := tYes) rfl hnd (pi_tup (L2.pv 1)) (blkOk_by (own := [("node", 2)]) (N := nm_Net_has_end) (sc := defScope s_Net_has_end) (by decide +kernel)) (fun _ _ _ _ _ => (pg_name (i := 2) hnd rfl (by first | exact Or.inl rfl | exact Or.inr rfl))) (fun _ _ _ _ _ => pts_nil) (fun _ _ _ _ _ => (pe_cmpR (op_in_seqK (K := K) rfl) (L2.pv 2) (pe_fldK (K := K) rfl (L2.pv 0) rfl) (by with_unfolding_all rfl)))) pa_nil)))), ?_⟩
    refine ⟨_, rfl, t, rfl, ⟨_, SqT.of ht⟩, fun D hD => ?_⟩
    refine lcR (walk_tup (xs := ns.map V.int)) hD (by rw [List.length_map]; exact hl) (fun H' e => SqT.of (e _ _ ht)) (fun i acc _ => Bls (fun j b => b = true ↔ ∃ n, ns[j]? = some n ∧ n ∈ N.en) i acc) (fun _ _ _ _ _ _ z => z) .nil ?_ ?_
    · rintro i acc x H1 H2 B B' hi hl e1 hD1 r ⟨rfl, hx⟩ kB _
      rw [List.getElem?_map] at hx
      obtain ⟨n, he, rfl⟩ := Option.map_eq_some_iff.mp hx
      refine ⟨rfl, ⟨_, rfl, _, rfl, _, _, _, _, _, rfl, (e1 _ _ hn.ob), T.cNet.cl, T.cNet.n_ends, fz_at ndNet (i := 4) rfl rfl, b, _, rfl, .inr (SqT.of (e1 _ _ hn.nb)), rfl, flat_ints _, kB _ _ (Ex.refl _) (r.snoc ?_)⟩⟩
      show inV (.int n) (N.en.map V.int) = true ↔ _
      rw [inV_ints, decide_eq_true_iff]
      exact ⟨fun h => ⟨n, he, h⟩, fun ⟨n', h1, h2⟩ => by rw [he] at h1; cases h1; exact h2⟩
    · intro acc H1 e1 hD1 hacc r
      obtain ⟨bs, rfl, hbs⟩ := r.any
      refine ⟨D, bs, rfl, SqL.of hD1, k _ _ e1 (hbs.trans ⟨fun ⟨j, _, n, h1, h2⟩ => ⟨n, List.mem_of_getElem? h1, h2⟩, fun ⟨n, h1, h2⟩ => ?_⟩)⟩
      obtain ⟨j, hj⟩ := List.mem_iff_getElem?.mp h1
      exact ⟨j, by have := (List.getElem?_eq_some_iff.mp hj).1; rw [List.length_map]; exact this, n, hj, h2⟩
end
end Zp
set_option maxRecDepth 100000
set_option maxHeartbeats 0
namespace Zp
open PySem L2 Zs Evl Pr
section
variable {P : Program} {w : World} {K : PySem.W.Frag} {mg : Str → Option Value} {base : Heap}
theorem NetAt.sz {C : Addr} {H : Hp} {p : Addr} {N : NetD} : NetAt C H p N → N.ed.length < 4000 ∧ N.en.length < 4000 ∧ NetOk N
  | ⟨_, _, _, _, _, _, n⟩ => ⟨n.szE, n.szN, n.ok⟩
theorem NetAt.ins {C : Addr} {H : Hp} {p : Addr} {N : NetD} : NetAt C H p N → ∃ dx vs, H p = some (.ins C dx (fz nsNet vs))
  | ⟨_, _, _, _, _, _, n⟩ => ⟨_, _, n.ob⟩
theorem path_take {E : ES} {s g : Int} {w : List Int} {l : Int} : Path E s (w ++ [l]) g ↔ ∃ n, Path E s w n ∧ E n l g := by
  constructor
  · intro h
    obtain ⟨m, h1, h2⟩ := Path.split h
    obtain ⟨k, h3, h4⟩ := Path.uncons h2
    cases h4.nil_eq
    exact ⟨m, h1, h3⟩
  · rintro ⟨n, h1, h2⟩
    exact h1.snoc h2
def sp_Net_accepts (T : Txt K mg) : Sp := fun vs H Q _ => ∃ (p : Addr) (v : V) (N : NetD) (c : Conf), vs = [.ref p, v] ∧ NetAt T.cNet.C H p N ∧ Is H v (cD c) ∧
  ∀ (b : Bool) H', Ex H H' → (b = true ↔ Acc N c) → Q (.bl b) H'
theorem ok_Net_accepts (T : Txt K mg) : FnOk P w K mg base CX0 3 T.cNet.accepts.f T.cNet.accepts.fd ["self", "configuration"] (sp_Net_accepts T) := by
  refine T.cNet.accepts.F.ok sc_Net_accepts (fun vs H Q E h => ?_) (fun cdv A outer s H vs Q E hr h => ?_)
  · obtain ⟨p, v, N, c, rfl, _⟩ := h
    rfl
  · obtain ⟨p, v, N, c, rfl, hN, hv, k⟩ := h
    obtain ⟨a, pl, rfl, ha, hpl⟩ := Is.conf_iff.mp hv
    have hu := hu_of hr
    have hnd := sc_Net_accepts.nd
    refine ⟨_, (pss_cons (ps_asg (L2.pv 1) (pg_tup rfl (pgs_cons (pg_name (i := 2) hnd rfl (by first | exact Or.inl rfl | exact Or.inr rfl)) (pgs_cons (pg_name (i := 3) hnd rfl (by first | exact Or.inl rfl | exact Or.inr rfl)) pgs_nil))))
    (pss_cons (ps_set (i := 4) hnd rfl (by first | exact Or.inl rfl | exact Or.inr rfl) (pe_tup (pa_cons (L2.pv 2) pa_nil)))
    (pss_cons (ps_for PassesOwn.never rfl (pi_tup (L2.pv 3)) (pg_name (i := 5) hnd rfl (by first | exact Or.inl rfl | exact Or.inr rfl))
      (pss_one (ps_set (i := 4) hnd rfl (by first | exact Or.inl rfl | exact Or.inr rfl) (pe_meth (L2.pv 0) T.cNet.cl T.cNet.m_moved (ok_Net_moved T) (hr.mono (by decide)) T.cNet.moved.b .nil pass0 (pa_cons (L2.pv 4) (pa_cons (L2.pv 5) pa_nil))))))
    (pss_one (ps_ret (pe_meth (L2.pv 0) T.cNet.cl T.cNet.m_has_end (ok_Net_has_end T) (hr.mono (by decide)) T.cNet.has_end.b .nil pass0 (pa_cons (L2.pv 4) pa_nil))))))), ?_⟩
    refine ⟨_, rfl, a, _, rfl, SqT.of ha, rfl, _, _, rfl, _, _, rfl, rfl, ?_⟩
    refine ⟨_, rfl, by show 1 ≤ sizeLine; decide, fun t ht => ?_⟩
    refine ⟨_, rfl, pl, rfl, ⟨_, SqT.of (Ex.new ht _ _ hpl)⟩, for_tup (K := K) (a := pl) (xs := c.2.map V.int)
      (fun i σ' H' => ∃ (v4 : V) (v5 : Option V) (ns : List Int), σ' = [some (.ref p), some (.ref a), some (.int c.1), some (.ref pl), some v4, v5] ∧ Ex H H' ∧ Is H' v4 (iD ns) ∧ ns.length < 4000 ∧ ∀ g, g ∈ ns ↔ Path (mem N.ed) c.1 (c.2.take i) g) ?_ ?_ ?_ ?_⟩
    · refine ⟨.ref t, none, [c.1], rfl, Ex.new ht, isInts upd_same, by show 1 < 4000; decide, fun g => ?_⟩
      rw [List.mem_singleton, List.take_zero]
      exact ⟨fun z => z ▸ .nil _, fun z => z.nil_eq.symm⟩
    · rintro i σ' H' _ ⟨_, _, _, rfl, e, _⟩
      exact SqT.of (e _ _ hpl)
    · rintro i x σ' H' hx ⟨v4, v5, ns, rfl, e, hns, hl, hm⟩
      rw [List.getElem?_map] at hx
      obtain ⟨l, hl', rfl⟩ := Option.map_eq_some_iff.mp hx
      obtain ⟨dx, vs, ho⟩ := (hN.mono e).ins
      refine ⟨_, rfl, _, _, _, rfl, ho, fz_no (by decide +kernel), _, rfl, _, rfl, p, v4, N, ns, l, rfl, hN.mono e, hns, fun v' ms H1 e1 hv1 hg hl1 => ?_⟩
      refine ⟨v', _, ms, rfl, e.trans e1, hv1, Nat.lt_of_le_of_lt hl1 hN.sz.1, fun g => ?_⟩
      rw [hg, List.take_add_one, hl']
      show _ ↔ Path (mem N.ed) c.1 (c.2.take i ++ [l]) g
      rw [path_take]
      exact ⟨fun ⟨n, h1, h2⟩ => ⟨n, (hm n).mp h1, h2⟩, fun ⟨n, h1, h2⟩ => ⟨n, (hm n).mpr h1, h2⟩⟩
    · rintro σ' H' ⟨v4, v5, ns, rfl, e, hns, hl, hm⟩
      rw [List.length_map, List.take_length] at hm
      obtain ⟨dx, vs, ho⟩ := (hN.mono e).ins
      refine ⟨_, rfl, _, _, _, rfl, ho, fz_no (by decide +kernel), _, rfl, p, v4, N, ns, rfl, hN.mono e, hns, by omega, fun b H1 e1 hb => k b H1 (e.trans e1) (hb.trans ?_)⟩
      exact ⟨fun ⟨n, h1, h2⟩ => ⟨n, h2, (hm n).mp h1⟩, fun ⟨n, h1, h2⟩ => ⟨n, (hm n).mpr h2, h1⟩⟩
theorem make_net (T : Txt K mg) {H : Hp} {R : Addr → Hp → Prop} {E : XK} {a b : Addr} {N : NetD} {es : List V} (ha : SeqAt H a es) (hes : IsL H es (N.ed.map eD)) (hb : SeqAt H b (N.en.map V.int)) (hok : NetOk N) (h1 : N.ed.length < 4000) (h2 : N.en.length < 4000)
    (k : ∀ (x : Addr) (N' : NetD) H', Ex H H' → H x = none → NetAt T.cNet.C H' x N' → N'.st = N.st → N'.lt = N.lt → N'.nd = N.nd → (∀ e, e ∈ N'.ed ↔ e ∈ N.ed) → (∀ e, e ∈ N'.en ↔ e ∈ N.en) → N'.ed.length ≤ N.ed.length → N'.en.length ≤ N.en.length → R x H') :
    ∀ x dx, H x = none → H dx = none → dx ≠ x → sp_Net_init T (.ref x :: ([.int N.st, .int N.lt, .int N.nd, .ref a, .ref b] ++ [])) (upd (upd H dx (.own x)) x (.ins T.cNet.C dx [])) (fun v H2 => v = .non ∧ R x H2) E := by
  intro x dx hx hdx hne
  have e : Ex H (upd (upd H dx (.own x)) x (.ins T.cNet.C dx [])) := fun q o hq => by
    rw [upd_ne (ne_of_none hq hx), upd_ne (ne_of_none hq hdx)]
    exact hq
  exact ⟨x, dx, a, b, N, es, rfl, upd_same, ha.mono e, hes.mono (Tk.of e), hb.mono e, hok, h1, h2, fun N' H' e1 e2 e3 e4 e5 e6 e7 hN o => ⟨rfl, k x N' H' (o.ex e hx) hx hN e1 e2 e3 e4 e5 e6 e7⟩⟩
theorem sEd_snoc : ∀ (pile : List Int) (n b l : Int), sEd n b (pile ++ [l]) = sEd n b pile ++ [(sEn n b pile, l, b + pile.length)]
  | [], n, b, l => by simp [sEd, sEn]
  | x :: r, n, b, l => by
    show (n, x, b) :: sEd b (b + 1) (r ++ [l]) = (n, x, b) :: (sEd b (b + 1) r ++ [(sEn b (b + 1) r, l, b + ((x :: r).length : Nat))])
    rw [sEd_snoc r b (b + 1) l]
    have : b + 1 + (r.length : Int) = b + ((x :: r).length : Nat) := by simp; omega
    rw [this]
theorem sEn_snoc : ∀ (pile : List Int) (n b l : Int), sEn n b (pile ++ [l]) = b + pile.length
  | [], n, b, l => by simp [sEn]
  | x :: r, n, b, l => by
    show sEn b (b + 1) (r ++ [l]) = _
    rw [sEn_snoc r b (b + 1) l]
    simp
    omega
theorem sEd_len : ∀ (pile : List Int) (n b : Int), (sEd n b pile).length = pile.length
  | [], _, _ => rfl
  | _ :: r, _, b => by show (sEd b (b + 1) r).length + 1 = _; rw [sEd_len r]; rfl
def sp_single (T : Txt K mg) : Sp := fun vs H Q _ => ∃ (st lt : Int) (v : V) (c : Conf), vs = [.int st, .int lt, v] ∧ Is H v (cD c) ∧ 1 ≤ st ∧ 1 ≤ lt ∧ (0 ≤ c.1 ∧ c.1 < st) ∧ (∀ l ∈ c.2, 0 ≤ l ∧ l < lt) ∧ c.2.length ≤ 1000 ∧
  ∀ (q : Addr) (N : NetD) H', Ex H H' → NetAt T.cNet.C H' q N → N.st = st → N.lt = lt → N.nd = st + c.2.length → (∀ e, e ∈ N.ed ↔ e ∈ sEd c.1 st c.2) → (∀ e, e ∈ N.en ↔ e = sEn c.1 st c.2) → N.ed.length ≤ c.2.length → N.en.length ≤ 1 → Q (.ref q) H'
theorem ok_single (T : Txt K mg) : FnOk P w K mg base CX0 4 T.f.single.f T.f.single.fd ["states", "letters", "configuration"] (sp_single T) := by
  refine T.f.single.F.ok sc_single (fun vs H Q E h => ?_) (fun cdv A outer s H vs Q E hr h => ?_)
  · obtain ⟨st, lt, v, c, rfl, _⟩ := h
    rfl
  · obtain ⟨st, lt, v, c, rfl, hv, h1, h2, h3, h4, h5, k⟩ := h
    obtain ⟨a, pl, rfl, ha, hpl⟩ := Is.conf_iff.mp hv
    have hu := hu_of hr
    have hnd := sc_single.nd
    refine ⟨_, (pss_cons (ps_asg (L2.pv 2) (pg_tup rfl (pgs_cons (pg_name (i := 3) hnd rfl (by first | exact Or.inl rfl | exact Or.inr rfl)) (pgs_cons (pg_name (i := 4) hnd rfl (by first | exact Or.inl rfl | exact Or.inr rfl)) pgs_nil))))
    (pss_cons (ps_set (i := 5) hnd rfl (by first | exact Or.inl rfl | exact Or.inr rfl) (pe_lst pa_nil))
    (pss_cons (ps_set (i := 6) hnd rfl (by first | exact Or.inl rfl | exact Or.inr rfl) (L2.pv 3))
    (pss_cons (ps_for PassesOwn.never rfl (pi_enT (by rfl) T.b.enumerate (pa_cons (L2.pv 4) pa_nil)) (pg_tup rfl (pgs_cons (pg_name (i := 7) hnd rfl (by first | exact Or.inl rfl | exact Or.inr rfl)) (pgs_cons (pg_name (i := 8) hnd rfl (by first | exact Or.inl rfl | exact Or.inr rfl)) pgs_nil)))
      (pss_cons (ps_expr (pe_bm PySem.F.plainAttrs_list PySem.F.slot_list_append PySem.F.type_list_append mt_append (L2.pv 5) (pa_cons (pe_tup (pa_cons (L2.pv 6) (pa_cons (L2.pv 8) (pa_cons (pe_op op_add (L2.pv 0) (L2.pv 7)) pa_nil)))) pa_nil)))
    (pss_one (ps_set (i := 6) hnd rfl (by first | exact Or.inl rfl | exact Or.inr rfl) (pe_op op_add (L2.pv 0) (L2.pv 7))))))
    (pss_one (ps_ret (pe_make T.cNet.made (ok_Net_init T) (hr.mono (by decide)) (by rfl) T.cNet.mg T.cNet.init.b .nil pass0 (pa_cons (L2.pv 0) (pa_cons (L2.pv 1) (pa_cons (pe_op op_add (L2.pv 0) (pe_callB call_len_seq (by rfl) T.b.len PySem.boot_len (pa_cons (L2.pv 4) pa_nil))) (pa_cons (L2.pv 5) (pa_cons (pe_lst (pa_cons (L2.pv 6) pa_nil)) pa_nil)))))))))))), ?_⟩
    refine ⟨_, rfl, a, _, rfl, SqT.of ha, rfl, _, _, rfl, _, _, rfl, rfl, ?_⟩
    refine ⟨Nat.zero_le _, fun d hd => ?_⟩
    refine ⟨_, rfl, ?_⟩
    have ed := Ex.new (o := .lst []) hd
    refine ⟨_, rfl, pl, _, rfl, SqT.of (ed _ _ hpl), for_it (walk_enT (K := K) (a := pl) (xs := c.2.map V.int))
      (fun i σ' H' => ∃ (v7 v8 : Option V) (es : List V), σ' = [some (.int st), some (.int lt), some (.ref a), some (.int c.1), some (.ref pl), some (.ref d), some (.int (sEn c.1 st (c.2.take i))), v7, v8] ∧ Ex H H' ∧ H' d = some (.lst es) ∧ IsL H' es ((sEd c.1 st (c.2.take i)).map eD)) ?_ ?_ ?_ ?_⟩
    · exact ⟨none, none, [], rfl, ed, upd_same, .nil⟩
    · rintro i σ' H' _ ⟨_, _, _, rfl, e, _⟩
      exact SqT.of (e _ _ hpl)
    · rintro i x σ' H' H1 hi ⟨v7, v8, es, rfl, e, hD, hes⟩ ⟨t, y, z, rfl, ht, rfl, hy, hz⟩
      cases hy
      replace hz : (c.2.map V.int)[i]? = some z := hz
      rw [List.getElem?_map] at hz
      obtain ⟨l, hl, rfl⟩ := Option.map_eq_some_iff.mp hz
      have hli : i < c.2.length := (List.getElem?_eq_some_iff.mp hl).1
      have et := Ex.new (o := .tup [.int (i : Nat), .int l]) ht
      refine ⟨t, _, rfl, SqT.of upd_same, rfl, _, _, rfl, _, _, rfl, rfl, ?_⟩
      refine ⟨_, rfl, .inl ⟨rfl, _, SqL.of (et _ _ hD)⟩, _, rfl, _, rfl, _, rfl, _, rfl, _, _, rfl, rfl, by show 3 ≤ sizeLine; decide, fun u hu => ?_⟩
      have eu := et.trans (Ex.new (o := .tup [.int (sEn c.1 st (c.2.take i)), .int l, .int (st + (i : Nat))]) hu)
      have hlen : es.length = i := by rw [hes.len, List.length_map, sEd_len, List.length_take]; omega
      refine ⟨d, _, _, rfl, rfl, eu _ _ hD, lineLt (by omega), ?_⟩
      refine ⟨_, rfl, _, rfl, _, _, rfl, rfl, ?_⟩
      have htk : c.2.take (i + 1) = c.2.take i ++ [l] := by rw [List.take_add_one, hl]; rfl
      have hlt : (c.2.take i).length = i := by rw [List.length_take]; omega
      refine ⟨some (.int (i : Nat)), some (.int l), es ++ [.ref u], ?_, Ex.mut (e.trans eu) hd, upd_same, ?_⟩
      · rw [htk, sEn_snoc, hlt]
        rfl
      · rw [htk, sEd_snoc, hlt, List.map_append]
        have tk : Tk H' _ := (Tk.of eu).trans (Tk.wr (eu _ _ hD) (o' := .lst (es ++ [V.ref u])) (fun _ q => nomatch q))
        refine (hes.mono tk).app (.cons (Is.edge_iff.mpr ⟨u, rfl, ?_⟩) .nil)
        rw [upd_ne (ne_of upd_same (eu _ _ hD) (by intro q; cases q))]
        exact upd_same
    · rintro σ' H' ⟨v7, v8, es, rfl, e, hD, hes⟩
      rw [List.length_map, List.take_length] at *
      refine ⟨_, rfl, _, rfl, _, rfl, _, rfl, pl, _, rfl, .inr (SqT.of (e _ _ hpl)), _, _, rfl, rfl, _, rfl, _, rfl, by show 1 ≤ sizeLine; decide, fun u hu => ?_⟩
      have eu := Ex.new (o := .lst [.int (sEn c.1 st c.2)]) hu
      rw [List.length_map]
      refine make_net T (N := ⟨st, lt, st + c.2.length, sEd c.1 st c.2, [sEn c.1 st c.2]⟩) (.inl (eu _ _ hD)) (hes.mono (Tk.of eu)) (.inl upd_same) ⟨h1, h2, by show st ≤ st + (c.2.length : Int); omega, fun ed he => ?_, fun en he => ?_⟩ (by show (sEd c.1 st c.2).length < 4000; rw [sEd_len]; omega) (by show 1 < 4000; decide)
        fun x N' H2 e2 _ hN e3 e4 e5 e6 e7 e8 e9 => k x N' H2 ((e.trans eu).trans e2) hN e3 e4 e5 e6 (fun q => (e7 q).trans List.mem_singleton) (by rw [← sEd_len c.2 c.1 st]; exact e8) e9
      · obtain ⟨n, l, y⟩ := ed
        have := sEd_rng he
        have h4' := h4 l this.2.2.2.2
        show (0 ≤ n ∧ n < st + (c.2.length : Int)) ∧ (0 ≤ l ∧ l < lt) ∧ 0 ≤ y ∧ y < st + (c.2.length : Int)
        omega
      · rw [List.mem_singleton.mp he]
        show 0 ≤ sEn c.1 st c.2 ∧ sEn c.1 st c.2 < st + (c.2.length : Int)
        rcases sEn_rng (n := c.1) (b := st) (pile := c.2) with z | z <;> omega
end
end Zp
set_option maxRecDepth 100000
set_option maxHeartbeats 0
namespace Zp
open PySem L2 Zs Evl Pr
section
variable {P : Program} {w : World} {K : PySem.W.Frag} {mg : Str → Option Value} {base : Heap}
def plE (N : NetD) (e : Edge) : List Edge := (e.1, e.2.1, inner N e.2.2) :: (if e.1 < N.st then [(N.nd + e.1, e.2.1, inner N e.2.2)] else [])
def plN (N : NetD) : NetD := ⟨N.st, N.lt, N.nd + N.st, N.ed.flatMap (plE N), N.en ++ (N.en.filter fun e => decide (e < N.st)).map fun e => N.nd + e⟩
theorem plE_len (N : NetD) (es : List Edge) : (es.flatMap (plE N)).length ≤ 2 * es.length := by
  induction es with
  | nil => exact Nat.le_refl _
  | cons e es ih =>
    rw [List.flatMap_cons, List.length_append, List.length_cons]
    have : (plE N e).length ≤ 2 := by
      unfold plE
      split <;> simp
    omega
theorem plN_of (N : NetD) : PlainOf N (plN N) where
  ed := fun x l y => by
    show (x, l, y) ∈ N.ed.flatMap (plE N) ↔ _
    rw [List.mem_flatMap]
    constructor
    · rintro ⟨⟨n, l', g⟩, he, h⟩
      unfold plE at h
      rcases List.mem_cons.mp h with z | z
      · cases z
        exact ⟨n, g, he, rfl, .inl rfl⟩
      · split at z
        · rename_i hlt
          cases List.mem_singleton.mp z
          exact ⟨n, g, he, rfl, .inr ⟨hlt, rfl⟩⟩
        · cases z
    · rintro ⟨n, g, he, rfl, h⟩
      refine ⟨_, he, ?_⟩
      unfold plE
      rcases h with rfl | ⟨hlt, rfl⟩
      · exact List.mem_cons_self
      · refine List.mem_cons_of_mem _ ?_
        rw [if_pos hlt]
        exact List.mem_singleton.mpr rfl
  en := fun e => by
    show e ∈ N.en ++ _ ↔ _
    rw [List.mem_append, List.mem_map]
    constructor
    · rintro (h | ⟨n, h, rfl⟩)
      · exact .inl h
      · obtain ⟨h1, h2⟩ := List.mem_filter.mp h
        exact .inr ⟨n, h1, of_decide_eq_true h2, rfl⟩
    · rintro (h | ⟨n, h1, h2, rfl⟩)
      · exact .inl h
      · exact .inr ⟨n, List.mem_filter.mpr ⟨h1, decide_eq_true h2⟩, rfl⟩
theorem plN_ok {N : NetD} (h : NetOk N) : NetOk (plN N) where
  st := h.st
  lt := h.lt
  nd := by
    have := h.st; have := h.nd
    show N.st ≤ N.nd + N.st
    omega
  ed := fun e he => by
    obtain ⟨x, l, y⟩ := e
    obtain ⟨n, g, h1, rfl, h2⟩ := ((plN_of N).ed x l y).mp he
    obtain ⟨⟨a1, a2⟩, a3, a4, a5⟩ := h.ed _ h1
    have := h.st; have := h.nd
    simp only at a1 a2 a4 a5
    have hi : 0 ≤ inner N g ∧ inner N g < N.nd + N.st := by
      unfold inner
      split <;> omega
    refine ⟨?_, a3, hi⟩
    show 0 ≤ x ∧ x < N.nd + N.st
    rcases h2 with rfl | ⟨h2, rfl⟩ <;> omega
  en := fun e he => by
    have := h.st; have := h.nd
    show 0 ≤ e ∧ e < N.nd + N.st
    rcases ((plN_of N).en e).mp he with z | ⟨n, z, z1, rfl⟩
    · have := h.en e z; omega
    · have := h.en n z; omega
theorem Acc.congr {N N' : NetD} (h1 : ∀ e, e ∈ N'.ed ↔ e ∈ N.ed) (h2 : ∀ e, e ∈ N'.en ↔ e ∈ N.en) {c : Conf} : Acc N' c ↔ Acc N c :=
  ⟨fun ⟨e, he, hp⟩ => ⟨e, (h2 e).mp he, hp.mono fun _ _ _ z => (h1 _).mp z⟩, fun ⟨e, he, hp⟩ => ⟨e, (h2 e).mpr he, hp.mono fun _ _ _ z => (h1 _).mpr z⟩⟩
def sp_plain (T : Txt K mg) : Sp := fun vs H Q _ => ∃ (p : Addr) (N : NetD), vs = [.ref p] ∧ NetAt T.cNet.C H p N ∧ N.ed.length < 1900 ∧ N.en.length < 1900 ∧
  ∀ (q : Addr) (N' : NetD) H', Ex H H' → NetAt T.cNet.C H' q N' → N'.st = N.st → N'.lt = N.lt → N'.nd ≤ N.nd + N.st → N'.ed.length ≤ 2 * N.ed.length → (∀ c : Conf, 0 ≤ c.1 ∧ c.1 < N.st → (Acc N' c ↔ Acc N c)) →
    ((∀ e ∈ N.ed, N.st ≤ e.2.2) → N' = N) → Q (.ref q) H'
theorem ok_plain (T : Txt K mg) : FnOk P w K mg base CX0 4 T.f.plain.f T.f.plain.fd ["net"] (sp_plain T) := by
  refine T.f.plain.F.ok sc_plain (fun vs H Q E h => ?_) (fun cdv A outer s H vs Q E hr h => ?_)
  · obtain ⟨p, N, rfl, _⟩ := h
    rfl
  · obtain ⟨p, N, rfl, hN, hl1, hl2, k⟩ := h
    obtain ⟨dx, a, b, g, es, gs, hn⟩ := id hN
    have hu := hu_of hr
    have hnd := sc_plain.nd
    refine ⟨_, (pss_cons (ps_if (pt_val (pe_prop (L2.pv 0) T.cNet.cl T.cNet.pr (ok_Net_is_plain T) (hr.mono (by decide)) T.cNet.is_plain.b .nil pass0 rfl)) (pss_one (ps_ret (L2.pv 0))) pss_nil)
    (pss_cons (ps_set (i := 1) hnd rfl (by first | exact Or.inl rfl | exact Or.inr rfl) (pe_lst pa_nil))
    (pss_cons (ps_for PassesOwn.never rfl (pi_tup (pe_fldK (K := K) rfl (L2.pv 0) rfl)) (pg_tup rfl (pgs_cons (pg_name (i := 2) hnd rfl (by first | exact Or.inl rfl | exact Or.inr rfl)) (pgs_cons (pg_name (i := 3) hnd rfl (by first | exact Or.inl rfl | exact Or.inr rfl)) (pgs_cons (pg_name (i := 4) hnd rfl (by first | exact Or.inl rfl | exact Or.inr rfl)) pgs_nil))))
      (pss_cons (ps_set (i := 5) hnd rfl (by first | exact Or.inl rfl | exact Or.inr rfl) (L2.pv 4))
    (pss_cons (ps_if (pt_cmpR op_lt (L2.pv 4) (pe_fldK (K := K) rfl (L2.pv 0) rfl) (nomark _)) (pss_one (ps_set (i := 5) hnd rfl (by first | exact Or.inl rfl | exact Or.inr rfl) (pe_op op_add (pe_fldK (K := K) rfl (L2.pv 0) rfl) (L2.pv 4)))) pss_nil)
    (pss_cons (ps_expr (pe_bm PySem.F.plainAttrs_list PySem.F.slot_list_append PySem.F.type_list_append mt_append (L2.pv 1) (pa_cons (pe_tup (pa_cons (L2.pv 2) (pa_cons (L2.pv 3) (pa_cons (L2.pv 5) pa_nil)))) pa_nil)))
    (pss_one (ps_if (pt_cmpR op_lt (L2.pv 2) (pe_fldK (K := K) rfl (L2.pv 0) rfl) (nomark _)) (pss_one (ps_expr (pe_bm PySem.F.plainAttrs_list PySem.F.slot_list_append PySem.F.type_list_append mt_append (L2.pv 1) (pa_cons (pe_tup (pa_cons (pe_op op_add (pe_fldK (K := K) rfl (L2.pv 0) rfl) (L2.pv 2)) (pa_cons (L2.pv 3) (pa_cons (L2.pv 5) pa_nil)))) pa_nil)))) pss_nil))))))
    (pss_cons (ps_set (i := 6) hnd rfl (by first | exact Or.inl rfl | exact Or.inr rfl) (pe_op op_cat (pe_callTy call_list_of (by rfl) T.b.list (by decide +kernel) (pa_cons (pe_fldK (K := K) rfl (L2.pv 0) rfl) pa_nil)) (pe_lc (own := [("end", 7)]) (g := (gName 7)) (tt := _) rfl hnd (pi_tup (pe_fldK (K := K) rfl (L2.pv 0) rfl)) (blkOk_by (own := [("end", 7)]) (N := nm_plain) (sc := defScope s_plain) (by decide +kernel)) (fun _ _ _ _ _ => (pg_name (i := 7) hnd rfl (by first | exact Or.inl rfl | exact Or.inr rfl))) (fun _ _ _ _ _ => pts_one (pt_cmpR op_lt (L2.pv 7) (pe_fldK (K := K) rfl (L2.pv 0) rfl) (nomark _))) (fun _ _ _ _ _ => (pe_op op_add (pe_fldK (K := K) rfl (L2.pv 0) rfl) (L2.pv 7))))))
    (pss_one (ps_ret (pe_make T.cNet.made (ok_Net_init T) (hr.mono (by decide)) (by rfl) T.cNet.mg T.cNet.init.b .nil pass0 (pa_cons (pe_fldK (K := K) rfl (L2.pv 0) rfl) (pa_cons (pe_fldK (K := K) rfl (L2.pv 0) rfl) (pa_cons (pe_op op_add (pe_fldK (K := K) rfl (L2.pv 0) rfl) (pe_fldK (K := K) rfl (L2.pv 0) rfl)) (pa_cons (L2.pv 1) (pa_cons (L2.pv 6) pa_nil)))))))))))), ?_⟩
    refine ⟨_, rfl, _, _, _, rfl, hn.ob, p, N, rfl, hN, fun bo H1 e1 hb => ⟨_, rfl, iteB (fun hbo => ?_) fun hbo => ?_⟩⟩
    · refine ⟨_, rfl, k p N H1 e1 (hN.mono e1) rfl rfl (by have := hn.ok.st; omega) (by omega) (fun c _ => Iff.rfl) fun _ => rfl⟩
    · have hnp : ¬ ∀ e ∈ N.ed, N.st ≤ e.2.2 := fun z => by rw [hb.mpr z] at hbo; cases hbo
      refine ⟨Nat.zero_le _, fun d hd => ?_⟩
      have hd0 := fresh_back e1 hd
      have ed := e1.trans (Ex.new (o := HO.lst []) hd)
      refine ⟨_, rfl, _, _, _, _, _, rfl, (ed _ _ hn.ob), T.cNet.cl, T.cNet.n_edges, fz_at ndNet (i := 3) rfl rfl, a, rfl, ⟨_, SqT.of (ed _ _ hn.ea)⟩, for_tup (K := K) (a := a) (xs := es)
        (fun i σ' H' => ∃ (v2 v3 v4 v5 : Option V) (fs : List V), σ' = [some (.ref p), some (.ref d), v2, v3, v4, v5, none, none] ∧ Ex H H' ∧ H' d = some (.lst fs) ∧ IsL H' fs (((N.ed.take i).flatMap (plE N)).map eD)) ?_ ?_ ?_ ?_⟩
      · exact ⟨none, none, none, none, [], rfl, ed, upd_same, .nil⟩
      · rintro i σ' H' _ ⟨_, _, _, _, _, rfl, e, _⟩
        exact SqT.of (e _ _ hn.ea)
      · rintro i x σ' H' hx ⟨v2, v3, v4, v5, fs, rfl, e, hD, hfs⟩
        obtain ⟨d', hd', hv⟩ := hn.el.get hx
        rw [List.getElem?_map] at hd'
        obtain ⟨⟨n, l, g'⟩, he, rfl⟩ := Option.map_eq_some_iff.mp hd'
        obtain ⟨t, rfl, ht⟩ := Is.edge_iff.mp (hv.mono (Tk.of e))
        have htk : (N.ed.take (i + 1)).flatMap (plE N) = (N.ed.take i).flatMap (plE N) ++ plE N (n, l, g') := by
          rw [List.take_add_one, he]
          simp
        have hfl := hfs.len
        rw [List.length_map] at hfl
        have hfl2 := plE_len N (N.ed.take i)
        rw [List.length_take] at hfl2
        refine ⟨t, _, rfl, SqT.of ht, rfl, _, _, rfl, _, _, rfl, _, _, rfl, rfl, ?_⟩
        refine ⟨_, rfl, ?_⟩
        refine ⟨_, rfl, _, rfl, _, _, _, _, _, rfl, (e _ _ hn.ob), T.cNet.cl, T.cNet.n_states, fz_at ndNet (i := 0) rfl rfl, _, _, rfl, rfl, _, rfl, ?_⟩
        refine iteD (fun hlt => ?_) (fun hlt => ?_)
        case' refine_1 => refine ⟨_, rfl, _, _, _, _, _, rfl, (e _ _ hn.ob), T.cNet.cl, T.cNet.n_nodes, fz_at ndNet (i := 2) rfl rfl, _, rfl, _, _, rfl, rfl, ?_⟩
        all_goals
          (try dsimp only [gName, tNext])
          refine app_is (K := K) (pd := eD (n, l, inner N g')) hD hfs (by rw [List.length_map]; omega) e hd0 (fun Q z => ⟨_, rfl, z⟩) (fun Q z => ⟨_, rfl, _, rfl, _, rfl, by show 3 ≤ sizeLine; decide, fun u hu => z _ _ (Ex.new hu) (isEdge ?_)⟩) fun H2 fs2 e2 o2 t2 hD2 hfs2 => ?_
          · rw [upd_same]
            unfold inner
            first | rw [if_pos hlt] | rw [if_neg hlt]
          · refine ⟨_, rfl, _, rfl, _, _, _, _, _, rfl, (e2 _ _ hn.ob), T.cNet.cl, T.cNet.n_states, fz_at ndNet (i := 0) rfl rfl, _, _, rfl, rfl, _, rfl, ?_⟩
            refine iteD (fun hlt2 => ?_) (fun hlt2 => ?_)
            · (try dsimp only [gName, tNext])
              refine app_is (K := K) (pd := eD (N.nd + n, l, inner N g')) hD2 hfs2 (by rw [List.length_append, List.length_map, List.length_singleton]; omega) e2 hd0 (fun Q z => ⟨_, rfl, z⟩) (fun Q z => ⟨_, rfl, _, _, _, _, _, rfl, (e2 _ _ hn.ob), T.cNet.cl, T.cNet.n_nodes, fz_at ndNet (i := 2) rfl rfl, _, rfl, _, _, rfl, rfl, _, rfl, _, rfl, by show 3 ≤ sizeLine; decide, fun u hu => z _ _ (Ex.new hu) (isEdge ?_)⟩) fun H3 fs3 e3 o3 t3 hD3 hfs3 => ?_
              · rw [upd_same]
                unfold inner
                first | rw [if_pos hlt] | rw [if_neg hlt]
              · refine ⟨_, _, _, _, fs3, rfl, e3, hD3, ?_⟩
                rw [htk]
                rw [show plE N (n, l, g') = [(n, l, inner N g'), (N.nd + n, l, inner N g')] by unfold plE; rw [if_pos hlt2]]
                simpa using hfs3
            · refine ⟨_, _, _, _, fs2, rfl, e2, hD2, ?_⟩
              rw [htk]
              rw [show plE N (n, l, g') = [(n, l, inner N g')] by unfold plE; rw [if_neg hlt2]]
              simpa using hfs2
      · rintro σ' H' ⟨v2, v3, v4, v5, fs, rfl, e, hD, hfs⟩
        rw [hn.el.len, List.length_map, List.take_length] at hfs
        have hpl := plE_len N N.ed
        -- ends
        refine ⟨_, rfl, _, _, _, _, _, rfl, (e _ _ hn.ob), T.cNet.cl, T.cNet.n_ends, fz_at ndNet (i := 4) rfl rfl, b, _, rfl, .inr (SqT.of (e _ _ hn.nb)), fun l1 hl1 => ?_⟩
        have el1 := e.trans (Ex.new (o := HO.lst (N.en.map V.int)) hl1)
        refine ⟨_, rfl, _, _, _, _, _, rfl, (el1 _ _ hn.ob), T.cNet.cl, T.cNet.n_ends, fz_at ndNet (i := 4) rfl rfl, b, rfl, ⟨_, SqT.of (el1 _ _ hn.nb)⟩, fun D2 hD2 => ?_⟩
        refine lcR (walk_tup (xs := N.en.map V.int)) hD2 (by rw [List.length_map]; omega) (fun H2 e2 => SqT.of (e2 _ _ (el1 _ _ hn.nb))) (fun i acc _ => acc = (((N.en.take i).filter fun e => decide (e < N.st)).map fun e => N.nd + e).map V.int) (fun _ _ _ _ _ _ z => z) rfl ?_ ?_
        · rintro i acc x H2 H3 B B' hi _ e2 hD3 r ⟨rfl, hx⟩ kB kB'
          rw [List.getElem?_map] at hx
          obtain ⟨en, he, rfl⟩ := Option.map_eq_some_iff.mp hx
          have htk : N.en.take (i + 1) = N.en.take i ++ [en] := by rw [List.take_add_one, he]; rfl
          have e12 := el1.trans e2
          refine ⟨rfl, _, rfl, _, rfl, _, _, _, _, _, rfl, (e12 _ _ hn.ob), T.cNet.cl, T.cNet.n_states, fz_at ndNet (i := 0) rfl rfl, _, _, rfl, rfl, _, rfl, iteD (fun hlt => ?_) fun hlt => ?_⟩
          · refine ⟨_, rfl, _, _, _, _, _, rfl, (e12 _ _ hn.ob), T.cNet.cl, T.cNet.n_nodes, fz_at ndNet (i := 2) rfl rfl, _, rfl, _, _, rfl, rfl, kB _ _ (Ex.refl _) ?_⟩
            rw [r, htk]
            simp [hlt]
          · refine kB' _ (Ex.refl _) ?_
            rw [r, htk]
            simp [hlt]
        · intro acc H2 e2 hD3 hacc r
          rw [List.length_map, List.take_length] at r
          subst r
          have e12 := el1.trans e2
          have hl12 := e2 l1 (HO.lst (N.en.map V.int)) upd_same
          refine ⟨l1, D2, _, _, rfl, rfl, hl12, hD3, lineOf (by simp only [List.length_map] at *; have := List.length_filter_le (fun e => decide (e < N.st)) N.en; omega), fun q hq => ?_⟩
          have eq := e12.trans (Ex.new (o := HO.lst (N.en.map V.int ++ (((N.en.filter fun e => decide (e < N.st)).map fun e => N.nd + e).map V.int))) hq)
          have eHq := e2.trans (Ex.new (o := HO.lst (N.en.map V.int ++ (((N.en.filter fun e => decide (e < N.st)).map fun e => N.nd + e).map V.int))) hq)
          refine ⟨_, rfl, _, _, _, _, _, rfl, (eq _ _ hn.ob), T.cNet.cl, T.cNet.n_states, fz_at ndNet (i := 0) rfl rfl, _, rfl, _, _, _, _, _, rfl, (eq _ _ hn.ob), T.cNet.cl, T.cNet.n_letters, fz_at ndNet (i := 1) rfl rfl, _, rfl, _, _, _, _, _, rfl, (eq _ _ hn.ob), T.cNet.cl, T.cNet.n_nodes, fz_at ndNet (i := 2) rfl rfl, _, rfl, _, _, _, _, _, rfl, (eq _ _ hn.ob), T.cNet.cl, T.cNet.n_states, fz_at ndNet (i := 0) rfl rfl, _, _, rfl, rfl, _, rfl, _, rfl, ?_⟩
          have hfl := List.length_filter_le (fun e => decide (e < N.st)) N.en
          refine make_net T (N := plN N) (.inl (eHq _ _ (Ex.new hl1 _ _ hD))) (hfs.mono ((Tk.of (Ex.new hl1)).trans (Tk.of eHq))) (.inl ?_) (plN_ok hn.ok) (by show (N.ed.flatMap (plE N)).length < 4000; omega) (by show (N.en ++ _).length < 4000; rw [List.length_append, List.length_map]; omega)
            fun x N' H3 e3 _ hN' c1 c2 c3 c4 c5 c6 c7 => k x N' H3 (eq.trans e3) hN' c1 c2 ?_ ?_ (fun c hc => (Acc.congr c4 c5).trans (plain_acc hn.ok (plN_of N) hc)) fun z => (hnp z).elim
          · rw [upd_same]
            exact congrArg (fun z => some (HO.lst z)) List.map_append.symm
          · rw [c3]; exact Int.le_refl _
          · exact Nat.le_trans c6 hpl
end
end Zp
set_option maxRecDepth 100000
set_option maxHeartbeats 0
namespace Zp
open PySem L2 Zs Evl Pr
/-! ### d.get(k, ()), d.get(k, []) on dicts of lists -/
section
variable {td ty : TE} {σ : L2.St} {H : Hp} {d : Addr}
def LT (b : Bool) (H : Hp) (a : Addr) (xs : List V) : Prop := if b = true then H a = some (.lst xs) else H a = some (.tup xs)
theorem LT.mono {b : Bool} {H H' : Hp} {a : Addr} {xs : List V} (e : Ex H H') (h : LT b H a xs) : LT b H' a xs := by
  unfold LT at *
  split
  · rename_i hb; rw [if_pos hb] at h; exact e _ _ h
  · rename_i hb; rw [if_neg hb] at h; exact e _ _ h
theorem ev_getT {kvs : List (List Key × V)} {L : List Key → List V} {k : List Key} (hD : H d = some (.dT kvs)) (hR : DR H kvs L) (hd : ∀ Q : VK, Q (.ref d) H → td σ H Q) (hk : ∀ Q : VK, (∀ kq, H kq = none → Q (.ref kq) (upd H kq (.tup (k.map kV)))) → ty σ H Q)
    (Q : VK) (h : ∀ a H1, Ex H H1 → LT (valV kvs k).isSome H1 a (L k) → Q (.ref a) H1) : tDGet2 td ty (tTup tNil) σ H Q := by
  refine hd _ ⟨d, rfl, .inr ⟨_, .inl hD⟩, hk _ fun kq hkq => ⟨Nat.zero_le _, fun r hr => ?_⟩⟩
  have e3 : Ex H (upd (upd H kq (.tup (k.map kV))) r (.tup [])) := (Ex.new hkq).trans (Ex.new hr)
  refine ⟨valV kvs k, DGet.t (e3 _ _ hD) (Ex.new hr _ _ upd_same), ?_⟩
  cases e : valV kvs k with
  | none =>
    refine h r _ e3 ?_
    rw [e]
    show _ = some (HO.tup (L k))
    rw [(hR k).2 e]
    exact upd_same
  | some v =>
    obtain ⟨c, rfl, hc⟩ := (hR k).1 v e
    refine h c _ e3 ?_
    rw [e]
    exact e3 _ _ hc
theorem ev_getTL {kvs : List (List Key × V)} {L : List Key → List V} {k : List Key} (hD : H d = some (.dT kvs)) (hR : DR H kvs L) (hd : ∀ Q : VK, Q (.ref d) H → td σ H Q) (hk : ∀ Q : VK, (∀ kq, H kq = none → Q (.ref kq) (upd H kq (.tup (k.map kV)))) → ty σ H Q)
    (Q : VK) (h : ∀ a H1, Ex H H1 → H1 a = some (.lst (L k)) → (valV kvs k = some (.ref a) ∨ H a = none) → Q (.ref a) H1) : tDGet2 td ty (tLst tNil) σ H Q := by
  refine hd _ ⟨d, rfl, .inr ⟨_, .inl hD⟩, hk _ fun kq hkq => ⟨Nat.zero_le _, fun r hr => ?_⟩⟩
  have e3 : Ex H (upd (upd H kq (.tup (k.map kV))) r (.lst [])) := (Ex.new hkq).trans (Ex.new hr)
  refine ⟨valV kvs k, DGet.t (e3 _ _ hD) (Ex.new hr _ _ upd_same), ?_⟩
  cases e : valV kvs k with
  | none =>
    refine h r _ e3 ?_ (.inr (fresh_back (Ex.new hkq) hr))
    rw [(hR k).2 e]
    exact upd_same
  | some v =>
    obtain ⟨c, rfl, hc⟩ := (hR k).1 v e
    exact h c _ e3 (e3 _ _ hc) (.inl e)
theorem ev_getK {kvs : List (Key × V)} {L : Key → List V} {k : Key} (hD : H d = some (.dK kvs)) (hR : DR H kvs L) (hd : ∀ Q : VK, Q (.ref d) H → td σ H Q) (hk : ∀ Q : VK, Q (kV k) H → ty σ H Q)
    (Q : VK) (h : ∀ a H1, Ex H H1 → LT (valV kvs k).isSome H1 a (L k) → Q (.ref a) H1) : tDGet2 td ty (tTup tNil) σ H Q := by
  refine hd _ ⟨d, rfl, .inl ⟨_, .inl hD⟩, hk _ ⟨Nat.zero_le _, fun r hr => ?_⟩⟩
  have e3 : Ex H (upd H r (.tup [])) := Ex.new hr
  refine ⟨valV kvs k, DGet.k (e3 _ _ hD), ?_⟩
  cases e : valV kvs k with
  | none =>
    refine h r _ e3 ?_
    rw [e]
    show _ = some (HO.tup (L k))
    rw [(hR k).2 e]
    exact upd_same
  | some v =>
    obtain ⟨c, rfl, hc⟩ := (hR k).1 v e
    refine h c _ e3 ?_
    rw [e]
    exact e3 _ _ hc
theorem either_ev {K : PySem.W.Frag} {te : TE} {xs : List V} {R : It → Hp → Prop} (b : Bool) (ht : ∀ Q : VK, (∀ a H1, Ex H H1 → LT b H1 a xs → Q (.ref a) H1) → te σ H Q)
    (k : ∀ H1 J (G : Hp → Prop), Ex H H1 → (∀ H', Ex H1 H' → G H') → Walk J xs.length G (YAt xs) → R J H1) : iList K te σ H R ∨ iTup K te σ H R := by
  cases b with
  | true => exact .inl (ht _ fun a H1 e h => ⟨a, rfl, ⟨_, SqL.of h⟩, k H1 _ _ e (fun H' e' => SqL.of (e' _ _ h)) walk_list⟩)
  | false => exact .inr (ht _ fun a H1 e h => ⟨a, rfl, ⟨_, SqT.of h⟩, k H1 _ _ e (fun H' e' => SqT.of (e' _ _ h)) walk_tup⟩)
end
/-! ### machines -/
def nsStep : List Str := ["state", "letter", "goal", "laid", "weight"]
theorem ndStep : nsStep.Nodup := by decide +kernel
def nsMachine : List Str := ["states", "letters", "steps"]
theorem ndMachine : nsMachine.Nodup := by decide +kernel
structure StepIs (C : Addr) (H : Hp) (p : Addr) (s : StepD) (dx la : Addr) : Prop where
  ob : H p = some (.ins C dx (fz nsStep [.int s.state, .int s.letter, .int s.goal, .ref la, .int s.weight]))
  la : H la = some (.tup (s.laid.map V.int))
def StepAt (C : Addr) (H : Hp) (v : V) (s : StepD) : Prop := ∃ p dx la, v = .ref p ∧ StepIs C H p s dx la
theorem StepIs.mono {C : Addr} {H H' : Hp} {p : Addr} {s : StepD} {dx la : Addr} (e : Ex H H') (h : StepIs C H p s dx la) : StepIs C H' p s dx la := ⟨e _ _ h.ob, e _ _ h.la⟩
structure MachIs (C Cs : Addr) (H : Hp) (p : Addr) (M : Mach) (dx a : Addr) (vs : List V) : Prop where
  ob : H p = some (.ins C dx (fz nsMachine [.int M.st, .int M.lt, .ref a]))
  sa : H a = some (.tup vs)
  len : vs.length = M.steps.length
  st : ∀ (i : Nat) (v : V) (s : StepD), vs[i]? = some v → M.steps[i]? = some s → StepAt Cs H v s
  ok : MOk M
  sz : M.steps.length ≤ 10
def MachAt (C Cs : Addr) (H : Hp) (p : Addr) (M : Mach) : Prop := ∃ dx a vs, MachIs C Cs H p M dx a vs
theorem StepAt.mono {C : Addr} {H H' : Hp} {v : V} {s : StepD} (e : Ex H H') : StepAt C H v s → StepAt C H' v s := fun ⟨p, dx, la, h, h2⟩ => ⟨p, dx, la, h, h2.mono e⟩
theorem MachIs.mono {C Cs : Addr} {H H' : Hp} {p : Addr} {M : Mach} {dx a : Addr} {vs : List V} (e : Ex H H') (h : MachIs C Cs H p M dx a vs) : MachIs C Cs H' p M dx a vs where
  ob := e _ _ h.ob
  sa := e _ _ h.sa
  len := h.len
  st := fun i v s h1 h2 => (h.st i v s h1 h2).mono e
  ok := h.ok
  sz := h.sz
theorem MachAt.mono {C Cs : Addr} {H H' : Hp} {p : Addr} {M : Mach} (e : Ex H H') : MachAt C Cs H p M → MachAt C Cs H' p M := fun ⟨dx, a, vs, h⟩ => ⟨dx, a, vs, h.mono e⟩
theorem MachIs.get {C Cs : Addr} {H : Hp} {p : Addr} {M : Mach} {dx a : Addr} {vs : List V} (h : MachIs C Cs H p M dx a vs) {i : Nat} {v : V} (hi : vs[i]? = some v) : ∃ s, M.steps[i]? = some s ∧ StepAt Cs H v s := by
  have hl : i < M.steps.length := by rw [← h.len]; exact (List.getElem?_eq_some_iff.mp hi).1
  exact ⟨_, List.getElem?_eq_getElem hl, h.st i v _ hi (List.getElem?_eq_getElem hl)⟩
theorem MachIs.get' {C Cs : Addr} {H : Hp} {p : Addr} {M : Mach} {dx a : Addr} {vs : List V} (h : MachIs C Cs H p M dx a vs) {i : Nat} {s : StepD} (hi : M.steps[i]? = some s) : ∃ v, vs[i]? = some v ∧ StepAt Cs H v s := by
  have hl : i < vs.length := by rw [h.len]; exact (List.getElem?_eq_some_iff.mp hi).1
  exact ⟨_, List.getElem?_eq_getElem hl, h.st i _ s (List.getElem?_eq_getElem hl) hi⟩
/-! ### an index over a net -/
def nsEdges : List Str := ["known", "ends", "by_node", "by_start"]
theorem ndEdges : nsEdges.Nodup := by decide +kernel
def lgD (e : Edge) : PD := .t [.i e.2.1, .i e.2.2]
def Bof (ed : List Edge) (k : Key) : List PD := (ed.filter fun e => decide (iK e.1 = k)).map lgD
structure EdIs (C : Addr) (H : Hp) (p : Addr) (N : NetD) (dx a b c d : Addr) (kn : List Edge) (en : List Int) (bk : List (Key × V)) (bs : List (List Key × V)) (LB : Key → List V) : Prop where
  ob : H p = some (.ins C dx (fz nsEdges [.ref a, .ref b, .ref c, .ref d]))
  ka : H a = some (.dT (kd eK kn))
  km : ∀ e, e ∈ kn ↔ e ∈ N.ed
  ea : H b = some (.dK (kd iK en))
  em : ∀ e, e ∈ en ↔ e ∈ N.en
  ba : H c = some (.dK bk)
  bd : DR H bk LB
  bl : ∀ k, IsL H (LB k) (Bof N.ed k)
  sa : H d = some (.dT bs)
  sd : DR H bs (Lof N.ed)
def EdAt (C : Addr) (H : Hp) (p : Addr) (N : NetD) : Prop := ∃ dx a b c d kn en bk bs LB, EdIs C H p N dx a b c d kn en bk bs LB
theorem EdIs.mono {C : Addr} {H H' : Hp} {p : Addr} {N : NetD} {dx a b c d : Addr} {kn : List Edge} {en : List Int} {bk : List (Key × V)} {bs : List (List Key × V)} {LB : Key → List V} (e : Ex H H') (h : EdIs C H p N dx a b c d kn en bk bs LB) : EdIs C H' p N dx a b c d kn en bk bs LB where
  ob := e _ _ h.ob
  ka := e _ _ h.ka
  km := h.km
  ea := e _ _ h.ea
  em := h.em
  ba := e _ _ h.ba
  bd := h.bd.mono e
  bl := fun k => (h.bl k).mono (Tk.of e)
  sa := e _ _ h.sa
  sd := h.sd.mono e
theorem EdAt.mono {C : Addr} {H H' : Hp} {p : Addr} {N : NetD} (e : Ex H H') : EdAt C H p N → EdAt C H' p N := fun ⟨dx, a, b, c, d, kn, en, bk, bs, LB, h⟩ => ⟨dx, a, b, c, d, kn, en, bk, bs, LB, h.mono e⟩
section
variable {P : Program} {w : World} {K : PySem.W.Frag} {mg : Str → Option Value} {base : Heap}
def sp_Edges_init (T : Txt K mg) : Sp := fun vs H Q _ => ∃ (p dx q : Addr) (N : NetD), vs = [.ref p, .ref q] ∧ H p = some (.ins T.cEdges.C dx []) ∧ NetAt T.cNet.C H q N ∧ q ≠ p ∧
  ∀ H', EdAt T.cEdges.C H' p N → Off p H H' → Q .non H'
theorem ok_Edges_init (T : Txt K mg) : FnOk P w K mg base CX0 1 T.cEdges.init.f T.cEdges.init.fd ["self", "net"] (sp_Edges_init T) := by
  refine T.cEdges.init.F.ok sc_Edges_init (fun vs H Q E h => ?_) (fun cdv A outer s H vs Q E hr h => ?_)
  · obtain ⟨p, dx, q, N, rfl, _⟩ := h
    rfl
  · obtain ⟨p, dx, q, N, rfl, hp, ⟨dx', a, b, g, es, gs, hn⟩, hqp, k⟩ := h
    have hu := hu_of hr
    have hnd := sc_Edges_init.nd
    refine ⟨_, (pss_cons (ps_fld (L2.pv 0) (pe_dcT (own := [("edge", 2)]) (g := (gName 2)) hu rfl hnd (pi_tup (pe_fldK (K := K) rfl (L2.pv 1) rfl)) (blkOk_by (own := [("edge", 2)]) (N := nm_Edges_init) (sc := defScope s_Edges_init) (by decide +kernel)) (fun _ _ _ _ _ => (pg_name (i := 2) hnd rfl (by first | exact Or.inl rfl | exact Or.inr rfl))) (fun _ _ _ _ _ => (L2.pv 2)) (fun _ _ _ _ _ => (pe_bl))) rfl)
    (pss_cons (ps_fld (L2.pv 0) (pe_dc (own := [("node", 3)]) (g := (gName 3)) (tt := tYes) rfl hnd (pi_tup (pe_fldK (K := K) rfl (L2.pv 1) rfl)) (blkOk_by (own := [("node", 3)]) (N := nm_Edges_init) (sc := defScope s_Edges_init) (by decide +kernel)) (fun _ _ _ _ _ => (pg_name (i := 3) hnd rfl (by first | exact Or.inl rfl | exact Or.inr rfl))) (fun _ _ _ _ _ => pts_nil) (fun _ _ _ _ _ => (L2.pv 3)) (fun _ _ _ _ _ => (pe_bl))) rfl)
    (pss_cons (ps_fld (L2.pv 0) (pe_dnewK) rfl)
    (pss_cons (ps_fld (L2.pv 0) (pe_dnewT) rfl)
    (pss_one (ps_for PassesOwn.never rfl (pi_tup (pe_fldK (K := K) rfl (L2.pv 1) rfl)) (pg_tup rfl (pgs_cons (pg_name (i := 3) hnd rfl (by first | exact Or.inl rfl | exact Or.inr rfl)) (pgs_cons (pg_name (i := 4) hnd rfl (by first | exact Or.inl rfl | exact Or.inr rfl)) (pgs_cons (pg_name (i := 5) hnd rfl (by first | exact Or.inl rfl | exact Or.inr rfl)) pgs_nil))))
      (pss_cons (ps_expr (pe_bm PySem.F.plainAttrs_list PySem.F.slot_list_append PySem.F.type_list_append mt_append (pe_dsetd (pe_fldK (K := K) rfl (L2.pv 0) rfl) (L2.pv 3) (pe_lst pa_nil) ⟨rfl, rfl, rfl, rfl⟩) (pa_cons (pe_tup (pa_cons (L2.pv 4) (pa_cons (L2.pv 5) pa_nil))) pa_nil)))
    (pss_one (ps_expr (pe_bm PySem.F.plainAttrs_list PySem.F.slot_list_append PySem.F.type_list_append mt_append (pe_setdT hu (pe_fldK (K := K) rfl (L2.pv 0) rfl) (pe_tup (pa_cons (L2.pv 3) (pa_cons (L2.pv 4) pa_nil))) (pe_lst pa_nil) ⟨rfl, rfl, rfl, rfl⟩) (pa_cons (L2.pv 5) pa_nil))))))))))), ?_⟩
    have hsz := hn.szE
    have hlen := hn.el.len
    rw [List.length_map] at hlen
    -- known
    refine ⟨_, rfl, _, _, _, _, _, rfl, hn.ob, T.cNet.cl, T.cNet.n_edges, fz_at ndNet (i := 3) rfl rfl, a, rfl, ⟨_, SqT.of hn.ea⟩, fun D hD => dcT_it (walk_tup (K := K) (a := a) (xs := es)) (fun i H1 => ∃ kn : List Edge, Ex H H1 ∧ H1 D = some (.dT (kd eK kn)) ∧ kn.length ≤ i ∧ ∀ e, e ∈ kn ↔ e ∈ N.ed.take i) ?_ ?_ ?_ ?_⟩
    · exact ⟨[], Ex.new hD, upd_same, Nat.le_refl _, fun e => by simp⟩
    · rintro i H1 _ ⟨_, e, _⟩
      exact SqT.of (e _ _ hn.ea)
    · rintro i x H1 H2 hi ⟨kn, e, hD1, hl, hm⟩ ⟨rfl, hx⟩
      obtain ⟨d', hd', hv⟩ := hn.el.get hx
      rw [List.getElem?_map] at hd'
      obtain ⟨ed, he, rfl⟩ := Option.map_eq_some_iff.mp hd'
      obtain ⟨t, rfl, ht⟩ := Is.edge_iff.mp (hv.mono (Tk.of e))
      refine ⟨rfl, _, rfl, _, eK ed, t, rfl, ht, hD1, lineLt (by rw [kd_len]; omega), addM kn ed, Ex.mut e hD, ?_, ?_, fun f => ?_⟩
      · rw [upd_same, kd_put eK_inj']; rfl
      · unfold addM
        split
        · omega
        · rw [List.length_append, List.length_singleton]; omega
      · rw [mem_addM, hm, List.take_add_one, he, Option.toList, List.mem_append, List.mem_singleton]
    · rintro H1 ⟨kn, e1, hD1, hl, hm⟩
      rw [hlen, List.take_length] at hm
      have hp1 := e1 _ _ hp
      rw [fz_nil (ns := nsEdges)] at hp1
      refine ⟨_, rfl, p, _, _, _, rfl, hp1, T.cEdges.cl, T.cEdges.n_known, fz_len (by decide), fld_put ndEdges rfl fun H2 o2 hp2 => ?_⟩
      have o12 := (Off.of (p := p) e1).trans o2
      have nap : a ≠ p := ne_of hn.ea hp (by intro z; cases z)
      have nbp : b ≠ p := ne_of hn.nb hp (by intro z; cases z)
      have nDp : D ≠ p := (ne_of_none hp hD).symm
      have hob2 := o12 _ _ hn.ob hqp
      have hb2 := o12 _ _ hn.nb nbp
      have ha2 := o12 _ _ hn.ea nap
      have hD2 := o2 _ _ hD1 nDp
      -- ends
      refine ⟨_, rfl, _, _, _, _, _, rfl, hob2, T.cNet.cl, T.cNet.n_ends, fz_at ndNet (i := 4) rfl rfl, b, rfl, ⟨_, SqT.of hb2⟩, fun D' hD' => dc_tup (K := K) (a := b) (xs := N.en.map V.int) (fun i H1 => ∃ kn : List Int, Ex H2 H1 ∧ H1 D' = some (.dK (kd iK kn)) ∧ kn.length ≤ i ∧ ∀ e, e ∈ kn ↔ e ∈ N.en.take i) ?_ ?_ ?_ ?_⟩
      · exact ⟨[], Ex.new hD', upd_same, Nat.le_refl _, fun e => by simp⟩
      · rintro i H3 _ ⟨_, e, _⟩
        exact SqT.of (e _ _ hb2)
      · rintro i x H3 hx ⟨kn2, e, hD3, hl2, hm2⟩
        rw [List.getElem?_map] at hx
        obtain ⟨en, he, rfl⟩ := Option.map_eq_some_iff.mp hx
        have hi : i < N.en.length := (List.getElem?_eq_some_iff.mp he).1
        have hszN := hn.szN
        refine ⟨rfl, _, rfl, _, iK en, rfl, hD3, lineLt (by rw [kd_len]; omega), addM kn2 en, Ex.mut e hD', ?_, ?_, fun f => ?_⟩
        · rw [upd_same, kd_put iK_inj]; rfl
        · unfold addM
          split
          · omega
          · rw [List.length_append, List.length_singleton]; omega
        · rw [mem_addM, hm2, List.take_add_one, he, Option.toList, List.mem_append, List.mem_singleton]
      · rintro H3 ⟨en, e3, hD3, _, hm3⟩
        rw [List.length_map, List.take_length] at hm3
        refine ⟨_, rfl, p, _, _, _, rfl, e3 _ _ hp2, T.cEdges.cl, T.cEdges.n_ends, fz_len (by decide), fld_put ndEdges rfl fun H4 o4 hp4 => ?_⟩
        have o24 := (Off.of (p := p) e3).trans o4
        have nD'p : D' ≠ p := (ne_of_none hp2 hD').symm
        -- by_node, by_start
        intro c hc
        refine ⟨_, rfl, p, _, _, _, rfl, Ex.new hc _ _ hp4, T.cEdges.cl, T.cEdges.n_by_node, fz_len (by decide), fld_put ndEdges rfl fun H5 o5 hp5 => ?_⟩
        have ncp : c ≠ p := (ne_of_none hp4 hc).symm
        intro d hd
        have eHd := Ex.new (o := HO.dT []) hd
        refine ⟨_, rfl, p, _, _, _, rfl, eHd _ _ hp5, T.cEdges.cl, T.cEdges.n_by_start, fz_len (by decide), fld_put ndEdges rfl fun H6 o6 hp6 => ?_⟩
        have ndp : d ≠ p := (ne_of_none hp5 hd).symm
        have hc5 : H5 c = some (.dK []) := o5 _ _ upd_same ncp
        have hc6 : H6 c = some (.dK []) := o6 _ _ (eHd _ _ hc5) ncp
        have hd6 : H6 d = some (.dT []) := o6 _ _ upd_same ndp
        have o56 : Off p H5 H6 := (Off.of eHd).trans o6
        have o46 : Off p H4 H6 := ((Off.of (Ex.new hc)).trans o5).trans o56
        have ha6 := o46 _ _ (o24 _ _ ha2 nap) nap
        have hob6 := o46 _ _ (o24 _ _ hob2 hqp) hqp
        have ncd : c ≠ d := ne_of hc6 hd6 (by intro z; cases z)
        have ex0 : Ex (lessH (lessH H6 c) d) H6 := (lessH_ex _ _).trans (lessH_ex _ _)
        have in0 : ∀ z o, H6 z = some o → z ≠ c → z ≠ d → lessH (lessH H6 c) d z = some o := fun z o h h1 h2 => by rw [lessH_ne h2, lessH_ne h1]; exact h
        have hel6 : IsL H6 es (N.ed.map eD) := hn.el.mono (((o12.trans o24).trans o46).tk (by rw [hp]; intro xs z; cases z))
        refine ⟨_, rfl, _, _, _, _, _, rfl, hob6, T.cNet.cl, T.cNet.n_edges, fz_at ndNet (i := 3) rfl rfl, a, rfl, ⟨_, SqT.of ha6⟩, for_tup (K := K) (a := a) (xs := es)
          (fun i σ' H' => ∃ (v3 v4 v5 : Option V) (bk : List (Key × V)) (bs : List (List Key × V)) (LB : Key → List V), σ' = [some (.ref p), some (.ref q), none, v3, v4, v5] ∧ Ex (lessH (lessH H6 c) d) H' ∧ bk.length ≤ i ∧ bs.length ≤ i ∧ DL HO.dK (lessH (lessH H6 c) d) H' c bk LB ∧ (∀ k, IsL H' (LB k) (Bof (N.ed.take i) k)) ∧ DL HO.dT (lessH (lessH H6 c) d) H' d bs (Lof (N.ed.take i)) ∧
            (∀ k k' x, valV bk k = some (.ref x) → valV bs k' ≠ some (.ref x))) ?_ ?_ ?_ ?_⟩
        · refine ⟨none, none, none, [], [], fun _ => [], rfl, ex0, Nat.le_refl _, Nat.le_refl _, DL.empty hc6 (by rw [lessH_ne ncd]; exact lessH_at), fun k => .nil, DL.empty hd6 lessH_at, fun k k' x h => nomatch h⟩
        · rintro i σ' H' _ ⟨_, _, _, _, _, _, rfl, e, _⟩
          exact SqT.of (e _ _ (in0 _ _ ha6 (ne_of ha6 hc6 (by intro z; cases z)) (ne_of ha6 hd6 (by intro z; cases z))))
        · rintro i x σ' H' hx ⟨v3, v4, v5, bk, bs, LB, rfl, e, hl1, hl2, DB, hLB, DS, hdis⟩
          obtain ⟨t0, ht0, hv⟩ := hel6.get hx
          rw [List.getElem?_map] at ht0
          obtain ⟨⟨n, l, g'⟩, he, rfl⟩ := Option.map_eq_some_iff.mp ht0
          have hi : i < N.ed.length := (List.getElem?_eq_some_iff.mp he).1
          have htk : N.ed.take (i + 1) = N.ed.take i ++ [(n, l, g')] := by rw [List.take_add_one, he]; rfl
          obtain ⟨t, rfl, ht⟩ := Is.edge_iff.mp hv
          have ht' := e _ _ (in0 _ _ ht (ne_of ht hc6 (by intro z; cases z)) (ne_of ht hd6 (by intro z; cases z)))
          have hp' := e _ _ (in0 _ _ hp6 ncp.symm ndp.symm)
          refine ⟨t, _, rfl, SqT.of ht', rfl, _, _, rfl, _, _, rfl, _, _, rfl, rfl, ?_⟩
          (try dsimp only [gName, tNext])
          refine setdK_app (k := iK n) (X := fun x H2 => Is H2 x (lgD (n, l, g'))) DB e (by omega) (by rw [(hLB _).len]; unfold Bof; rw [List.length_map]; have := List.length_filter_le (fun e => decide (iK e.1 = iK n)) (N.ed.take i); rw [List.length_take] at this; omega)
            (fun Q z => ⟨_, rfl, _, _, _, _, _, rfl, hp', T.cEdges.cl, T.cEdges.n_by_node, fz_at ndEdges (i := 2) rfl rfl, z⟩) (fun Q z => ⟨_, rfl, z⟩) (fun H1 _ Q z => ⟨_, rfl, _, rfl, by show 2 ≤ sizeLine; decide, fun u hu => z _ _ (Ex.new hu) (Is.t_iff.mpr ⟨u, _, rfl, upd_same, .cons (Is.int _) (.cons (Is.int _) .nil)⟩)⟩) fun x H2 H3 bk' e3 tk3 kp3 hl3 ow3 DB3 hX tk23 => ?_
          have DS3 : DL HO.dT (lessH (lessH H6 c) d) H3 d bs (Lof (N.ed.take i)) := DS.keep kp3 fun q hq z => by
            rcases hq with rfl | ⟨k1, h1⟩
            · rcases z with z | ⟨k2, h2⟩
              · exact ncd z.symm
              · obtain ⟨b', e', _, _, h4⟩ := DB.ls k2 _ h2
                cases e'
                exact absurd (h4.symm.trans DS.at_) (by intro z; cases z)
            · rcases z with rfl | ⟨k2, h2⟩
              · obtain ⟨b', e', _, _, h4⟩ := DS.ls k1 _ h1
                cases e'
                exact absurd (h4.symm.trans DB.at_) (by intro z; cases z)
              · exact hdis k2 k1 q h2 h1
          have hp3 := e3 _ _ (in0 _ _ hp6 ncp.symm ndp.symm)
          (try dsimp only [gName, tNext])
          refine setdT_app (k := pK n l) (X := fun x _ => x = .int g') DS3 e3 (by omega) (by have := Lof_len (N.ed.take i) (pK n l); rw [List.length_take] at this; omega)
            (fun Q z => ⟨_, rfl, _, _, _, _, _, rfl, hp3, T.cEdges.cl, T.cEdges.n_by_start, fz_at ndEdges (i := 3) rfl rfl, z⟩) (fun Q z => ⟨_, rfl, _, rfl, by show 2 ≤ sizeLine; decide, z⟩) (fun H1 _ Q z => ⟨_, rfl, z _ _ (Ex.refl _) rfl⟩) fun x2 H4 H5' bs' e5 tk5 kp5 hl5 ow5 DS5 hX5 _ => ?_
          subst hX5
          have DB5 : DL HO.dK (lessH (lessH H6 c) d) H5' c bk' (pushL LB (iK n) x) := DB3.keep kp5 fun q hq z => by
            rcases hq with rfl | ⟨k1, h1⟩
            · rcases z with z | ⟨k2, h2⟩
              · exact ncd z
              · obtain ⟨b', e', _, _, h4⟩ := DS3.ls k2 _ h2
                cases e'
                exact absurd (h4.symm.trans DB3.at_) (by intro z; cases z)
            · rcases z with rfl | ⟨k2, h2⟩
              · obtain ⟨b', e', _, _, h4⟩ := DB3.ls k1 _ h1
                cases e'
                exact absurd (h4.symm.trans DS3.at_) (by intro z; cases z)
              · rcases ow3 q (.inr ⟨k1, h1⟩) with w3 | w3
                · rcases w3 with rfl | ⟨k3, h3⟩
                  · obtain ⟨b', e', _, _, h4⟩ := DS.ls k2 _ h2
                    cases e'
                    exact absurd (h4.symm.trans DB.at_) (by intro z; cases z)
                  · exact hdis k3 k2 q h3 h2
                · obtain ⟨b', e', _, _, h4⟩ := DS.ls k2 _ h2
                  cases e'
                  rw [h4] at w3
                  cases w3
          refine ⟨_, _, _, bk', bs', pushL LB (iK n) x, rfl, e5, by omega, by omega, DB5, fun k' => ?_, ?_, fun k1 k2 q h1 h2 => ?_⟩
          · rw [htk]
            have tk35 : Tk H' H5' := tk3.trans tk5
            unfold Bof pushL
            rw [List.filter_append, List.map_append]
            by_cases hk : k' = iK n
            · subst hk
              rw [if_pos rfl]
              refine ((hLB _).mono tk35).app ?_
              rw [show [(n, l, g')].filter (fun e : Edge => decide (iK e.1 = iK n)) = [(n, l, g')] by simp]
              exact .cons (hX.mono (tk23.trans tk5)) .nil
            · rw [if_neg hk, show [(n, l, g')].filter (fun e : Edge => decide (iK e.1 = k')) = [] by simp [Ne.symm hk], List.map_nil, List.append_nil]
              exact (hLB k').mono tk35
          · rw [htk, Lof_snoc]
            exact DS5
          · rcases ow3 q (.inr ⟨k1, h1⟩) with w3 | w3
            · rcases ow5 q (.inr ⟨k2, h2⟩) with w5 | w5
              · rcases w3 with rfl | ⟨k3, h3⟩
                · rcases w5 with z | ⟨k4, h4⟩
                  · exact ncd z
                  · obtain ⟨b', e', _, _, h5⟩ := DS.ls k4 _ h4
                    cases e'
                    exact absurd (h5.symm.trans DB.at_) (by intro z; cases z)
                · rcases w5 with rfl | ⟨k4, h4⟩
                  · obtain ⟨b', e', _, _, h5⟩ := DB.ls k3 _ h3
                    cases e'
                    exact absurd (h5.symm.trans DS.at_) (by intro z; cases z)
                  · exact hdis k3 k4 q h3 h4
              · obtain ⟨b', e', _, _, h5⟩ := DB3.ls k1 _ h1
                cases e'
                rw [h5] at w5
                cases w5
            · rcases ow5 q (.inr ⟨k2, h2⟩) with w5 | w5
              · rw [(DS.own0 w5).2.choose_spec] at w3
                cases w3
              · obtain ⟨b', e', _, _, h5⟩ := DB3.ls k1 _ h1
                cases e'
                rw [h5] at w5
                cases w5
        · rintro σ' H' ⟨v3, v4, v5, bk, bs, LB, rfl, e, hl1, hl2, DB, hLB, DS, hdis⟩
          rw [hlen, List.take_length] at DS
          have hLB' : ∀ k, IsL H' (LB k) (Bof N.ed k) := fun k => by
            have := hLB k
            rwa [hlen, List.take_length] at this
          have o45 : Off p H4 H5 := (Off.of (Ex.new hc)).trans o5
          have keep : ∀ z o, H4 z = some o → z ≠ p → H' z = some o := fun z o h hz => e _ _ (in0 _ _ (o46 _ _ h hz) (ne_of_none h hc) (ne_of_none (o45 _ _ h hz) hd))
          refine k H' ⟨dx, D, D', c, d, kn, en, bk, bs, LB, ⟨e _ _ (in0 _ _ hp6 ncp.symm ndp.symm), keep _ _ (o24 _ _ hD2 nDp) nDp, hm, keep _ _ (o4 _ _ hD3 nD'p) nD'p, hm3, DB.at_, DB.dr, hLB', DS.at_, DS.dr⟩⟩ ?_
          exact fun z o h hz => keep _ _ (o24 _ _ (o12 _ _ h hz) hz) hz
end
end Zp
set_option maxRecDepth 100000
set_option maxHeartbeats 0
namespace Zp
open PySem L2 Zs Evl Pr
theorem q_set {te : TE} {i : Nat} {u : TS} {D : Ends} {σ : L2.St} {H : Hp} (h : te σ H fun x H1 => u D (σ.set i (some x)) H1) : tSeq (tAsg te (gName i)) u D σ H := h
theorem q_for {wi : TI} {g : TG} {tb u : TS} {D : Ends} {σ : L2.St} {H : Hp} (h : tFor wi g tb { D with nx := u D } σ H) : tSeq (tFor wi g tb) u D σ H := h
theorem LT.seq {b : Bool} {H : Hp} {a : Addr} {xs : List V} (h : LT b H a xs) : SeqAt H a xs := by
  unfold LT at h
  split at h
  · exact .inl h
  · exact .inr h
theorem ints_get {ns : List Int} {i : Nat} {x : V} (h : (ns.map V.int)[i]? = some x) : ∃ n, ns[i]? = some n ∧ x = .int n := by
  rw [List.getElem?_map] at h
  obtain ⟨n, h1, h2⟩ := Option.map_eq_some_iff.mp h
  exact ⟨n, h1, h2.symm⟩
section
variable {P : Program} {w : World} {K : PySem.W.Frag} {mg : Str → Option Value} {base : Heap}
def sp_Edges_has_path (T : Txt K mg) : Sp := fun vs H Q _ => ∃ (p : Addr) (v : V) (N : NetD) (n e : Int) (ls : List Int), vs = [.ref p, .int n, v, .int e] ∧ EdAt T.cEdges.C H p N ∧ Is H v (iD ls) ∧ (ls.length = 1 ∨ ls.length = 2) ∧ N.ed.length < 4000 ∧
  ∀ (b : Bool) H', Ex H H' → (b = true ↔ Path (mem N.ed) n ls e) → Q (.bl b) H'
theorem ok_Edges_has_path (T : Txt K mg) : FnOk P w K mg base CX0 1 T.cEdges.has_path.f T.cEdges.has_path.fd ["self", "node", "letters", "end"] (sp_Edges_has_path T) := by
  refine T.cEdges.has_path.F.ok sc_Edges_has_path (fun vs H Q E h => ?_) (fun cdv A outer s H vs Q E hr h => ?_)
  · obtain ⟨p, v, N, n, e, ls, rfl, _⟩ := h
    rfl
  · obtain ⟨p, v, N, n, e, ls, rfl, ⟨dx, a, b, c, d, kn, en, bk, bs, LB, hE⟩, hv, hls, hsz, k⟩ := h
    obtain ⟨t, rfl, ht⟩ := Is.ints_iff.mp hv
    have hu := hu_of hr
    have hnd := sc_Edges_has_path.nd
    refine ⟨_, (pss_cons (ps_if (pt_cmpR op_eq (pe_callB call_len_seq (by rfl) T.b.len PySem.boot_len (pa_cons (L2.pv 2) pa_nil)) (pe_int) (nomark _)) (pss_one (ps_ret (pe_cmp (pc_din hu (pe_tup (pa_cons (L2.pv 1) (pa_cons (pe_ix (ix_tupK (K := K) rfl) (L2.pv 2) (pe_int) (fun _ _ => rfl)) (pa_cons (L2.pv 3) pa_nil)))) (pe_fldK (K := K) rfl (L2.pv 0) rfl)) rfl))) pss_nil)
    (pss_cons (ps_set (i := 4) hnd rfl (by first | exact Or.inl rfl | exact Or.inr rfl) (pe_dget2 hu (pe_fldK (K := K) rfl (L2.pv 0) rfl) (pe_tup (pa_cons (L2.pv 1) (pa_cons (pe_ix (ix_tupK (K := K) rfl) (L2.pv 2) (pe_int) (fun _ _ => rfl)) pa_nil))) (pe_tup pa_nil) ⟨rfl, rfl, rfl, rfl⟩))
    (pss_one (ps_ret (pe_callB (cr_any rfl) (by rfl) T.b.any (by decide +kernel) (pa_cons (pe_lc (own := [("middle", 5)]) (g := (gName 5)) (tt := tYes) rfl hnd (pi_either (pi_list (L2.pv 4)) (pi_tup (L2.pv 4))) (blkOk_by (own := [("middle", 5)]) (N := nm_Edges_has_path) (sc := defScope s_Edges_has_path) (by decide +kernel)) (fun _ _ _ _ _ => (pg_name (i := 5) hnd rfl (by first | exact Or.inl rfl | exact Or.inr rfl))) (fun _ _ _ _ _ => pts_nil) (fun _ _ _ _ _ => (pe_cmp (pc_din hu (pe_tup (pa_cons (L2.pv 5) (pa_cons (pe_ix (ix_tupK (K := K) rfl) (L2.pv 2) (pe_int) (fun _ _ => rfl)) (pa_cons (L2.pv 3) pa_nil)))) (pe_fldK (K := K) rfl (L2.pv 0) rfl)) rfl))) pa_nil)))))), ?_⟩
    refine ⟨_, rfl, t, _, rfl, .inr (SqT.of ht), rfl, _, rfl, iteD (fun hl => ?_) fun hl => ?_⟩
    · -- one letter
      obtain ⟨l, rfl⟩ : ∃ l, ls = [l] := by
        rw [List.length_map] at hl
        have : ls.length = 1 := by injection hl with z; omega
        match ls, this with
        | [l], _ => exact ⟨l, rfl⟩
      refine ⟨_, rfl, _, rfl, t, _, _, _, rfl, rfl, SqT.of ht, rfl, _, rfl, by show 3 ≤ sizeLine; decide, fun u hu => ?_⟩
      have eu := Ex.new (o := HO.tup [.int n, .int l, .int e]) hu
      refine ⟨_, rfl, _, _, _, _, _, rfl, (eu _ _ hE.ob), T.cEdges.cl, T.cEdges.n_known, fz_at ndEdges (i := 0) rfl rfl, a, _, rfl, DGet.t (k := eK (n, l, e)) (eu _ _ hE.ka) upd_same, k _ _ eu ?_⟩
      rw [kd_mem eK_inj', hE.km]
      exact ⟨fun h => .cons h (.nil _), fun h => by obtain ⟨m, h1, h2⟩ := Path.uncons h; rw [← h2.nil_eq]; exact h1⟩
    · obtain ⟨l, l2, rfl⟩ : ∃ l l2, ls = [l, l2] := by
        have : ls.length = 2 := by
          rcases hls with z | z
          · exact absurd (by rw [List.length_map, z]; rfl) hl
          · exact z
        match ls, this with
        | [l, l2], _ => exact ⟨l, l2, rfl⟩
      refine nxT ?_
      refine q_set (ev_getT (k := pK n l) hE.sa hE.sd (fun Q z => ⟨_, rfl, _, _, _, _, _, rfl, hE.ob, T.cEdges.cl, T.cEdges.n_by_start, fz_at ndEdges (i := 3) rfl rfl, z⟩) (fun Q z => ⟨_, rfl, _, rfl, t, _, _, _, rfl, rfl, SqT.of ht, rfl, by show 2 ≤ sizeLine; decide, z⟩) _ fun m H1 e1 hLT => ?_)
      obtain ⟨xs, hxs, hm, hxl⟩ := Lof_ints N.ed n l
      rw [hxs] at hLT
      refine either_of (hLT.seq) (fun Q z => ⟨_, rfl, z⟩) fun J G hG hw D hD => ?_
      refine lcR hw hD (by rw [List.length_map]; omega) hG (fun i acc _ => Bls (fun j b => b = true ↔ ∃ x, xs[j]? = some x ∧ (x, l2, e) ∈ N.ed) i acc) (fun _ _ _ _ _ _ z => z) .nil ?_ ?_
      · rintro i acc x H2 H3 B B' hi hl' e2 hD2 r ⟨rfl, hx⟩ kB _
        obtain ⟨y, hy, rfl⟩ := ints_get hx
        have e12 := e1.trans e2
        refine ⟨rfl, _, rfl, _, rfl, t, _, _, _, rfl, rfl, SqT.of (e12 _ _ ht), rfl, _, rfl, by show 3 ≤ sizeLine; decide, fun u hu => ?_⟩
        have eu := Ex.new (o := HO.tup [.int y, .int l2, .int e]) hu
        have e1u := e12.trans eu
        refine ⟨_, rfl, _, _, _, _, _, rfl, (e1u _ _ hE.ob), T.cEdges.cl, T.cEdges.n_known, fz_at ndEdges (i := 0) rfl rfl, a, _, rfl, DGet.t (k := eK (y, l2, e)) (e1u _ _ hE.ka) upd_same, kB _ _ eu (r.snoc ?_)⟩
        rw [kd_mem eK_inj', hE.km]
        exact ⟨fun h => ⟨y, hy, h⟩, fun ⟨z, h1, h2⟩ => by rw [hy] at h1; cases h1; exact h2⟩
      · intro acc H2 e2 hD2 _ r
        obtain ⟨bs', rfl, hbs⟩ := r.any
        refine ⟨D, bs', rfl, SqL.of hD2, k _ _ (e1.trans e2) (hbs.trans ⟨?_, ?_⟩)⟩
        · rintro ⟨j, _, x, h1, h2⟩
          exact .cons ((hm x).mp (List.mem_of_getElem? h1)) (.cons h2 (.nil _))
        · intro h
          obtain ⟨x, h1, h2⟩ := Path.uncons h
          obtain ⟨y, h3, h4⟩ := Path.uncons h2
          cases h4.nil_eq
          obtain ⟨j, hj⟩ := List.mem_iff_getElem?.mp ((hm x).mpr h1)
          exact ⟨j, by rw [List.length_map]; exact (List.getElem?_eq_some_iff.mp hj).1, x, hj, h3⟩
def sp_Edges_covers (T : Txt K mg) : Sp := fun vs H Q _ => ∃ (p : Addr) (N : NetD) (n o : Int), vs = [.ref p, .int n, .int o] ∧ EdAt T.cEdges.C H p N ∧ N.ed.length < 4000 ∧
  ∀ (b : Bool) H', Ex H H' → (b = true ↔ (n ∈ N.en → o ∈ N.en) ∧ ∀ l g, (n, l, g) ∈ N.ed → (o, l, g) ∈ N.ed) → Q (.bl b) H'
theorem ok_Edges_covers (T : Txt K mg) : FnOk P w K mg base CX0 1 T.cEdges.covers.f T.cEdges.covers.fd ["self", "node", "other"] (sp_Edges_covers T) := by
  refine T.cEdges.covers.F.ok sc_Edges_covers (fun vs H Q E h => ?_) (fun cdv A outer s H vs Q E hr h => ?_)
  · obtain ⟨p, N, n, o, rfl, _⟩ := h
    rfl
  · obtain ⟨p, N, n, o, rfl, ⟨dx, a, b, c, d, kn, en, bk, bs, LB, hE⟩, hsz, k⟩ := h
    have hu := hu_of hr
    have hnd := sc_Edges_covers.nd
    refine ⟨_, (pss_cons (ps_if (PW.pt (pw_and (pt_cmp (pc_din hu (L2.pv 1) (pe_fldK (K := K) rfl (L2.pv 0) rfl)) rfl) (pw_and1 (pt_cmp (pc_dnotin hu (L2.pv 2) (pe_fldK (K := K) rfl (L2.pv 0) rfl)) rfl)))) (pss_one (ps_ret (pe_bl))) pss_nil)
    (pss_one (ps_ret (pe_callB (cr_all rfl) (by rfl) T.b.all (by decide +kernel) (pa_cons (pe_lc (own := [("letter", 3), ("end", 4)]) (g := (gTup K 2 (gCons (gName 3) (gCons (gName 4) gNil)))) (tt := tYes) rfl hnd (pi_either (pi_list (pe_dget2 hu (pe_fldK (K := K) rfl (L2.pv 0) rfl) (L2.pv 1) (pe_tup pa_nil) ⟨rfl, rfl, rfl, rfl⟩)) (pi_tup (pe_dget2 hu (pe_fldK (K := K) rfl (L2.pv 0) rfl) (L2.pv 1) (pe_tup pa_nil) ⟨rfl, rfl, rfl, rfl⟩))) (blkOk_by (own := [("letter", 3), ("end", 4)]) (N := nm_Edges_covers) (sc := defScope s_Edges_covers) (by decide +kernel)) (fun _ _ _ _ _ => (pg_tup rfl (pgs_cons (pg_name (i := 3) hnd rfl (by first | exact Or.inl rfl | exact Or.inr rfl)) (pgs_cons (pg_name (i := 4) hnd rfl (by first | exact Or.inl rfl | exact Or.inr rfl)) pgs_nil)))) (fun _ _ _ _ _ => pts_nil) (fun _ _ _ _ _ => (pe_cmp (pc_din hu (pe_tup (pa_cons (L2.pv 2) (pa_cons (L2.pv 3) (pa_cons (L2.pv 4) pa_nil)))) (pe_fldK (K := K) rfl (L2.pv 0) rfl)) rfl))) pa_nil))))), ?_⟩
    have rest : (n ∈ N.en → o ∈ N.en) → ∀ (D : Ends), (∀ v H', Q v H' → D.rt v H') → tRet (tCB (rAll K) (tCons (tLc (fun σ H R => iList K (tDGet2 (tFld K (tVar 0) "by_node") (tVar 1) (tTup tNil)) σ H R ∨ iTup K (tDGet2 (tFld K (tVar 0) "by_node") (tVar 1) (tTup tNil)) σ H R) (gTup K 2 (gCons (gName 3) (gCons (gName 4) gNil))) tYes (tDIn (tTup (tCons (tVar 2) (tCons (tVar 3) (tCons (tVar 4) tNil)))) (tFld K (tVar 0) "known")) [3, 4]) tNil)) D [some (.ref p), some (.int n), some (.int o), none, none] H := by
      intro hen D hDr
      refine either_ev (xs := LB (iK n)) (valV bk (iK n)).isSome (fun Q z => ev_getK hE.ba hE.bd (fun Q z => ⟨_, rfl, _, _, _, _, _, rfl, hE.ob, T.cEdges.cl, T.cEdges.n_by_node, fz_at ndEdges (i := 2) rfl rfl, z⟩) (fun Q z => ⟨_, rfl, z⟩) Q z) fun H1 J G e1 hG hw Dl hDl => ?_
      have hln := (hE.bl (iK n)).len
      have hbl : (Bof N.ed (iK n)).length ≤ N.ed.length := by
        unfold Bof
        rw [List.length_map]
        exact List.length_filter_le _ _
      refine lcR hw hDl (by omega) hG (fun i acc _ => Bls (fun j b => b = true ↔ ∀ e, (N.ed.filter fun e => decide (iK e.1 = iK n))[j]? = some e → (o, e.2.1, e.2.2) ∈ N.ed) i acc) (fun _ _ _ _ _ _ z => z) .nil ?_ ?_
      · rintro i acc x H2 H3 B B' hi hl' e2 hD2 r ⟨rfl, hx⟩ kB _
        have e12 := e1.trans e2
        obtain ⟨t0, ht0, hv⟩ := ((hE.bl (iK n)).mono (Tk.of e12)).get hx
        unfold Bof at ht0
        rw [List.getElem?_map] at ht0
        obtain ⟨ed, he, rfl⟩ := Option.map_eq_some_iff.mp ht0
        obtain ⟨t, vs, rfl, ht, hl0⟩ := Is.t_iff.mp hv
        obtain ⟨y1, r1, rfl, hy1, hr1⟩ := IsL.cons_iff.mp hl0
        obtain ⟨y2, r2, rfl, hy2, hr2⟩ := IsL.cons_iff.mp hr1
        cases IsL.nil_iff.mp hr2
        cases Is.i_iff.mp hy1
        cases Is.i_iff.mp hy2
        refine ⟨t, _, rfl, SqT.of ht, rfl, _, _, rfl, _, _, rfl, rfl, rfl, _, rfl, _, rfl, _, rfl, by show 3 ≤ sizeLine; decide, fun u hu => ?_⟩
        have eu := Ex.new (o := HO.tup [.int o, .int ed.2.1, .int ed.2.2]) hu
        have e1u := e12.trans eu
        refine ⟨_, rfl, _, _, _, _, _, rfl, (e1u _ _ hE.ob), T.cEdges.cl, T.cEdges.n_known, fz_at ndEdges (i := 0) rfl rfl, a, _, rfl, DGet.t (k := eK (o, ed.2.1, ed.2.2)) (e1u _ _ hE.ka) upd_same, kB _ _ eu (r.snoc ?_)⟩
        rw [kd_mem eK_inj', hE.km]
        exact ⟨fun h e' z => by rw [he] at z; cases z; exact h, fun h => h _ he⟩
      · intro acc H2 e2 hD2 _ r
        obtain ⟨bs', rfl, hbs⟩ := r.all
        refine ⟨Dl, bs', rfl, SqL.of hD2, hDr _ _ (k _ _ (e1.trans e2) (hbs.trans ⟨fun h => ⟨hen, fun l g hlg => ?_⟩, fun h j hj e he => ?_⟩))⟩
        · have hmem : (n, l, g) ∈ N.ed.filter fun e => decide (iK e.1 = iK n) := List.mem_filter.mpr ⟨hlg, decide_eq_true rfl⟩
          obtain ⟨j, hj⟩ := List.mem_iff_getElem?.mp hmem
          refine h j ?_ _ hj
          have := (List.getElem?_eq_some_iff.mp hj).1
          rw [hln]
          unfold Bof
          rw [List.length_map]
          exact this
        · obtain ⟨h1, h2⟩ := List.mem_filter.mp (List.mem_of_getElem? he)
          have : e.1 = n := iK_inj _ _ (of_decide_eq_true h2)
          refine h.2 _ _ ?_
          rw [← this]
          exact h1
    refine ⟨_, rfl, _, rfl, _, _, _, _, _, rfl, hE.ob, T.cEdges.cl, T.cEdges.n_ends, fz_at ndEdges (i := 1) rfl rfl, b, _, rfl, DGet.k (k := iK n) hE.ea, _, rfl, ?_⟩
    rw [kd_some iK_inj]
    refine iteD (fun h1 => ?_) fun h1 => nxT (rest (fun z => (h1 ((hE.em n).mpr z)).elim) _ fun _ _ z => z)
    refine ⟨_, rfl, _, rfl, _, _, _, _, _, rfl, hE.ob, T.cEdges.cl, T.cEdges.n_ends, fz_at ndEdges (i := 1) rfl rfl, b, _, rfl, DGet.k (k := iK o) hE.ea, _, rfl, ?_⟩
    rw [kd_some iK_inj]
    refine iteN (fun h2 => rest (fun _ => (hE.em o).mp h2) _ fun _ _ z => z) fun h2 => ?_
    refine k _ _ (Ex.refl _) ⟨(fun z => nomatch z), fun z => (h2 ((hE.em o).mpr (z.1 ((hE.em n).mp h1)))).elim⟩
end
end Zp
set_option maxRecDepth 100000
set_option maxHeartbeats 0
namespace Zp
open PySem L2 Zs Evl Pr
theorem ex_made {H : Hp} {x dx : Addr} {o o' : HO} (hx : H x = none) (hdx : H dx = none) : Ex H (upd (upd H dx o') x o) := fun q u hq => by
  rw [upd_ne (ne_of_none hq hx), upd_ne (ne_of_none hq hdx)]
  exact hq
theorem tup_get {α β : Type} {l : List α} {i : Nat} {f : α → β} {x : β} (h : (l.map f)[i]? = some x) : ∃ a, l[i]? = some a ∧ x = f a := by
  rw [List.getElem?_map] at h
  obtain ⟨n, h1, h2⟩ := Option.map_eq_some_iff.mp h
  exact ⟨n, h1, h2.symm⟩
def AnsQ (N : NetD) (s : StepD) (q : Int) : Prop :=
  (s.laid = [] → (∀ l n, (q, l, n) ∈ N.ed → (s.goal, l, n) ∈ N.ed) ∧ (q ∈ N.en → s.goal ∈ N.en)) ∧ (∀ a, s.laid = [a] → (s.goal, a, q) ∈ N.ed) ∧ (∀ a b, s.laid = [a, b] → ∃ r, (s.goal, a, r) ∈ N.ed ∧ (r, b, q) ∈ N.ed)
def AnsP (N : NetD) (s : StepD) : Prop := ∀ q, (s.state, s.letter, q) ∈ N.ed → AnsQ N s q
theorem ansQ_path {N : NetD} {s : StepD} {q : Int} (h : s.laid.length = 1 ∨ s.laid.length = 2) : AnsQ N s q ↔ Path (mem N.ed) s.goal s.laid q := by
  unfold AnsQ
  match hl : s.laid, h with
  | [a], _ =>
    refine ⟨fun z => .cons (z.2.1 a rfl) (.nil _), fun z => ⟨(fun w => nomatch w), fun a' w => ?_, (fun _ _ w => nomatch w)⟩⟩
    cases w
    obtain ⟨m, h1, h2⟩ := Path.uncons z
    rw [← h2.nil_eq]
    exact h1
  | [a, b], _ =>
    refine ⟨fun z => ?_, fun z => ⟨(fun w => nomatch w), (fun _ w => nomatch w), fun a' b' w => ?_⟩⟩
    · obtain ⟨r, h1, h2⟩ := z.2.2 a b rfl
      exact .cons h1 (.cons h2 (.nil _))
    · cases w
      obtain ⟨m, h1, h2⟩ := Path.uncons z
      obtain ⟨m2, h3, h4⟩ := Path.uncons h2
      cases h4.nil_eq
      exact ⟨m, h1, h3⟩
section
variable {P : Program} {w : World} {K : PySem.W.Frag} {mg : Str → Option Value} {base : Heap}
theorem EdAt.ins {C : Addr} {H : Hp} {p : Addr} {N : NetD} : EdAt C H p N → ∃ dx vs, H p = some (.ins C dx (fz nsEdges vs))
  | ⟨_, _, _, _, _, _, _, _, _, _, h⟩ => ⟨_, _, h.ob⟩
def sp_Edges_answers (T : Txt K mg) : Sp := fun vs H Q _ => ∃ (p : Addr) (v : V) (N : NetD) (s : StepD), vs = [.ref p, v] ∧ EdAt T.cEdges.C H p N ∧ StepAt T.cStep.C H v s ∧ s.laid.length ≤ 2 ∧ N.ed.length < 4000 ∧
  ∀ (b : Bool) H', Ex H H' → (b = true ↔ AnsP N s) → Q (.bl b) H'
theorem ok_Edges_answers (T : Txt K mg) : FnOk P w K mg base CX0 2 T.cEdges.answers.f T.cEdges.answers.fd ["self", "step"] (sp_Edges_answers T) := by
  refine T.cEdges.answers.F.ok sc_Edges_answers (fun vs H Q E h => ?_) (fun cdv A outer s H vs Q E hr h => ?_)
  · obtain ⟨p, v, N, st, rfl, _⟩ := h
    rfl
  · obtain ⟨p, v, N, st, rfl, hE0, ⟨sp, sdx, la, rfl, hs⟩, hls, hsz, k⟩ := h
    obtain ⟨dx, a, b, c, d, kn, en, bk, bs, LB, hE⟩ := id hE0
    have hu := hu_of hr
    have hnd := sc_Edges_answers.nd
    refine ⟨_, (pss_cons (ps_for PassesOwn.never rfl (pi_either (pi_list (pe_dget2 hu (pe_fldK (K := K) rfl (L2.pv 0) rfl) (pe_tup (pa_cons (pe_fldK (K := K) rfl (L2.pv 1) rfl) (pa_cons (pe_fldK (K := K) rfl (L2.pv 1) rfl) pa_nil))) (pe_tup pa_nil) ⟨rfl, rfl, rfl, rfl⟩)) (pi_tup (pe_dget2 hu (pe_fldK (K := K) rfl (L2.pv 0) rfl) (pe_tup (pa_cons (pe_fldK (K := K) rfl (L2.pv 1) rfl) (pa_cons (pe_fldK (K := K) rfl (L2.pv 1) rfl) pa_nil))) (pe_tup pa_nil) ⟨rfl, rfl, rfl, rfl⟩))) (pg_name (i := 2) hnd rfl (by first | exact Or.inl rfl | exact Or.inr rfl))
      (pss_one (ps_if (pt_cmpR op_eq (pe_callB call_len_seq (by rfl) T.b.len PySem.boot_len (pa_cons (pe_fldK (K := K) rfl (L2.pv 1) rfl) pa_nil)) (pe_int) (nomark _)) (pss_one (ps_if (pt_not (pt_val (pe_meth (L2.pv 0) T.cEdges.cl T.cEdges.m_covers (ok_Edges_covers T) (hr.mono (by decide)) T.cEdges.covers.b .nil pass0 (pa_cons (L2.pv 2) (pa_cons (pe_fldK (K := K) rfl (L2.pv 1) rfl) pa_nil))))) (pss_one (ps_ret (pe_bl))) pss_nil)) (pss_one (ps_if (pt_not (pt_val (pe_meth (L2.pv 0) T.cEdges.cl T.cEdges.m_has_path (ok_Edges_has_path T) (hr.mono (by decide)) T.cEdges.has_path.b .nil pass0 (pa_cons (pe_fldK (K := K) rfl (L2.pv 1) rfl) (pa_cons (pe_fldK (K := K) rfl (L2.pv 1) rfl) (pa_cons (L2.pv 2) pa_nil)))))) (pss_one (ps_ret (pe_bl))) pss_nil)))))
    (pss_one (ps_ret (pe_bl)))), ?_⟩
    obtain ⟨xs, hxs, hm, hxl⟩ := Lof_ints N.ed st.state st.letter
    refine either_ev (xs := Lof N.ed (pK st.state st.letter)) (valV bs (pK st.state st.letter)).isSome (fun Q z => ev_getT (k := pK st.state st.letter) hE.sa hE.sd (fun Q z => ⟨_, rfl, _, _, _, _, _, rfl, hE.ob, T.cEdges.cl, T.cEdges.n_by_start, fz_at ndEdges (i := 3) rfl rfl, z⟩) (fun Q z => ⟨_, rfl, _, _, _, _, _, rfl, hs.ob, T.cStep.cl, T.cStep.n_state, fz_at ndStep (i := 0) rfl rfl, _, rfl, _, _, _, _, _, rfl, hs.ob, T.cStep.cl, T.cStep.n_letter, fz_at ndStep (i := 1) rfl rfl, by show 2 ≤ sizeLine; decide, z⟩) Q z) fun H1 J G e1 hG hw => ?_
    rw [hxs] at hw
    refine for_it hw (fun i σ' H' => ∃ v2 : Option V, σ' = [some (.ref p), some (.ref sp), v2] ∧ Ex H1 H' ∧ ∀ q ∈ xs.take i, AnsQ N st q) ?_ ?_ ?_ ?_
    · exact ⟨none, rfl, Ex.refl _, fun q hq => by simp at hq⟩
    · rintro i σ' H' _ ⟨_, rfl, e, _⟩
      exact hG _ e
    · rintro i x σ' H' H2 hi ⟨v2, rfl, e, hq⟩ ⟨rfl, hx⟩
      obtain ⟨q, hqx, rfl⟩ := ints_get hx
      have e2 := e1.trans e
      have hmem : (st.state, st.letter, q) ∈ N.ed := (hm q).mp (List.mem_of_getElem? hqx)
      have next : AnsQ N st q → ∃ v2 : Option V, [some (V.ref p), some (.ref sp), some (.int q)] = [some (.ref p), some (.ref sp), v2] ∧ Ex H1 H2 ∧ ∀ q' ∈ xs.take (i + 1), AnsQ N st q' := fun h => ⟨_, rfl, e, fun q' hq' => by
        rw [List.take_add_one, hqx] at hq'
        rcases List.mem_append.mp hq' with z | z
        · exact hq q' z
        · cases List.mem_singleton.mp z
          exact h⟩
      have nextH : ∀ H3, Ex H2 H3 → AnsQ N st q → ∃ v2 : Option V, [some (V.ref p), some (.ref sp), some (.int q)] = [some (.ref p), some (.ref sp), v2] ∧ Ex H1 H3 ∧ ∀ q' ∈ xs.take (i + 1), AnsQ N st q' := fun H3 e3 h => by
        obtain ⟨v2, h1, h2, h3⟩ := next h
        exact ⟨v2, h1, h2.trans e3, h3⟩
      refine ⟨_, rfl, _, _, _, _, _, rfl, (e2 _ _ hs.ob), T.cStep.cl, T.cStep.n_laid, fz_at ndStep (i := 3) rfl rfl, la, _, rfl, .inr (SqT.of (e2 _ _ hs.la)), rfl, _, rfl, iteD (fun hl => ?_) fun hl => ?_⟩
      · have hl0 : st.laid = [] := by
          rw [List.length_map] at hl
          injection hl with z
          exact List.length_eq_zero_iff.mp (by omega)
        refine ⟨_, rfl, _, _, _, rfl, (e2 _ _ hE.ob), fz_no (by decide +kernel), _, rfl, _, rfl, _, _, _, _, _, rfl, (e2 _ _ hs.ob), T.cStep.cl, T.cStep.n_goal, fz_at ndStep (i := 2) rfl rfl, p, N, q, st.goal, rfl, hE0.mono e2, hsz, fun b H3 e3 hb => ⟨_, rfl, iteNB (fun hbt => ?_) fun hbf => ?_⟩⟩
        · refine nextH H3 e3 ⟨fun _ => ⟨(hb.mp hbt).2, (hb.mp hbt).1⟩, fun a' z => ?_, fun a' b' z => ?_⟩
          · rw [hl0] at z; cases z
          · rw [hl0] at z; cases z
        · refine k _ _ (e2.trans e3) ⟨(fun z => nomatch z), fun z => ?_⟩
          have := (z q hmem).1 hl0
          rw [hb.mpr ⟨this.2, this.1⟩] at hbf
          cases hbf
      · have hl12 : st.laid.length = 1 ∨ st.laid.length = 2 := by
          have : st.laid.length ≠ 0 := fun z => hl (by rw [List.length_map, z]; rfl)
          omega
        refine ⟨_, rfl, _, _, _, rfl, (e2 _ _ hE.ob), fz_no (by decide +kernel), _, rfl, _, _, _, _, _, rfl, (e2 _ _ hs.ob), T.cStep.cl, T.cStep.n_goal, fz_at ndStep (i := 2) rfl rfl, _, rfl, _, _, _, _, _, rfl, (e2 _ _ hs.ob), T.cStep.cl, T.cStep.n_laid, fz_at ndStep (i := 3) rfl rfl, _, rfl, p, .ref la, N, st.goal, q, st.laid, rfl, hE0.mono e2, isInts (e2 _ _ hs.la), hl12, hsz, fun b H3 e3 hb => ⟨_, rfl, iteNB (fun hbt => ?_) fun hbf => ?_⟩⟩
        · exact nextH H3 e3 ((ansQ_path hl12).mpr (hb.mp hbt))
        · refine k _ _ (e2.trans e3) ⟨(fun z => nomatch z), fun z => ?_⟩
          rw [hb.mpr ((ansQ_path hl12).mp (z q hmem))] at hbf
          cases hbf
    · rintro σ' H' ⟨v2, rfl, e, hq⟩
      rw [List.length_map, List.take_length] at hq
      exact k _ _ (e1.trans e) ⟨fun _ q hq' => hq q ((hm q).mpr hq'), fun _ => rfl⟩
theorem make_edges (T : Txt K mg) {H : Hp} {R : Addr → Hp → Prop} {E : XK} {q : Addr} {N : NetD} (hN : NetAt T.cNet.C H q N) (k : ∀ (x : Addr) H', Ex H H' → H x = none → EdAt T.cEdges.C H' x N → R x H') :
    ∀ x dx, H x = none → H dx = none → dx ≠ x → sp_Edges_init T (.ref x :: ([.ref q] ++ [])) (upd (upd H dx (.own x)) x (.ins T.cEdges.C dx [])) (fun v H2 => v = .non ∧ R x H2) E := by
  intro x dx hx hdx hne
  have e := ex_made (o := HO.ins T.cEdges.C dx []) (o' := HO.own x) hx hdx
  obtain ⟨_, _, ho⟩ := hN.ins
  exact ⟨x, dx, q, N, rfl, upd_same, hN.mono e, ne_of_none ho hx, fun H' hE o => ⟨rfl, k x H' (o.ex e hx) hx hE⟩⟩
def sp_is_closed_forwards (T : Txt K mg) : Sp := fun vs H Q _ => ∃ (m p : Addr) (M : Mach) (N : NetD), vs = [.ref m, .ref p] ∧ MachAt T.cMachine.C T.cStep.C H m M ∧ NetAt T.cNet.C H p N ∧
  ∀ (b : Bool) H', Ex H H' → (b = true ↔ Fwd M N) → Q (.bl b) H'
theorem ok_is_closed_forwards (T : Txt K mg) : FnOk P w K mg base CX0 3 T.f.is_closed_forwards.f T.f.is_closed_forwards.fd ["machine", "net"] (sp_is_closed_forwards T) := by
  refine T.f.is_closed_forwards.F.ok sc_is_closed_forwards (fun vs H Q E h => ?_) (fun cdv A outer s H vs Q E hr h => ?_)
  · obtain ⟨m, p, M, N, rfl, _⟩ := h
    rfl
  · obtain ⟨m, p, M, N, rfl, ⟨mdx, ma, mvs, hM⟩, hN, k⟩ := h
    have hu := hu_of hr
    have hnd := sc_is_closed_forwards.nd
    refine ⟨_, (pss_cons (ps_set (i := 2) hnd rfl (by first | exact Or.inl rfl | exact Or.inr rfl) (pe_make T.cEdges.made (ok_Edges_init T) (hr.mono (by decide)) (by rfl) T.cEdges.mg T.cEdges.init.b .nil pass0 (pa_cons (L2.pv 1) pa_nil)))
    (pss_one (ps_ret (pe_callB (cr_all rfl) (by rfl) T.b.all (by decide +kernel) (pa_cons (pe_lc (own := [("step", 3)]) (g := (gName 3)) (tt := tYes) rfl hnd (pi_tup (pe_fldK (K := K) rfl (L2.pv 0) rfl)) (blkOk_by (own := [("step", 3)]) (N := nm_is_closed_forwards) (sc := defScope s_is_closed_forwards) (by decide +kernel)) (fun _ _ _ _ _ => (pg_name (i := 3) hnd rfl (by first | exact Or.inl rfl | exact Or.inr rfl))) (fun _ _ _ _ _ => pts_nil) (fun _ _ _ _ _ => (pe_meth (L2.pv 2) T.cEdges.cl T.cEdges.m_answers (ok_Edges_answers T) (hr.mono (by decide)) T.cEdges.answers.b .nil pass0 (pa_cons (L2.pv 3) pa_nil)))) pa_nil))))), ?_⟩
    refine ⟨_, rfl, ?_⟩
    refine make_edges T hN fun x H1 e1 _ hE => ?_
    refine ⟨_, rfl, _, _, _, _, _, rfl, (e1 _ _ hM.ob), T.cMachine.cl, T.cMachine.n_steps, fz_at ndMachine (i := 2) rfl rfl, ma, rfl, ⟨_, SqT.of (e1 _ _ hM.sa)⟩, fun D hD => ?_⟩
    refine lcR (walk_tup (xs := mvs)) hD (by have := hM.len; have := hM.sz; omega) (fun H' e => SqT.of (e _ _ (e1 _ _ hM.sa))) (fun i acc _ => Bls (fun j b => b = true ↔ ∀ s, M.steps[j]? = some s → AnsP N s) i acc) (fun _ _ _ _ _ _ z => z) .nil ?_ ?_
    · rintro i acc y H2 H3 B B' hi hl' e2 hD2 r ⟨rfl, hy⟩ kB _
      have e12 := e1.trans e2
      obtain ⟨st, hst, hat⟩ := (hM.mono e12).get hy
      obtain ⟨_, _, ho⟩ := (hE.mono e2).ins
      refine ⟨rfl, _, rfl, _, _, _, rfl, ho, fz_no (by decide +kernel), _, rfl, x, y, N, st, rfl, hE.mono e2, hat, (hM.ok.stp st (List.mem_of_getElem? hst)).2.2.2.1, hN.sz.1, fun b H4 e4 hb => kB _ _ e4 (r.snoc (hb.trans ⟨fun h s' z => by rw [hst] at z; cases z; exact h, fun h => h _ hst⟩))⟩
    · intro acc H2 e2 hD2 hacc r
      obtain ⟨bs, rfl, hbs⟩ := r.all
      refine ⟨D, bs, rfl, SqL.of hD2, k _ _ (e1.trans e2) (hbs.trans ⟨fun h s hs => ?_, fun h j hj s hs => h s (List.mem_of_getElem? hs)⟩)⟩
      obtain ⟨j, hj⟩ := List.mem_iff_getElem?.mp hs
      exact h j (by rw [hM.len]; exact (List.getElem?_eq_some_iff.mp hj).1) s hj
def sp_extends_ (T : Txt K mg) : Sp := fun vs H Q _ => ∃ (q p : Addr) (B N : NetD), vs = [.ref q, .ref p] ∧ NetAt T.cNet.C H q B ∧ NetAt T.cNet.C H p N ∧
  ∀ (b : Bool) H', Ex H H' → (b = true ↔ N.nd ≤ B.nd ∧ Ext N B) → Q (.bl b) H'
theorem ok_extends_ (T : Txt K mg) : FnOk P w K mg base CX0 3 T.f.extends_.f T.f.extends_.fd ["larger", "net"] (sp_extends_ T) := by
  refine T.f.extends_.F.ok sc_extends_ (fun vs H Q E h => ?_) (fun cdv A outer s H vs Q E hr h => ?_)
  · obtain ⟨q, p, B, N, rfl, _⟩ := h
    rfl
  · obtain ⟨q, p, B, N, rfl, hB, hN, k⟩ := h
    obtain ⟨dx, a, b, g, es, gs, hn⟩ := id hN
    obtain ⟨dx', a', b', g', es', gs', hb'⟩ := id hB
    have hu := hu_of hr
    have hnd := sc_extends_.nd
    refine ⟨_, (pss_cons (ps_set (i := 2) hnd rfl (by first | exact Or.inl rfl | exact Or.inr rfl) (pe_make T.cEdges.made (ok_Edges_init T) (hr.mono (by decide)) (by rfl) T.cEdges.mg T.cEdges.init.b .nil pass0 (pa_cons (L2.pv 0) pa_nil)))
    (pss_cons (ps_if (PW.pt (pw_or (pt_cmpR op_lt (pe_fldK (K := K) rfl (L2.pv 0) rfl) (pe_fldK (K := K) rfl (L2.pv 1) rfl) (nomark _)) (pw_or1 (pt_not (pt_val (pe_callB (cr_all rfl) (by rfl) T.b.all (by decide +kernel) (pa_cons (pe_lc (own := [("node", 3)]) (g := (gName 3)) (tt := tYes) rfl hnd (pi_tup (pe_fldK (K := K) rfl (L2.pv 1) rfl)) (blkOk_by (own := [("node", 3)]) (N := nm_extends_) (sc := defScope s_extends_) (by decide +kernel)) (fun _ _ _ _ _ => (pg_name (i := 3) hnd rfl (by first | exact Or.inl rfl | exact Or.inr rfl))) (fun _ _ _ _ _ => pts_nil) (fun _ _ _ _ _ => (pe_cmp (pc_din hu (L2.pv 3) (pe_fldK (K := K) rfl (L2.pv 2) rfl)) rfl))) pa_nil))))))) (pss_one (ps_ret (pe_bl))) pss_nil)
    (pss_one (ps_ret (pe_callB (cr_all rfl) (by rfl) T.b.all (by decide +kernel) (pa_cons (pe_lc (own := [("edge", 4)]) (g := (gName 4)) (tt := tYes) rfl hnd (pi_tup (pe_fldK (K := K) rfl (L2.pv 1) rfl)) (blkOk_by (own := [("edge", 4)]) (N := nm_extends_) (sc := defScope s_extends_) (by decide +kernel)) (fun _ _ _ _ _ => (pg_name (i := 4) hnd rfl (by first | exact Or.inl rfl | exact Or.inr rfl))) (fun _ _ _ _ _ => pts_nil) (fun _ _ _ _ _ => (pe_cmp (pc_din hu (L2.pv 4) (pe_fldK (K := K) rfl (L2.pv 2) rfl)) rfl))) pa_nil)))))), ?_⟩
    refine ⟨_, rfl, ?_⟩
    refine make_edges T hB fun x H1 e1 _ hE => ?_
    obtain ⟨edx, ea, eb, ec, ed, kn, en, bk, bs, LB, hE'⟩ := id hE
    have hszN := hn.szN
    have hszE := hn.szE
    have hlen := hn.el.len
    rw [List.length_map] at hlen
    refine ⟨_, rfl, _, _, _, _, _, rfl, (e1 _ _ hb'.ob), T.cNet.cl, T.cNet.n_nodes, fz_at ndNet (i := 2) rfl rfl, _, rfl, _, _, _, _, _, rfl, (e1 _ _ hn.ob), T.cNet.cl, T.cNet.n_nodes, fz_at ndNet (i := 2) rfl rfl, _, _, rfl, rfl, _, rfl, iteD (fun hlt => ?_) fun hlt => ?_⟩
    · exact k _ _ e1 ⟨(fun z => nomatch z), fun z => absurd z.1 (by omega)⟩
    refine ⟨_, rfl, _, _, _, _, _, rfl, (e1 _ _ hn.ob), T.cNet.cl, T.cNet.n_ends, fz_at ndNet (i := 4) rfl rfl, b, rfl, ⟨_, SqT.of (e1 _ _ hn.nb)⟩, fun D hD => ?_⟩
    refine lcR (walk_tup (xs := N.en.map V.int)) hD (by rw [List.length_map]; omega) (fun H' e => SqT.of (e _ _ (e1 _ _ hn.nb))) (fun i acc _ => Bls (fun j b => b = true ↔ ∀ n, N.en[j]? = some n → n ∈ B.en) i acc) (fun _ _ _ _ _ _ z => z) .nil ?_ ?_
    · rintro i acc y H2 H3 B1 B' hi hl' e2 hD2 r ⟨rfl, hy⟩ kB _
      obtain ⟨n, hn', rfl⟩ := ints_get hy
      refine ⟨rfl, _, rfl, _, rfl, _, _, _, _, _, rfl, (e2 _ _ hE'.ob), T.cEdges.cl, T.cEdges.n_ends, fz_at ndEdges (i := 1) rfl rfl, eb, _, rfl, DGet.k (k := iK n) (e2 _ _ hE'.ea), kB _ _ (Ex.refl _) (r.snoc ?_)⟩
      rw [kd_mem iK_inj, hE'.em]
      exact ⟨fun h s' z => by rw [hn'] at z; cases z; exact h, fun h => h _ hn'⟩
    · intro acc H2 e2 hD2 hacc r
      have e12 := e1.trans e2
      obtain ⟨bs1, rfl, hbs⟩ := r.all
      have hbs2 : bs1.all id = true ↔ ∀ e ∈ N.en, e ∈ B.en := hbs.trans ⟨fun h n hn' => by
        obtain ⟨j, hj⟩ := List.mem_iff_getElem?.mp hn'
        exact h j (by rw [List.length_map]; exact (List.getElem?_eq_some_iff.mp hj).1) n hj, fun h j _ n hj => h n (List.mem_of_getElem? hj)⟩
      refine ⟨D, bs1, rfl, SqL.of hD2, _, rfl, iteNB (fun hbt => ?_) fun hbf => ?_⟩
      · refine nxT ?_
        refine ⟨_, rfl, _, _, _, _, _, rfl, (e12 _ _ hn.ob), T.cNet.cl, T.cNet.n_edges, fz_at ndNet (i := 3) rfl rfl, a, rfl, ⟨_, SqT.of (e12 _ _ hn.ea)⟩, fun D2 hD2' => ?_⟩
        refine lcR (walk_tup (xs := es)) hD2' (by omega) (fun H' e => SqT.of (e _ _ (e12 _ _ hn.ea))) (fun i acc _ => Bls (fun j b => b = true ↔ ∀ n, N.ed[j]? = some n → n ∈ B.ed) i acc) (fun _ _ _ _ _ _ z => z) .nil ?_ ?_
        · rintro i acc y H3 H4 B1 B' hi hl' e3 hD3 r3 ⟨rfl, hy⟩ kB _
          have e13 := e12.trans e3
          obtain ⟨t0, ht0, hv⟩ := (hn.el.mono (Tk.of e13)).get hy
          obtain ⟨ed', he, rfl⟩ := tup_get ht0
          obtain ⟨t, rfl, ht⟩ := Is.edge_iff.mp hv
          refine ⟨rfl, _, rfl, _, rfl, _, _, _, _, _, rfl, (e3 _ _ (e2 _ _ hE'.ob)), T.cEdges.cl, T.cEdges.n_known, fz_at ndEdges (i := 0) rfl rfl, ea, _, rfl, DGet.t (k := eK ed') (e3 _ _ (e2 _ _ hE'.ka)) ht, kB _ _ (Ex.refl _) (r3.snoc ?_)⟩
          rw [kd_mem eK_inj', hE'.km]
          exact ⟨fun h s' z => by rw [he] at z; cases z; exact h, fun h => h _ he⟩
        · intro acc H3 e3 hD3 hacc3 r3
          obtain ⟨bs3, rfl, hbs3⟩ := r3.all
          refine ⟨D2, bs3, rfl, SqL.of hD3, k _ _ (e12.trans e3) (hbs3.trans ⟨fun h => ⟨by omega, fun e he => ?_, hbs2.mp hbt⟩, fun h j _ n hj => h.2.1 n (List.mem_of_getElem? hj)⟩)⟩
          obtain ⟨j, hj⟩ := List.mem_iff_getElem?.mp he
          exact h j (by have := (List.getElem?_eq_some_iff.mp hj).1; omega) e hj
      · exact k _ _ e12 ⟨(fun z => nomatch z), fun z => by rw [hbs2.mpr z.2.2] at hbf; cases hbf⟩
def sp_shows_staying (T : Txt K mg) : Sp := fun vs H Q _ => ∃ (m p a b : Addr) (v : V) (M : Mach) (N B : NetD) (c : Conf) (es : List V), vs = [.ref m, .ref p, v, .int B.nd, .ref a, .ref b] ∧ MachAt T.cMachine.C T.cStep.C H m M ∧ NetAt T.cNet.C H p N ∧ Is H v (cD c) ∧
  SeqAt H a es ∧ IsL H es (B.ed.map eD) ∧ SeqAt H b (B.en.map V.int) ∧ NetOk B ∧ B.ed.length < 4000 ∧ B.en.length < 4000 ∧ B.st = M.st ∧ B.lt = M.lt ∧
  ∀ (r : Bool) H', Ex H H' → (r = true ↔ (N.nd ≤ B.nd ∧ Ext N B) ∧ Fwd M B ∧ ¬ Acc B c) → Q (.bl r) H'
theorem ok_shows_staying (T : Txt K mg) : FnOk P w K mg base CX0 4 T.f.shows_staying.f T.f.shows_staying.fd ["machine", "net", "configuration", "nodes", "edges", "ends"] (sp_shows_staying T) := by
  refine T.f.shows_staying.F.ok sc_shows_staying (fun vs H Q E h => ?_) (fun cdv A outer s H vs Q E hr h => ?_)
  · obtain ⟨m, p, a, b, v, M, N, B, c, es, rfl, _⟩ := h
    rfl
  · obtain ⟨m, p, a, b, v, M, N, B, c, es, rfl, hM, hN, hc, ha, hes, hb, hok, h1, h2, h3, h4, k⟩ := h
    obtain ⟨mdx, ma, mvs, hM'⟩ := id hM
    have hu := hu_of hr
    have hnd := sc_shows_staying.nd
    refine ⟨_, (pss_cons (ps_try_thru0 (pss_one (ps_set (i := 6) hnd rfl (by first | exact Or.inl rfl | exact Or.inr rfl) (pe_make T.cNet.made (ok_Net_init T) (hr.mono (by decide)) (by rfl) T.cNet.mg T.cNet.init.b .nil pass0 (pa_cons (pe_fldK (K := K) rfl (L2.pv 0) rfl) (pa_cons (pe_fldK (K := K) rfl (L2.pv 0) rfl) (pa_cons (L2.pv 3) (pa_cons (L2.pv 4) (pa_cons (L2.pv 5) pa_nil)))))))))
    (pss_cons (ps_if (PW.pt (pw_or (pt_not (pt_val (pe_call (ok_extends_ T) (hr.mono (by decide)) (by rfl) T.f.g_extends_ T.f.extends_.F.kp T.f.extends_.b .nil pass0 (pa_cons (L2.pv 6) (pa_cons (L2.pv 1) pa_nil))))) (pw_or1 (pt_not (pt_val (pe_call (ok_is_closed_forwards T) (hr.mono (by decide)) (by rfl) T.f.g_is_closed_forwards T.f.is_closed_forwards.F.kp T.f.is_closed_forwards.b .nil pass0 (pa_cons (L2.pv 0) (pa_cons (L2.pv 6) pa_nil)))))))) (pss_one (ps_ret (pe_bl))) pss_nil)
    (pss_one (ps_ret (pe_not (pe_meth (L2.pv 6) T.cNet.cl T.cNet.m_accepts (ok_Net_accepts T) (hr.mono (by decide)) T.cNet.accepts.b .nil pass0 (pa_cons (L2.pv 2) pa_nil))))))), ?_⟩
    refine ⟨_, rfl, _, _, _, _, _, rfl, hM'.ob, T.cMachine.cl, T.cMachine.n_states, fz_at ndMachine (i := 0) rfl rfl, _, rfl, _, _, _, _, _, rfl, hM'.ob, T.cMachine.cl, T.cMachine.n_letters, fz_at ndMachine (i := 1) rfl rfl, _, rfl, _, rfl, _, rfl, ?_⟩
    rw [← h3, ← h4]
    refine make_net T (N := B) ha hes hb hok h1 h2 fun x B' H1 e1 _ hB c1 c2 c3 c4 c5 _ _ => ?_
    have fB : Fwd M B' ↔ Fwd M B := by
      unfold Fwd
      simp only [c4, c5]
    have xB : Ext N B' ↔ Ext N B := by
      unfold Ext
      simp only [c4, c5]
    refine ⟨_, rfl, _, rfl, x, p, B', N, rfl, hB, hN.mono e1, fun r1 H2 e2 hr1 => ⟨_, rfl, iteNB (fun hr1t => ?_) fun hr1f => ?_⟩⟩
    · have e12 := e1.trans e2
      refine ⟨_, rfl, _, rfl, m, x, M, B', rfl, hM.mono e12, hB.mono e2, fun r2 H3 e3 hr2 => ⟨_, rfl, iteNB (fun hr2t => ?_) fun hr2f => ?_⟩⟩
      · have e13 := e12.trans e3
        refine nxT ?_
        obtain ⟨_, _, ho⟩ := (hB.mono (e2.trans e3)).ins
        refine ⟨_, rfl, _, _, _, rfl, ho, fz_no (by decide +kernel), _, rfl, x, v, B', c, rfl, hB.mono (e2.trans e3), hc.mono (Tk.of e13), fun r3 H4 e4 hr3 => ⟨_, rfl, k _ _ (e13.trans e4) ?_⟩⟩
        have hAB : Acc B' c ↔ Acc B c := Acc.congr c4 c5
        have h12 := hr1.mp hr1t
        rw [c3, xB] at h12
        have hF := fB.mp (hr2.mp hr2t)
        cases r3 with
        | true => exact ⟨(fun z => nomatch z), fun z => (z.2.2 (hAB.mp (hr3.mp rfl))).elim⟩
        | false => exact ⟨fun _ => ⟨h12, hF, fun z => nomatch hr3.mpr (hAB.mpr z)⟩, fun _ => rfl⟩
      · exact k _ _ (e12.trans e3) ⟨(fun z => nomatch z), fun z => by rw [hr2.mpr (fB.mpr z.2.1)] at hr2f; cases hr2f⟩
    · refine k _ _ (e1.trans e2) ⟨(fun z => nomatch z), fun z => ?_⟩
      rw [hr1.mpr (by rw [c3, xB]; exact z.1)] at hr1f
      cases hr1f
end
end Zp
set_option maxRecDepth 100000
set_option maxHeartbeats 0
namespace Zp
open PySem L2 Zs Evl Pr
/-! ### papers -/
def optD : Option Edge → PD
  | none => .n
  | some e => eD e
def itD : Item → PD
  | .net e => .t [.s "net", eD e]
  | .row i => .t [.s "row", .i i]
theorem atI_int {α : Type} {xs : List α} {i : Int} {v : α} (h0 : 0 ≤ i) (h : xs[i.toNat]? = some v) : atI xs i = some v := by
  have e : i = ((i.toNat : Nat) : Int) := by omega
  rw [e]
  exact atI_nat h
theorem ne_row : ¬ (("row" : Str) = "net") := by decide +kernel
theorem chainO_drop {n : Int} {ls : List Int} {os : List (Option Edge)} {i : Nat} {l : Int} {o : Option Edge} (h1 : ls[i]? = some l) (h2 : os[i]? = some o) :
    chainO n (ls.drop i) (os.drop i) = match o with
      | none => none
      | some e => if e.1 = n ∧ e.2.1 = l then chainO e.2.2 (ls.drop (i + 1)) (os.drop (i + 1)) else none := by
  obtain ⟨hi, e1⟩ := List.getElem?_eq_some_iff.mp h1
  obtain ⟨hj, e2⟩ := List.getElem?_eq_some_iff.mp h2
  rw [List.drop_eq_getElem_cons hi, List.drop_eq_getElem_cons hj, e1, e2]
  cases o with
  | none => rfl
  | some e => rfl
theorem chainO_dropN {n : Int} {ls : List Int} {os : List (Option Edge)} {i : Nat} {l : Int} (h1 : ls[i]? = some l) (h2 : os[i]? = some none) : chainO n (ls.drop i) (os.drop i) = none := chainO_drop h1 h2
theorem chainO_dropS {n : Int} {ls : List Int} {os : List (Option Edge)} {i : Nat} {l : Int} {e : Edge} (h1 : ls[i]? = some l) (h2 : os[i]? = some (some e)) :
    chainO n (ls.drop i) (os.drop i) = if e.1 = n ∧ e.2.1 = l then chainO e.2.2 (ls.drop (i + 1)) (os.drop (i + 1)) else none := chainO_drop h1 h2
section
variable {P : Program} {w : World} {K : PySem.W.Frag} {mg : Str → Option Value} {base : Heap}
def sp_joined (T : Txt K mg) : Sp := fun vs H Q _ => ∃ (v : V) (b : Addr) (s : StepD) (os : List (Option Edge)) (ov : List V), vs = [v, .ref b] ∧ StepAt T.cStep.C H v s ∧ H b = some (.lst ov) ∧ IsL H ov (os.map optD) ∧
  ∀ v' H', Ex H H' → Is H' v' (optD (joinedD s os)) → Q v' H'
theorem ok_joined (T : Txt K mg) : FnOk P w K mg base CX0 1 T.f.joined.f T.f.joined.fd ["step", "edges"] (sp_joined T) := by
  refine T.f.joined.F.ok sc_joined (fun vs H Q E h => ?_) (fun cdv A outer s H vs Q E hr h => ?_)
  · obtain ⟨v, b, s, os, ov, rfl, _⟩ := h
    rfl
  · obtain ⟨v, b, st, os, ov, rfl, ⟨sp, sdx, la, rfl, hs⟩, hb, hov, k⟩ := h
    have hu := hu_of hr
    have hnd := sc_joined.nd
    refine ⟨_, (pss_cons (ps_if (pt_cmpR op_ne (pe_callB call_len_seq (by rfl) T.b.len PySem.boot_len (pa_cons (L2.pv 1) pa_nil)) (pe_callB call_len_seq (by rfl) T.b.len PySem.boot_len (pa_cons (pe_fldK (K := K) rfl (L2.pv 0) rfl) pa_nil)) (nomark _)) (pss_one (ps_ret (pe_non))) pss_nil)
    (pss_cons (ps_set (i := 2) hnd rfl (by first | exact Or.inl rfl | exact Or.inr rfl) (pe_fldK (K := K) rfl (L2.pv 0) rfl))
    (pss_cons (ps_for PassesOwn.never rfl (pi_zipM (by rfl) T.b.zip (pa_cons (pe_fldK (K := K) rfl (L2.pv 0) rfl) (pa_cons (L2.pv 1) pa_nil))) (pg_tup rfl (pgs_cons (pg_name (i := 3) hnd rfl (by first | exact Or.inl rfl | exact Or.inr rfl)) (pgs_cons (pg_name (i := 4) hnd rfl (by first | exact Or.inl rfl | exact Or.inr rfl)) pgs_nil)))
      (pss_cons (ps_if (PW.pt (pw_or (pt_cmpR op_isN (L2.pv 4) (pe_non) (nomark _)) (pw_or (pt_cmpR op_ne (pe_ix (ix_tupK (K := K) rfl) (L2.pv 4) (pe_int) (fun _ _ => rfl)) (L2.pv 2) (nomark _)) (pw_or1 (pt_cmpR op_ne (pe_ix (ix_tupK (K := K) rfl) (L2.pv 4) (pe_int) (fun _ _ => rfl)) (L2.pv 3) (nomark _)))))) (pss_one (ps_ret (pe_non))) pss_nil)
    (pss_one (ps_set (i := 2) hnd rfl (by first | exact Or.inl rfl | exact Or.inr rfl) (pe_ix (ix_tupK (K := K) rfl) (L2.pv 4) (pe_int) (fun _ _ => rfl))))))
    (pss_one (ps_ret (pe_tup (pa_cons (pe_fldK (K := K) rfl (L2.pv 0) rfl) (pa_cons (pe_fldK (K := K) rfl (L2.pv 0) rfl) (pa_cons (L2.pv 2) pa_nil))))))))), ?_⟩
    have hl := hov.len
    rw [List.length_map] at hl
    refine ⟨_, rfl, b, _, rfl, .inl (SqL.of hb), _, rfl, _, _, _, _, _, rfl, hs.ob, T.cStep.cl, T.cStep.n_laid, fz_at ndStep (i := 3) rfl rfl, la, _, rfl, .inr (SqT.of hs.la), rfl, _, rfl, iteN (fun hn => ?_) fun hn => ?_⟩
    rotate_left
    · refine k _ _ (Ex.refl _) ?_
      have : os.length ≠ st.laid.length := fun z => hn (by rw [hl, z, List.length_map])
      unfold joinedD
      rw [if_neg this]
      exact Is.non
    have hlen : os.length = st.laid.length := by
      rw [hl, List.length_map] at hn
      injection hn with z
      omega
    refine nxT ?_
    refine q_set ⟨_, rfl, _, _, _, _, _, rfl, hs.ob, T.cStep.cl, T.cStep.n_goal, fz_at ndStep (i := 2) rfl rfl, ?_⟩
    have hfin : ∀ o, chainO st.goal st.laid os = o → joinedD st os = o.map fun m => (st.state, st.letter, m) := fun o h => by
      unfold joinedD
      rw [if_pos hlen, h]
    refine ⟨_, rfl, _, _, _, _, _, rfl, hs.ob, T.cStep.cl, T.cStep.n_laid, fz_at ndStep (i := 3) rfl rfl, _, rfl, la, b, _, _, rfl, SqT.of hs.la, SqL.of hb, for_it (walk_zipM (K := K) (a := la) (b := b) (xs := st.laid.map V.int) (ys := ov) (by rw [List.length_map, hl, hlen]))
      (fun i σ' H' => ∃ (n : Int) (v3 v4 : Option V), σ' = [some (.ref sp), some (.ref b), some (.int n), v3, v4] ∧ Ex H H' ∧ chainO st.goal st.laid os = chainO n (st.laid.drop i) (os.drop i)) ?_ ?_ ?_ ?_⟩
    · exact ⟨st.goal, none, none, rfl, Ex.refl _, rfl⟩
    · rintro i σ' H' _ ⟨_, _, _, rfl, e, _⟩
      exact ⟨SqT.of (e _ _ hs.la), SqL.of (e _ _ hb)⟩
    · rintro i x σ' H' H1 hi ⟨n, v3, v4, rfl, e, hc⟩ ⟨t, y, z, rfl, ht, rfl, hy, hz⟩
      replace hy : (st.laid.map V.int)[i]? = some y := hy
      replace hz : ov[i]? = some z := hz
      obtain ⟨l, hli, rfl⟩ := ints_get hy
      have et := Ex.new (o := HO.tup [.int l, z]) ht
      have e2 := e.trans et
      obtain ⟨d0, hd0, hz0⟩ := (hov.mono (Tk.of e2)).get hz
      obtain ⟨o, ho, rfl⟩ := tup_get hd0
      have hco := chainO_drop (n := n) hli ho
      refine ⟨t, _, rfl, SqT.of upd_same, rfl, _, _, rfl, _, _, rfl, rfl, ?_⟩
      cases o with
      | none =>
        cases Is.n_iff.mp hz0
        refine ⟨_, rfl, rfl, _, rfl, iteD (fun _ => ?_) fun z => (z rfl).elim⟩
        refine k _ _ e2 ?_
        rw [hfin none (by rw [hc, hco])]
        exact Is.non
      | some ed =>
        obtain ⟨u, rfl, hu⟩ := Is.edge_iff.mp hz0
        refine ⟨_, rfl, rfl, _, rfl, iteD (fun z => nomatch z) fun _ => ?_⟩
        refine ⟨_, rfl, u, _, _, _, rfl, rfl, SqT.of hu, rfl, _, rfl, rfl, _, rfl, iteN (fun h1 => ?_) fun h1 => ?_⟩
        rotate_left
        · refine k _ _ e2 ?_
          rw [hfin none (by rw [hc, hco]; exact if_neg fun z => h1 (by rw [z.1]))]
          exact Is.non
        refine ⟨_, rfl, u, _, _, _, rfl, rfl, SqT.of hu, rfl, _, rfl, rfl, _, rfl, iteN (fun h2 => ?_) fun h2 => ?_⟩
        rotate_left
        · refine k _ _ e2 ?_
          rw [hfin none (by rw [hc, hco]; exact if_neg fun z => h2 (by rw [z.2]))]
          exact Is.non
        refine ⟨_, rfl, u, _, _, _, rfl, rfl, SqT.of hu, rfl, ed.2.2, some (.int l), some (.ref u), rfl, e2, ?_⟩
        rw [hc, hco]
        injection h1 with h1'
        injection h2 with h2'
        exact if_pos ⟨h1', h2'⟩
    · rintro σ' H' ⟨n, v3, v4, rfl, e, hc⟩
      rw [List.length_map, List.drop_length, ← hlen, List.drop_length] at hc
      refine ⟨_, rfl, _, _, _, _, _, rfl, (e _ _ hs.ob), T.cStep.cl, T.cStep.n_state, fz_at ndStep (i := 0) rfl rfl, _, rfl, _, _, _, _, _, rfl, (e _ _ hs.ob), T.cStep.cl, T.cStep.n_letter, fz_at ndStep (i := 1) rfl rfl, _, rfl, by show 3 ≤ sizeLine; decide, fun u hu => k _ _ (e.trans (Ex.new hu)) ?_⟩
      rw [hfin (some n) hc]
      exact isEdge upd_same
/-! ### the rows of a paper, read -/
def nsRowsW : List Str := ["steps", "known", "edges", "weights"]
theorem ndRowsW : nsRowsW.Nodup := by decide +kernel
structure RWIs (C : Addr) (H : Hp) (p : Addr) (KE : List Edge) (es : List Edge) (ws : List Int) (dx sa a b c : Addr) (kn : List Edge) (ev : List V) : Prop where
  ob : H p = some (.ins C dx (fz nsRowsW [.ref sa, .ref a, .ref b, .ref c]))
  ka : H a = some (.dT (kd eK kn))
  km : ∀ e, e ∈ kn ↔ e ∈ KE
  eb : H b = some (.lst ev)
  el : IsL H ev (es.map eD)
  wc : H c = some (.lst (ws.map V.int))
  wl : ws.length = es.length
theorem RWIs.mono {C : Addr} {H H' : Hp} {p : Addr} {KE es : List Edge} {ws : List Int} {dx sa a b c : Addr} {kn : List Edge} {ev : List V} (e : Ex H H') (h : RWIs C H p KE es ws dx sa a b c kn ev) : RWIs C H' p KE es ws dx sa a b c kn ev where
  ob := e _ _ h.ob
  ka := e _ _ h.ka
  km := h.km
  eb := e _ _ h.eb
  el := h.el.mono (Tk.of e)
  wc := e _ _ h.wc
  wl := h.wl
def sp_RowsW_edge_of (T : Txt K mg) : Sp := fun vs H Q _ => ∃ (p : Addr) (v : V) (it : Item) (KE es : List Edge) (ws : List Int) (dx sa a b c : Addr) (kn : List Edge) (ev : List V), vs = [.ref p, v] ∧ RWIs T.cRowsW.C H p KE es ws dx sa a b c kn ev ∧ Is H v (itD it) ∧
  ∀ v', Is H v' (optD (edgeOf KE es it)) → Q v' H
theorem ok_RowsW_edge_of (T : Txt K mg) : FnOk P w K mg base CX0 1 T.cRowsW.edge_of.f T.cRowsW.edge_of.fd ["self", "item"] (sp_RowsW_edge_of T) := by
  refine T.cRowsW.edge_of.F.ok sc_RowsW_edge_of (fun vs H Q E h => ?_) (fun cdv A outer s H vs Q E hr h => ?_)
  · obtain ⟨p, v, it, KE, es, ws, dx, sa, a, b, c, kn, ev, rfl, _⟩ := h
    rfl
  · obtain ⟨p, v, it, KE, es, ws, dx, sa, a, b, c, kn, ev, rfl, R, hv, k⟩ := h
    have hu := hu_of hr
    have hnd := sc_RowsW_edge_of.nd
    refine ⟨_, (pss_cons (ps_asg (L2.pv 1) (pg_tup rfl (pgs_cons (pg_name (i := 2) hnd rfl (by first | exact Or.inl rfl | exact Or.inr rfl)) (pgs_cons (pg_name (i := 3) hnd rfl (by first | exact Or.inl rfl | exact Or.inr rfl)) pgs_nil))))
    (pss_cons (ps_if (pt_cmpR op_eq (L2.pv 2) (pe_str) (nomark _)) (pss_cons (ps_if (pt_cmp (pc_din hu (L2.pv 3) (pe_fldK (K := K) rfl (L2.pv 0) rfl)) rfl) (pss_one (ps_ret (L2.pv 3))) pss_nil)
    (pss_one (ps_ret (pe_non)))) pss_nil)
    (pss_cons (ps_if (pt_chain op_le op_lt (pe_int) (L2.pv 3) (pe_callB call_len_seq (by rfl) T.b.len PySem.boot_len (pa_cons (pe_fldK (K := K) rfl (L2.pv 0) rfl) pa_nil))) (pss_one (ps_ret (pe_ix (ix_listK (K := K) rfl) (pe_fldK (K := K) rfl (L2.pv 0) rfl) (L2.pv 3) (fun _ _ => rfl)))) pss_nil)
    (pss_one (ps_ret (pe_non)))))), ?_⟩
    cases it with
    | net e =>
      obtain ⟨t, vs, rfl, ht, hl⟩ := Is.t_iff.mp hv
      obtain ⟨y1, r1, rfl, hy1, hr1⟩ := IsL.cons_iff.mp hl
      obtain ⟨y2, r2, rfl, hy2, hr2⟩ := IsL.cons_iff.mp hr1
      cases IsL.nil_iff.mp hr2
      cases Is.s_iff.mp hy1
      obtain ⟨u, rfl, hu⟩ := Is.edge_iff.mp hy2
      refine ⟨_, rfl, t, _, rfl, SqT.of ht, rfl, _, _, rfl, _, _, rfl, rfl, ?_⟩
      refine ⟨_, rfl, rfl, _, rfl, iteD (fun _ => ?_) fun z => (z rfl).elim⟩
      refine ⟨_, rfl, _, rfl, _, _, _, _, _, rfl, R.ob, T.cRowsW.cl, T.cRowsW.n_known, fz_at ndRowsW (i := 1) rfl rfl, a, _, rfl, DGet.t (k := eK e) R.ka hu, _, rfl, iteB (fun h => ?_) fun h => ?_⟩
      · refine ⟨_, rfl, k _ ?_⟩
        rw [edgeOf_net, if_pos ((R.km e).mp ((kd_mem eK_inj' _ _).mp h))]
        exact isEdge hu
      · refine k _ ?_
        rw [edgeOf_net, if_neg fun z => by rw [(kd_mem eK_inj' _ _).mpr ((R.km e).mpr z)] at h; cases h]
        exact Is.non
    | row i =>
      obtain ⟨t, vs, rfl, ht, hl⟩ := Is.t_iff.mp hv
      obtain ⟨y1, r1, rfl, hy1, hr1⟩ := IsL.cons_iff.mp hl
      obtain ⟨y2, r2, rfl, hy2, hr2⟩ := IsL.cons_iff.mp hr1
      cases IsL.nil_iff.mp hr2
      cases Is.s_iff.mp hy1
      cases Is.i_iff.mp hy2
      have hl2 := R.el.len
      rw [List.length_map] at hl2
      refine ⟨_, rfl, t, _, rfl, SqT.of ht, rfl, _, _, rfl, _, _, rfl, rfl, ?_⟩
      refine ⟨_, rfl, rfl, _, rfl, iteD (fun z => (ne_row (by injection z)).elim) fun _ => ?_⟩
      refine ⟨_, rfl, _, _, rfl, rfl, _, rfl, iteD (fun h1 => ?_) fun h1 => ?_⟩
      rotate_left
      · refine ⟨_, rfl, iteF (k _ ?_)⟩
        rw [edgeOf_row, if_neg fun z => h1 z.1]
        exact Is.non
      refine ⟨_, rfl, _, _, _, _, _, rfl, R.ob, T.cRowsW.cl, T.cRowsW.n_edges, fz_at ndRowsW (i := 2) rfl rfl, b, _, rfl, .inl (SqL.of R.eb), _, _, rfl, rfl, _, rfl, iteD (fun h2 => ?_) fun h2 => ?_⟩
      rotate_left
      · refine k _ ?_
        rw [edgeOf_row, if_neg fun z => h2 (by rw [hl2]; exact z.2)]
        exact Is.non
      have hlt : i.toNat < ev.length := by omega
      have ei : ((i.toNat : Nat) : Int) = i := by omega
      refine ⟨_, rfl, _, _, _, _, _, rfl, R.ob, T.cRowsW.cl, T.cRowsW.n_edges, fz_at ndRowsW (i := 2) rfl rfl, _, rfl, b, _, _, ev[i.toNat], rfl, rfl, SqL.of R.eb, atI_int h1 (List.getElem?_eq_getElem hlt), k _ ?_⟩
      obtain ⟨d0, hd0, hz0⟩ := R.el.get (List.getElem?_eq_getElem hlt)
      obtain ⟨o, ho, rfl⟩ := tup_get hd0
      rw [edgeOf_row, if_pos ⟨h1, by rw [← hl2]; exact h2⟩, ho]
      exact hz0
def sp_RowsW_cost_of (T : Txt K mg) : Sp := fun vs H Q _ => ∃ (p : Addr) (v : V) (it : Item) (KE es : List Edge) (ws : List Int) (dx sa a b c : Addr) (kn : List Edge) (ev : List V), vs = [.ref p, v] ∧ RWIs T.cRowsW.C H p KE es ws dx sa a b c kn ev ∧ Is H v (itD it) ∧ edgeOf KE es it ≠ none ∧
  ∀ n : Int, Q (.int n) H
theorem ok_RowsW_cost_of (T : Txt K mg) : FnOk P w K mg base CX0 1 T.cRowsW.cost_of.f T.cRowsW.cost_of.fd ["self", "item"] (sp_RowsW_cost_of T) := by
  refine T.cRowsW.cost_of.F.ok sc_RowsW_cost_of (fun vs H Q E h => ?_) (fun cdv A outer s H vs Q E hr h => ?_)
  · obtain ⟨p, v, it, KE, es, ws, dx, sa, a, b, c, kn, ev, rfl, _⟩ := h
    rfl
  · obtain ⟨p, v, it, KE, es, ws, dx, sa, a, b, c, kn, ev, rfl, R, hv, hne, k⟩ := h
    have hu := hu_of hr
    have hnd := sc_RowsW_cost_of.nd
    refine ⟨_, (pss_cons (ps_asg (L2.pv 1) (pg_tup rfl (pgs_cons (pg_name (i := 2) hnd rfl (by first | exact Or.inl rfl | exact Or.inr rfl)) (pgs_cons (pg_name (i := 3) hnd rfl (by first | exact Or.inl rfl | exact Or.inr rfl)) pgs_nil))))
    (pss_cons (ps_if (pt_cmpR op_eq (L2.pv 2) (pe_str) (nomark _)) (pss_one (ps_ret (pe_int))) pss_nil)
    (pss_one (ps_ret (pe_ix (ix_listK (K := K) rfl) (pe_fldK (K := K) rfl (L2.pv 0) rfl) (L2.pv 3) (fun _ _ => rfl)))))), ?_⟩
    cases it with
    | net e =>
      obtain ⟨t, vs, rfl, ht, hl⟩ := Is.t_iff.mp hv
      obtain ⟨y1, r1, rfl, hy1, hr1⟩ := IsL.cons_iff.mp hl
      obtain ⟨y2, r2, rfl, hy2, hr2⟩ := IsL.cons_iff.mp hr1
      cases IsL.nil_iff.mp hr2
      cases Is.s_iff.mp hy1
      obtain ⟨u, rfl, hu⟩ := Is.edge_iff.mp hy2
      refine ⟨_, rfl, t, _, rfl, SqT.of ht, rfl, _, _, rfl, _, _, rfl, rfl, ?_⟩
      refine ⟨_, rfl, rfl, _, rfl, iteD (fun _ => k _) fun z => (z rfl).elim⟩
    | row i =>
      obtain ⟨t, vs, rfl, ht, hl⟩ := Is.t_iff.mp hv
      obtain ⟨y1, r1, rfl, hy1, hr1⟩ := IsL.cons_iff.mp hl
      obtain ⟨y2, r2, rfl, hy2, hr2⟩ := IsL.cons_iff.mp hr1
      cases IsL.nil_iff.mp hr2
      cases Is.s_iff.mp hy1
      cases Is.i_iff.mp hy2
      have hi : 0 ≤ i ∧ i < (es.length : Int) := by
        rw [edgeOf_row] at hne
        by_cases h : 0 ≤ i ∧ i < (es.length : Int)
        · exact h
        · rw [if_neg h] at hne; exact (hne rfl).elim
      have hlt : i.toNat < ws.length := by have := R.wl; omega
      have ei : ((i.toNat : Nat) : Int) = i := by omega
      refine ⟨_, rfl, t, _, rfl, SqT.of ht, rfl, _, _, rfl, _, _, rfl, rfl, ?_⟩
      refine ⟨_, rfl, rfl, _, rfl, iteD (fun z => (ne_row (by injection z)).elim) fun _ => ?_⟩
      refine ⟨_, rfl, _, _, _, _, _, rfl, R.ob, T.cRowsW.cl, T.cRowsW.n_weights, fz_at ndRowsW (i := 3) rfl rfl, _, rfl, c, _, _, .int ws[i.toNat], rfl, rfl, SqL.of R.wc, ?_, k _⟩
      exact atI_int hi.1 (by rw [List.getElem?_map, List.getElem?_eq_getElem hlt]; rfl)
end
end Zp
set_option maxRecDepth 100000
set_option maxHeartbeats 0
namespace Zp
open PySem L2 Zs Evl Pr
def rowD (r : Int × List Item) : PD := .t [.i r.1, .t (r.2.map itD)]
structure RWA (C Cs : Addr) (M : Mach) (H0 H : Hp) (p : Addr) (KE es : List Edge) (ws : List Int) (dx sa a b c : Addr) (kn : List Edge) (ev svs : List V) : Prop where
  r : RWIs C H p KE es ws dx sa a b c kn ev
  e0 : Ex H0 H
  b0 : H0 b = none
  c0 : H0 c = none
  bc : b ≠ c
  ob0 : H0 p = some (.ins C dx (fz nsRowsW [.ref sa, .ref a, .ref b, .ref c]))
  ka0 : H0 a = some (.dT (kd eK kn))
  sa0 : H0 sa = some (.tup svs)
  st0 : ∀ (i : Nat) (v : V) (s : StepD), svs[i]? = some v → M.steps[i]? = some s → StepAt Cs H0 v s
  len : svs.length = M.steps.length
theorem RWA.mono {C Cs : Addr} {M : Mach} {H0 H H' : Hp} {p : Addr} {KE es : List Edge} {ws : List Int} {dx sa a b c : Addr} {kn : List Edge} {ev svs : List V} (e : Ex H H') (h : RWA C Cs M H0 H p KE es ws dx sa a b c kn ev svs) : RWA C Cs M H0 H' p KE es ws dx sa a b c kn ev svs :=
  ⟨h.r.mono e, h.e0.trans e, h.b0, h.c0, h.bc, h.ob0, h.ka0, h.sa0, h.st0, h.len⟩
section
variable {P : Program} {w : World} {K : PySem.W.Frag} {mg : Str → Option Value} {base : Heap}
def sp_RowsW_read (T : Txt K mg) : Sp := fun vs H Q _ => ∃ (p : Addr) (v : V) (row : Int × List Item) (M : Mach) (H0 : Hp) (KE es : List Edge) (ws : List Int) (dx sa a b c : Addr) (kn : List Edge) (ev svs : List V), vs = [.ref p, v] ∧
  RWA T.cRowsW.C T.cStep.C M H0 H p KE es ws dx sa a b c kn ev svs ∧ Is H v (rowD row) ∧ row.2.length ≤ 100 ∧ es.length ≤ 50000 ∧
  (readD M KE es row = none → ∀ H', Ex H0 H' → Tk H H' → Q (.bl false) H') ∧
  (∀ es', readD M KE es row = some es' → es'.length = es.length + 1 → ∀ ws' ev' H', RWA T.cRowsW.C T.cStep.C M H0 H' p KE es' ws' dx sa a b c kn ev' svs → Tk H H' → Q (.bl true) H')
theorem ok_RowsW_read (T : Txt K mg) : FnOk P w K mg base CX0 2 T.cRowsW.read.f T.cRowsW.read.fd ["self", "row"] (sp_RowsW_read T) := by
  refine T.cRowsW.read.F.ok sc_RowsW_read (fun vs H Q E h => ?_) (fun cdv A outer s H vs Q E hr h => ?_)
  · obtain ⟨p, v, row, M, H0, KE, es, ws, dx, sa, a, b, c, kn, ev, svs, rfl, _⟩ := h
    rfl
  · obtain ⟨p, v, row, M, H0, KE, es, ws, dx, sa, a, b, c, kn, ev, svs, rfl, R, hv, hl1, hl2, kn0, ks⟩ := h
    obtain ⟨ri, its⟩ := row
    obtain ⟨t, vs, rfl, ht, hl⟩ := Is.t_iff.mp hv
    obtain ⟨y1, r1, rfl, hy1, hr1⟩ := IsL.cons_iff.mp hl
    obtain ⟨y2, r2, rfl, hy2, hr2⟩ := IsL.cons_iff.mp hr1
    cases IsL.nil_iff.mp hr2
    cases Is.i_iff.mp hy1
    obtain ⟨pt, pvs, rfl, hpt, hpl⟩ := Is.t_iff.mp hy2
    have hpn := hpl.len
    rw [List.length_map] at hpn
    replace hl1 : its.length ≤ 100 := hl1
    replace hpn : pvs.length = its.length := hpn
    have hu := hu_of hr
    have hnd := sc_RowsW_read.nd
    refine ⟨_, (pss_cons (ps_asg (L2.pv 1) (pg_tup rfl (pgs_cons (pg_name (i := 2) hnd rfl (by first | exact Or.inl rfl | exact Or.inr rfl)) (pgs_cons (pg_name (i := 3) hnd rfl (by first | exact Or.inl rfl | exact Or.inr rfl)) pgs_nil))))
    (pss_cons (ps_if (pt_not (pt_chain op_le op_lt (pe_int) (L2.pv 2) (pe_callB call_len_seq (by rfl) T.b.len PySem.boot_len (pa_cons (pe_fldK (K := K) rfl (L2.pv 0) rfl) pa_nil)))) (pss_one (ps_ret (pe_bl))) pss_nil)
    (pss_cons (ps_set (i := 4) hnd rfl (by first | exact Or.inl rfl | exact Or.inr rfl) (pe_ix (ix_tupK (K := K) rfl) (pe_fldK (K := K) rfl (L2.pv 0) rfl) (L2.pv 2) (fun _ _ => rfl)))
    (pss_cons (ps_set (i := 5) hnd rfl (by first | exact Or.inl rfl | exact Or.inr rfl) (pe_call (ok_joined T) (hr.mono (by decide)) (by rfl) T.f.g_joined T.f.joined.F.kp T.f.joined.b .nil pass0 (pa_cons (L2.pv 4) (pa_cons (pe_lc (own := [("item", 6)]) (g := (gName 6)) (tt := tYes) rfl hnd (pi_tup (L2.pv 3)) (blkOk_by (own := [("item", 6)]) (N := nm_RowsW_read) (sc := defScope s_RowsW_read) (by decide +kernel)) (fun _ _ _ _ _ => (pg_name (i := 6) hnd rfl (by first | exact Or.inl rfl | exact Or.inr rfl))) (fun _ _ _ _ _ => pts_nil) (fun _ _ _ _ _ => (pe_meth (L2.pv 0) T.cRowsW.cl T.cRowsW.m_edge_of (ok_RowsW_edge_of T) (hr.mono (by decide)) T.cRowsW.edge_of.b .nil pass0 (pa_cons (L2.pv 6) pa_nil)))) pa_nil))))
    (pss_cons (ps_if (pt_cmpR op_isN (L2.pv 5) (pe_non) (nomark _)) (pss_one (ps_ret (pe_bl))) pss_nil)
    (pss_cons (ps_expr (pe_bm PySem.F.plainAttrs_list PySem.F.slot_list_append PySem.F.type_list_append mt_append (pe_fldK (K := K) rfl (L2.pv 0) rfl) (pa_cons (pe_op op_add (pe_fldK (K := K) rfl (L2.pv 4) rfl) (pe_callB (cr_sum rfl) (by rfl) T.b.sum (by decide +kernel) (pa_cons (pe_lc (own := [("item", 6)]) (g := (gName 6)) (tt := tYes) rfl hnd (pi_tup (L2.pv 3)) (blkOk_by (own := [("item", 6)]) (N := nm_RowsW_read) (sc := defScope s_RowsW_read) (by decide +kernel)) (fun _ _ _ _ _ => (pg_name (i := 6) hnd rfl (by first | exact Or.inl rfl | exact Or.inr rfl))) (fun _ _ _ _ _ => pts_nil) (fun _ _ _ _ _ => (pe_meth (L2.pv 0) T.cRowsW.cl T.cRowsW.m_cost_of (ok_RowsW_cost_of T) (hr.mono (by decide)) T.cRowsW.cost_of.b .nil pass0 (pa_cons (L2.pv 6) pa_nil)))) pa_nil))) pa_nil)))
    (pss_cons (ps_expr (pe_bm PySem.F.plainAttrs_list PySem.F.slot_list_append PySem.F.type_list_append mt_append (pe_fldK (K := K) rfl (L2.pv 0) rfl) (pa_cons (L2.pv 5) pa_nil)))
    (pss_one (ps_ret (pe_bl)))))))))), ?_⟩
    refine ⟨_, rfl, t, _, rfl, SqT.of ht, rfl, _, _, rfl, _, _, rfl, rfl, ?_⟩
    have hsa := R.e0 _ _ R.sa0
    refine ⟨_, rfl, _, _, rfl, rfl, _, rfl, iteD (fun h1 => ?_) fun h1 => ?_⟩
    rotate_left
    · refine ⟨_, rfl, kn0 ?_ _ R.e0 (Tk.refl _)⟩
      unfold readD
      rw [if_neg fun z => h1 z.1]
    refine ⟨_, rfl, _, _, _, _, _, rfl, R.r.ob, T.cRowsW.cl, T.cRowsW.n_steps, fz_at ndRowsW (i := 0) rfl rfl, sa, _, rfl, .inr (SqT.of hsa), _, _, rfl, rfl, _, rfl, iteN (fun h2 => ?_) fun h2 => ?_⟩
    rotate_left
    · refine kn0 ?_ _ R.e0 (Tk.refl _)
      unfold readD
      rw [if_neg fun z => h2 (by rw [R.len]; exact z.2)]
    have hlt : ri.toNat < svs.length := by omega
    have hltM : ri.toNat < M.steps.length := by rw [← R.len]; exact hlt
    have hst : M.steps[ri.toNat]? = some M.steps[ri.toNat] := List.getElem?_eq_getElem hltM
    generalize M.steps[ri.toNat] = st at hst
    have hat := R.st0 _ _ _ (List.getElem?_eq_getElem hlt) hst
    have hrd : readD M KE es (ri, its) = (joinedD st (its.map (edgeOf KE es))).map fun e => es ++ [e] := by
      unfold readD
      rw [if_pos ⟨h1, by rw [← R.len]; exact h2⟩, hst]
      rfl
    refine nxT ?_
    refine q_set ⟨_, rfl, _, _, _, _, _, rfl, R.r.ob, T.cRowsW.cl, T.cRowsW.n_steps, fz_at ndRowsW (i := 0) rfl rfl, _, rfl, sa, _, _, svs[ri.toNat], rfl, rfl, SqT.of hsa, atI_int h1 (List.getElem?_eq_getElem hlt), ?_⟩
    generalize svs[ri.toNat] = sv at hat
    -- edge = joined(step, [self.edge_of(item) for item in parts])
    refine ⟨_, rfl, _, rfl, pt, rfl, ⟨_, SqT.of hpt⟩, fun D hD => ?_⟩
    refine lcR (walk_tup (xs := pvs)) hD (by omega) (fun H' e => SqT.of (e _ _ hpt)) (fun i acc H' => IsL H' acc (((its.take i).map (edgeOf KE es)).map optD)) (fun i acc H H' o ⟨l, hl⟩ z => z.mono (o.tk (by rw [hl]; intro xs q; cases q))) .nil ?_ ?_
    · rintro i acc x H1 H2 B B' hi _ e1 hD1 r ⟨rfl, hx⟩ kB _
      obtain ⟨d0, hd0, hx0⟩ := (hpl.mono (Tk.of e1)).get hx
      obtain ⟨it, hit, rfl⟩ := tup_get hd0
      refine ⟨rfl, _, rfl, _, _, _, rfl, (e1 _ _ R.r.ob), fz_no (by decide +kernel), _, rfl, p, x, it, KE, es, ws, dx, sa, a, b, c, kn, ev, rfl, R.r.mono e1, hx0, fun v' hv' => kB _ _ (Ex.refl _) ?_⟩
      rw [List.take_add_one, hit, Option.toList, List.map_append, List.map_append]
      exact r.app (.cons hv' .nil)
    · intro acc H1 e1 hD1 _ r
      rw [hpn, List.take_length] at r
      refine ⟨sv, D, st, its.map (edgeOf KE es), acc, rfl, hat.mono (R.e0.trans e1), hD1, r, fun v' H2 e2 hv' => ?_⟩
      have e12 := e1.trans e2
      obtain ⟨sp, sdx, la, rfl, hs0⟩ := hat
      have hs := hs0.mono (R.e0.trans e12)
      cases hj : joinedD st (its.map (edgeOf KE es)) with
      | none =>
        rw [hj] at hv' hrd
        cases Is.n_iff.mp hv'
        exact ⟨_, rfl, rfl, _, rfl, iteD (fun _ => kn0 hrd _ (R.e0.trans e12) (Tk.of e12)) fun z => (z rfl).elim⟩
      | some ed =>
        rw [hj] at hv' hrd
        obtain ⟨u, rfl, hu⟩ := Is.edge_iff.mp hv'
        have hall : ∀ it ∈ its, edgeOf KE es it ≠ none := by
          unfold joinedD at hj
          split at hj
          · obtain ⟨m, hm, _⟩ := Option.map_eq_some_iff.mp hj
            obtain ⟨ps, hps, _⟩ := chainO_some hm
            intro it hit z
            have : (none : Option Edge) ∈ ps.map some := by
              rw [← hps]
              exact List.mem_map.mpr ⟨it, hit, z⟩
            obtain ⟨q, _, hq⟩ := List.mem_map.mp this
            cases hq
          · cases hj
        refine ⟨_, rfl, rfl, _, rfl, iteD (fun z => nomatch z) fun _ => ?_⟩
        -- self.weights.append(..)
        refine ⟨_, rfl, _, _, _, _, _, rfl, (e12 _ _ R.r.ob), T.cRowsW.cl, T.cRowsW.n_weights, fz_at ndRowsW (i := 3) rfl rfl, .inl ⟨rfl, _, SqL.of (e12 _ _ R.r.wc)⟩, _, rfl, _, _, _, _, _, rfl, hs.ob, T.cStep.cl, T.cStep.n_weight, fz_at ndStep (i := 4) rfl rfl, _, rfl, pt, rfl, ⟨_, SqT.of (e12 _ _ hpt)⟩, fun D2 hD2 => ?_⟩
        refine lcR (walk_tup (xs := pvs)) hD2 (by omega) (fun H' e => SqT.of (e _ _ (e12 _ _ hpt))) (fun i acc H' => ∃ ns : List Int, acc = ns.map V.int) (fun _ _ _ _ _ _ z => z) ⟨[], rfl⟩ ?_ ?_
        · rintro i acc x H3 H4 B B' hi _ e3 hD3 ⟨ns, rfl⟩ ⟨rfl, hx⟩ kB _
          have e13 := e12.trans e3
          obtain ⟨d0, hd0, hx0⟩ := (hpl.mono (Tk.of e13)).get hx
          obtain ⟨it, hit, rfl⟩ := tup_get hd0
          refine ⟨rfl, _, rfl, _, _, _, rfl, (e13 _ _ R.r.ob), fz_no (by decide +kernel), _, rfl, p, x, it, KE, es, ws, dx, sa, a, b, c, kn, ev, rfl, R.r.mono e13, hx0, hall it (List.mem_of_getElem? hit), fun n => kB _ _ (Ex.refl _) ⟨ns ++ [n], by rw [List.map_append]; rfl⟩⟩
        · rintro acc H3 e3 hD3 _ ⟨ns, rfl⟩
          have e13 := e12.trans e3
          refine ⟨D2, ns, rfl, SqL.of hD3, _, _, rfl, rfl, c, _, _, rfl, rfl, e13 _ _ R.r.wc, lineLt (by rw [List.length_map, R.r.wl]; omega), ?_⟩
          have hc3 := e13 _ _ R.r.wc
          have tk4 : Tk H3 (upd H3 c (.lst (ws.map V.int ++ [.int (st.weight + ns.sum)]))) := Tk.wr hc3 fun _ q => nomatch q
          have ev4 : upd H3 c (.lst (ws.map V.int ++ [.int (st.weight + ns.sum)])) b = some (.lst ev) := by rw [upd_ne R.bc]; exact e13 _ _ R.r.eb
          have hob4 : upd H3 c (.lst (ws.map V.int ++ [.int (st.weight + ns.sum)])) p = _ := (Ex.mut (R.e0.trans e13) R.c0) _ _ R.ob0
          refine ⟨_, rfl, _, _, _, _, _, rfl, hob4, T.cRowsW.cl, T.cRowsW.n_edges, fz_at ndRowsW (i := 2) rfl rfl, .inl ⟨rfl, _, SqL.of ev4⟩, _, rfl, b, _, _, rfl, rfl, ev4, lineLt (by rw [R.r.el.len, List.length_map]; omega), ?_⟩
          refine ks (es ++ [ed]) hrd (by simp) (ws ++ [st.weight + ns.sum]) (ev ++ [.ref u]) _ ?_ ?_
          · have e05 := Ex.mut (o := .lst (ev ++ [V.ref u])) (Ex.mut (o := .lst (ws.map V.int ++ [.int (st.weight + ns.sum)])) (R.e0.trans e13) R.c0) R.b0
            have tk5 := tk4.trans (Tk.wr (o' := .lst (ev ++ [V.ref u])) ev4 fun _ q => nomatch q)
            refine ⟨⟨e05 _ _ R.ob0, e05 _ _ R.ka0, R.r.km, upd_same, ?_, ?_, ?_⟩, e05, R.b0, R.c0, R.bc, R.ob0, R.ka0, R.sa0, R.st0, R.len⟩
            · rw [List.map_append]
              exact (R.r.el.mono ((Tk.of e13).trans tk5)).app (.cons (hv'.mono ((Tk.of e3).trans tk5)) .nil)
            · rw [upd_ne R.bc.symm, upd_same, List.map_append]
              rfl
            · rw [List.length_append, List.length_append, R.r.wl]
              rfl
          · exact (Tk.of e13).trans (tk4.trans (Tk.wr (o' := .lst (ev ++ [V.ref u])) ev4 fun _ q => nomatch q))
theorem MachAt.ins {C Cs : Addr} {H : Hp} {p : Addr} {M : Mach} : MachAt C Cs H p M → ∃ dx vs, H p = some (.ins C dx (fz nsMachine vs))
  | ⟨_, _, _, h⟩ => ⟨_, _, h.ob⟩
def sp_RowsW_init (T : Txt K mg) : Sp := fun vs H Q _ => ∃ (p dx m q : Addr) (M : Mach) (N : NetD), vs = [.ref p, .ref m, .ref q] ∧ H p = some (.ins T.cRowsW.C dx []) ∧ MachAt T.cMachine.C T.cStep.C H m M ∧ NetAt T.cNet.C H q N ∧ m ≠ p ∧ q ≠ p ∧ (∀ (v : V) (s : StepD), StepAt T.cStep.C H v s → v ≠ .ref p) ∧
  ∀ (H' H0 : Hp) (sa a b c : Addr) (kn : List Edge) (svs : List V), RWA T.cRowsW.C T.cStep.C M H0 H' p N.ed [] [] dx sa a b c kn [] svs → (∀ z o, H z = some o → z ≠ p → H0 z = some o) → Q .non H'
theorem ok_RowsW_init (T : Txt K mg) : FnOk P w K mg base CX0 1 T.cRowsW.init.f T.cRowsW.init.fd ["self", "machine", "net"] (sp_RowsW_init T) := by
  refine T.cRowsW.init.F.ok sc_RowsW_init (fun vs H Q E h => ?_) (fun cdv A outer s H vs Q E hr h => ?_)
  · obtain ⟨p, dx, m, q, M, N, rfl, _⟩ := h
    rfl
  · obtain ⟨p, dx, m, q, M, N, rfl, hp, ⟨mdx, sa, svs, hM⟩, ⟨ndx, a, b, g, es, gs, hn⟩, hmp, hqp, hsp, k⟩ := h
    have hu := hu_of hr
    have hnd := sc_RowsW_init.nd
    refine ⟨_, (pss_cons (ps_fld (L2.pv 0) (pe_fldK (K := K) rfl (L2.pv 1) rfl) rfl)
    (pss_cons (ps_fld (L2.pv 0) (pe_dcT (own := [("edge", 3)]) (g := (gName 3)) hu rfl hnd (pi_tup (pe_fldK (K := K) rfl (L2.pv 2) rfl)) (blkOk_by (own := [("edge", 3)]) (N := nm_RowsW_init) (sc := defScope s_RowsW_init) (by decide +kernel)) (fun _ _ _ _ _ => (pg_name (i := 3) hnd rfl (by first | exact Or.inl rfl | exact Or.inr rfl))) (fun _ _ _ _ _ => (L2.pv 3)) (fun _ _ _ _ _ => (pe_bl))) rfl)
    (pss_cons (ps_fld (L2.pv 0) (pe_lst pa_nil) rfl)
    (pss_one (ps_fld (L2.pv 0) (pe_lst pa_nil) rfl))))), ?_⟩
    have hsz := hn.szE
    have hlen := hn.el.len
    rw [List.length_map] at hlen
    rw [fz_nil (ns := nsRowsW)] at hp
    refine q_fld (v := .ref sa) (fun Q z => ⟨_, rfl, _, _, _, _, _, rfl, hM.ob, T.cMachine.cl, T.cMachine.n_steps, fz_at ndMachine (i := 2) rfl rfl, z⟩) (fun Q z => ⟨_, rfl, z⟩) hp T.cRowsW.cl T.cRowsW.n_steps ndRowsW rfl (by decide) fun H1 o1 hp1 => ?_
    have nap : a ≠ p := ne_of hn.ea hp (by intro z; cases z)
    have ha1 := o1 _ _ hn.ea nap
    have hob1 := o1 _ _ hn.ob hqp
    have hel1 := hn.el.mono (o1.tk (by rw [hp]; intro xs z; cases z))
    refine ⟨_, rfl, _, _, _, _, _, rfl, hob1, T.cNet.cl, T.cNet.n_edges, fz_at ndNet (i := 3) rfl rfl, a, rfl, ⟨_, SqT.of ha1⟩, fun D hD => dcT_it (walk_tup (K := K) (a := a) (xs := es)) (fun i H2 => ∃ kn : List Edge, Ex H1 H2 ∧ H2 D = some (.dT (kd eK kn)) ∧ kn.length ≤ i ∧ ∀ e, e ∈ kn ↔ e ∈ N.ed.take i) ?_ ?_ ?_ ?_⟩
    · exact ⟨[], Ex.new hD, upd_same, Nat.le_refl _, fun e => by simp⟩
    · rintro i H2 _ ⟨_, e, _⟩
      exact SqT.of (e _ _ ha1)
    · rintro i x H2 H3 hi ⟨kn, e, hD1, hl, hm⟩ ⟨rfl, hx⟩
      obtain ⟨d', hd', hv⟩ := (hel1.mono (Tk.of e)).get hx
      obtain ⟨ed, he, rfl⟩ := tup_get hd'
      obtain ⟨t, rfl, ht⟩ := Is.edge_iff.mp hv
      refine ⟨rfl, _, rfl, _, eK ed, t, rfl, ht, hD1, lineLt (by rw [kd_len]; omega), addM kn ed, Ex.mut e hD, ?_, ?_, fun f => ?_⟩
      · rw [upd_same, kd_put eK_inj']; rfl
      · unfold addM
        split
        · omega
        · rw [List.length_append, List.length_singleton]; omega
      · rw [mem_addM, hm, List.take_add_one, he, Option.toList, List.mem_append, List.mem_singleton]
    · rintro H2 ⟨kn, e2, hD2, hl, hm⟩
      rw [hlen, List.take_length] at hm
      have hp2 := e2 _ _ hp1
      refine ⟨_, rfl, p, _, _, _, rfl, hp2, T.cRowsW.cl, T.cRowsW.n_known, fz_len (by decide), fld_put ndRowsW rfl fun H3 o3 hp3 => ?_⟩
      refine ⟨Nat.zero_le _, fun bl hbl => ?_⟩
      have hp3b := Ex.new (o := HO.lst []) hbl _ _ hp3
      refine ⟨_, rfl, p, _, _, _, rfl, hp3b, T.cRowsW.cl, T.cRowsW.n_edges, fz_len (by decide), fld_put ndRowsW rfl fun H4 o4 hp4 => ?_⟩
      refine ⟨Nat.zero_le _, fun cl hcl => ?_⟩
      have hp4b := Ex.new (o := HO.lst []) hcl _ _ hp4
      refine ⟨_, rfl, p, _, _, _, rfl, hp4b, T.cRowsW.cl, T.cRowsW.n_weights, fz_len (by decide), fld_put ndRowsW rfl fun H5 o5 hp5 => ?_⟩
      have nbp : bl ≠ p := (ne_of_none hp3 hbl).symm
      have ncp : cl ≠ p := (ne_of_none hp4 hcl).symm
      have nDp : D ≠ p := (ne_of_none hp1 hD).symm
      have nsp : sa ≠ p := ne_of hM.sa hp (by intro z; cases z)
      have o35 : Off p H3 H5 := (((Off.of (Ex.new hbl)).trans o4).trans (Off.of (Ex.new hcl))).trans o5
      have o03 : Off p H H3 := o1.trans ((Off.of e2).trans o3)
      have hb4 := o4 _ _ (upd_same (H := H3) (a := bl) (o := HO.lst [])) nbp
      have hb5 := o5 _ _ (Ex.new (o := HO.lst []) hcl _ _ hb4) nbp
      have hc5 := o5 _ _ (upd_same (H := H4) (a := cl) (o := HO.lst [])) ncp
      have nbc : bl ≠ cl := ne_of_none hb4 hcl
      have in0 : ∀ z o, H5 z = some o → z ≠ bl → z ≠ cl → lessH (lessH H5 bl) cl z = some o := fun z o h h1 h2 => by rw [lessH_ne h2, lessH_ne h1]; exact h
      have up : ∀ z o, H3 z = some o → z ≠ p → lessH (lessH H5 bl) cl z = some o := fun z o h hz => in0 z o (o35 z o h hz) (ne_of_none h hbl) (ne_of_none (((Off.of (Ex.new hbl)).trans o4) z o h hz) hcl)
      have upH : ∀ z o, H z = some o → z ≠ p → lessH (lessH H5 bl) cl z = some o := fun z o h hz => up z o (o03 z o h hz) hz
      have hD3 := o3 _ _ hD2 nDp
      refine k H5 (lessH (lessH H5 bl) cl) sa D bl cl kn svs ⟨⟨hp5, o35 _ _ hD3 nDp, hm, hb5, .nil, hc5, rfl⟩, (lessH_ex _ _).trans (lessH_ex _ _), by rw [lessH_ne nbc]; exact lessH_at, lessH_at, nbc, in0 _ _ hp5 nbp.symm ncp.symm, up _ _ hD3 nDp, upH _ _ hM.sa nsp, fun i v s h1 h2 => ?_, hM.len⟩ upH
      obtain ⟨sp, sdx, la, rfl, hs⟩ := hM.st i v s h1 h2
      have hne := hsp _ s ⟨sp, sdx, la, rfl, hs⟩
      exact ⟨sp, sdx, la, rfl, upH _ _ hs.ob (fun z => hne (by rw [z])), upH _ _ hs.la (ne_of hs.la hp (by intro z; cases z))⟩
theorem make_rowsw (T : Txt K mg) {H : Hp} {R : Addr → Hp → Prop} {E : XK} {m q : Addr} {M : Mach} {N : NetD} (hM : MachAt T.cMachine.C T.cStep.C H m M) (hN : NetAt T.cNet.C H q N)
    (k : ∀ (x : Addr) (H' H0 : Hp) (dx sa a b c : Addr) (kn : List Edge) (svs : List V), RWA T.cRowsW.C T.cStep.C M H0 H' x N.ed [] [] dx sa a b c kn [] svs → Ex H H0 → R x H') :
    ∀ x dx, H x = none → H dx = none → dx ≠ x → sp_RowsW_init T (.ref x :: ([.ref m, .ref q] ++ [])) (upd (upd H dx (.own x)) x (.ins T.cRowsW.C dx [])) (fun v H2 => v = .non ∧ R x H2) E := by
  intro x dx hx hdx hne
  have e := ex_made (o := HO.ins T.cRowsW.C dx []) (o' := HO.own x) hx hdx
  obtain ⟨_, _, ho⟩ := hN.ins
  obtain ⟨_, _, hm⟩ := hM.ins
  refine ⟨x, dx, m, q, M, N, rfl, upd_same, hM.mono e, hN.mono e, ne_of_none hm hx, ne_of_none ho hx, ?_, fun H' H0 sa a b c kn svs h1 h2 => ⟨rfl, k x H' H0 dx sa a b c kn svs h1 fun z o hz => h2 z o (e z o hz) (ne_of_none hz hx)⟩⟩
  rintro v s ⟨sp, sdx, la, rfl, hs⟩ z
  cases z
  have := hs.ob
  rw [upd_same] at this
  injection this with z
  injection z with _ _ z
  have hl := congrArg List.length z
  simp [fz, nsStep] at hl
theorem inV_not (n : Int) (ns : List Int) : (!inV (.int n) (ns.map V.int)) = true ↔ n ∉ ns := by
  rw [inV_ints]
  simp
def sp_way_weight (T : Txt K mg) : Sp := fun vs H Q _ => ∃ (p q : Addr) (v v2 : V) (KE es : List Edge) (ws : List Int) (N : NetD) (cf : Conf) (way : List Item) (dx sa a b c : Addr) (kn : List Edge) (ev : List V), vs = [.ref p, .ref q, v, v2] ∧
  RWIs T.cRowsW.C H p KE es ws dx sa a b c kn ev ∧ NetAt T.cNet.C H q N ∧ Is H v (cD cf) ∧ Is H v2 (.t (way.map itD)) ∧
  ∀ v' H', Ex H H' → (v' = .non ∨ ∃ n, v' = .int n) → (v' ≠ .non ↔ ∃ n, wayD KE es cf.1 cf.2 way = some n ∧ n ∈ N.en) → Q v' H'
theorem ok_way_weight (T : Txt K mg) : FnOk P w K mg base CX0 2 T.f.way_weight.f T.f.way_weight.fd ["found", "net", "configuration", "way"] (sp_way_weight T) := by
  refine T.f.way_weight.F.ok sc_way_weight (fun vs H Q E h => ?_) (fun cdv A outer s H vs Q E hr h => ?_)
  · obtain ⟨p, q, v, v2, KE, es, ws, N, cf, way, dx, sa, a, b, c, kn, ev, rfl, _⟩ := h
    rfl
  · obtain ⟨p, q, v, v2, KE, es, ws, N, cf, way, dx, sa, a, b, c, kn, ev, rfl, R, hN, hv, hv2, k⟩ := h
    obtain ⟨ca, pl, rfl, hca, hpl⟩ := Is.conf_iff.mp hv
    obtain ⟨wt, wvs, rfl, hwt, hwl⟩ := Is.t_iff.mp hv2
    have hwn := hwl.len
    rw [List.length_map] at hwn
    obtain ⟨ndx, na, nb, ng, nes, ngs, hn⟩ := id hN
    have hu := hu_of hr
    have hnd := sc_way_weight.nd
    refine ⟨_, (pss_cons (ps_asg (L2.pv 2) (pg_tup rfl (pgs_cons (pg_name (i := 4) hnd rfl (by first | exact Or.inl rfl | exact Or.inr rfl)) (pgs_cons (pg_name (i := 5) hnd rfl (by first | exact Or.inl rfl | exact Or.inr rfl)) pgs_nil))))
    (pss_cons (ps_if (pt_cmpR op_ne (pe_callB call_len_seq (by rfl) T.b.len PySem.boot_len (pa_cons (L2.pv 3) pa_nil)) (pe_callB call_len_seq (by rfl) T.b.len PySem.boot_len (pa_cons (L2.pv 5) pa_nil)) (nomark _)) (pss_one (ps_ret (pe_non))) pss_nil)
    (pss_cons (ps_set (i := 6) hnd rfl (by first | exact Or.inl rfl | exact Or.inr rfl) (pe_int))
    (pss_cons (ps_for PassesOwn.never rfl (RZ.pi_zipA (by rfl) T.b.zip (pa_cons (L2.pv 5) (pa_cons (L2.pv 3) pa_nil))) (pg_tup rfl (pgs_cons (pg_name (i := 7) hnd rfl (by first | exact Or.inl rfl | exact Or.inr rfl)) (pgs_cons (pg_name (i := 8) hnd rfl (by first | exact Or.inl rfl | exact Or.inr rfl)) pgs_nil)))
      (pss_cons (ps_set (i := 9) hnd rfl (by first | exact Or.inl rfl | exact Or.inr rfl) (pe_meth (L2.pv 0) T.cRowsW.cl T.cRowsW.m_edge_of (ok_RowsW_edge_of T) (hr.mono (by decide)) T.cRowsW.edge_of.b .nil pass0 (pa_cons (L2.pv 8) pa_nil)))
    (pss_cons (ps_if (PW.pt (pw_or (pt_cmpR op_isN (L2.pv 9) (pe_non) (nomark _)) (pw_or (pt_cmpR op_ne (pe_ix (ix_tupK (K := K) rfl) (L2.pv 9) (pe_int) (fun _ _ => rfl)) (L2.pv 4) (nomark _)) (pw_or1 (pt_cmpR op_ne (pe_ix (ix_tupK (K := K) rfl) (L2.pv 9) (pe_int) (fun _ _ => rfl)) (L2.pv 7) (nomark _)))))) (pss_one (ps_ret (pe_non))) pss_nil)
    (pss_cons (ps_set (i := 4) hnd rfl (by first | exact Or.inl rfl | exact Or.inr rfl) (pe_ix (ix_tupK (K := K) rfl) (L2.pv 9) (pe_int) (fun _ _ => rfl)))
    (pss_one (ps_set (i := 6) hnd rfl (by first | exact Or.inl rfl | exact Or.inr rfl) (pe_op op_add (L2.pv 6) (pe_meth (L2.pv 0) T.cRowsW.cl T.cRowsW.m_cost_of (ok_RowsW_cost_of T) (hr.mono (by decide)) T.cRowsW.cost_of.b .nil pass0 (pa_cons (L2.pv 8) pa_nil)))))))))
    (pss_cons (ps_if (pt_cmpR op_notIn_seq (L2.pv 4) (pe_fldK (K := K) rfl (L2.pv 1) rfl) (by with_unfolding_all rfl)) (pss_one (ps_ret (pe_non))) pss_nil)
    (pss_one (ps_ret (L2.pv 6)))))))), ?_⟩
    refine ⟨_, rfl, ca, _, rfl, SqT.of hca, rfl, _, _, rfl, _, _, rfl, rfl, ?_⟩
    refine ⟨_, rfl, wt, _, rfl, .inr (SqT.of hwt), _, rfl, pl, _, rfl, .inr (SqT.of hpl), rfl, _, rfl, iteN (fun hl => ?_) fun hl => ?_⟩
    rotate_left
    · refine k _ _ (Ex.refl _) (.inl rfl) ⟨fun z => (z rfl).elim, fun ⟨n, h1, _⟩ => ?_⟩
      unfold wayD at h1
      rw [if_neg fun z => hl (by rw [hwn, z, List.length_map])] at h1
      cases h1
    have hlen : way.length = cf.2.length := by
      rw [hwn, List.length_map] at hl
      injection hl with z
      omega
    have hfin : wayD KE es cf.1 cf.2 way = chainO cf.1 cf.2 (way.map (edgeOf KE es)) := by
      unfold wayD
      rw [if_pos hlen]
    refine nxT ?_
    refine ⟨_, rfl, _, rfl, pl, wt, _, _, rfl, .inr ⟨SqT.of hpl, SqT.of hwt, for_it (walk_zipT (K := K) (a := pl) (b := wt) (xs := cf.2.map V.int) (ys := wvs) (by rw [List.length_map, hwn, hlen]))
      (fun i σ' H' => ∃ (n tot : Int) (v7 v8 v9 : Option V), σ' = [some (.ref p), some (.ref q), some (.ref ca), some (.ref wt), some (.int n), some (.ref pl), some (.int tot), v7, v8, v9] ∧ Ex H H' ∧ chainO cf.1 cf.2 (way.map (edgeOf KE es)) = chainO n (cf.2.drop i) ((way.map (edgeOf KE es)).drop i)) ?_ ?_ ?_ ?_⟩⟩
    · exact ⟨cf.1, 0, none, none, none, rfl, Ex.refl _, rfl⟩
    · rintro i σ' H' _ ⟨_, _, _, _, _, rfl, e, _⟩
      exact ⟨SqT.of (e _ _ hpl), SqT.of (e _ _ hwt)⟩
    · rintro i x σ' H' H1 hi ⟨n, tot, v7, v8, v9, rfl, e, hc⟩ ⟨t, y, z, rfl, ht, rfl, hy, hz⟩
      replace hy : (cf.2.map V.int)[i]? = some y := hy
      replace hz : wvs[i]? = some z := hz
      obtain ⟨l, hli, rfl⟩ := ints_get hy
      have et := Ex.new (o := HO.tup [.int l, z]) ht
      have e2 := e.trans et
      obtain ⟨d0, hd0, hz0⟩ := (hwl.mono (Tk.of e2)).get hz
      obtain ⟨it, hit, rfl⟩ := tup_get hd0
      have hwi : (way.map (edgeOf KE es))[i]? = some (edgeOf KE es it) := by rw [List.getElem?_map, hit]; rfl
      refine ⟨t, _, rfl, SqT.of upd_same, rfl, _, _, rfl, _, _, rfl, rfl, ?_⟩
      refine ⟨_, rfl, _, _, _, rfl, (e2 _ _ R.ob), fz_no (by decide +kernel), _, rfl, p, z, it, KE, es, ws, dx, sa, a, b, c, kn, ev, rfl, R.mono e2, hz0, fun v' hv' => ?_⟩
      cases ho : edgeOf KE es it with
      | none =>
        rw [ho] at hv' hwi
        have hco := chainO_dropN (n := n) hli hwi
        cases Is.n_iff.mp hv'
        refine ⟨_, rfl, rfl, _, rfl, iteD (fun _ => ?_) fun z => (z rfl).elim⟩
        refine k _ _ e2 (.inl rfl) ⟨fun z => (z rfl).elim, fun ⟨m, h1, _⟩ => ?_⟩
        rw [hfin, hc, hco] at h1
        cases h1
      | some ed =>
        rw [ho] at hv' hwi
        have hco := chainO_dropS (n := n) hli hwi
        obtain ⟨u, rfl, hu⟩ := Is.edge_iff.mp hv'
        refine ⟨_, rfl, rfl, _, rfl, iteD (fun z => nomatch z) fun _ => ?_⟩
        refine ⟨_, rfl, u, _, _, _, rfl, rfl, SqT.of hu, rfl, _, rfl, rfl, _, rfl, iteN (fun h1 => ?_) fun h1 => ?_⟩
        rotate_left
        · refine k _ _ e2 (.inl rfl) ⟨fun z => (z rfl).elim, fun ⟨m, h2, _⟩ => ?_⟩
          rw [hfin, hc, hco] at h2
          rw [if_neg (c := ed.1 = n ∧ ed.2.1 = l) fun z => h1 (by rw [z.1])] at h2
          cases h2
        refine ⟨_, rfl, u, _, _, _, rfl, rfl, SqT.of hu, rfl, _, rfl, rfl, _, rfl, iteN (fun h2 => ?_) fun h2 => ?_⟩
        rotate_left
        · refine k _ _ e2 (.inl rfl) ⟨fun z => (z rfl).elim, fun ⟨m, h3, _⟩ => ?_⟩
          rw [hfin, hc, hco] at h3
          rw [if_neg (c := ed.1 = n ∧ ed.2.1 = l) fun z => h2 (by rw [z.2])] at h3
          cases h3
        refine nxT ?_
        refine ⟨_, rfl, u, _, _, _, rfl, rfl, SqT.of hu, rfl, _, rfl, _, rfl, _, _, _, rfl, (e2 _ _ R.ob), fz_no (by decide +kernel), _, rfl, p, z, it, KE, es, ws, dx, sa, a, b, c, kn, ev, rfl, R.mono e2, hz0, (fun z => by rw [ho] at z; cases z), fun cost => ?_⟩
        refine ⟨_, _, rfl, rfl, ed.2.2, tot + cost, some (.int l), some z, some (.ref u), rfl, e2, ?_⟩
        rw [hc, hco]
        injection h1 with h1'
        injection h2 with h2'
        exact if_pos ⟨h1', h2'⟩
    · rintro σ' H' ⟨n, tot, v7, v8, v9, rfl, e, hc⟩
      have hdl : (way.map (edgeOf KE es)).drop (cf.2.map V.int).length = [] := List.drop_eq_nil_of_le (by rw [List.length_map, List.length_map, hlen]; exact Nat.le_refl _)
      have hdl2 : cf.2.drop (cf.2.map V.int).length = [] := List.drop_eq_nil_of_le (by rw [List.length_map]; exact Nat.le_refl _)
      rw [hdl, hdl2] at hc
      have hw : wayD KE es cf.1 cf.2 way = some n := hfin.trans hc
      refine ⟨_, rfl, _, rfl, _, _, _, _, _, rfl, (e _ _ hn.ob), T.cNet.cl, T.cNet.n_ends, fz_at ndNet (i := 4) rfl rfl, nb, _, rfl, .inr (SqT.of (e _ _ hn.nb)), rfl, flat_ints _, _, rfl, ?_⟩
      show (if (!inV (.int n) (N.en.map V.int)) = true then _ else _)
      by_cases hin : n ∈ N.en
      · rw [if_neg fun z => (inV_not n N.en).mp z hin]
        refine nxT ⟨_, rfl, k _ _ e (.inr ⟨tot, rfl⟩) ⟨fun _ => ⟨n, hw, hin⟩, fun _ z => nomatch z⟩⟩
      · rw [if_pos ((inV_not n N.en).mpr hin)]
        refine k _ _ e (.inl rfl) ⟨fun z => (z rfl).elim, fun ⟨m, h1, h2⟩ => ?_⟩
        rw [hw] at h1
        cases h1
        exact (hin h2).elim
def sp_paper_weight (T : Txt K mg) : Sp := fun vs H Q _ => ∃ (m q : Addr) (v v1 v2 : V) (M : Mach) (N : NetD) (cf : Conf) (rows : List (Int × List Item)) (way : List Item), vs = [.ref m, .ref q, v, v1, v2] ∧
  MachAt T.cMachine.C T.cStep.C H m M ∧ NetAt T.cNet.C H q N ∧ Is H v (cD cf) ∧ Is H v1 (.t (rows.map rowD)) ∧ Is H v2 (.t (way.map itD)) ∧ rows.length ≤ 5000 ∧ (∀ r ∈ rows, r.2.length ≤ 100) ∧
  ∀ v' H', Ex H H' → (v' = .non ∨ ∃ n, v' = .int n) → (v' ≠ .non ↔ PaperOk M N.ed N.en cf rows way) → Q v' H'
theorem ok_paper_weight (T : Txt K mg) : FnOk P w K mg base CX0 3 T.f.paper_weight.f T.f.paper_weight.fd ["machine", "net", "configuration", "rows", "way"] (sp_paper_weight T) := by
  refine T.f.paper_weight.F.ok sc_paper_weight (fun vs H Q E h => ?_) (fun cdv A outer s H vs Q E hr h => ?_)
  · obtain ⟨m, q, v, v1, v2, M, N, cf, rows, way, rfl, _⟩ := h
    rfl
  · obtain ⟨m, q, v, v1, v2, M, N, cf, rows, way, rfl, hM, hN, hv, hv1, hv2, hl1, hl2, k⟩ := h
    obtain ⟨rt, rvs, rfl, hrt, hrl⟩ := Is.t_iff.mp hv1
    have hrn := hrl.len
    rw [List.length_map] at hrn
    have hu := hu_of hr
    have hnd := sc_paper_weight.nd
    refine ⟨_, (pss_cons (ps_set (i := 5) hnd rfl (by first | exact Or.inl rfl | exact Or.inr rfl) (pe_make T.cRowsW.made (ok_RowsW_init T) (hr.mono (by decide)) (by rfl) T.cRowsW.mg T.cRowsW.init.b .nil pass0 (pa_cons (L2.pv 0) (pa_cons (L2.pv 1) pa_nil))))
    (pss_cons (ps_for PassesOwn.never rfl (pi_tup (L2.pv 3)) (pg_name (i := 6) hnd rfl (by first | exact Or.inl rfl | exact Or.inr rfl))
      (pss_one (ps_if (pt_not (pt_val (pe_meth (L2.pv 5) T.cRowsW.cl T.cRowsW.m_read (ok_RowsW_read T) (hr.mono (by decide)) T.cRowsW.read.b .nil pass0 (pa_cons (L2.pv 6) pa_nil)))) (pss_one (ps_ret (pe_non))) pss_nil)))
    (pss_one (ps_ret (pe_call (ok_way_weight T) (hr.mono (by decide)) (by rfl) T.f.g_way_weight T.f.way_weight.F.kp T.f.way_weight.b .nil pass0 (pa_cons (L2.pv 5) (pa_cons (L2.pv 1) (pa_cons (L2.pv 2) (pa_cons (L2.pv 4) pa_nil))))))))), ?_⟩
    refine ⟨_, rfl, _, rfl, ?_⟩
    refine make_rowsw T hM hN fun x H1 H0 dx sa a b c kn svs R e0 => ?_
    have hrt0 := e0 _ _ hrt
    refine ⟨_, rfl, rt, rfl, ⟨_, SqT.of (R.e0 _ _ hrt0)⟩, for_tup (K := K) (a := rt) (xs := rvs)
      (fun i σ' H' => ∃ (v6 : Option V) (es : List Edge) (ws : List Int) (ev : List V), σ' = [some (.ref m), some (.ref q), some v, some (.ref rt), some v2, some (.ref x), v6] ∧ RWA T.cRowsW.C T.cStep.C M H0 H' x N.ed es ws dx sa a b c kn ev svs ∧ es.length = i ∧ readAll M N.ed [] rows = readAll M N.ed es (rows.drop i)) ?_ ?_ ?_ ?_⟩
    · exact ⟨none, [], [], [], rfl, R, rfl, rfl⟩
    · rintro i σ' H' _ ⟨_, _, _, _, rfl, R', _⟩
      exact SqT.of (R'.e0 _ _ hrt0)
    · rintro i y σ' H' hy ⟨v6, es, ws, ev, rfl, R', hel, hra⟩
      obtain ⟨d0, hd0, hy0⟩ := (hrl.mono (Tk.of (e0.trans R'.e0))).get hy
      obtain ⟨row, hrow, rfl⟩ := tup_get hd0
      have hi : i < rows.length := (List.getElem?_eq_some_iff.mp hrow).1
      have hdrop : rows.drop i = row :: rows.drop (i + 1) := by
        rw [List.drop_eq_getElem_cons hi, (List.getElem?_eq_some_iff.mp hrow).2]
      rw [hdrop] at hra
      refine ⟨_, rfl, _, _, _, rfl, R'.r.ob, fz_no (by decide +kernel), _, rfl, x, y, row, M, H0, N.ed, es, ws, dx, sa, a, b, c, kn, ev, svs, rfl, R', hy0, hl2 row (List.mem_of_getElem? hrow), by omega, fun hnone H2 e2 tk2 => ⟨_, rfl, ?_⟩, fun es' hes' hlen' ws' ev' H2 R2 tk2 => ⟨_, rfl, ?_⟩⟩
      · refine k _ _ (e0.trans e2) (.inl rfl) ⟨fun z => (z rfl).elim, ?_⟩
        rintro ⟨es2, h1, _⟩
        rw [hra] at h1
        show (V.non : V) ≠ .non
        have : readAll M N.ed es (row :: rows.drop (i + 1)) = none := by
          show (readD M N.ed es row).bind _ = none
          rw [hnone]
          rfl
        rw [this] at h1
        cases h1
      · refine ⟨_, es', ws', ev', rfl, R2, by omega, ?_⟩
        rw [hra]
        show (readD M N.ed es row).bind _ = _
        rw [hes']
        rfl
    · rintro σ' H' ⟨v6, es, ws, ev, rfl, R', hel, hra⟩
      rw [hrn, List.drop_length] at hra
      have eH := e0.trans R'.e0
      refine ⟨_, rfl, _, rfl, _, rfl, _, rfl, x, q, v, v2, N.ed, es, ws, N, cf, way, dx, sa, a, b, c, kn, ev, rfl, R'.r, hN.mono eH, hv.mono (Tk.of eH), hv2.mono (Tk.of eH), fun v' H2 e2 h1 h2 => k v' H2 (eH.trans e2) h1 (h2.trans ?_)⟩
      constructor
      · rintro ⟨n, h3, h4⟩
        exact ⟨es, hra, n, h3, h4⟩
      · rintro ⟨es2, h3, n, h4, h5⟩
        rw [hra] at h3
        cases h3
        exact ⟨n, h4, h5⟩
end
end Zp
set_option maxRecDepth 100000
set_option maxHeartbeats 0
namespace Zp
open PySem L2 Zs Evl Pr
/-! ### the judge -/
inductive Paper where
  | stays (B : NetD)
  | came (b : Conf) (rows : List (Int × List Item)) (way : List Item)
def paperD : Paper → PD
  | .stays B => .t [.s "stays", .i B.nd, .t (B.ed.map eD), iD B.en]
  | .came b rows way => .t [.s "came", cD b, .t (rows.map rowD), .t (way.map itD)]
def PaperFit (M : Mach) (N : NetD) : Paper → Prop
  | .stays B => NetOk B ∧ B.ed.length < 4000 ∧ B.en.length < 4000 ∧ B.st = M.st ∧ B.lt = M.lt
  | .came b rows way => rows.length ≤ 5000 ∧ (∀ r ∈ rows, r.2.length ≤ 100) ∧ b.2.length ≤ 50000
def TakesD (M : Mach) (N : NetD) (c : Conf) (verdict : Bool) : Paper → Prop
  | .stays B => verdict = false ∧ (N.nd ≤ B.nd ∧ Ext N B) ∧ Fwd M B ∧ ¬ Acc B c
  | .came b rows way => verdict = true ∧ ((0 ≤ b.1 ∧ b.1 < N.st) ∧ (∀ l ∈ b.2, 0 ≤ l ∧ l < N.lt) ∧ Acc N b) ∧ PaperOk M (sEd c.1 M.st c.2) [sEn c.1 M.st c.2] b rows way
theorem ne_came : ¬ (("came" : Str) = "stays") := by decide +kernel
theorem edgeOf_congr {K K' : List Edge} (h : ∀ e, e ∈ K ↔ e ∈ K') (es : List Edge) : edgeOf K es = edgeOf K' es := by
  funext it
  cases it with
  | net e =>
    rw [edgeOf_net, edgeOf_net]
    by_cases z : e ∈ K
    · rw [if_pos z, if_pos ((h e).mp z)]
    · rw [if_neg z, if_neg fun y => z ((h e).mpr y)]
  | row i => rfl
theorem readAll_congr {M : Mach} {K K' : List Edge} (h : ∀ e, e ∈ K ↔ e ∈ K') : ∀ (rows : List (Int × List Item)) (es : List Edge), readAll M K es rows = readAll M K' es rows
  | [], es => rfl
  | r :: rows, es => by
    have hr : readD M K es r = readD M K' es r := by
      unfold readD
      rw [edgeOf_congr h es]
    show (readD M K es r).bind _ = (readD M K' es r).bind _
    rw [hr]
    congr 1
    funext es'
    exact readAll_congr h rows es'
theorem PaperOk.congr {M : Mach} {K K' : List Edge} {en en' : List Int} (h : ∀ e, e ∈ K ↔ e ∈ K') (h2 : ∀ e, e ∈ en ↔ e ∈ en') {c : Conf} {rows : List (Int × List Item)} {way : List Item} : PaperOk M K en c rows way ↔ PaperOk M K' en' c rows way := by
  unfold PaperOk
  simp only [readAll_congr h]
  constructor
  · rintro ⟨es, h3, n, h4, h5⟩
    refine ⟨es, h3, n, ?_, (h2 n).mp h5⟩
    rw [← h4]
    unfold wayD
    rw [edgeOf_congr h es]
  · rintro ⟨es, h3, n, h4, h5⟩
    refine ⟨es, h3, n, ?_, (h2 n).mpr h5⟩
    rw [← h4]
    unfold wayD
    rw [edgeOf_congr h es]
section
variable {P : Program} {w : World} {K : PySem.W.Frag} {mg : Str → Option Value} {base : Heap}
def sp_fit (T : Txt K mg) (sw : Bool) : Sp := fun vs H Q _ => ∃ (m p : Addr) (M : Mach) (N : NetD), vs = [.ref m, .ref p] ∧ MachAt T.cMachine.C T.cStep.C H m M ∧ NetAt T.cNet.C H p N ∧ N.st = M.st ∧ N.lt = M.lt ∧ (∀ e ∈ N.ed, N.st ≤ e.2.2) ∧ ∀ v H', Ex H H' → Q v H'
def sp_check_net (T : Txt K mg) : Sp := sp_fit T true
def sp_need_fit (T : Txt K mg) : Sp := sp_fit T false
theorem ok_check_net (T : Txt K mg) : FnOk P w K mg base CX0 3 T.f.check_net.f T.f.check_net.fd ["machine", "net"] (sp_check_net T) := by
  refine T.f.check_net.F.ok sc_check_net (fun vs H Q E h => ?_) (fun cdv A outer s H vs Q E hr h => ?_)
  · obtain ⟨m, p, M, N, rfl, _⟩ := h
    rfl
  · obtain ⟨m, p, M, N, rfl, ⟨mdx, ma, mvs, hM⟩, hN, h1, h2, h3, k⟩ := h
    obtain ⟨dx, a, b, g, es, gs, hn⟩ := id hN
    have hu := hu_of hr
    have hnd := sc_check_net.nd
    refine ⟨_, (pss_cons (ps_if (PW.pt (pw_or (pt_cmpR op_ne (pe_fldK (K := K) rfl (L2.pv 1) rfl) (pe_fldK (K := K) rfl (L2.pv 0) rfl) (nomark _)) (pw_or1 (pt_cmpR op_ne (pe_fldK (K := K) rfl (L2.pv 1) rfl) (pe_fldK (K := K) rfl (L2.pv 0) rfl) (nomark _))))) (pss_one (ps_never)) pss_nil)
    (pss_one (ps_if (pt_not (pt_val (pe_prop (L2.pv 1) T.cNet.cl T.cNet.pr (ok_Net_is_plain T) (hr.mono (by decide)) T.cNet.is_plain.b .nil pass0 rfl))) (pss_one (ps_never)) pss_nil))), ?_⟩
    refine ⟨_, rfl, _, _, _, _, _, rfl, hn.ob, T.cNet.cl, T.cNet.n_states, fz_at ndNet (i := 0) rfl rfl, _, rfl, _, _, _, _, _, rfl, hM.ob, T.cMachine.cl, T.cMachine.n_states, fz_at ndMachine (i := 0) rfl rfl, rfl, _, rfl, iteN (fun _ => ?_) fun z => (z (by rw [h1])).elim⟩
    refine ⟨_, rfl, _, _, _, _, _, rfl, hn.ob, T.cNet.cl, T.cNet.n_letters, fz_at ndNet (i := 1) rfl rfl, _, rfl, _, _, _, _, _, rfl, hM.ob, T.cMachine.cl, T.cMachine.n_letters, fz_at ndMachine (i := 1) rfl rfl, rfl, _, rfl, iteN (fun _ => ?_) fun z => (z (by rw [h2])).elim⟩
    refine ⟨_, rfl, _, _, _, rfl, hn.ob, p, N, rfl, hN, fun bo H1 e1 hb => ⟨_, rfl, iteNB (fun _ => k _ _ e1) fun z => ?_⟩⟩
    rw [hb.mpr h3] at z
    cases z
theorem ok_need_fit (T : Txt K mg) : FnOk P w K mg base CX0 3 T.f.need_fit.f T.f.need_fit.fd ["machine", "net"] (sp_need_fit T) := by
  refine T.f.need_fit.F.ok sc_need_fit (fun vs H Q E h => ?_) (fun cdv A outer s H vs Q E hr h => ?_)
  · obtain ⟨m, p, M, N, rfl, _⟩ := h
    rfl
  · obtain ⟨m, p, M, N, rfl, ⟨mdx, ma, mvs, hM⟩, hN, h1, h2, h3, k⟩ := h
    obtain ⟨dx, a, b, g, es, gs, hn⟩ := id hN
    have hu := hu_of hr
    have hnd := sc_need_fit.nd
    refine ⟨_, (pss_cons (ps_if (PW.pt (pw_or (pt_cmpR op_ne (pe_fldK (K := K) rfl (L2.pv 0) rfl) (pe_fldK (K := K) rfl (L2.pv 1) rfl) (nomark _)) (pw_or1 (pt_cmpR op_ne (pe_fldK (K := K) rfl (L2.pv 0) rfl) (pe_fldK (K := K) rfl (L2.pv 1) rfl) (nomark _))))) (pss_one (ps_never)) pss_nil)
    (pss_one (ps_if (pt_not (pt_val (pe_prop (L2.pv 1) T.cNet.cl T.cNet.pr (ok_Net_is_plain T) (hr.mono (by decide)) T.cNet.is_plain.b .nil pass0 rfl))) (pss_one (ps_never)) pss_nil))), ?_⟩
    refine ⟨_, rfl, _, _, _, _, _, rfl, hM.ob, T.cMachine.cl, T.cMachine.n_states, fz_at ndMachine (i := 0) rfl rfl, _, rfl, _, _, _, _, _, rfl, hn.ob, T.cNet.cl, T.cNet.n_states, fz_at ndNet (i := 0) rfl rfl, rfl, _, rfl, iteN (fun _ => ?_) fun z => (z (by rw [h1])).elim⟩
    refine ⟨_, rfl, _, _, _, _, _, rfl, hM.ob, T.cMachine.cl, T.cMachine.n_letters, fz_at ndMachine (i := 1) rfl rfl, _, rfl, _, _, _, _, _, rfl, hn.ob, T.cNet.cl, T.cNet.n_letters, fz_at ndNet (i := 1) rfl rfl, rfl, _, rfl, iteN (fun _ => ?_) fun z => (z (by rw [h2])).elim⟩
    refine ⟨_, rfl, _, _, _, rfl, hn.ob, p, N, rfl, hN, fun bo H1 e1 hb => ⟨_, rfl, iteNB (fun _ => k _ _ e1) fun z => ?_⟩⟩
    rw [hb.mpr h3] at z
    cases z
def sp_need_alike (T : Txt K mg) : Sp := fun vs H Q _ => ∃ (p q : Addr) (A B : NetD), vs = [.ref p, .ref q] ∧ NetAt T.cNet.C H p A ∧ NetAt T.cNet.C H q B ∧ A.st = B.st ∧ A.lt = B.lt ∧ ∀ v, Q v H
theorem ok_need_alike (T : Txt K mg) : FnOk P w K mg base CX0 1 T.f.need_alike.f T.f.need_alike.fd ["a", "b"] (sp_need_alike T) := by
  refine T.f.need_alike.F.ok sc_need_alike (fun vs H Q E h => ?_) (fun cdv A outer s H vs Q E hr h => ?_)
  · obtain ⟨p, q, A, B, rfl, _⟩ := h
    rfl
  · obtain ⟨p, q, A, B, rfl, ⟨dx, a, b, g, es, gs, hn⟩, ⟨dx2, a2, b2, g2, es2, gs2, hn2⟩, h1, h2, k⟩ := h
    have hu := hu_of hr
    have hnd := sc_need_alike.nd
    refine ⟨_, (pss_one (ps_if (PW.pt (pw_or (pt_cmpR op_ne (pe_fldK (K := K) rfl (L2.pv 0) rfl) (pe_fldK (K := K) rfl (L2.pv 1) rfl) (nomark _)) (pw_or1 (pt_cmpR op_ne (pe_fldK (K := K) rfl (L2.pv 0) rfl) (pe_fldK (K := K) rfl (L2.pv 1) rfl) (nomark _))))) (pss_one (ps_never)) pss_nil)), ?_⟩
    refine ⟨_, rfl, _, _, _, _, _, rfl, hn.ob, T.cNet.cl, T.cNet.n_states, fz_at ndNet (i := 0) rfl rfl, _, rfl, _, _, _, _, _, rfl, hn2.ob, T.cNet.cl, T.cNet.n_states, fz_at ndNet (i := 0) rfl rfl, rfl, _, rfl, iteN (fun _ => ?_) fun z => (z (by rw [h1])).elim⟩
    refine ⟨_, rfl, _, _, _, _, _, rfl, hn.ob, T.cNet.cl, T.cNet.n_letters, fz_at ndNet (i := 1) rfl rfl, _, rfl, _, _, _, _, _, rfl, hn2.ob, T.cNet.cl, T.cNet.n_letters, fz_at ndNet (i := 1) rfl rfl, rfl, _, rfl, iteN (fun _ => k _) fun z => (z (by rw [h2])).elim⟩
def sp_is_accepted (T : Txt K mg) : Sp := fun vs H Q _ => ∃ (p : Addr) (v : V) (N : NetD) (c : Conf), vs = [.ref p, v] ∧ NetAt T.cNet.C H p N ∧ Is H v (cD c) ∧ c.2.length ≤ 50000 ∧
  ∀ (b : Bool) H', Ex H H' → (b = true ↔ (0 ≤ c.1 ∧ c.1 < N.st) ∧ (∀ l ∈ c.2, 0 ≤ l ∧ l < N.lt) ∧ Acc N c) → Q (.bl b) H'
theorem ok_is_accepted (T : Txt K mg) : FnOk P w K mg base CX0 4 T.f.is_accepted.f T.f.is_accepted.fd ["net", "configuration"] (sp_is_accepted T) := by
  refine T.f.is_accepted.F.ok sc_is_accepted (fun vs H Q E h => ?_) (fun cdv A outer s H vs Q E hr h => ?_)
  · obtain ⟨p, v, N, c, rfl, _⟩ := h
    rfl
  · obtain ⟨p, v, N, c, rfl, hN, hv, hl, k⟩ := h
    obtain ⟨ca, pl, rfl, hca, hpl⟩ := Is.conf_iff.mp hv
    obtain ⟨dx, a, b, g, es, gs, hn⟩ := id hN
    have hu := hu_of hr
    have hnd := sc_is_accepted.nd
    refine ⟨_, (pss_cons (ps_asg (L2.pv 1) (pg_tup rfl (pgs_cons (pg_name (i := 2) hnd rfl (by first | exact Or.inl rfl | exact Or.inr rfl)) (pgs_cons (pg_name (i := 3) hnd rfl (by first | exact Or.inl rfl | exact Or.inr rfl)) pgs_nil))))
    (pss_cons (ps_if (PW.pt (pw_or (pt_not (pt_chain op_le op_lt (pe_int) (L2.pv 2) (pe_fldK (K := K) rfl (L2.pv 0) rfl))) (pw_or1 (pt_not (pt_val (pe_callB (cr_all rfl) (by rfl) T.b.all (by decide +kernel) (pa_cons (pe_lc (own := [("letter", 4)]) (g := (gName 4)) (tt := tYes) rfl hnd (pi_tup (L2.pv 3)) (blkOk_by (own := [("letter", 4)]) (N := nm_is_accepted) (sc := defScope s_is_accepted) (by decide +kernel)) (fun _ _ _ _ _ => (pg_name (i := 4) hnd rfl (by first | exact Or.inl rfl | exact Or.inr rfl))) (fun _ _ _ _ _ => pts_nil) (fun _ _ _ _ _ => (pe_chain op_le op_lt (pe_int) (L2.pv 4) (pe_fldK (K := K) rfl (L2.pv 0) rfl)))) pa_nil))))))) (pss_one (ps_ret (pe_bl))) pss_nil)
    (pss_one (ps_ret (pe_meth (L2.pv 0) T.cNet.cl T.cNet.m_accepts (ok_Net_accepts T) (hr.mono (by decide)) T.cNet.accepts.b .nil pass0 (pa_cons (L2.pv 1) pa_nil)))))), ?_⟩
    refine ⟨_, rfl, ca, _, rfl, SqT.of hca, rfl, _, _, rfl, _, _, rfl, rfl, ?_⟩
    refine ⟨_, rfl, _, _, rfl, rfl, _, rfl, iteD (fun h1 => ?_) fun h1 => ?_⟩
    rotate_left
    · exact ⟨_, rfl, k _ _ (Ex.refl _) ⟨(fun z => nomatch z), fun z => (h1 z.1.1).elim⟩⟩
    refine ⟨_, rfl, _, _, _, _, _, rfl, hn.ob, T.cNet.cl, T.cNet.n_states, fz_at ndNet (i := 0) rfl rfl, _, _, rfl, rfl, _, rfl, iteN (fun h2 => ?_) fun h2 => ?_⟩
    rotate_left
    · exact k _ _ (Ex.refl _) ⟨(fun z => nomatch z), fun z => (h2 z.1.2).elim⟩
    refine ⟨_, rfl, pl, rfl, ⟨_, SqT.of hpl⟩, fun D hD => ?_⟩
    refine lcR (walk_tup (xs := c.2.map V.int)) hD (by rw [List.length_map]; omega) (fun H' e => SqT.of (e _ _ hpl)) (fun i acc _ => Bls (fun j b => b = true ↔ ∀ l, c.2[j]? = some l → 0 ≤ l ∧ l < N.lt) i acc) (fun _ _ _ _ _ _ z => z) .nil ?_ ?_
    · rintro i acc x H1 H2 B B' hi _ e1 hD1 r ⟨rfl, hx⟩ kB _
      obtain ⟨l, hli, rfl⟩ := ints_get hx
      refine ⟨rfl, _, rfl, _, _, rfl, rfl, _, rfl, iteD (fun h3 => ?_) fun h3 => ?_⟩
      rotate_left
      · exact kB _ _ (Ex.refl _) (r.snoc ⟨(fun z => nomatch z), fun z => (h3 (z l hli).1).elim⟩)
      refine ⟨_, rfl, _, _, _, _, _, rfl, (e1 _ _ hn.ob), T.cNet.cl, T.cNet.n_letters, fz_at ndNet (i := 1) rfl rfl, _, _, rfl, rfl, kB _ _ (Ex.refl _) (r.snoc ?_)⟩
      rw [decide_eq_true_iff]
      exact ⟨fun h4 l' hl' => by rw [hli] at hl'; cases hl'; exact ⟨h3, h4⟩, fun h4 => (h4 l hli).2⟩
    · intro acc H1 e1 hD1 _ r
      obtain ⟨bs, rfl, hbs⟩ := r.all
      have hbs2 : bs.all id = true ↔ ∀ l ∈ c.2, 0 ≤ l ∧ l < N.lt := hbs.trans ⟨fun h l hl' => by
        obtain ⟨j, hj⟩ := List.mem_iff_getElem?.mp hl'
        exact h j (by rw [List.length_map]; exact (List.getElem?_eq_some_iff.mp hj).1) l hj, fun h j _ l hj => h l (List.mem_of_getElem? hj)⟩
      refine ⟨D, bs, rfl, SqL.of hD1, _, rfl, iteNB (fun hbt => ?_) fun hbf => ?_⟩
      · refine nxT ?_
        refine ⟨_, rfl, _, _, _, rfl, (e1 _ _ hn.ob), fz_no (by decide +kernel), _, rfl, p, .ref ca, N, c, rfl, hN.mono e1, hv.mono (Tk.of e1), fun b H2 e2 hb => k _ _ (e1.trans e2) (hb.trans ⟨fun z => ⟨⟨h1, h2⟩, hbs2.mp hbt, z⟩, fun z => z.2.2⟩)⟩
      · refine k _ _ e1 ⟨(fun z => nomatch z), fun z => ?_⟩
        rw [hbs2.mpr z.2.1] at hbf
        cases hbf
def sp_takes_came (T : Txt K mg) : Sp := fun vs H Q _ => ∃ (m p : Addr) (v v4 : V) (vd : Bool) (M : Mach) (N : NetD) (c : Conf) (pp : Paper), vs = [.ref m, .ref p, v, .bl vd, v4] ∧ MachAt T.cMachine.C T.cStep.C H m M ∧ NetAt T.cNet.C H p N ∧ N.st = M.st ∧ N.lt = M.lt ∧ (∀ e ∈ N.ed, N.st ≤ e.2.2) ∧
  Is H v (cD c) ∧ (0 ≤ c.1 ∧ c.1 < M.st) ∧ (∀ l ∈ c.2, 0 ≤ l ∧ l < M.lt) ∧ c.2.length ≤ 1000 ∧ Is H v4 (paperD pp) ∧ PaperFit M N pp ∧
  ∀ (b : Bool) H', Ex H H' → (b = true ↔ TakesD M N c vd pp) → Q (.bl b) H'
theorem ok_takes_came (T : Txt K mg) : FnOk P w K mg base CX0 5 T.f.takes_came.f T.f.takes_came.fd ["machine", "net", "configuration", "verdict", "paper"] (sp_takes_came T) := by
  refine T.f.takes_came.F.ok sc_takes_came (fun vs H Q E h => ?_) (fun cdv A outer s H vs Q E hr h => ?_)
  · obtain ⟨m, p, v, v4, vd, M, N, c, pp, rfl, _⟩ := h
    rfl
  · obtain ⟨m, p, v, v4, vd, M, N, c, pp, rfl, hM, hN, h1, h2, h3, hc, hc1, hc2, hc3, hp, hf, k⟩ := h
    have hu := hu_of hr
    have hnd := sc_takes_came.nd
    refine ⟨_, (pss_cons (ps_expr (pe_call (ok_check_net T) (hr.mono (by decide)) (by rfl) T.f.g_check_net T.f.check_net.F.kp T.f.check_net.b .nil pass0 (pa_cons (L2.pv 0) (pa_cons (L2.pv 1) pa_nil))))
    (pss_cons (ps_if (pt_cmpR op_eq (pe_ix (ix_tupK (K := K) rfl) (L2.pv 4) (pe_int) (fun _ _ => rfl)) (pe_str) (nomark _)) (pss_cons (ps_asg (L2.pv 4) (pg_tup rfl (pgs_cons (pg_name (i := 5) hnd rfl (by first | exact Or.inl rfl | exact Or.inr rfl)) (pgs_cons (pg_name (i := 6) hnd rfl (by first | exact Or.inl rfl | exact Or.inr rfl)) (pgs_cons (pg_name (i := 7) hnd rfl (by first | exact Or.inl rfl | exact Or.inr rfl)) (pgs_cons (pg_name (i := 8) hnd rfl (by first | exact Or.inl rfl | exact Or.inr rfl)) pgs_nil))))))
    (pss_one (ps_ret (pe_and (pe_not (L2.pv 3)) (pe_one (pe_call (ok_shows_staying T) (hr.mono (by decide)) (by rfl) T.f.g_shows_staying T.f.shows_staying.F.kp T.f.shows_staying.b .nil pass0 (pa_cons (L2.pv 0) (pa_cons (L2.pv 1) (pa_cons (L2.pv 2) (pa_cons (L2.pv 6) (pa_cons (L2.pv 7) (pa_cons (L2.pv 8) pa_nil)))))))))))) pss_nil)
    (pss_cons (ps_if (PW.pt (pw_or (pt_cmpR op_ne (pe_ix (ix_tupK (K := K) rfl) (L2.pv 4) (pe_int) (fun _ _ => rfl)) (pe_str) (nomark _)) (pw_or1 (pt_not (pt_val (L2.pv 3)))))) (pss_one (ps_ret (pe_bl))) pss_nil)
    (pss_cons (ps_asg (L2.pv 4) (pg_tup rfl (pgs_cons (pg_name (i := 5) hnd rfl (by first | exact Or.inl rfl | exact Or.inr rfl)) (pgs_cons (pg_name (i := 9) hnd rfl (by first | exact Or.inl rfl | exact Or.inr rfl)) (pgs_cons (pg_name (i := 10) hnd rfl (by first | exact Or.inl rfl | exact Or.inr rfl)) (pgs_cons (pg_name (i := 11) hnd rfl (by first | exact Or.inl rfl | exact Or.inr rfl)) pgs_nil))))))
    (pss_cons (ps_set (i := 12) hnd rfl (by first | exact Or.inl rfl | exact Or.inr rfl) (pe_call (ok_single T) (hr.mono (by decide)) (by rfl) T.f.g_single T.f.single.F.kp T.f.single.b .nil pass0 (pa_cons (pe_fldK (K := K) rfl (L2.pv 0) rfl) (pa_cons (pe_fldK (K := K) rfl (L2.pv 0) rfl) (pa_cons (L2.pv 2) pa_nil)))))
    (pss_one (ps_ret (pe_and (pe_call (ok_is_accepted T) (hr.mono (by decide)) (by rfl) T.f.g_is_accepted T.f.is_accepted.F.kp T.f.is_accepted.b .nil pass0 (pa_cons (L2.pv 1) (pa_cons (L2.pv 9) pa_nil))) (pe_one (pe_cmpR op_notN (pe_call (ok_paper_weight T) (hr.mono (by decide)) (by rfl) T.f.g_paper_weight T.f.paper_weight.F.kp T.f.paper_weight.b .nil pass0 (pa_cons (L2.pv 0) (pa_cons (L2.pv 12) (pa_cons (L2.pv 9) (pa_cons (L2.pv 10) (pa_cons (L2.pv 11) pa_nil)))))) (pe_non) (nomark _))))))))))), ?_⟩
    refine ⟨_, rfl, _, rfl, m, p, M, N, rfl, hM, hN, h1, h2, h3, fun v0 H1 e1 => ?_⟩
    cases pp with
    | stays B =>
      obtain ⟨t, vs, rfl, ht, hl⟩ := Is.t_iff.mp (hp.mono (Tk.of e1))
      obtain ⟨y1, r1, rfl, hy1, hr1⟩ := IsL.cons_iff.mp hl
      obtain ⟨y2, r2, rfl, hy2, hr2⟩ := IsL.cons_iff.mp hr1
      obtain ⟨y3, r3, rfl, hy3, hr3⟩ := IsL.cons_iff.mp hr2
      obtain ⟨y4, r4, rfl, hy4, hr4⟩ := IsL.cons_iff.mp hr3
      cases IsL.nil_iff.mp hr4
      cases Is.s_iff.mp hy1
      cases Is.i_iff.mp hy2
      obtain ⟨ta, es, rfl, hta, hes⟩ := Is.t_iff.mp hy3
      obtain ⟨tb, rfl, htb⟩ := Is.ints_iff.mp hy4
      obtain ⟨f1, f2, f3, f4, f5⟩ := hf
      refine ⟨_, rfl, t, _, _, _, rfl, rfl, SqT.of ht, rfl, rfl, _, rfl, iteD (fun _ => ?_) fun z => (z rfl).elim⟩
      refine ⟨_, rfl, t, _, rfl, SqT.of ht, rfl, _, _, rfl, _, _, rfl, _, _, rfl, _, _, rfl, rfl, ?_⟩
      refine ⟨_, rfl, _, rfl, _, rfl, ?_⟩
      cases vd with
      | true => exact k _ _ e1 ⟨(fun z => nomatch z), fun z => nomatch z.1⟩
      | false =>
        refine ⟨_, rfl, _, rfl, _, rfl, _, rfl, _, rfl, _, rfl, m, p, ta, tb, v, M, N, B, c, es, rfl, hM.mono e1, hN.mono e1, hc.mono (Tk.of e1), .inr hta, hes, .inr htb, f1, f2, f3, f4, f5, fun r H2 e2 hr => k _ _ (e1.trans e2) (hr.trans ?_)⟩
        exact ⟨fun z => ⟨rfl, z⟩, fun z => z.2⟩
    | came b rows way =>
      obtain ⟨t, vs, rfl, ht, hl⟩ := Is.t_iff.mp (hp.mono (Tk.of e1))
      obtain ⟨y1, r1, rfl, hy1, hr1⟩ := IsL.cons_iff.mp hl
      obtain ⟨y2, r2, rfl, hy2, hr2⟩ := IsL.cons_iff.mp hr1
      obtain ⟨y3, r3, rfl, hy3, hr3⟩ := IsL.cons_iff.mp hr2
      obtain ⟨y4, r4, rfl, hy4, hr4⟩ := IsL.cons_iff.mp hr3
      cases IsL.nil_iff.mp hr4
      cases Is.s_iff.mp hy1
      obtain ⟨f1, f2, f3⟩ := hf
      obtain ⟨mdx, ma, mvs, hM1⟩ := hM.mono e1
      refine ⟨_, rfl, t, _, _, _, rfl, rfl, SqT.of ht, rfl, rfl, _, rfl, iteD (fun z => (ne_came (by injection z)).elim) fun _ => ?_⟩
      refine nxT ?_
      refine ⟨_, rfl, t, _, _, _, rfl, rfl, SqT.of ht, rfl, rfl, _, rfl, iteN (fun _ => ?_) fun z => (z rfl).elim⟩
      refine ⟨_, rfl, _, rfl, ?_⟩
      cases vd with
      | false => exact k _ _ e1 ⟨(fun z => nomatch z), fun z => nomatch z.1⟩
      | true =>
        refine nxT ?_
        refine ⟨_, rfl, t, _, rfl, SqT.of ht, rfl, _, _, rfl, _, _, rfl, _, _, rfl, _, _, rfl, rfl, ?_⟩
        refine ⟨_, rfl, _, _, _, _, _, rfl, hM1.ob, T.cMachine.cl, T.cMachine.n_states, fz_at ndMachine (i := 0) rfl rfl, _, rfl, _, _, _, _, _, rfl, hM1.ob, T.cMachine.cl, T.cMachine.n_letters, fz_at ndMachine (i := 1) rfl rfl, _, rfl, M.st, M.lt, v, c, rfl, hc.mono (Tk.of e1), hM1.ok.st, hM1.ok.lt, hc1, hc2, hc3, fun q N' H2 e2 hN' c1 c2 c3 c4 c5 _ _ => ?_⟩
        have e12 := e1.trans e2
        refine ⟨_, rfl, _, rfl, p, y2, N, b, rfl, hN.mono e12, hy2.mono (Tk.of e2), f3, fun r H3 e3 hr' => ⟨_, rfl, iteB (fun hrt => ?_) fun hrf => ?_⟩⟩
        · have e13 := e12.trans e3
          have e23 := e2.trans e3
          refine ⟨_, rfl, _, rfl, _, rfl, _, rfl, _, rfl, m, q, y2, y3, y4, M, N', b, rows, way, rfl, hM.mono e13, hN'.mono e3, hy2.mono (Tk.of e23), hy3.mono (Tk.of e23), hy4.mono (Tk.of e23), f1, f2, fun v' H4 e4 h4 h5 => ⟨rfl, k _ _ (e13.trans e4) ?_⟩⟩
          have hpo : v' ≠ .non ↔ PaperOk M (sEd c.1 M.st c.2) [sEn c.1 M.st c.2] b rows way := h5.trans (PaperOk.congr c4 fun e => (c5 e).trans List.mem_singleton.symm)
          have hdec : (!decide (v' = V.non)) = true ↔ v' ≠ .non := by simp
          rw [hdec, hpo]
          exact ⟨fun z => ⟨rfl, hr'.mp hrt, z⟩, fun z => z.2.2⟩
        · refine k _ _ (e12.trans e3) ⟨(fun z => nomatch z), fun z => ?_⟩
          rw [hr'.mpr z.2.1] at hrf
          cases hrf
end
end Zp
/-! Distances to the ends. -/
namespace Pr
structure CL (ed : List Edge) (num : Int) (F F' : Int → Option Int) (ch : Bool) : Prop where
  keep : ∀ n d, F n = some d → F' n = some d
  add : ∀ n l g, (n, l, g) ∈ ed → F n = none → F g = some (num - 1) → F' n = some num
  back : ∀ n d, F' n = some d → F n = some d ∨ (d = num ∧ ∃ l g, (n, l, g) ∈ ed ∧ F g = some (num - 1))
  no : ch = false → F' = F ∧ ∀ n l g, (n, l, g) ∈ ed → F n = none → F g ≠ some (num - 1)
theorem CL.nil (num : Int) (F : Int → Option Int) : CL [] num F F false :=
  ⟨fun _ _ h => h, fun _ _ _ h => (nomatch h), fun _ _ h => .inl h, fun _ => ⟨rfl, fun _ _ _ h => (nomatch h)⟩⟩
def setF (F : Int → Option Int) (n : Int) (v : Option Int) : Int → Option Int := fun m => if m = n then v else F m
theorem CL.set {ed : List Edge} {num : Int} {F F' : Int → Option Int} {ch : Bool} (h : CL ed num F F' ch) {n l g : Int} (h1 : F' n = none) (h2 : F' g = some (num - 1)) : CL (ed ++ [(n, l, g)]) num F (setF F' n (some num)) true := by
  have hFn : F n = none := by
    cases e : F n with
    | none => rfl
    | some d => rw [h.keep n d e] at h1; cases h1
  have hFg : F g = some (num - 1) := by
    rcases h.back g _ h2 with z | ⟨z, _⟩
    · exact z
    · omega
  refine ⟨fun m d hm => ?_, fun m l' g' hm hm1 hm2 => ?_, fun m d hm => ?_, fun z => nomatch z⟩
  · unfold setF
    split
    · rename_i e; subst e; rw [hFn] at hm; cases hm
    · exact h.keep m d hm
  · unfold setF
    split
    · rfl
    · rename_i e
      rcases List.mem_append.mp hm with z | z
      · exact h.add m l' g' z hm1 hm2
      · cases List.mem_singleton.mp z
        exact (e rfl).elim
  · unfold setF at hm
    split at hm
    · rename_i e
      subst e
      cases hm
      exact .inr ⟨rfl, l, g, by simp, hFg⟩
    · rcases h.back m d hm with z | ⟨z1, l', g', z2, z3⟩
      · exact .inl z
      · exact .inr ⟨z1, l', g', List.mem_append_left _ z2, z3⟩
theorem CL.skip {ed : List Edge} {num : Int} {F F' : Int → Option Int} {ch : Bool} (h : CL ed num F F' ch) {n l g : Int} (hn : ¬ (F' n = none ∧ F' g = some (num - 1))) : CL (ed ++ [(n, l, g)]) num F F' ch := by
  refine ⟨h.keep, fun m l' g' hm hm1 hm2 => ?_, fun m d hm => ?_, fun z => ?_⟩
  · rcases List.mem_append.mp hm with z | z
    · exact h.add m l' g' z hm1 hm2
    · cases List.mem_singleton.mp z
      cases e : F' n with
      | none => exact (hn ⟨e, h.keep _ _ hm2⟩).elim
      | some d =>
        rcases h.back n d e with y | ⟨y, _⟩
        · rw [hm1] at y; cases y
        · rw [y]
  · rcases h.back m d hm with z | ⟨z1, l', g', z2, z3⟩
    · exact .inl z
    · exact .inr ⟨z1, l', g', List.mem_append_left _ z2, z3⟩
  · obtain ⟨e, h2⟩ := h.no z
    subst e
    refine ⟨rfl, fun m l' g' hm hm1 hm2 => ?_⟩
    rcases List.mem_append.mp hm with y | y
    · exact h2 m l' g' y hm1 hm2
    · cases List.mem_singleton.mp y
      exact hn ⟨hm1, hm2⟩
structure DI (N : NetD) (num : Int) (F : Int → Option Int) : Prop where
  rng : ∀ n d, F n = some d → (0 ≤ n ∧ n < N.nd) ∧ 0 ≤ d ∧ d < num
  zero : ∀ n, F n = some 0 → n ∈ N.en
  suc : ∀ n d, F n = some d → 0 < d → ∃ l g, (n, l, g) ∈ N.ed ∧ F g = some (d - 1)
  ends : ∀ n ∈ N.en, F n = some 0
  cl : ∀ n l g d, (n, l, g) ∈ N.ed → F n = none → F g = some d → num - 1 ≤ d
def F0 (en : List Int) : Int → Option Int := fun n => if n ∈ en then some 0 else none
theorem DI.start {N : NetD} (h : NetOk N) : DI N 1 (F0 N.en) := by
  have key : ∀ n d, F0 N.en n = some d → n ∈ N.en ∧ d = 0 := fun n d hn => by
    unfold F0 at hn
    split at hn
    · cases hn; exact ⟨‹_›, rfl⟩
    · cases hn
  refine ⟨fun n d hn => ?_, fun n hn => (key n 0 hn).1, fun n d hn hd => ?_, fun n hn => if_pos hn, fun n l g d _ _ hg => ?_⟩
  · obtain ⟨h1, rfl⟩ := key n d hn
    exact ⟨h.en n h1, by omega⟩
  · obtain ⟨_, rfl⟩ := key n d hn
    omega
  · obtain ⟨_, rfl⟩ := key g d hg
    omega
theorem DI.next {N : NetD} {num : Int} {F F' : Int → Option Int} {ch : Bool} (hN : NetOk N) (h : DI N num F) (c : CL N.ed num F F' ch) (h1 : 1 ≤ num) : DI N (num + 1) F' := by
  refine ⟨fun n d hn => ?_, fun n hn => ?_, fun n d hn hd => ?_, fun n hn => c.keep _ _ (h.ends n hn), fun n l g d he hn hg => ?_⟩
  · rcases c.back n d hn with z | ⟨rfl, l, g, z1, z2⟩
    · have := h.rng n d z; omega
    · have := (hN.ed _ z1).1
      simp only at this
      omega
  · rcases c.back n 0 hn with z | ⟨z, _⟩
    · exact h.zero n z
    · omega
  · rcases c.back n d hn with z | ⟨rfl, l, g, z1, z2⟩
    · obtain ⟨l, g, h2, h3⟩ := h.suc n d z hd
      exact ⟨l, g, h2, c.keep _ _ h3⟩
    · exact ⟨l, g, z1, c.keep _ _ z2⟩
  · have hFn : F n = none := by
      cases e : F n with
      | none => rfl
      | some d' => rw [c.keep n d' e] at hn; cases hn
    rcases c.back g d hg with z | ⟨rfl, _⟩
    · have h2 := h.cl n l g d he hFn z
      have h3 := h.rng g d z
      have h4 : d = num - 1 := by omega
      rw [h4] at z
      have := c.add n l g he hFn z
      rw [hn] at this
      cases this
    · omega
/-- the distances as they end -/
structure DFin (N : NetD) (F : Int → Option Int) : Prop where
  rng : ∀ n d, F n = some d → (0 ≤ n ∧ n < N.nd) ∧ 0 ≤ d ∧ d ≤ N.nd
  zero : ∀ n, F n = some 0 → n ∈ N.en
  suc : ∀ n d, F n = some d → 0 < d → ∃ l g, (n, l, g) ∈ N.ed ∧ F g = some (d - 1)
  all : ∀ n w e, Path (mem N.ed) n w e → e ∈ N.en → F n ≠ none
theorem DI.fin {N : NetD} {num : Int} {F : Int → Option Int} (h : DI N num F) (hnum : num ≤ N.nd + 1) (hc : ∀ n l g, (n, l, g) ∈ N.ed → F n = none → F g = none) : DFin N F := by
  refine ⟨fun n d hn => ?_, h.zero, h.suc, fun n w e hp => ?_⟩
  · have := h.rng n d hn; omega
  · induction hp with
    | nil n => intro he z; rw [h.ends n he] at z; cases z
    | cons h1 _ ih => exact fun he z => ih he (hc _ _ _ h1 z)
theorem DI.fin_no {N : NetD} {num : Int} {F F' : Int → Option Int} (h : DI N num F) (hnum : num ≤ N.nd) (c : CL N.ed num F F' false) : DFin N F' := by
  obtain ⟨e, h2⟩ := c.no rfl
  subst e
  refine h.fin (by omega) fun n l g he hn => ?_
  cases e : F' g with
  | none => rfl
  | some d =>
    have h3 := h.cl n l g d he hn e
    have h4 := h.rng g d e
    have h5 : d = num - 1 := by omega
    rw [h5] at e
    exact (h2 n l g he hn e).elim
theorem DI.chain {N : NetD} {num : Int} {F : Int → Option Int} (h : DI N num F) : ∀ (k : Nat) (g : Int), F g = some (k : Int) → ∃ l : List Int, l.length = k + 1 ∧ l.Nodup ∧ ∀ x ∈ l, ∃ d : Int, F x = some d ∧ d ≤ k
  | 0, g, hg => ⟨[g], rfl, by simp, fun x hx => by rw [List.mem_singleton.mp hx]; exact ⟨0, hg, Int.le_refl _⟩⟩
  | k + 1, g, hg => by
    obtain ⟨l, g', _, h2⟩ := h.suc g _ hg (by omega)
    obtain ⟨ls, h3, h4, h5⟩ := h.chain k g' (by rw [h2]; congr 1; omega)
    refine ⟨g :: ls, by simp [h3], List.nodup_cons.mpr ⟨fun hm => ?_, h4⟩, fun x hx => ?_⟩
    · obtain ⟨d, h6, h7⟩ := h5 g hm
      rw [hg] at h6
      cases h6
      omega
    · rcases List.mem_cons.mp hx with z | z
      · rw [z]; exact ⟨_, hg, Int.le_refl _⟩
      · obtain ⟨d, h6, h7⟩ := h5 x z
        exact ⟨d, h6, by omega⟩
theorem DI.fin_end {N : NetD} {F : Int → Option Int} (hN : NetOk N) (h : DI N N.nd F) : DFin N F := by
  refine h.fin (by omega) fun n l g he hn => ?_
  cases e : F g with
  | none => rfl
  | some d =>
    exfalso
    have h3 := h.cl n l g d he hn e
    have h4 := h.rng g d e
    have h5 : d = ((d.toNat : Nat) : Int) := by omega
    rw [h5] at e
    obtain ⟨ls, h6, h7, h8⟩ := h.chain d.toNat g e
    have hnd := nd_len (n :: ls) ((List.range N.nd.toNat).map fun i : Nat => ((i : Nat) : Int)) (List.nodup_cons.mpr ⟨fun hm => ?_, h7⟩) fun x hx => ?_
    · rw [List.length_cons, List.length_map, List.length_range, h6] at hnd
      omega
    · obtain ⟨d', h9, _⟩ := h8 n hm
      rw [hn] at h9
      cases h9
    · have hr : 0 ≤ x ∧ x < N.nd := by
        rcases List.mem_cons.mp hx with z | z
        · rw [z]; exact (hN.ed _ he).1
        · obtain ⟨d', h9, _⟩ := h8 x z
          exact (h.rng x d' h9).1
      exact List.mem_map.mpr ⟨x.toNat, List.mem_range.mpr (by omega), by omega⟩
end Pr
set_option maxRecDepth 100000
set_option maxHeartbeats 0
namespace Zp
open PySem L2 Zs Evl Pr
def oV : Option Int → V
  | none => .non
  | some d => .int d
def dl (nd : Int) (F : Int → Option Int) : List V := (List.range nd.toNat).map fun i : Nat => oV (F (i : Int))
theorem dl_len (nd : Int) (F : Int → Option Int) : (dl nd F).length = nd.toNat := by simp [dl]
theorem dl_get {nd n : Int} {F : Int → Option Int} (h0 : 0 ≤ n) (h1 : n < nd) : (dl nd F)[n.toNat]? = some (oV (F n)) := by
  unfold dl
  rw [List.getElem?_map, List.getElem?_range (by omega)]
  show some (oV (F ((n.toNat : Nat) : Int))) = _
  rw [Int.toNat_of_nonneg h0]
theorem dl_at {nd n : Int} {F : Int → Option Int} (h0 : 0 ≤ n) (h1 : n < nd) : atI (dl nd F) n = some (oV (F n)) := atI_int h0 (dl_get h0 h1)
theorem dl_set {nd n : Int} {F : Int → Option Int} (h0 : 0 ≤ n) (h1 : n < nd) (v : Option Int) : (dl nd F).set n.toNat (oV v) = dl nd (setF F n v) := by
  apply List.ext_getElem?
  intro i
  by_cases hi : i < nd.toNat
  · rw [List.getElem?_set]
    unfold dl
    rw [List.length_map, List.length_range, List.getElem?_map, List.getElem?_map, List.getElem?_range hi]
    simp only [Option.map_some]
    by_cases e : n.toNat = i
    · rw [if_pos e, if_pos (by omega)]
      unfold setF
      rw [if_pos (by omega)]
    · rw [if_neg e]
      unfold setF
      rw [if_neg (by omega)]
  · rw [List.getElem?_eq_none (by rw [List.length_set, dl_len]; omega), List.getElem?_eq_none (by rw [dl_len]; omega)]
theorem ixN_int {n : Nat} {i : Int} (h0 : 0 ≤ i) (h1 : i < n) : ixN n i = some i.toNat := by
  have e : i = ((i.toNat : Nat) : Int) := by omega
  rw [e]
  exact Evl.ixN_nat (by omega)
theorem oV_non {o : Option Int} : oV o = .non ↔ o = none := by
  cases o with
  | none => exact ⟨fun _ => rfl, fun _ => rfl⟩
  | some d => exact ⟨(fun z => nomatch z), (fun z => nomatch z)⟩
theorem oV_int {o : Option Int} {d : Int} : oV o = .int d ↔ o = some d := by
  cases o with
  | none => exact ⟨(fun z => nomatch z), (fun z => nomatch z)⟩
  | some e => exact ⟨fun z => by injection z with z; rw [z], fun z => by injection z with z; rw [z]; rfl⟩
theorem oV_scal (o : Option Int) (d : Int) : scal (oV o) (.int d) = true := by
  cases o <;> rfl
section
variable {P : Program} {w : World} {K : PySem.W.Frag} {mg : Str → Option Value} {base : Heap}
def sp_closer (T : Txt K mg) : Sp := fun vs H Q _ => ∃ (p d : Addr) (N : NetD) (H0 : Hp) (num : Int) (F : Int → Option Int), vs = [.ref p, .ref d, .int num] ∧ NetAt T.cNet.C H0 p N ∧ Ex H0 H ∧ H0 d = none ∧ H d = some (.lst (dl N.nd F)) ∧
  ∀ (ch : Bool) F' H', Ex H0 H' → H' d = some (.lst (dl N.nd F')) → CL N.ed num F F' ch → Q (.bl ch) H'
theorem ok_closer (T : Txt K mg) : FnOk P w K mg base CX0 1 T.f.closer.f T.f.closer.fd ["net", "found", "number"] (sp_closer T) := by
  refine T.f.closer.F.ok sc_closer (fun vs H Q E h => ?_) (fun cdv A outer s H vs Q E hr h => ?_)
  · obtain ⟨p, d, N, H0, num, F, rfl, _⟩ := h
    rfl
  · obtain ⟨p, d, N, H0, num, F, rfl, ⟨dx, a, b, g, es, gs, hn⟩, e0, hd0, hd, k⟩ := h
    have hu := hu_of hr
    have hnd := sc_closer.nd
    refine ⟨_, (pss_cons (ps_set (i := 3) hnd rfl (by first | exact Or.inl rfl | exact Or.inr rfl) (pe_bl))
    (pss_cons (ps_for PassesOwn.never rfl (pi_tup (pe_fldK (K := K) rfl (L2.pv 0) rfl)) (pg_tup rfl (pgs_cons (pg_name (i := 4) hnd rfl (by first | exact Or.inl rfl | exact Or.inr rfl)) (pgs_cons (pg_name (i := 5) hnd rfl (by first | exact Or.inl rfl | exact Or.inr rfl)) (pgs_cons (pg_name (i := 6) hnd rfl (by first | exact Or.inl rfl | exact Or.inr rfl)) pgs_nil))))
      (pss_one (ps_if (PW.pt (pw_and (pt_cmpR op_isN (pe_ix (ix_listK (K := K) rfl) (L2.pv 1) (L2.pv 4) (fun _ _ => rfl)) (pe_non) (nomark _)) (pw_and1 (pt_cmpR op_eq (pe_ix (ix_listK (K := K) rfl) (L2.pv 1) (L2.pv 6) (fun _ _ => rfl)) (pe_op op_sub (L2.pv 2) (pe_int)) (nomark _))))) (pss_cons (ps_asg (L2.pv 2) (pg_sub (L2.pv 1) (L2.pv 4) set_list))
    (pss_one (ps_set (i := 3) hnd rfl (by first | exact Or.inl rfl | exact Or.inr rfl) (pe_bl)))) pss_nil)))
    (pss_one (ps_ret (L2.pv 3))))), ?_⟩
    have hlen := hn.el.len
    rw [List.length_map] at hlen
    refine ⟨_, rfl, _, _, _, _, _, rfl, (e0 _ _ hn.ob), T.cNet.cl, T.cNet.n_edges, fz_at ndNet (i := 3) rfl rfl, a, rfl, ⟨_, SqT.of (e0 _ _ hn.ea)⟩, for_tup (K := K) (a := a) (xs := es)
      (fun i σ' H' => ∃ (ch : Bool) (v4 v5 v6 : Option V) (F' : Int → Option Int), σ' = [some (.ref p), some (.ref d), some (.int num), some (.bl ch), v4, v5, v6] ∧ Ex H0 H' ∧ H' d = some (.lst (dl N.nd F')) ∧ CL (N.ed.take i) num F F' ch) ?_ ?_ ?_ ?_⟩
    · exact ⟨false, none, none, none, F, rfl, e0, hd, CL.nil num F⟩
    · rintro i σ' H' _ ⟨_, _, _, _, _, rfl, e, _⟩
      exact SqT.of (e _ _ hn.ea)
    · rintro i x σ' H' hx ⟨ch, v4, v5, v6, F', rfl, e, hd', hc⟩
      obtain ⟨t0, ht0, hv⟩ := hn.el.get hx
      obtain ⟨⟨n, l, g'⟩, he, rfl⟩ := tup_get ht0
      obtain ⟨t, rfl, ht⟩ := Is.edge_iff.mp (hv.mono (Tk.of e))
      have htk : N.ed.take (i + 1) = N.ed.take i ++ [(n, l, g')] := by rw [List.take_add_one, he]; rfl
      obtain ⟨⟨r1, r2⟩, _, r3, r4⟩ := hn.ok.ed _ (List.mem_of_getElem? he)
      simp only at r1 r2 r3 r4
      refine ⟨t, _, rfl, SqT.of ht, rfl, _, _, rfl, _, _, rfl, _, _, rfl, rfl, ?_⟩
      refine ⟨_, rfl, _, rfl, d, _, _, _, rfl, rfl, SqL.of hd', dl_at r1 r2, rfl, _, rfl, iteD (fun h1 => ?_) fun h1 => ?_⟩
      rotate_left
      · refine ⟨ch, _, _, _, F', rfl, e, hd', ?_⟩
        rw [htk]
        exact hc.skip fun z => h1 (oV_non.mpr z.1)
      refine ⟨_, rfl, _, rfl, d, _, _, _, rfl, rfl, SqL.of hd', dl_at r3 r4, _, rfl, _, _, rfl, rfl, oV_scal _ _, _, rfl, iteD (fun h2 => ?_) fun h2 => ?_⟩
      rotate_left
      · refine ⟨ch, _, _, _, F', rfl, e, hd', ?_⟩
        rw [htk]
        exact hc.skip fun z => h2 (oV_int.mpr z.2)
      refine ⟨_, rfl, _, rfl, _, rfl, d, _, _, n.toNat, rfl, rfl, hd', ixN_int r1 (by rw [dl_len]; omega), ?_⟩
      refine ⟨true, _, _, _, setF F' n (some num), rfl, Ex.mut e hd0, ?_, ?_⟩
      · rw [upd_same]
        exact congrArg (fun z => some (HO.lst z)) (dl_set r1 r2 (some num))
      · rw [htk]
        exact hc.set (oV_non.mp h1) (oV_int.mp h2)
    · rintro σ' H' ⟨ch, v4, v5, v6, F', rfl, e, hd', hc⟩
      rw [hlen, List.take_length] at hc
      exact ⟨_, rfl, k ch F' H' e hd' hc⟩
def sp_distances (T : Txt K mg) : Sp := fun vs H Q _ => ∃ (p : Addr) (N : NetD), vs = [.ref p] ∧ NetAt T.cNet.C H p N ∧ N.nd ≤ 50000 ∧
  ∀ (d : Addr) F H', Ex H H' → H' d = some (.lst (dl N.nd F)) → DFin N F → Q (.ref d) H'
theorem ok_distances (T : Txt K mg) : FnOk P w K mg base CX0 2 T.f.distances.f T.f.distances.fd ["net"] (sp_distances T) := by
  refine T.f.distances.F.ok sc_distances (fun vs H Q E h => ?_) (fun cdv A outer s H vs Q E hr h => ?_)
  · obtain ⟨p, N, rfl, _⟩ := h
    rfl
  · obtain ⟨p, N, rfl, hN, hsz, k⟩ := h
    obtain ⟨dx, a, b, g, es, gs, hn⟩ := id hN
    have hst := hn.ok.st
    have hnd := hn.ok.nd
    have hu := hu_of hr
    have hnd := sc_distances.nd
    refine ⟨_, (pss_cons (ps_setLc (i := 1) (own := [("_", 2)]) (g := (gName 2)) (tt := tYes) rfl hnd rfl rfl (sw_true rfl rfl rfl (by decide +kernel)) (pi_range1 (by rfl) T.b.range (pa_cons (pe_fldK (K := K) rfl (L2.pv 0) rfl) pa_nil)) (blkOk_by (own := [("_", 2)]) (N := nm_distances) (sc := defScope s_distances) (by decide +kernel)) (fun _ _ _ _ _ => (pg_name (i := 2) hnd rfl (by first | exact Or.inl rfl | exact Or.inr rfl))) (fun _ _ _ _ _ => pts_nil) (fun _ _ _ _ _ => (pe_non)))
    (pss_cons (ps_for PassesOwn.never rfl (pi_tup (pe_fldK (K := K) rfl (L2.pv 0) rfl)) (pg_name (i := 3) hnd rfl (by first | exact Or.inl rfl | exact Or.inr rfl))
      (pss_one (ps_asg (pe_int) (pg_sub (L2.pv 1) (L2.pv 3) set_list))))
    (pss_cons (ps_for PassesOwn.never rfl (pi_range2 (by rfl) T.b.range (pa_cons (pe_int) (pa_cons (pe_fldK (K := K) rfl (L2.pv 0) rfl) pa_nil))) (pg_name (i := 4) hnd rfl (by first | exact Or.inl rfl | exact Or.inr rfl))
      (pss_one (ps_if (pt_not (pt_val (pe_call (ok_closer T) (hr.mono (by decide)) (by rfl) T.f.g_closer T.f.closer.F.kp T.f.closer.b .nil pass0 (pa_cons (L2.pv 0) (pa_cons (L2.pv 1) (pa_cons (L2.pv 4) pa_nil)))))) (pss_one (ps_break)) pss_nil)))
    (pss_one (ps_ret (L2.pv 1)))))), ?_⟩
    refine ⟨_, rfl, _, _, _, _, _, rfl, hn.ob, T.cNet.cl, T.cNet.n_nodes, fz_at ndNet (i := 2) rfl rfl, N.nd, rfl, by omega, by omega, fun D hD => ?_⟩
    refine lcR (walk_range (lo := 0) (n := N.nd.toNat)) hD (by omega) (fun _ _ => trivial) (fun i acc _ => acc = (List.range i).map fun _ => V.non) (fun _ _ _ _ _ _ z => z) rfl ?_ ?_
    · rintro i acc x H1 H2 B B' hi _ e1 hD1 r ⟨rfl, hx⟩ kB _
      refine ⟨rfl, kB _ _ (Ex.refl _) ?_⟩
      rw [r, List.range_succ, List.map_append]
      rfl
    · rintro acc H1 e1 hD1 _ r
      have hacc : acc = dl N.nd (fun _ => none) := by rw [r]; rfl
      subst hacc
      have hne : ∀ {H' : Hp}, Ex H H' → Ex H H' := fun e => e
      -- for end in net.ends
      refine ⟨_, rfl, _, _, _, _, _, rfl, (e1 _ _ hn.ob), T.cNet.cl, T.cNet.n_ends, fz_at ndNet (i := 4) rfl rfl, b, rfl, ⟨_, SqT.of (e1 _ _ hn.nb)⟩, for_tup (K := K) (a := b) (xs := N.en.map V.int)
        (fun i σ' H' => ∃ (v3 : Option V), σ' = [some (.ref p), some (.ref D), none, v3, none] ∧ Ex H H' ∧ H' D = some (.lst (dl N.nd (F0 (N.en.take i))))) ?_ ?_ ?_ ?_⟩
      · exact ⟨none, rfl, e1, hD1⟩
      · rintro i σ' H' _ ⟨_, rfl, e, _⟩
        exact SqT.of (e _ _ hn.nb)
      · rintro i x σ' H' hx ⟨v3, rfl, e, hd'⟩
        obtain ⟨en, he, rfl⟩ := ints_get hx
        obtain ⟨r1, r2⟩ := hn.ok.en en (List.mem_of_getElem? he)
        refine ⟨_, rfl, _, rfl, D, _, _, en.toNat, rfl, rfl, hd', ixN_int r1 (by rw [dl_len]; omega), ?_⟩
        refine ⟨some (.int en), rfl, Ex.mut e hD, ?_⟩
        rw [upd_same]
        refine congrArg (fun z => some (HO.lst z)) ((dl_set r1 r2 (some 0)).trans ?_)
        congr 1
        funext m
        unfold setF F0
        rw [List.take_add_one, he]
        by_cases hm : m = en
        · subst hm; rw [if_pos rfl, if_pos (by simp)]
        · rw [if_neg hm]
          simp [hm]
      · rintro σ' H' ⟨v3, rfl, e, hd'⟩
        rw [List.length_map, List.take_length] at hd'
        -- for number in range(1, net.nodes)
        refine ⟨_, rfl, _, _, _, _, _, rfl, (e _ _ hn.ob), T.cNet.cl, T.cNet.n_nodes, fz_at ndNet (i := 2) rfl rfl, 1, N.nd, rfl, by omega, for_range (lo := 1) (n := (N.nd - 1).toNat)
          (fun i σ' H' => ∃ (v4 : Option V) (F : Int → Option Int), σ' = [some (.ref p), some (.ref D), none, v3, v4] ∧ Ex H H' ∧ H' D = some (.lst (dl N.nd F)) ∧ DI N (1 + (i : Int)) F) ?_ ?_ ?_⟩
        · exact ⟨none, _, rfl, e, hd', DI.start hn.ok⟩
        · rintro i σ' H' hi ⟨v4, F, rfl, e, hd', hI⟩
          refine ⟨_, rfl, _, rfl, _, rfl, p, D, N, H, 1 + (i : Int), F, rfl, hN, e, hD, hd', fun ch F' H2 e2 hd2 hc => ⟨_, rfl, iteNB (fun hch => ?_) fun hch => ?_⟩⟩
          · refine ⟨_, F', rfl, e2, hd2, ?_⟩
            have := hI.next hn.ok hc (by omega)
            rw [show (1 + ((i + 1 : Nat) : Int)) = 1 + (i : Int) + 1 by omega]
            exact this
          · subst hch
            exact ⟨_, rfl, k D F' H2 e2 hd2 (hI.fin_no (by omega) hc)⟩
        · rintro σ' H' ⟨v4, F, rfl, e, hd', hI⟩
          refine ⟨_, rfl, k D F H' e hd' (DI.fin_end hn.ok ?_)⟩
          rw [show (1 + (((N.nd - 1).toNat : Nat) : Int)) = N.nd by omega] at hI
          exact hI
/-! ### groups of nodes -/
def grD (gr : List (List Int)) : List PD := gr.map iD
def sp_leads_on (T : Txt K mg) : Sp := fun vs H Q _ => ∃ (p gl d : Addr) (N : NetD) (gv : List V) (gr : List (List Int)) (l left : Int) (F : Int → Option Int), vs = [.ref p, .ref gl, .int l, .ref d, .int left] ∧ NetAt T.cNet.C H p N ∧ H gl = some (.lst gv) ∧ IsL H gv (grD gr) ∧ H d = some (.lst (dl N.nd F)) ∧
  ∀ (b : Bool) H', Ex H H' → (b = true ↔ ∃ ns ∈ gr, ∃ n ∈ ns, ∃ g, (n, l, g) ∈ N.ed ∧ F g = some left) → Q (.bl b) H'
theorem ok_leads_on (T : Txt K mg) : FnOk P w K mg base CX0 3 T.f.leads_on.f T.f.leads_on.fd ["net", "groups", "letter", "distance", "left"] (sp_leads_on T) := by
  refine T.f.leads_on.F.ok sc_leads_on (fun vs H Q E h => ?_) (fun cdv A outer s H vs Q E hr h => ?_)
  · obtain ⟨p, gl, d, N, gv, gr, l, left, F, rfl, _⟩ := h
    rfl
  · obtain ⟨p, gl, d, N, gv, gr, l, left, F, rfl, hN, hgl, hgr, hd, k⟩ := h
    have hok := hN.sz.2.2
    have hu := hu_of hr
    have hnd := sc_leads_on.nd
    refine ⟨_, (pss_cons (ps_for PassesOwn.never rfl (pi_listK (K := K) rfl (L2.pv 1)) (pg_name (i := 5) hnd rfl (by first | exact Or.inl rfl | exact Or.inr rfl))
      (pss_one (ps_for PassesOwn.never rfl (pi_tup (pe_meth (L2.pv 0) T.cNet.cl T.cNet.m_moved (ok_Net_moved T) (hr.mono (by decide)) T.cNet.moved.b .nil pass0 (pa_cons (L2.pv 5) (pa_cons (L2.pv 2) pa_nil)))) (pg_name (i := 6) hnd rfl (by first | exact Or.inl rfl | exact Or.inr rfl))
      (pss_one (ps_if (pt_cmpR op_eq (pe_ix (ix_listK (K := K) rfl) (L2.pv 3) (L2.pv 6) (fun _ _ => rfl)) (L2.pv 4) (nomark _)) (pss_one (ps_ret (pe_bl))) pss_nil)))))
    (pss_one (ps_ret (pe_bl)))), ?_⟩
    have hgn := hgr.len
    unfold grD at hgn
    rw [List.length_map] at hgn
    refine ⟨_, rfl, gl, rfl, ⟨_, SqL.of hgl⟩, for_list (K := K) (a := gl) (xs := gv)
      (fun i σ' H' => ∃ (v5 v6 : Option V), σ' = [some (.ref p), some (.ref gl), some (.int l), some (.ref d), some (.int left), v5, v6] ∧ Ex H H' ∧ ∀ ns ∈ gr.take i, ∀ n ∈ ns, ∀ g, (n, l, g) ∈ N.ed → F g ≠ some left) ?_ ?_ ?_ ?_⟩
    · exact ⟨none, none, rfl, Ex.refl _, fun ns h => by simp at h⟩
    · rintro i σ' H' _ ⟨_, _, rfl, e, _⟩
      exact SqL.of (e _ _ hgl)
    · rintro i x σ' H' hx ⟨v5, v6, rfl, e, hno⟩
      obtain ⟨t0, ht0, hv⟩ := (hgr.mono (Tk.of e)).get hx
      obtain ⟨ns, hns, rfl⟩ := tup_get ht0
      obtain ⟨_, _, ho⟩ := (hN.mono e).ins
      refine ⟨_, rfl, _, _, _, rfl, ho, fz_no (by decide +kernel), _, rfl, _, rfl, p, x, N, ns, l, rfl, hN.mono e, hv, fun v' ms H1 e1 hv1 hg hl1 => ?_⟩
      obtain ⟨tm, rfl, htm⟩ := Is.ints_iff.mp hv1
      refine ⟨tm, rfl, ⟨_, SqT.of htm⟩, for_tup (K := K) (a := tm) (xs := ms.map V.int)
        (fun j σ2 H2 => ∃ (v6 : Option V), σ2 = [some (.ref p), some (.ref gl), some (.int l), some (.ref d), some (.int left), some x, v6] ∧ Ex H H2 ∧ H2 tm = some (.tup (ms.map V.int)) ∧ ∀ m ∈ ms.take j, F m ≠ some left) ?_ ?_ ?_ ?_⟩
      · exact ⟨v6, rfl, e.trans e1, htm, fun m h => by simp at h⟩
      · rintro j σ2 H2 _ ⟨_, rfl, _, h, _⟩
        exact SqT.of h
      · rintro j y σ2 H2 hy ⟨v6, rfl, e2, htm2, hno2⟩
        obtain ⟨m, hm, rfl⟩ := ints_get hy
        obtain ⟨n, hn1, hn2⟩ := (hg m).mp (List.mem_of_getElem? hm)
        obtain ⟨_, _, r3, r4⟩ := hok.ed _ hn2
        simp only at r3 r4
        refine ⟨_, rfl, _, rfl, d, _, _, _, rfl, rfl, SqL.of (e2 _ _ hd), dl_at r3 r4, _, rfl, oV_scal _ _, _, rfl, iteD (fun h1 => ?_) fun h1 => ?_⟩
        · exact k _ _ e2 ⟨fun _ => ⟨ns, List.mem_of_getElem? hns, n, hn1, m, hn2, oV_int.mp h1⟩, fun _ => rfl⟩
        · refine ⟨_, rfl, e2, htm2, fun m' hm' => ?_⟩
          rw [List.take_add_one, hm] at hm'
          rcases List.mem_append.mp hm' with z | z
          · exact hno2 m' z
          · cases List.mem_singleton.mp z
            exact fun z2 => h1 (oV_int.mpr z2)
      · rintro σ2 H2 ⟨v6, rfl, e2, htm2, hno2⟩
        rw [List.length_map, List.take_length] at hno2
        refine ⟨_, _, rfl, e2, fun ns' hns' n hn1 g hn2 => ?_⟩
        rw [List.take_add_one, hns] at hns'
        rcases List.mem_append.mp hns' with z | z
        · exact hno ns' z n hn1 g hn2
        · cases List.mem_singleton.mp z
          exact hno2 g ((hg g).mpr ⟨n, hn1, hn2⟩)
    · rintro σ' H' ⟨v5, v6, rfl, e, hno⟩
      rw [hgn, List.take_length] at hno
      exact k _ _ e ⟨(fun z => nomatch z), fun ⟨ns, h1, n, h2, g, h3, h4⟩ => (hno ns h1 n h2 g h3 h4).elim⟩
def sp_least_letter (T : Txt K mg) : Sp := fun vs H Q _ => ∃ (p gl d : Addr) (N : NetD) (gv : List V) (gr : List (List Int)) (left : Int) (F : Int → Option Int), vs = [.ref p, .ref gl, .ref d, .int left] ∧ NetAt T.cNet.C H p N ∧ H gl = some (.lst gv) ∧ IsL H gv (grD gr) ∧ H d = some (.lst (dl N.nd F)) ∧ N.lt ≤ 50000 ∧
  (∃ l, (0 ≤ l ∧ l < N.lt) ∧ ∃ ns ∈ gr, ∃ n ∈ ns, ∃ g, (n, l, g) ∈ N.ed ∧ F g = some left) ∧
  ∀ (l : Int) H', Ex H H' → (0 ≤ l ∧ l < N.lt) → (∃ ns ∈ gr, ∃ n ∈ ns, ∃ g, (n, l, g) ∈ N.ed ∧ F g = some left) → Q (.int l) H'
theorem ok_least_letter (T : Txt K mg) : FnOk P w K mg base CX0 4 T.f.least_letter.f T.f.least_letter.fd ["net", "groups", "distance", "left"] (sp_least_letter T) := by
  refine T.f.least_letter.F.ok sc_least_letter (fun vs H Q E h => ?_) (fun cdv A outer s H vs Q E hr h => ?_)
  · obtain ⟨p, gl, d, N, gv, gr, left, F, rfl, _⟩ := h
    rfl
  · obtain ⟨p, gl, d, N, gv, gr, left, F, rfl, hN, hgl, hgr, hd, hlt, ⟨l0, hl0, hex⟩, k⟩ := h
    obtain ⟨dx, a, b, g, es, gs, hn⟩ := id hN
    have hu := hu_of hr
    have hnd := sc_least_letter.nd
    refine ⟨_, (pss_cons (ps_for PassesOwn.never rfl (pi_range1 (by rfl) T.b.range (pa_cons (pe_fldK (K := K) rfl (L2.pv 0) rfl) pa_nil)) (pg_name (i := 4) hnd rfl (by first | exact Or.inl rfl | exact Or.inr rfl))
      (pss_one (ps_if (pt_val (pe_call (ok_leads_on T) (hr.mono (by decide)) (by rfl) T.f.g_leads_on T.f.leads_on.F.kp T.f.leads_on.b .nil pass0 (pa_cons (L2.pv 0) (pa_cons (L2.pv 1) (pa_cons (L2.pv 4) (pa_cons (L2.pv 2) (pa_cons (L2.pv 3) pa_nil))))))) (pss_one (ps_ret (L2.pv 4))) pss_nil)))
    (pss_one (ps_ret (pe_op op_sub (pe_fldK (K := K) rfl (L2.pv 0) rfl) (pe_int))))), ?_⟩
    have := hn.ok.lt
    refine ⟨_, rfl, _, _, _, _, _, rfl, hn.ob, T.cNet.cl, T.cNet.n_letters, fz_at ndNet (i := 1) rfl rfl, N.lt, rfl, by omega, by omega, for_range (lo := 0) (n := N.lt.toNat)
      (fun i σ' H' => ∃ (v4 : Option V), σ' = [some (.ref p), some (.ref gl), some (.ref d), some (.int left), v4] ∧ Ex H H' ∧ ∀ j : Int, 0 ≤ j → j < i → ¬ ∃ ns ∈ gr, ∃ n ∈ ns, ∃ g, (n, j, g) ∈ N.ed ∧ F g = some left) ?_ ?_ ?_⟩
    · exact ⟨none, rfl, Ex.refl _, fun j h1 h2 => by omega⟩
    · rintro i σ' H' hi ⟨v4, rfl, e, hno⟩
      refine ⟨_, rfl, _, rfl, _, rfl, _, rfl, _, rfl, p, gl, d, N, gv, gr, 0 + (i : Int), left, F, rfl, hN.mono e, e _ _ hgl, hgr.mono (Tk.of e), e _ _ hd, fun b H1 e1 hb => ⟨_, rfl, iteB (fun hbt => ?_) fun hbf => ?_⟩⟩
      · exact ⟨_, rfl, k _ _ (e.trans e1) (by omega) (hb.mp hbt)⟩
      · refine ⟨_, rfl, e.trans e1, fun j h1 h2 z => ?_⟩
        by_cases hj : j < i
        · exact hno j h1 hj z
        · have : j = 0 + (i : Int) := by omega
          rw [this] at z
          rw [hb.mpr z] at hbf
          cases hbf
    · rintro σ' H' ⟨v4, rfl, e, hno⟩
      exact (hno l0 hl0.1 (by omega) hex).elim
end
end Zp
set_option maxRecDepth 100000
set_option maxHeartbeats 0
namespace Zp
open PySem L2 Zs Evl Pr
theorem grD_get {H : Hp} {gv : List V} {gr : List (List Int)} (h : IsL H gv (grD gr)) {i : Nat} {ns : List Int} (hi : gr[i]? = some ns) : ∃ v, gv[i]? = some v ∧ Is H v (iD ns) :=
  h.get' (by unfold grD; rw [List.getElem?_map, hi]; rfl)
section
variable {P : Program} {w : World} {K : PySem.W.Frag} {mg : Str → Option Value} {base : Heap}
def sp_first (T : Txt K mg) : Sp := fun vs H Q _ => ∃ (p : Addr) (N : NetD), vs = [.ref p] ∧ NetAt T.cNet.C H p N ∧ N.nd ≤ 50000 ∧ N.lt ≤ 50000 ∧
  ∀ v' H', Ex H H' → ((v' = .non ∧ ∀ c : Conf, 0 ≤ c.1 ∧ c.1 < N.st → ¬ Acc N c) ∨ ∃ c : Conf, Is H' v' (cD c) ∧ Acc N c ∧ (0 ≤ c.1 ∧ c.1 < N.st) ∧ (∀ l ∈ c.2, 0 ≤ l ∧ l < N.lt) ∧ (c.2.length : Int) ≤ N.nd) → Q v' H'
theorem ok_first (T : Txt K mg) : FnOk P w K mg base CX0 5 T.f.first.f T.f.first.fd ["net"] (sp_first T) := by
  refine T.f.first.F.ok sc_first (fun vs H Q E h => ?_) (fun cdv A outer s H vs Q E hr h => ?_)
  · obtain ⟨p, N, rfl, _⟩ := h
    rfl
  · obtain ⟨p, N, rfl, hN, hsz, hlt, k⟩ := h
    obtain ⟨dx, a, b, g, es, gs, hn⟩ := id hN
    have hst := hn.ok.st
    have hnd := hn.ok.nd
    have hu := hu_of hr
    have hnd := sc_first.nd
    refine ⟨_, (pss_cons (ps_set (i := 1) hnd rfl (by first | exact Or.inl rfl | exact Or.inr rfl) (pe_call (ok_distances T) (hr.mono (by decide)) (by rfl) T.f.g_distances T.f.distances.F.kp T.f.distances.b .nil pass0 (pa_cons (L2.pv 0) pa_nil)))
    (pss_cons (ps_setLc (i := 2) (own := [("state", 3)]) (g := (gName 3)) (tt := _) rfl hnd rfl rfl (sw_true rfl rfl rfl (by decide +kernel)) (pi_range1 (by rfl) T.b.range (pa_cons (pe_fldK (K := K) rfl (L2.pv 0) rfl) pa_nil)) (blkOk_by (own := [("state", 3)]) (N := nm_first) (sc := defScope s_first) (by decide +kernel)) (fun _ _ _ _ _ => (pg_name (i := 3) hnd rfl (by first | exact Or.inl rfl | exact Or.inr rfl))) (fun _ _ _ _ _ => pts_one (pt_cmpR op_notN (pe_ix (ix_listK (K := K) rfl) (L2.pv 1) (L2.pv 3) (fun _ _ => rfl)) (pe_non) (nomark _))) (fun _ _ _ _ _ => (pe_ix (ix_listK (K := K) rfl) (L2.pv 1) (L2.pv 3) (fun _ _ => rfl))))
    (pss_cons (ps_if (pt_cmpR op_eq (pe_callB call_len_seq (by rfl) T.b.len PySem.boot_len (pa_cons (L2.pv 2) pa_nil)) (pe_int) (nomark _)) (pss_one (ps_ret (pe_non))) pss_nil)
    (pss_cons (ps_setLc (i := 4) (own := [("state", 3)]) (g := (gName 3)) (tt := tYes) rfl hnd rfl rfl (sw_true rfl rfl rfl (by decide +kernel)) (pi_range1 (by rfl) T.b.range (pa_cons (pe_fldK (K := K) rfl (L2.pv 0) rfl) pa_nil)) (blkOk_by (own := [("state", 3)]) (N := nm_first) (sc := defScope s_first) (by decide +kernel)) (fun _ _ _ _ _ => (pg_name (i := 3) hnd rfl (by first | exact Or.inl rfl | exact Or.inr rfl))) (fun _ _ _ _ _ => pts_nil) (fun _ _ _ _ _ => (pe_tup (pa_cons (L2.pv 3) pa_nil))))
    (pss_cons (ps_set (i := 5) hnd rfl (by first | exact Or.inl rfl | exact Or.inr rfl) (pe_tup pa_nil))
    (pss_cons (ps_for PassesOwn.never rfl (pi_range3 (by rfl) T.b.range (pa_cons (pe_op op_sub (pe_callB (cr_min rfl) (by rfl) T.b.min (by decide +kernel) (pa_cons (L2.pv 2) pa_nil)) (pe_int)) (pa_cons (pe_un un_neg (pe_int)) (pa_cons (pe_un un_neg (pe_int)) pa_nil)))) (pg_name (i := 6) hnd rfl (by first | exact Or.inl rfl | exact Or.inr rfl))
      (pss_cons (ps_set (i := 7) hnd rfl (by first | exact Or.inl rfl | exact Or.inr rfl) (pe_call (ok_least_letter T) (hr.mono (by decide)) (by rfl) T.f.g_least_letter T.f.least_letter.F.kp T.f.least_letter.b .nil pass0 (pa_cons (L2.pv 0) (pa_cons (L2.pv 4) (pa_cons (L2.pv 1) (pa_cons (L2.pv 6) pa_nil))))))
    (pss_cons (ps_setLc (i := 4) (own := [("group", 8)]) (g := (gName 8)) (tt := tYes) rfl hnd rfl rfl (sw_true rfl rfl rfl (by decide +kernel)) (pi_listK (K := K) rfl (L2.pv 4)) (blkOk_by (own := [("group", 8)]) (N := nm_first) (sc := defScope s_first) (by decide +kernel)) (fun _ _ _ _ _ => (pg_name (i := 8) hnd rfl (by first | exact Or.inl rfl | exact Or.inr rfl))) (fun _ _ _ _ _ => pts_nil) (fun _ _ _ _ _ => (pe_meth (L2.pv 0) T.cNet.cl T.cNet.m_moved (ok_Net_moved T) (hr.mono (by decide)) T.cNet.moved.b .nil pass0 (pa_cons (L2.pv 8) (pa_cons (L2.pv 7) pa_nil)))))
    (pss_one (ps_set (i := 5) hnd rfl (by first | exact Or.inl rfl | exact Or.inr rfl) (pe_op op_catA (L2.pv 5) (pe_tup (pa_cons (L2.pv 7) pa_nil))))))))
    (pss_cons (ps_for PassesOwn.never rfl (pi_range1 (by rfl) T.b.range (pa_cons (pe_fldK (K := K) rfl (L2.pv 0) rfl) pa_nil)) (pg_name (i := 3) hnd rfl (by first | exact Or.inl rfl | exact Or.inr rfl))
      (pss_one (ps_if (pt_val (pe_meth (L2.pv 0) T.cNet.cl T.cNet.m_has_end (ok_Net_has_end T) (hr.mono (by decide)) T.cNet.has_end.b .nil pass0 (pa_cons (pe_ix (ix_listK (K := K) rfl) (L2.pv 4) (L2.pv 3) (fun _ _ => rfl)) pa_nil))) (pss_one (ps_ret (pe_tup (pa_cons (L2.pv 3) (pa_cons (L2.pv 5) pa_nil))))) pss_nil)))
    (pss_one (ps_ret (pe_non)))))))))), ?_⟩
    refine ⟨_, rfl, p, N, rfl, hN, hsz, fun d F H1 e1 hd hF => ?_⟩
    refine ⟨_, rfl, _, _, _, _, _, rfl, (e1 _ _ hn.ob), T.cNet.cl, T.cNet.n_states, fz_at ndNet (i := 0) rfl rfl, N.st, rfl, by omega, by omega, fun D hD => ?_⟩
    refine lcR (walk_range (lo := 0) (n := N.st.toNat)) hD (by omega) (fun _ _ => trivial) (fun i acc _ => acc = ((List.range i).filterMap fun s : Nat => F (s : Int)).map V.int) (fun _ _ _ _ _ _ z => z) rfl ?_ ?_
    · rintro i acc x H2 H3 B B' hi _ e2 hD2 r ⟨rfl, hx⟩ kB kB'
      have hx' : x = .int (i : Int) := hx.trans (congrArg V.int (Int.zero_add _))
      subst hx'
      have h0 : (0 : Int) ≤ (i : Int) := by omega
      have h1 : (i : Int) < N.nd := by omega
      refine ⟨rfl, _, rfl, _, rfl, d, _, _, _, rfl, rfl, SqL.of (e2 _ _ hd), dl_at h0 h1, rfl, _, rfl, ?_⟩
      cases hFi : F (i : Int) with
      | none => exact kB' _ (Ex.refl _) (by rw [r, List.range_succ, List.filterMap_append]; simp [hFi])
      | some m =>
        refine ⟨_, rfl, _, rfl, d, _, _, _, rfl, rfl, SqL.of (e2 _ _ hd), dl_at h0 h1, kB _ _ (Ex.refl _) ?_⟩
        rw [r, List.range_succ, List.filterMap_append, hFi]
        simp [hFi, oV]
    · rintro acc H2 e2 hD2 _ r
      subst r
      have e12 := e1.trans e2
      generalize hhs : (List.range N.st.toNat).filterMap (fun s : Nat => F (s : Int)) = hs at hD2
      have hmem : ∀ m, m ∈ hs ↔ ∃ s : Nat, (s : Int) < N.st ∧ F (s : Int) = some m := fun m => by
        rw [← hhs, List.mem_filterMap]
        constructor
        · rintro ⟨s, h1, h2⟩
          exact ⟨s, by have := List.mem_range.mp h1; omega, h2⟩
        · rintro ⟨s, h1, h2⟩
          exact ⟨s, List.mem_range.mpr (by omega), h2⟩
      refine ⟨_, rfl, D, _, rfl, .inl (SqL.of hD2), rfl, _, rfl, iteD (fun h0 => ?_) fun h0 => ?_⟩
      · refine k _ _ e12 (.inl ⟨rfl, fun c hc hA => ?_⟩)
        obtain ⟨e, he, hp⟩ := hA
        have hne := hF.all _ _ _ hp he
        cases hFc : F c.1 with
        | none => exact hne hFc
        | some m =>
          have hm : m ∈ hs := (hmem m).mpr ⟨c.1.toNat, by omega, by rw [Int.toNat_of_nonneg hc.1]; exact hFc⟩
          injection h0 with z
          rw [List.length_map] at z
          have : hs.length = 0 := by omega
          rw [List.length_eq_zero_iff.mp this] at hm
          cases hm
      have hpos : 0 < hs.length := by
        refine Nat.pos_of_ne_zero fun z => h0 ?_
        rw [List.length_map, z]
        rfl
      refine nxT ?_
      -- groups
      refine ⟨_, rfl, _, _, _, _, _, rfl, (e12 _ _ hn.ob), T.cNet.cl, T.cNet.n_states, fz_at ndNet (i := 0) rfl rfl, N.st, rfl, by omega, by omega, fun D2 hD2' => ?_⟩
      refine lcR (walk_range (lo := 0) (n := N.st.toNat)) hD2' (by omega) (fun _ _ => trivial) (fun i acc H' => IsL H' acc (grD ((List.range i).map fun s : Nat => [(s : Int)]))) (fun i acc H H' o ⟨l, hl⟩ z => z.mono (o.tk (by rw [hl]; intro xs q; cases q))) .nil ?_ ?_
      · rintro i acc x H3 H4 B B' hi _ e3 hD3 r ⟨rfl, hx⟩ kB _
        have hx' : x = .int (i : Int) := hx.trans (congrArg V.int (Int.zero_add _))
        subst hx'
        refine ⟨rfl, _, rfl, by show 1 ≤ sizeLine; decide, fun u hu => kB _ _ (Ex.new hu) ?_⟩
        rw [List.range_succ, List.map_append]
        unfold grD
        rw [List.map_append]
        exact (r.mono (Tk.new hu)).app (.cons (isInts (ns := [(i : Int)]) upd_same) .nil)
      · rintro gv0 H3 e3 hD3 _ hg0
        have e13 := e12.trans e3
        -- pile = ()
        refine ⟨Nat.zero_le _, fun pt0 hpt0 => ?_⟩
        have e3p := Ex.new (o := HO.tup []) hpt0
        have e14 := e13.trans e3p
        -- for left in range(min(heights) - 1, -1, -1)
        refine ⟨_, rfl, D, hs, rfl, SqL.of (e3p _ _ (e3 _ _ hD2)), hpos, fun m hm hle => ⟨_, _, rfl, rfl, _, rfl, _, rfl, ?_⟩⟩
        obtain ⟨s0, hs0, hFs0⟩ := (hmem m).mp hm
        have hmr := hF.rng _ _ hFs0
        refine ⟨m - 1, -1, -1, m.toNat, rfl, ?_, for_rangeC (lo := m - 1) (c := -1) (n := m.toNat)
          (fun i σ' H' => ∃ (gl pt : Addr) (v6 v7 : Option V) (gv : List V) (gr : List (List Int)) (pl : List Int), σ' = [some (.ref p), some (.ref d), some (.ref D), none, some (.ref gl), some (.ref pt), v6, v7, none] ∧ Ex H1 H' ∧ H' gl = some (.lst gv) ∧ IsL H' gv (grD gr) ∧ H' pt = some (.tup (pl.map V.int)) ∧ pl.length = i ∧ (∀ l ∈ pl, 0 ≤ l ∧ l < N.lt) ∧
            gr.length = N.st.toNat ∧ (∀ ns ∈ gr, ns.length ≤ 4000) ∧ (∀ (s : Nat) ns, gr[s]? = some ns → ∀ g, g ∈ ns ↔ Path (mem N.ed) (s : Int) pl g) ∧ ∃ ns ∈ gr, ∃ n ∈ ns, F n = some (m - (i : Int))) ?_ ?_ ?_⟩
        · have := RgC.neg (i := m - 1) (j := -1) (by omega) (by omega) (by omega) (by omega)
          rwa [show (m - 1 - -1).toNat = m.toNat by congr 1; omega] at this
        · refine ⟨D2, pt0, none, none, gv0, _, [], rfl, e2.trans (e3.trans e3p), e3p _ _ hD3, hg0.mono (Tk.of e3p), upd_same, rfl, (fun l h => nomatch h), by simp, fun ns h => ?_, fun s ns h g => ?_, [(s0 : Int)], List.mem_map.mpr ⟨s0, List.mem_range.mpr (by omega), rfl⟩, (s0 : Int), by simp, by rw [hFs0]; congr 1; omega⟩
          · obtain ⟨s, _, rfl⟩ := List.mem_map.mp h
            exact Nat.le_trans (Nat.le_refl 1) (by decide)
          · obtain ⟨s', h1, rfl⟩ := tup_get h
            rw [List.getElem?_range (by
              have := (List.getElem?_eq_some_iff.mp h1).1
              rw [List.length_range] at this
              exact this)] at h1
            cases h1
            rw [List.mem_singleton]
            exact ⟨fun z => z ▸ .nil _, fun z => z.nil_eq.symm⟩
        · rintro i σ' H' hi ⟨gl, pt, v6, v7, gv, gr, pl, rfl, e, hgl, hgr, hpt, hpl, hlr, hgrl, hgs, hP, ns0, hns0, n0, hn0, hFn0⟩
          have eH := e1.trans e
          have hleft : m - 1 + (i : Int) * -1 = m - (i : Int) - 1 := by omega
          obtain ⟨l0, g0, h1, h2⟩ := hF.suc n0 _ hFn0 (by omega)
          have hl0 := (hn.ok.ed _ h1).2.1
          refine ⟨_, rfl, _, rfl, _, rfl, _, rfl, p, gl, d, N, gv, gr, m - 1 + (i : Int) * -1, F, rfl, hN.mono eH, hgl, hgr, e _ _ hd, hlt, ⟨l0, hl0, ns0, hns0, n0, hn0, g0, h1, by rw [hleft]; exact h2⟩, fun l H2 e2' hl hex => ?_⟩
          -- groups = [net.moved(group, letter) for group in groups]
          have hgl2 := e2' _ _ hgl
          have hgr2 := hgr.mono (Tk.of e2')
          have hgn := hgr.len
          unfold grD at hgn
          rw [List.length_map] at hgn
          have eH2 := eH.trans e2'
          refine ⟨_, rfl, gl, rfl, ⟨_, SqL.of hgl2⟩, fun D3 hD3' => ?_⟩
          refine lcR (walk_list (xs := gv)) hD3' (by omega) (fun H' e => SqL.of (e _ _ hgl2)) (fun j acc H' => ∃ gr2 : List (List Int), IsL H' acc (grD gr2) ∧ gr2.length = j ∧ (∀ ns ∈ gr2, ns.length ≤ 4000) ∧ ∀ (s : Nat) ns ns2, gr[s]? = some ns → gr2[s]? = some ns2 → ∀ g, g ∈ ns2 ↔ ∃ n ∈ ns, (n, l, g) ∈ N.ed)
            (fun i acc H H' o ⟨l, hl⟩ ⟨gr2, z, z2⟩ => ⟨gr2, z.mono (o.tk (by rw [hl]; intro xs q; cases q)), z2⟩) ⟨[], .nil, rfl, fun _ h => (nomatch h), fun s ns ns2 _ h => by simp at h⟩ ?_ ?_
          · rintro j acc x H3' H4 B B' hj _ e3' hD3'' ⟨gr2, r1, r2, r3, r4⟩ ⟨rfl, hx⟩ kB _
            obtain ⟨t0, ht0, hv⟩ := (hgr2.mono (Tk.of e3')).get hx
            obtain ⟨ns, hns, rfl⟩ := tup_get ht0
            have eH3 := eH2.trans e3'
            obtain ⟨_, _, ho⟩ := (hN.mono eH3).ins
            refine ⟨rfl, _, rfl, _, _, _, rfl, ho, fz_no (by decide +kernel), _, rfl, _, rfl, p, x, N, ns, l, rfl, hN.mono eH3, hv, fun v' ms H5 e5 hv1 hg hl1 => kB _ _ e5 ⟨gr2 ++ [ms], ?_, by simp [r2], fun ns' h => ?_, fun s ns1 ns2 h3 h4 => ?_⟩⟩
            · unfold grD
              rw [List.map_append]
              exact (r1.mono (Tk.of e5)).app (.cons hv1 .nil)
            · rcases List.mem_append.mp h with z | z
              · exact r3 ns' z
              · rw [List.mem_singleton.mp z]
                have := hn.szE
                omega
            · rcases Nat.lt_trichotomy s gr2.length with z | z | z
              · rw [List.getElem?_append_left z] at h4
                exact r4 s ns1 ns2 h3 h4
              · subst z
                simp at h4
                subst h4
                rw [r2, hns] at h3
                cases h3
                exact hg
              · rw [List.getElem?_eq_none (by simp; omega)] at h4
                cases h4
          · rintro gv2 H3' e3' hD3'' _ ⟨gr2, r1, r2, r3, r4⟩
            have hpt3 := e3' _ _ (e2' _ _ hpt)
            -- pile = pile + (letter,)
            refine ⟨_, rfl, _, rfl, by show 1 ≤ sizeLine; decide, fun u hu => ?_⟩
            have eu := Ex.new (o := HO.tup [.int l]) hu
            have fin : ∀ (w : Addr) (H5 : Hp), Ex (upd H3' u (.tup [.int l])) H5 → H5 w = some (.tup ((pl ++ [l]).map V.int)) → ∃ (gl pt : Addr) (v6 v7 : Option V) (gv : List V) (gr : List (List Int)) (pl : List Int), [some (V.ref p), some (.ref d), some (.ref D), none, some (.ref D3), some (.ref w), some (.int (m - 1 + (i : Int) * -1)), some (.int l), none] = [some (.ref p), some (.ref d), some (.ref D), none, some (.ref gl), some (.ref pt), v6, v7, none] ∧ Ex H1 H5 ∧ H5 gl = some (.lst gv) ∧ IsL H5 gv (grD gr) ∧ H5 pt = some (.tup (pl.map V.int)) ∧ pl.length = i + 1 ∧ (∀ l ∈ pl, 0 ≤ l ∧ l < N.lt) ∧
                gr.length = N.st.toNat ∧ (∀ ns ∈ gr, ns.length ≤ 4000) ∧ (∀ (s : Nat) ns, gr[s]? = some ns → ∀ g, g ∈ ns ↔ Path (mem N.ed) (s : Int) pl g) ∧ ∃ ns ∈ gr, ∃ n ∈ ns, F n = some (m - ((i + 1 : Nat) : Int)) := fun w H5 e5 hw => by
              have e35 := eu.trans e5
              refine ⟨D3, w, _, _, gv2, gr2, pl ++ [l], rfl, (e.trans e2').trans (e3'.trans e35), e35 _ _ hD3'', r1.mono (Tk.of e35), hw, by simp [hpl], fun l' hl' => ?_, by rw [r2]; omega, r3, fun s ns2 h3 g' => ?_, ?_⟩
              · rcases List.mem_append.mp hl' with z | z
                · exact hlr l' z
                · rw [List.mem_singleton.mp z]; exact hl
              · have hs2 : s < gr.length := by
                  have := (List.getElem?_eq_some_iff.mp h3).1
                  omega
                rw [path_take, r4 s _ ns2 (List.getElem?_eq_getElem hs2) h3]
                exact ⟨fun ⟨n, z1, z2⟩ => ⟨n, (hP s _ (List.getElem?_eq_getElem hs2) n).mp z1, z2⟩, fun ⟨n, z1, z2⟩ => ⟨n, (hP s _ (List.getElem?_eq_getElem hs2) n).mpr z1, z2⟩⟩
              · obtain ⟨ns, h4, n, h5, g', h6, h7⟩ := hex
                obtain ⟨s, hs'⟩ := List.mem_iff_getElem?.mp h4
                have hs2 : s < gr2.length := by
                  have := (List.getElem?_eq_some_iff.mp hs').1
                  omega
                refine ⟨gr2[s], List.getElem_mem hs2, g', (r4 s ns _ hs' (List.getElem?_eq_getElem hs2) g').mpr ⟨n, h5, h6⟩, ?_⟩
                rw [h7]
                congr 1
                omega
            refine ⟨pt, u, _, _, rfl, rfl, SqT.of (eu _ _ hpt3), SqT.of upd_same, lineOf (by simp only [List.length_map, List.length_singleton, hpl]; omega), fun z => ?_, (fun _ z => nomatch z), fun _ _ q hq => ?_⟩
            · refine fin u _ (Ex.refl _) ?_
              rw [upd_same, List.map_append, z]
              rfl
            · refine fin q _ (Ex.new hq) ?_
              rw [upd_same, List.map_append]
              rfl
        · rintro σ' H' ⟨gl, pt, v6, v7, gv, gr, pl, rfl, e, hgl, hgr, hpt, hpl, hlr, hgrl, hgs, hP, ns0, hns0, n0, hn0, hFn0⟩
          have eH := e1.trans e
          rw [show m - ((m.toNat : Nat) : Int) = 0 by omega] at hFn0
          have hen := hF.zero n0 hFn0
          refine ⟨_, rfl, _, _, _, _, _, rfl, (eH _ _ hn.ob), T.cNet.cl, T.cNet.n_states, fz_at ndNet (i := 0) rfl rfl, N.st, rfl, by omega, by omega, for_range (lo := 0) (n := N.st.toNat)
            (fun i σ' H2 => ∃ (v3 : Option V), σ' = [some (.ref p), some (.ref d), some (.ref D), v3, some (.ref gl), some (.ref pt), v6, v7, none] ∧ Ex H' H2 ∧ ∀ s : Nat, s < i → ∀ ns, gr[s]? = some ns → ¬ ∃ n ∈ ns, n ∈ N.en) ?_ ?_ ?_⟩
          · exact ⟨none, rfl, Ex.refl _, fun s h => by omega⟩
          · rintro i σ' H2 hi ⟨v3, rfl, e2', hno⟩
            have eH2 := eH.trans e2'
            have hig : i < gr.length := by omega
            obtain ⟨v, hv1, hv2⟩ := grD_get (hgr.mono (Tk.of e2')) (List.getElem?_eq_getElem hig)
            obtain ⟨_, _, ho⟩ := (hN.mono eH2).ins
            refine ⟨_, rfl, _, _, _, rfl, ho, fz_no (by decide +kernel), _, rfl, _, rfl, gl, _, _, v, rfl, rfl, SqL.of (e2' _ _ hgl), by rw [Int.zero_add]; exact atI_nat hv1, p, v, N, gr[i], rfl, hN.mono eH2, hv2, by have := hgs _ (List.getElem_mem hig); omega, fun b H3 e3' hb => ⟨_, rfl, iteB (fun hbt => ?_) fun hbf => ?_⟩⟩
            · refine ⟨_, rfl, _, rfl, by show 2 ≤ sizeLine; decide, fun u hu => k _ _ ((eH2.trans e3').trans (Ex.new hu)) (.inr ⟨(0 + (i : Int), pl), Is.conf_iff.mpr ⟨u, pt, rfl, upd_same, Ex.new hu _ _ (e3' _ _ (e2' _ _ hpt))⟩, ?_, by show 0 ≤ 0 + (i : Int) ∧ 0 + (i : Int) < N.st; omega, hlr, by show (pl.length : Int) ≤ N.nd; omega⟩)⟩
              obtain ⟨n, h3, h4⟩ := hb.mp hbt
              refine ⟨n, h4, ?_⟩
              rw [Int.zero_add]
              exact (hP i _ (List.getElem?_eq_getElem hig) n).mp h3
            · refine ⟨_, rfl, e2'.trans e3', fun s hs' ns hns z => ?_⟩
              by_cases hsi : s < i
              · exact hno s hsi ns hns z
              · obtain rfl : s = i := by omega
                rw [List.getElem?_eq_getElem hig] at hns
                cases hns
                rw [hb.mpr z] at hbf
                cases hbf
          · rintro σ' H2 ⟨v3, rfl, e2', hno⟩
            obtain ⟨s, hs'⟩ := List.mem_iff_getElem?.mp hns0
            exact (hno s (by have := (List.getElem?_eq_some_iff.mp hs').1; omega) ns0 hs' ⟨n0, hn0, hen⟩).elim
end
end Zp
/-! How many edges a product has; how pairs are numbered. -/
namespace Pr
def prodL (A B : List Edge) : List (Edge × Edge) := A.flatMap fun e => B.map fun f => (e, f)
theorem prodL_len (A B : List Edge) : (prodL A B).length = A.length * B.length := by
  unfold prodL
  induction A with
  | nil => simp
  | cons a A ih => rw [List.flatMap_cons, List.length_append, ih, List.length_map, List.length_cons, Nat.succ_mul, Nat.add_comm]
theorem prodL_filter (p q : Edge → Bool) (A B : List Edge) : ((prodL A B).filter fun z => p z.1 && q z.2).length = (A.filter p).length * (B.filter q).length := by
  unfold prodL
  induction A with
  | nil => simp
  | cons a A ih =>
    rw [List.flatMap_cons, List.filter_append, List.length_append, ih]
    have h1 : ((B.map fun f => (a, f)).filter fun z => p z.1 && q z.2).length = if p a then (B.filter q).length else 0 := by
      rw [List.filter_map, List.length_map]
      by_cases hp : p a = true
      · rw [if_pos hp]
        congr 1
        refine List.filter_congr fun x _ => ?_
        show (p a && q x) = q x
        rw [hp, Bool.true_and]
      · rw [if_neg hp]
        rw [List.length_eq_zero_iff, List.filter_eq_nil_iff]
        intro x _ h
        have h2 : (p a && q x) = true := h
        rw [Bool.and_eq_true] at h2
        exact hp h2.1
    rw [h1]
    by_cases hp : p a = true
    · rw [if_pos hp, List.filter_cons_of_pos hp, List.length_cons, Nat.succ_mul, Nat.add_comm]
    · rw [if_neg hp, List.filter_cons_of_neg hp, Nat.zero_add]
theorem sum_ind {α κ : Type} (P : κ → α → Bool) (z : α) (key : κ) (hP : ∀ k, P k z = true → k = key) : ∀ ks : List κ, ks.Nodup → (ks.map fun k => if P k z = true then 1 else 0).sum ≤ 1
  | [], _ => Nat.zero_le _
  | k :: ks, h => by
    obtain ⟨h1, h2⟩ := List.nodup_cons.mp h
    rw [List.map_cons, List.sum_cons]
    by_cases hk : P k z = true
    · rw [if_pos hk]
      have : (ks.map fun k => if P k z = true then 1 else 0).sum = 0 := by
        rw [List.sum_eq_zero_iff_forall_eq_nat]
        intro x hx
        obtain ⟨j, hj, rfl⟩ := List.mem_map.mp hx
        by_cases hj2 : P j z = true
        · exact (h1 ((hP k hk).trans (hP j hj2).symm ▸ hj)).elim
        · exact if_neg hj2
      omega
    · rw [if_neg hk, Nat.zero_add]
      exact sum_ind P z key hP ks h2
theorem sum_add {κ : Type} (f g : κ → Nat) : ∀ ks : List κ, (ks.map fun k => f k + g k).sum = (ks.map f).sum + (ks.map g).sum
  | [] => rfl
  | k :: ks => by
    simp only [List.map_cons, List.sum_cons]
    rw [sum_add f g ks]
    omega
theorem sum_filter {α κ : Type} (P : κ → α → Bool) (key : α → κ) (hP : ∀ z k, P k z = true → k = key z) (ks : List κ) (hk : ks.Nodup) : ∀ L : List α, (ks.map fun k => (L.filter (P k)).length).sum ≤ L.length
  | [] => by
    have : (ks.map fun k => (([] : List α).filter (P k)).length).sum = 0 := by
      rw [List.sum_eq_zero_iff_forall_eq_nat]
      intro x hx
      obtain ⟨j, _, rfl⟩ := List.mem_map.mp hx
      rfl
    rw [this]
    exact Nat.le_refl _
  | z :: L => by
    have e : (ks.map fun k => ((z :: L).filter (P k)).length) = ks.map fun k => (if P k z = true then 1 else 0) + (L.filter (P k)).length := by
      refine List.map_congr_left fun k _ => ?_
      by_cases h : P k z = true
      · rw [if_pos h, List.filter_cons_of_pos h, List.length_cons, Nat.add_comm]
      · rw [if_neg h, List.filter_cons_of_neg h, Nat.zero_add]
    rw [e, sum_add, List.length_cons]
    have h1 := sum_ind P z (key z) (hP z) ks hk
    have h2 := sum_filter P key hP ks hk L
    omega
abbrev K3 := Int × Int × Int
def selE (n l : Int) (e : Edge) : Bool := decide (e.1 = n) && decide (e.2.1 = l)
def cntK (A B : List Edge) (k : K3) : Nat := (A.filter (selE k.1 k.2.2)).length * (B.filter (selE k.2.1 k.2.2)).length
theorem cnt_le (A B : List Edge) (ks : List K3) (hk : ks.Nodup) : (ks.map (cntK A B)).sum ≤ A.length * B.length := by
  rw [← prodL_len]
  have e : ks.map (cntK A B) = ks.map fun k => ((prodL A B).filter (fun z => selE k.1 k.2.2 z.1 && selE k.2.1 k.2.2 z.2)).length :=
    List.map_congr_left fun k _ => (prodL_filter _ _ A B).symm
  rw [e]
  refine sum_filter (fun (k : K3) (z : Edge × Edge) => selE k.1 k.2.2 z.1 && selE k.2.1 k.2.2 z.2) (fun z => (z.1.1, z.2.1, z.1.2.1)) (fun z k h => ?_) ks hk _
  simp only [selE, Bool.and_eq_true, decide_eq_true_eq] at h
  obtain ⟨⟨h1, h2⟩, h3, _⟩ := h
  exact Prod.ext h1.symm (Prod.ext h3.symm h2.symm)
end Pr
/-! The product's invariants. -/
namespace Pr
abbrev Pair := Int × Int
structure PB (A B : NetD) (PL : List Pair) (EL : List Edge) : Prop where
  nd : PL.Nodup
  rng : ∀ z ∈ PL, (0 ≤ z.1 ∧ z.1 < A.nd) ∧ 0 ≤ z.2 ∧ z.2 < B.nd
  start : ∀ s : Nat, (s : Int) < A.st → PL[s]? = some ((s : Int), (s : Int))
  so : ∀ a l b, (a, l, b) ∈ EL → ∃ (k j : Nat) (x y x' y' : Int), a = k ∧ b = j ∧ PL[k]? = some (x, y) ∧ PL[j]? = some (x', y') ∧ (x, l, x') ∈ A.ed ∧ (y, l, y') ∈ B.ed
theorem PB.hit {A B : NetD} {PL : List Pair} {EL : List Edge} (h : PB A B PL EL) {k i : Nat} {x y x' y' l : Int} (h1 : PL[k]? = some (x, y)) (h2 : PL[i]? = some (x', y')) (h3 : (x, l, x') ∈ A.ed) (h4 : (y, l, y') ∈ B.ed) : PB A B PL (EL ++ [((k : Int), l, (i : Int))]) := by
  refine ⟨h.nd, h.rng, h.start, fun a l' b hm => ?_⟩
  rcases List.mem_append.mp hm with z | z
  · exact h.so a l' b z
  · cases List.mem_singleton.mp z
    exact ⟨k, i, x, y, x', y', rfl, rfl, h1, h2, h3, h4⟩
theorem get_app {α : Type} {l m : List α} {i : Nat} {x : α} (h : l[i]? = some x) : (l ++ m)[i]? = some x := by
  rw [List.getElem?_append_left (List.getElem?_eq_some_iff.mp h).1]
  exact h
theorem PB.new {A B : NetD} (hA : NetOk A) (hB : NetOk B) {PL : List Pair} {EL : List Edge} (h : PB A B PL EL) {x y x' y' l : Int} (hn : (x', y') ∉ PL) (h3 : (x, l, x') ∈ A.ed) (h4 : (y, l, y') ∈ B.ed) : PB A B (PL ++ [(x', y')]) EL := by
  refine ⟨List.nodup_append.mpr ⟨h.nd, by simp, fun a ha b hb e => hn (by rw [← List.mem_singleton.mp hb, ← e]; exact ha)⟩, fun z hz => ?_, fun s hs => get_app (h.start s hs), fun a l' b hm => ?_⟩
  · rcases List.mem_append.mp hz with y1 | y1
    · exact h.rng z y1
    · rw [List.mem_singleton.mp y1]
      exact ⟨(hA.ed _ h3).2.2, (hB.ed _ h4).2.2⟩
  · obtain ⟨k, j, a1, a2, a3, a4, e1, e2, g1, g2, g3⟩ := h.so a l' b hm
    exact ⟨k, j, a1, a2, a3, a4, e1, e2, get_app g1, get_app g2, g3⟩
def Done (A B : NetD) (PL : List Pair) (EL : List Edge) (cur : Nat) (lt : Int) : Prop := ∀ (k : Nat) x y l x' y', PL[k]? = some (x, y) → (k < cur ∨ (k = cur ∧ l < lt)) → (x, l, x') ∈ A.ed → (y, l, y') ∈ B.ed → ∃ j : Nat, PL[j]? = some (x', y') ∧ ((k : Int), l, (j : Int)) ∈ EL
/-- the places up to n are as they were -/
def Pre (PL PL' : List Pair) : Prop := ∃ m, PL' = PL ++ m
theorem Pre.refl (PL : List Pair) : Pre PL PL := ⟨[], by simp⟩
theorem Pre.trans {a b c : List Pair} : Pre a b → Pre b c → Pre a c
  | ⟨m, h⟩, ⟨n, h2⟩ => ⟨m ++ n, by rw [h2, h, List.append_assoc]⟩
theorem Pre.get {a b : List Pair} (h : Pre a b) {i : Nat} {z : Pair} (hi : a[i]? = some z) : b[i]? = some z := by
  obtain ⟨m, rfl⟩ := h
  exact get_app hi
theorem Pre.back {a b : List Pair} (h : Pre a b) {i : Nat} {z : Pair} (hi : b[i]? = some z) (hl : i < a.length) : a[i]? = some z := by
  obtain ⟨m, rfl⟩ := h
  rwa [List.getElem?_append_left hl] at hi
theorem Done.mono {A B : NetD} {PL PL' : List Pair} {EL EL' : List Edge} {cur : Nat} {lt : Int} (h : Done A B PL EL cur lt) (hp : Pre PL PL') (he : ∀ e ∈ EL, e ∈ EL') (hc : cur < PL.length) : Done A B PL' EL' cur lt := by
  intro k x y l x' y' h1 h2 h3 h4
  obtain ⟨j, h5, h6⟩ := h k x y l x' y' (hp.back h1 (by omega)) h2 h3 h4
  exact ⟨j, hp.get h5, he _ h6⟩
theorem Done.letter {A B : NetD} {PL : List Pair} {EL : List Edge} {cur : Nat} {lt : Int} (h : Done A B PL EL cur lt) {x y : Int} (hc : PL[cur]? = some (x, y)) (hall : ∀ x' y', (x, lt, x') ∈ A.ed → (y, lt, y') ∈ B.ed → ∃ j : Nat, PL[j]? = some (x', y') ∧ ((cur : Int), lt, (j : Int)) ∈ EL) : Done A B PL EL cur (lt + 1) := by
  intro k x1 y1 l x' y' h1 h2 h3 h4
  by_cases hl : k < cur ∨ (k = cur ∧ l < lt)
  · exact h k x1 y1 l x' y' h1 hl h3 h4
  · have hk : k = cur := by omega
    have hl2 : l = lt := by omega
    subst hk hl2
    rw [hc] at h1
    cases h1
    exact hall x' y' h3 h4
theorem Done.next {A B : NetD} (hA : NetOk A) {PL : List Pair} {EL : List Edge} {cur : Nat} (h : Done A B PL EL cur A.lt) : Done A B PL EL (cur + 1) 0 := by
  intro k x y l x' y' h1 h2 h3 h4
  have := (hA.ed _ h3).2.1
  simp only at this
  exact h k x y l x' y' h1 (by omega) h3 h4
/-- how many edges -/
structure Cnt (A B : NetD) (PL : List Pair) (n : Nat) (cur : Nat) (lt : Int) (ks : List K3) : Prop where
  nd : ks.Nodup
  mem : ∀ k ∈ ks, ∃ i : Nat, PL[i]? = some (k.1, k.2.1) ∧ (i < cur ∨ (i = cur ∧ k.2.2 < lt)) ∧ k.2.2 < A.lt
  len : n = (ks.map (cntK A.ed B.ed)).sum
theorem Cnt.le {A B : NetD} {PL : List Pair} {n cur : Nat} {lt : Int} {ks : List K3} (h : Cnt A B PL n cur lt ks) : n ≤ A.ed.length * B.ed.length := by
  rw [h.len]
  exact cnt_le _ _ _ h.nd
theorem Cnt.letter {A B : NetD} {PL PL' : List Pair} {n cur : Nat} {lt : Int} {ks : List K3} (h : Cnt A B PL n cur lt ks) (hnd : PL'.Nodup) (hp : Pre PL PL') {x y : Int} (hc : PL[cur]? = some (x, y)) (hlt : lt < A.lt) : Cnt A B PL' (n + cntK A.ed B.ed (x, y, lt)) cur (lt + 1) (ks ++ [(x, y, lt)]) := by
  refine ⟨List.nodup_append.mpr ⟨h.nd, by simp, fun a ha b hb e => ?_⟩, fun k hk => ?_, by rw [List.map_append, List.sum_append, ← h.len]; simp⟩
  · rw [List.mem_singleton.mp hb] at e
    subst e
    obtain ⟨i, h1, h2, _⟩ := h.mem _ ha
    have h3 := nodup_at hnd (hp.get h1) (hp.get hc)
    simp only at h2
    omega
  · rcases List.mem_append.mp hk with z | z
    · obtain ⟨i, h1, h2, h3⟩ := h.mem k z
      exact ⟨i, hp.get h1, by omega, h3⟩
    · rw [List.mem_singleton.mp z]
      exact ⟨cur, hp.get hc, .inr ⟨rfl, by show lt < lt + 1; omega⟩, hlt⟩
theorem Cnt.next {A B : NetD} {PL : List Pair} {n cur : Nat} {lt : Int} {ks : List K3} (h : Cnt A B PL n cur lt ks) : Cnt A B PL n (cur + 1) 0 ks :=
  ⟨h.nd, fun k hk => by
    obtain ⟨i, h1, h2, h3⟩ := h.mem k hk
    exact ⟨i, h1, by omega, h3⟩, h.len⟩
theorem pairs_cap {A B : NetD} {PL : List Pair} {EL : List Edge} (h : PB A B PL EL) : PL.length ≤ A.nd.toNat * B.nd.toNat := by
  have := nd_len (PL.map fun z => z.1.toNat * B.nd.toNat + z.2.toNat) (List.range (A.nd.toNat * B.nd.toNat)) (List.pairwise_map.mpr (List.Pairwise.imp_of_mem (fun {a b} ha hb hne e => ?_) h.nd)) fun x hx => ?_
  · simpa using this
  · have h1 := h.rng a ha
    have h2 := h.rng b hb
    have ea : a.2.toNat < B.nd.toNat := by omega
    have eb : b.2.toNat < B.nd.toNat := by omega
    have h3 : a.2.toNat = b.2.toNat := by
      have := congrArg (· % B.nd.toNat) e
      simp only [Nat.mul_comm _ B.nd.toNat, Nat.mul_add_mod, Nat.mod_eq_of_lt ea, Nat.mod_eq_of_lt eb] at this
      exact this
    have h4 : a.1.toNat = b.1.toNat := by
      rw [h3] at e
      exact Nat.eq_of_mul_eq_mul_right (by omega) (Nat.add_right_cancel e)
    exact hne (Prod.ext (by omega) (by omega))
  · obtain ⟨z, hz, rfl⟩ := List.mem_map.mp hx
    have h1 := h.rng z hz
    rw [List.mem_range]
    have a1 : z.1.toNat + 1 ≤ A.nd.toNat := by omega
    have := Nat.mul_le_mul_right B.nd.toNat a1
    rw [Nat.succ_mul] at this
    omega
end Pr
set_option maxRecDepth 100000
set_option maxHeartbeats 0
namespace Zp
open PySem L2 Zs Evl Pr
/-! ### two clauses -/
/-- the second clause's loop -/
def Inn (J1 : It) (g1 : TG) (tt1 : TT) (te : TE) (vs1 : List Nat) (D : Addr) (Nx : Hp → Prop) (σ2 : L2.St) (H4 : Hp) : Prop :=
  ∃ W1 : Nat → Nat → Hp → Prop, (∃ m, W1 0 m H4) ∧ ∀ j k H, W1 j k H →
      (J1.stop j H ∧ Nx H) ∨ (J1.go j H ∧ ∃ Nx1 : Hp → Prop, (∀ H', Nx1 H' → ∃ k', k' < k ∧ W1 (j + 1) k' H') ∧ ∀ x H', J1.yld j H x H' → g1 x (wipe σ2 vs1) H' fun σ3 H5 => wipe σ3 vs1 = wipe σ2 vs1 ∧ tt1 σ3 H5 fun b H6 =>
        if b = true then te σ3 H6 fun y H7 => ∃ acc, H7 D = some (.lst acc) ∧ acc.length < sizeLine ∧ Nx1 (upd H7 D (.lst (acc ++ [y]))) else Nx1 H6)
theorem lc_in {J1 : It} {n : Nat} {G : Hp → Prop} {Y : Nat → Hp → V → Hp → Prop} (w : Walk J1 n G Y) {g1 : TG} {tt1 : TT} {te : TE} {vs1 : List Nat} {D : Addr} {Nx : Hp → Prop} {σ2 : L2.St} {H4 : Hp} (Pv : Nat → Hp → Prop) (h0 : Pv 0 H4) (hG : ∀ i H, i ≤ n → Pv i H → G H)
    (hs : ∀ i x H H', i < n → Pv i H → Y i H x H' → g1 x (wipe σ2 vs1) H' fun σ3 H5 => wipe σ3 vs1 = wipe σ2 vs1 ∧ tt1 σ3 H5 fun b H6 =>
        if b = true then te σ3 H6 fun y H7 => ∃ acc, H7 D = some (.lst acc) ∧ acc.length < sizeLine ∧ Pv (i + 1) (upd H7 D (.lst (acc ++ [y]))) else Pv (i + 1) H6) (hd : ∀ H, Pv n H → Nx H) : Inn J1 g1 tt1 te vs1 D Nx σ2 H4 := by
  refine ⟨fun i m H => m = n - i ∧ i ≤ n ∧ Pv i H, ⟨n, by simp, Nat.zero_le _, h0⟩, ?_⟩
  rintro i m H ⟨rfl, hi, p⟩
  have q := hG i H hi p
  by_cases hlt : i < n
  · exact .inr ⟨w.goes i H hlt q, Pv (i + 1), fun H' p' => ⟨n - (i + 1), by omega, rfl, hlt, p'⟩, fun x H' y => hs i x H H' hlt p (w.yields i H x H' hlt q y)⟩
  · obtain rfl : i = n := by omega
    exact .inl ⟨w.stops H q, hd H p⟩
theorem lc_out {J : It} {n : Nat} {G : Hp → Prop} {Y : Nat → Hp → V → Hp → Prop} (w : Walk J n G Y) {g g1 : TG} {tt tt1 : TT} {wi1 : TI} {te : TE} {vs vs1 : List Nat} {σ : L2.St} {H1 : Hp} {D : Addr} {Qd : Hp → Prop} (Pv : Nat → Hp → Prop) (h0 : Pv 0 (upd H1 D (.lst []))) (hG : ∀ i H, i ≤ n → Pv i H → G H)
    (hs : ∀ i x H H', i < n → Pv i H → Y i H x H' → g x (wipe σ vs) H' fun σ2 H2 => wipe σ2 vs = wipe σ vs ∧ tt σ2 H2 fun b H3 => if b = true then wi1 σ2 H3 fun J1 H4 => Inn J1 g1 tt1 te vs1 D (Pv (i + 1)) σ2 H4 else Pv (i + 1) H3) (hd : ∀ H, Pv n H → Qd H) :
    ∃ W : Nat → Nat → Hp → Prop, (∃ m, W 0 m (upd H1 D (.lst []))) ∧ ∀ i m H, W i m H →
  (J.stop i H ∧ Qd H) ∨ (J.go i H ∧ ∃ Nx : Hp → Prop, (∀ H', Nx H' → ∃ m', m' < m ∧ W (i + 1) m' H') ∧ ∀ x H', J.yld i H x H' → g x (wipe σ vs) H' fun σ2 H2 => wipe σ2 vs = wipe σ vs ∧ tt σ2 H2 fun b H3 =>
    if b = true then wi1 σ2 H3 fun J1 H4 => Inn J1 g1 tt1 te vs1 D Nx σ2 H4 else Nx H3) := by
  refine ⟨fun i m H => m = n - i ∧ i ≤ n ∧ Pv i H, ⟨n, by simp, Nat.zero_le _, h0⟩, ?_⟩
  rintro i m H ⟨rfl, hi, p⟩
  have q := hG i H hi p
  by_cases hlt : i < n
  · exact .inr ⟨w.goes i H hlt q, Pv (i + 1), fun H' p' => ⟨n - (i + 1), by omega, rfl, hlt, p'⟩, fun x H' y => hs i x H H' hlt p (w.yields i H x H' hlt q y)⟩
  · obtain rfl : i = n := by omega
    exact .inl ⟨w.stops H q, hd H p⟩
def prD (z : Pair) : PD := iD [z.1, z.2]
def gpL (xs ys : List Int) : List Pair := xs.flatMap fun x => ys.map fun y => (x, y)
theorem gpL_mem {xs ys : List Int} {x y : Int} : (x, y) ∈ gpL xs ys ↔ x ∈ xs ∧ y ∈ ys := by
  unfold gpL
  rw [List.mem_flatMap]
  constructor
  · rintro ⟨a, h1, h2⟩
    obtain ⟨b, h3, h4⟩ := List.mem_map.mp h2
    cases h4
    exact ⟨h1, h3⟩
  · rintro ⟨h1, h2⟩
    exact ⟨x, h1, List.mem_map.mpr ⟨y, h2, rfl⟩⟩
theorem gpL_len (xs ys : List Int) : (gpL xs ys).length = xs.length * ys.length := by
  unfold gpL
  induction xs with
  | nil => simp
  | cons x xs ih => rw [List.flatMap_cons, List.length_append, ih, List.length_map, List.length_cons, Nat.succ_mul, Nat.add_comm]
theorem Lof_sel (ed : List Edge) (n l : Int) : (Lof ed (pK n l)).length = (ed.filter (selE n l)).length := by
  unfold Lof
  rw [List.length_map]
  congr 1
  refine List.filter_congr fun e _ => ?_
  unfold selE
  rw [Bool.eq_iff_iff, Bool.and_eq_true, decide_eq_true_iff, decide_eq_true_iff, decide_eq_true_iff]
  constructor
  · intro h; exact pK_inj h
  · rintro ⟨rfl, rfl⟩; rfl
theorem ints_inj {xs ys : List Int} (h : xs.map V.int = ys.map V.int) : xs = ys := by
  induction xs generalizing ys with
  | nil => cases ys with
    | nil => rfl
    | cons y ys => cases h
  | cons x xs ih => cases ys with
    | nil => cases h
    | cons y ys =>
      simp only [List.map_cons, List.cons.injEq] at h
      rw [ih h.2]
      injection h.1 with e
      rw [e]
section
variable {P : Program} {w : World} {K : PySem.W.Frag} {mg : Str → Option Value} {base : Heap}
def sp_goal_pairs (T : Txt K mg) : Sp := fun vs H Q _ => ∃ (p q : Addr) (v : V) (A B : NetD) (z : Pair) (l : Int), vs = [.ref p, .ref q, v, .int l] ∧ NetAt T.cNet.C H p A ∧ NetAt T.cNet.C H q B ∧ Is H v (prD z) ∧ A.ed.length * B.ed.length ≤ 50000 ∧
  ∀ (d : Addr) H' (gv : List V) (GP : List Pair), Ex H H' → H d = none → H' d = some (.lst gv) → IsL H' gv (GP.map prD) → (∀ x y, (x, y) ∈ GP ↔ (z.1, l, x) ∈ A.ed ∧ (z.2, l, y) ∈ B.ed) → GP.length = cntK A.ed B.ed (z.1, z.2, l) → Q (.ref d) H'
theorem ok_goal_pairs (T : Txt K mg) : FnOk P w K mg base CX0 2 T.f.goal_pairs.f T.f.goal_pairs.fd ["a", "b", "pair", "letter"] (sp_goal_pairs T) := by
  refine T.f.goal_pairs.F.ok sc_goal_pairs (fun vs H Q E h => ?_) (fun cdv A outer s H vs Q E hr h => ?_)
  · obtain ⟨p, q, v, A, B, z, l, rfl, _⟩ := h
    rfl
  · obtain ⟨p, q, v, A', B', z, l, rfl, hA, hB, hv, hszP, k⟩ := h
    obtain ⟨t, rfl, ht⟩ := Is.ints_iff.mp hv
    obtain ⟨xs, hxs, hxm, hxl⟩ := Lof_ints A'.ed z.1 l
    obtain ⟨ys, hys, hym, hyl⟩ := Lof_ints B'.ed z.2 l
    have hszA := hA.sz.1
    have hszB := hB.sz.1
    have hu := hu_of hr
    have hnd := sc_goal_pairs.nd
    refine ⟨_, (pss_one (ps_ret (pe_lc2 (own := [("x", 4), ("y", 5)]) (vs1 := [5]) (g := (gName 4)) (g1 := (gName 5)) (tt := tYes) (tt1 := tYes) rfl hnd (pi_listK (K := K) rfl (pe_meth (L2.pv 0) T.cNet.cl T.cNet.m_goals (ok_Net_goals T) (hr.mono (by decide)) T.cNet.goals.b .nil pass0 (pa_cons (pe_ix (ix_tupK (K := K) rfl) (L2.pv 2) (pe_int) (fun _ _ => rfl)) (pa_cons (L2.pv 3) pa_nil)))) (blkOk_by (own := [("x", 4), ("y", 5)]) (N := nm_goal_pairs) (sc := defScope s_goal_pairs) (by decide +kernel)) (by decide) (fun _ _ _ _ _ => (pg_name (i := 4) hnd rfl (by first | exact Or.inl rfl | exact Or.inr rfl))) (fun _ _ _ _ _ => pts_nil) (fun _ _ _ _ _ => (pi_listK (K := K) rfl (pe_meth (L2.pv 1) T.cNet.cl T.cNet.m_goals (ok_Net_goals T) (hr.mono (by decide)) T.cNet.goals.b .nil pass0 (pa_cons (pe_ix (ix_tupK (K := K) rfl) (L2.pv 2) (pe_int) (fun _ _ => rfl)) (pa_cons (L2.pv 3) pa_nil))))) (fun _ _ _ _ _ => (pg_name (i := 5) hnd rfl (by first | exact Or.inl rfl | exact Or.inr rfl))) (fun _ _ _ _ _ => pts_nil) (fun _ _ _ _ _ => (pe_tup (pa_cons (L2.pv 4) (pa_cons (L2.pv 5) pa_nil))))))), ?_⟩
    obtain ⟨_, _, hoA⟩ := hA.ins
    refine ⟨_, rfl, _, _, _, rfl, hoA, fz_no (by decide +kernel), _, rfl, t, _, _, _, rfl, rfl, SqT.of ht, rfl, _, rfl, p, A', z.1, l, rfl, hA, fun b1 xs1 H1 e1 hb0 hb1 _ hx1 => ?_⟩
    rw [hxs] at hx1
    cases ints_inj hx1
    refine ⟨b1, rfl, ⟨_, SqL.of hb1⟩, fun D hD => ?_⟩
    refine lc_out (walk_list (K := K) (a := b1) (xs := xs.map V.int)) (fun i H' => ∃ gv, Ex H1 H' ∧ H' D = some (.lst gv) ∧ IsL H' gv ((gpL (xs.take i) ys).map prD)) ?_ ?_ ?_ ?_
    · exact ⟨[], Ex.new hD, upd_same, .nil⟩
    · rintro i H' _ ⟨_, e, _⟩
      exact SqL.of (e _ _ hb1)
    · rintro i x H' H2 hi ⟨gv, e, hD1, hgv⟩ ⟨rfl, hx⟩
      obtain ⟨x0, hx0, rfl⟩ := ints_get hx
      have hxi : i < xs.length := (List.getElem?_eq_some_iff.mp hx0).1
      have eH := e1.trans e
      obtain ⟨_, _, hoB⟩ := (hB.mono eH).ins
      refine ⟨rfl, _, rfl, _, _, _, rfl, hoB, fz_no (by decide +kernel), _, rfl, t, _, _, _, rfl, rfl, SqT.of (eH _ _ ht), rfl, _, rfl, q, B', z.2, l, rfl, hB.mono eH, fun b2 ys1 H3 e3 hb20 hb2 _ hy1 => ?_⟩
      rw [hys] at hy1
      cases ints_inj hy1
      refine ⟨b2, rfl, ⟨_, SqL.of hb2⟩, ?_⟩
      have htk : gpL (xs.take (i + 1)) ys = gpL (xs.take i) ys ++ ys.map fun y => (x0, y) := by
        rw [List.take_add_one, hx0]
        unfold gpL
        simp
      refine lc_in (walk_list (K := K) (a := b2) (xs := ys.map V.int)) (fun j H' => ∃ gv, Ex H1 H' ∧ H' b2 = some (.lst (ys.map V.int)) ∧ H' D = some (.lst gv) ∧ IsL H' gv ((gpL (xs.take i) ys ++ (ys.take j).map fun y => (x0, y)).map prD)) ?_ ?_ ?_ ?_
      · exact ⟨gv, e.trans e3, hb2, e3 _ _ hD1, by rw [List.take_zero, List.map_nil, List.append_nil]; exact hgv.mono (Tk.of e3)⟩
      · rintro j H4 _ ⟨_, _, h, _⟩
        exact SqL.of h
      · rintro j y H4 H5 hj ⟨gv2, e4, hb4, hD4, hgv4⟩ ⟨rfl, hy⟩
        obtain ⟨y0, hy0, rfl⟩ := ints_get hy
        refine ⟨rfl, _, rfl, _, rfl, by show 2 ≤ sizeLine; decide, fun u hu => ?_⟩
        have eu := Ex.new (o := HO.tup [.int x0, .int y0]) hu
        have hlen := hgv4.len
        rw [List.length_map, List.length_append, gpL_len, List.length_map, List.length_take, List.length_take] at hlen
        have hjy : j < ys.length := (List.getElem?_eq_some_iff.mp hy0).1
        have hm1 : gv2.length < 100000 := by
          have h1 : min i xs.length = i := by omega
          have h2 : min j ys.length = j := by omega
          have h3 : (i + 1) * ys.length ≤ xs.length * ys.length := Nat.mul_le_mul_right _ hxi
          have h4 : xs.length * ys.length ≤ A'.ed.length * B'.ed.length := Nat.mul_le_mul hxl hyl
          rw [Nat.succ_mul] at h3
          rw [h1, h2] at hlen
          omega
        refine ⟨gv2, eu _ _ hD4, lineLt hm1, gv2 ++ [.ref u], Ex.mut (e4.trans eu) hD, ?_, upd_same, ?_⟩
        · rw [upd_ne (ne_of_none hD1 hb20).symm]
          exact eu _ _ hb4
        · have tk5 : Tk H5 (upd (upd H5 u (.tup [.int x0, .int y0])) D (.lst (gv2 ++ [.ref u]))) := (Tk.of eu).trans (Tk.wr (eu _ _ hD4) fun _ q => nomatch q)
          rw [List.take_add_one, hy0, Option.toList, List.map_append, List.map_append, List.map_append, ← List.append_assoc]
          rw [List.map_append] at hgv4
          refine (hgv4.mono tk5).app (.cons (isInts (ns := [x0, y0]) ?_) .nil)
          rw [upd_ne (ne_of upd_same (eu _ _ hD4) (by intro q; cases q))]
          exact upd_same
      · rintro H4 ⟨gv2, e4, hb4, hD4, hgv4⟩
        rw [List.length_map, List.take_length] at hgv4
        exact ⟨gv2, e4, hD4, by rw [htk]; exact hgv4⟩
    · rintro H' ⟨gv, e, hD1, hgv⟩
      rw [List.length_map, List.take_length] at hgv
      refine k D H' gv (gpL xs ys) (e1.trans e) (fresh_back e1 hD) hD1 hgv (fun x y => gpL_mem.trans (and_congr (hxm x) (hym y))) ?_
      rw [gpL_len]
      unfold cntK
      rw [← Lof_sel, ← Lof_sel, hxs, hys, List.length_map, List.length_map]
end
end Zp
set_option maxRecDepth 100000
set_option maxHeartbeats 0
namespace Zp
open PySem L2 Zs Evl Pr
def NumOk (kvs : List (List Key × V)) (PL : List Pair) : Prop := kvs.length = PL.length ∧ ∀ x y, (∀ v, valV kvs (pK x y) = some v → ∃ i : Nat, v = .int i ∧ PL[i]? = some (x, y)) ∧ (valV kvs (pK x y) = none → (x, y) ∉ PL)
theorem NumOk.nil : NumOk [] [] := ⟨rfl, fun x y => ⟨fun v h => (nomatch h), fun _ h => nomatch h⟩⟩
theorem NumOk.new {kvs : List (List Key × V)} {PL : List Pair} (h : NumOk kvs PL) {x y : Int} (hv : valV kvs (pK x y) = none) : NumOk (putK kvs (pK x y) (.int (PL.length : Int))) (PL ++ [(x, y)]) := by
  refine ⟨by rw [putK_new _ hv, List.length_append, List.length_append, h.1]; rfl, fun a b => ?_⟩
  rw [valV_put]
  by_cases e : pK a b = pK x y
  · obtain ⟨rfl, rfl⟩ := pK_inj e
    rw [if_pos rfl]
    exact ⟨fun v hv' => ⟨PL.length, by cases hv'; rfl, by simp⟩, fun z => nomatch z⟩
  · rw [if_neg e]
    refine ⟨fun v hv' => ?_, fun z hm => ?_⟩
    · obtain ⟨i, h1, h2⟩ := (h.2 a b).1 v hv'
      exact ⟨i, h1, get_app h2⟩
    · rcases List.mem_append.mp hm with q | q
      · exact (h.2 a b).2 z q
      · cases List.mem_singleton.mp q
        exact e rfl
section
variable {P : Program} {w : World} {K : PySem.W.Frag} {mg : Str → Option Value} {base : Heap}
def sp_paired (T : Txt K mg) : Sp := fun vs H Q _ => ∃ (p q : Addr) (A B : NetD), vs = [.ref p, .ref q] ∧ NetAt T.cNet.C H p A ∧ NetAt T.cNet.C H q B ∧ A.st = B.st ∧ A.lt = B.lt ∧ A.ed.length * B.ed.length < 4000 ∧ A.nd.toNat * B.nd.toNat < 4000 ∧ A.lt ≤ 50000 ∧
  ∀ (r pd ed : Addr) H' (pv ev : List V) (PL : List Pair) (EL : List Edge), Ex H H' → H' r = some (.tup [.ref pd, .ref ed]) → H' pd = some (.lst pv) → IsL H' pv (PL.map prD) → H' ed = some (.lst ev) → IsL H' ev (EL.map eD) → PB A B PL EL → Done A B PL EL PL.length 0 → EL.length < 4000 → Q (.ref r) H'
theorem ok_paired (T : Txt K mg) : FnOk P w K mg base CX0 3 T.f.paired.f T.f.paired.fd ["a", "b"] (sp_paired T) := by
  refine T.f.paired.F.ok sc_paired (fun vs H Q E h => ?_) (fun cdv A outer s H vs Q E hr h => ?_)
  · obtain ⟨p, q, A, B, rfl, _⟩ := h
    rfl
  · obtain ⟨p, q, A', B', rfl, hA, hB, hst, hlt, hsz, hcap, hlt5, k⟩ := h
    obtain ⟨dx, a, b, g, es, gs, hn⟩ := id hA
    have hokA := hn.ok
    have hokB := hB.sz.2.2
    have hst1 := hokA.st
    have hnd1 := hokA.nd
    have hstcap : A'.st.toNat ≤ A'.nd.toNat * B'.nd.toNat := by
      have h1 : A'.st.toNat ≤ A'.nd.toNat := by omega
      have h2 : 1 ≤ B'.nd.toNat := by have := hokB.st; have := hokB.nd; omega
      exact Nat.le_trans h1 (Nat.le_mul_of_pos_right _ h2)
    have hu := hu_of hr
    have hnd := sc_paired.nd
    refine ⟨_, (pss_cons (ps_setLc (i := 2) (own := [("state", 3)]) (g := (gName 3)) (tt := tYes) rfl hnd rfl rfl (sw_true rfl rfl rfl (by decide +kernel)) (pi_range1 (by rfl) T.b.range (pa_cons (pe_fldK (K := K) rfl (L2.pv 0) rfl) pa_nil)) (blkOk_by (own := [("state", 3)]) (N := nm_paired) (sc := defScope s_paired) (by decide +kernel)) (fun _ _ _ _ _ => (pg_name (i := 3) hnd rfl (by first | exact Or.inl rfl | exact Or.inr rfl))) (fun _ _ _ _ _ => pts_nil) (fun _ _ _ _ _ => (pe_tup (pa_cons (L2.pv 3) (pa_cons (L2.pv 3) pa_nil)))))
    (pss_cons (ps_setDcT (i := 4) (own := [("pair", 5)]) (g := (gName 5)) hu rfl hnd rfl rfl (swd_true rfl rfl rfl (by decide +kernel)) (pi_listK (K := K) rfl (L2.pv 2)) (blkOk_by (own := [("pair", 5)]) (N := nm_paired) (sc := defScope s_paired) (by decide +kernel)) (fun _ _ _ _ _ => (pg_name (i := 5) hnd rfl (by first | exact Or.inl rfl | exact Or.inr rfl))) (fun _ _ _ _ _ => (L2.pv 5)) (fun _ _ _ _ _ => (pe_ix (ix_tupK (K := K) rfl) (L2.pv 5) (pe_int) (fun _ _ => rfl))))
    (pss_cons (ps_set (i := 6) hnd rfl (by first | exact Or.inl rfl | exact Or.inr rfl) (pe_lst pa_nil))
    (pss_cons (ps_set (i := 7) hnd rfl (by first | exact Or.inl rfl | exact Or.inr rfl) (pe_int))
    (pss_cons (ps_while PassesOwn.never (pt_cmpR op_lt (L2.pv 7) (pe_callB call_len_seq (by rfl) T.b.len PySem.boot_len (pa_cons (L2.pv 2) pa_nil)) (nomark _)) (pss_cons (ps_for PassesOwn.never rfl (pi_range1 (by rfl) T.b.range (pa_cons (pe_fldK (K := K) rfl (L2.pv 0) rfl) pa_nil)) (pg_name (i := 8) hnd rfl (by first | exact Or.inl rfl | exact Or.inr rfl))
      (pss_one (ps_for PassesOwn.never rfl (pi_listK (K := K) rfl (pe_call (ok_goal_pairs T) (hr.mono (by decide)) (by rfl) T.f.g_goal_pairs T.f.goal_pairs.F.kp T.f.goal_pairs.b .nil pass0 (pa_cons (L2.pv 0) (pa_cons (L2.pv 1) (pa_cons (pe_ix (ix_listK (K := K) rfl) (L2.pv 2) (L2.pv 7) (fun _ _ => rfl)) (pa_cons (L2.pv 8) pa_nil)))))) (pg_name (i := 5) hnd rfl (by first | exact Or.inl rfl | exact Or.inr rfl))
      (pss_cons (ps_if (pt_cmp (pc_dnotin hu (L2.pv 5) (L2.pv 4)) rfl) (pss_cons (ps_dput hu (L2.pv 4) (L2.pv 5) (pe_callB call_len_seq (by rfl) T.b.len PySem.boot_len (pa_cons (L2.pv 2) pa_nil)) rfl)
    (pss_one (ps_expr (pe_bm PySem.F.plainAttrs_list PySem.F.slot_list_append PySem.F.type_list_append mt_append (L2.pv 2) (pa_cons (L2.pv 5) pa_nil))))) pss_nil)
    (pss_one (ps_expr (pe_bm PySem.F.plainAttrs_list PySem.F.slot_list_append PySem.F.type_list_append mt_append (L2.pv 6) (pa_cons (pe_tup (pa_cons (L2.pv 7) (pa_cons (L2.pv 8) (pa_cons (pe_dget hu (L2.pv 4) (L2.pv 5) (fun _ _ => rfl)) pa_nil)))) pa_nil))))))))
    (pss_one (ps_aug (i := 7) hnd rfl (by first | exact Or.inl rfl | exact Or.inr rfl) (pe_int) ip_add))))
    (pss_one (ps_ret (pe_tup (pa_cons (L2.pv 2) (pa_cons (L2.pv 6) pa_nil)))))))))), ?_⟩
    refine ⟨_, rfl, _, _, _, _, _, rfl, hn.ob, T.cNet.cl, T.cNet.n_states, fz_at ndNet (i := 0) rfl rfl, A'.st, rfl, by omega, by omega, fun pd hpd => ?_⟩
    refine lcR (walk_range (lo := 0) (n := A'.st.toNat)) hpd (by omega) (fun _ _ => trivial) (fun i acc H' => IsL H' acc (((List.range i).map fun s : Nat => ((s : Int), (s : Int))).map prD)) (fun i acc H H' o ⟨l, hl⟩ z => z.mono (o.tk (by rw [hl]; intro xs q; cases q))) .nil ?_ ?_
    · rintro i acc x H3 H4 B1 B2 hi _ e3 hD3 r ⟨rfl, hx⟩ kB _
      have hx' : x = .int (i : Int) := hx.trans (congrArg V.int (Int.zero_add _))
      subst hx'
      refine ⟨rfl, _, rfl, _, rfl, by show 2 ≤ sizeLine; decide, fun u hu => kB _ _ (Ex.new hu) ?_⟩
      rw [List.range_succ, List.map_append, List.map_append]
      exact (r.mono (Tk.new hu)).app (.cons (isInts (ns := [(i : Int), (i : Int)]) upd_same) .nil)
    · rintro pv0 H1 e1 hpd1 _ hpv0
      generalize hPL0 : ((List.range A'.st.toNat).map fun s : Nat => ((s : Int), (s : Int))) = PL0 at hpv0
      have hPLget : ∀ s : Nat, (s : Int) < A'.st → PL0[s]? = some ((s : Int), (s : Int)) := fun s hs => by
        rw [← hPL0, List.getElem?_map, List.getElem?_range (by omega)]
        rfl
      have hPLlen : PL0.length = A'.st.toNat := by rw [← hPL0, List.length_map, List.length_range]
      -- numbers
      have hpn := hpv0.len
      rw [List.length_map] at hpn
      refine ⟨_, rfl, pd, rfl, ⟨_, SqL.of hpd1⟩, fun nd hnd' => dcT_it (walk_list (K := K) (a := pd) (xs := pv0)) (fun i H2 => ∃ kvs, Ex H1 H2 ∧ H2 nd = some (.dT kvs) ∧ NumOk kvs (PL0.take i)) ?_ ?_ ?_ ?_⟩
      · exact ⟨[], Ex.new hnd', upd_same, NumOk.nil⟩
      · rintro i H2 _ ⟨_, e, _⟩
        exact SqL.of (e _ _ hpd1)
      · rintro i x H2 H3 hi ⟨kvs, e, hnd2, hnum⟩ ⟨rfl, hx⟩
        obtain ⟨d0, hd0, hv⟩ := (hpv0.mono (Tk.of e)).get hx
        obtain ⟨z, hz, rfl⟩ := tup_get hd0
        have hz2 : z = ((i : Int), (i : Int)) := by
          have := hPLget i (by omega)
          rw [hz] at this
          exact Option.some.inj this
        subst hz2
        obtain ⟨t, rfl, ht⟩ := Is.ints_iff.mp hv
        have hkl := hnum.1
        rw [List.length_take] at hkl
        refine ⟨rfl, _, rfl, _, rfl, t, _, _, _, rfl, rfl, SqT.of ht, rfl, kvs, pK i i, t, rfl, ht, hnd2, lineLt (by omega), putK kvs (pK i i) (.int (i : Int)), Ex.mut e hnd', upd_same, ?_⟩
        have hnone : valV kvs (pK (i : Int) (i : Int)) = none := by
          cases e5 : valV kvs (pK (i : Int) (i : Int)) with
          | none => rfl
          | some v =>
            obtain ⟨j, _, hj⟩ := (hnum.2 i i).1 v e5
            have hji := (List.getElem?_eq_some_iff.mp hj).1
            rw [List.length_take] at hji
            rw [List.getElem?_take_of_lt (by omega), hPLget j (by omega)] at hj
            simp only [Option.some.injEq, Prod.mk.injEq] at hj
            omega
        have := hnum.new hnone
        rw [List.length_take, show min i PL0.length = i by omega] at this
        rw [List.take_add_one, hz]
        exact this
      · rintro H2 ⟨kvs0, e2, hnd2, hnum0⟩
        rw [hpn, List.take_length] at hnum0
        -- edges = []; taken = 0
        refine ⟨Nat.zero_le _, fun ed hed => ?_⟩
        have e12 := e1.trans e2
        have e2e := Ex.new (o := HO.lst []) hed
        have hed0 := fresh_back e12 hed
        have hnd0 := fresh_back e1 hnd'
        have npe : pd ≠ ed := ne_of_none (e2 _ _ hpd1) hed
        -- while taken < len(pairs)
        refine ⟨fun m σ' H' => ∃ (taken : Nat) (PL : List Pair) (EL : List Edge) (ks : List K3) (kvs : List (List Key × V)) (pv ev : List V) (v5 v8 : Option V), m = A'.nd.toNat * B'.nd.toNat - taken ∧ σ' = [some (.ref p), some (.ref q), some (.ref pd), none, some (.ref nd), v5, some (.ref ed), some (.int (taken : Int)), v8] ∧ Ex H H' ∧ H' pd = some (.lst pv) ∧ IsL H' pv (PL.map prD) ∧ H' nd = some (.dT kvs) ∧ NumOk kvs PL ∧ H' ed = some (.lst ev) ∧ IsL H' ev (EL.map eD) ∧
            PB A' B' PL EL ∧ Done A' B' PL EL taken 0 ∧ Cnt A' B' PL EL.length taken 0 ks ∧ taken ≤ PL.length, ⟨_, 0, PL0, [], [], kvs0, pv0, [], none, none, rfl, rfl, e12.trans e2e, e2e _ _ (e2 _ _ hpd1), hpv0.mono ((Tk.of e2).trans (Tk.of e2e)), e2e _ _ hnd2, hnum0, upd_same, .nil, ?_, ?_, ?_, Nat.zero_le _⟩, ?_⟩
        · refine ⟨?_, fun z hz => ?_, hPLget, fun a l b h => nomatch h⟩
          · rw [← hPL0]
            exact List.pairwise_map.mpr (List.Pairwise.imp (fun h e => h (by have h1 := congrArg Prod.fst e; simp only at h1; omega)) (List.nodup_range (n := A'.st.toNat)))
          · rw [← hPL0] at hz
            obtain ⟨s, hs, rfl⟩ := List.mem_map.mp hz
            have := List.mem_range.mp hs
            have := hokB.nd
            show (0 ≤ (s : Int) ∧ (s : Int) < A'.nd) ∧ 0 ≤ (s : Int) ∧ (s : Int) < B'.nd
            omega
        · intro k' x y l x' y' h1 h2 h3 _
          have := (hokA.ed _ h3).2.1
          simp only at this
          omega
        · exact ⟨List.nodup_nil, fun k h => (nomatch h), rfl⟩
        · rintro m σ' H' ⟨taken, PL, EL, ks, kvs, pv, ev, v5, v8, rfl, rfl, e, hp1, hpl, hn1, hnum, hev, hel, hPB, hDone, hCnt, htk⟩
          have hpvl := hpl.len
          rw [List.length_map] at hpvl
          have hPLcap := pairs_cap hPB
          refine ⟨_, rfl, _, rfl, pd, _, rfl, .inl (SqL.of hp1), _, _, rfl, rfl, _, rfl, iteD (fun hlt1 => ?_) fun hlt1 => ?_⟩
          rotate_left
          · -- return (pairs, edges)
            refine ⟨_, rfl, _, rfl, by show 2 ≤ sizeLine; decide, fun r hr => ?_⟩
            have er := Ex.new (o := HO.tup [.ref pd, .ref ed]) hr
            have htl : taken = PL.length := by omega
            subst htl
            have := hCnt.le
            exact k r pd ed _ pv ev PL EL (e.trans er) upd_same (er _ _ hp1) (hpl.mono (Tk.of er)) (er _ _ hev) (hel.mono (Tk.of er)) hPB hDone (by omega)
          have htk2 : taken < PL.length := by omega
          obtain ⟨⟨x0, y0⟩, hz1⟩ : ∃ z, PL[taken]? = some z := ⟨_, List.getElem?_eq_getElem htk2⟩
          refine ⟨fun σ' H' => ∃ m', m' < A'.nd.toNat * B'.nd.toNat - taken ∧ ∃ (taken : Nat) (PL : List Pair) (EL : List Edge) (ks : List K3) (kvs : List (List Key × V)) (pv ev : List V) (v5 v8 : Option V), m' = A'.nd.toNat * B'.nd.toNat - taken ∧ σ' = [some (.ref p), some (.ref q), some (.ref pd), none, some (.ref nd), v5, some (.ref ed), some (.int (taken : Int)), v8] ∧ Ex H H' ∧ H' pd = some (.lst pv) ∧ IsL H' pv (PL.map prD) ∧ H' nd = some (.dT kvs) ∧ NumOk kvs PL ∧ H' ed = some (.lst ev) ∧ IsL H' ev (EL.map eD) ∧
            PB A' B' PL EL ∧ Done A' B' PL EL taken 0 ∧ Cnt A' B' PL EL.length taken 0 ks ∧ taken ≤ PL.length, fun σ2 H2 h => h, ?_⟩
          -- for letter in range(a.letters)
          have hlt1' := hokA.lt
          refine ⟨_, rfl, _, _, _, _, _, rfl, (e _ _ hn.ob), T.cNet.cl, T.cNet.n_letters, fz_at ndNet (i := 1) rfl rfl, A'.lt, rfl, by omega, by omega, for_range (lo := 0) (n := A'.lt.toNat)
            (fun l σ2 H2 => ∃ (PL2 : List Pair) (EL : List Edge) (ks : List K3) (kvs : List (List Key × V)) (pv ev : List V) (v5 v8 : Option V), σ2 = [some (.ref p), some (.ref q), some (.ref pd), none, some (.ref nd), v5, some (.ref ed), some (.int (taken : Int)), v8] ∧ Ex H H2 ∧ H2 pd = some (.lst pv) ∧ IsL H2 pv (PL2.map prD) ∧ H2 nd = some (.dT kvs) ∧ NumOk kvs PL2 ∧ H2 ed = some (.lst ev) ∧ IsL H2 ev (EL.map eD) ∧
              PB A' B' PL2 EL ∧ Done A' B' PL2 EL taken (l : Int) ∧ Cnt A' B' PL2 EL.length taken (l : Int) ks ∧ Pre PL PL2) ?_ ?_ ?_⟩
          · exact ⟨PL, EL, ks, kvs, pv, ev, v5, v8, rfl, e, hp1, hpl, hn1, hnum, hev, hel, hPB, hDone, hCnt, Pre.refl _⟩
          · rintro l σ2 H2 hl ⟨PL2, EL2, ks2, kvs2, pv2, ev2, v52, v82, rfl, e', hp2, hpl2, hn2, hnum2, hev2, hel2, hPB2, hDone2, hCnt2, hpre⟩
            have hzl : (0 : Int) + (l : Int) = l := Int.zero_add _
            rw [hzl]
            have hz2 := hpre.get hz1
            obtain ⟨tv, htv1, htv2⟩ := hpl2.get' (i := taken) (d := prD (x0, y0)) (by rw [List.getElem?_map, hz2]; rfl)
            refine ⟨_, rfl, _, rfl, _, rfl, _, rfl, pd, _, _, tv, rfl, rfl, SqL.of hp2, atI_nat htv1, _, rfl, p, q, tv, A', B', (x0, y0), (l : Int), rfl, hA.mono e', hB.mono e', htv2, by omega, fun gl H3 gv GP e3 hgl0 hgl hgv hGP hGPl => ?_⟩
            have e03 := e'.trans e3
            have hp3 := e3 _ _ hp2
            have hn3 := e3 _ _ hn2
            have hev3 := e3 _ _ hev2
            have npn : pd ≠ nd := ne_of hp3 hn3 (by intro z; cases z)
            have nne : nd ≠ ed := ne_of hn3 hev3 (by intro z; cases z)
            have ngp : gl ≠ pd := (ne_of_none hp2 hgl0).symm
            have ngn : gl ≠ nd := (ne_of_none hn2 hgl0).symm
            have nge : gl ≠ ed := (ne_of_none hev2 hgl0).symm
            have hb0 : Ex (lessH (lessH (lessH H3 pd) nd) ed) H3 := ((lessH_ex _ _).trans (lessH_ex _ _)).trans (lessH_ex _ _)
            have hbp : lessH (lessH (lessH H3 pd) nd) ed pd = none := by rw [lessH_ne npe, lessH_ne npn]; exact lessH_at
            have hbn : lessH (lessH (lessH H3 pd) nd) ed nd = none := by rw [lessH_ne nne]; exact lessH_at
            have hbe : lessH (lessH (lessH H3 pd) nd) ed ed = none := lessH_at
            have inb : ∀ z o, H3 z = some o → z ≠ pd → z ≠ nd → z ≠ ed → lessH (lessH (lessH H3 pd) nd) ed z = some o := fun z o h h1 h2 h3 => by rw [lessH_ne h3, lessH_ne h2, lessH_ne h1]; exact h
            have hHb : Ex H (lessH (lessH (lessH H3 pd) nd) ed) := fun z o h => inb z o (e03 z o h) (ne_of_none h hpd) (ne_of_none h hnd0) (ne_of_none h hed0)
            have hgb := inb _ _ hgl ngp ngn nge
            have hgvb : IsL (lessH (lessH (lessH H3 pd) nd) ed) gv (GP.map prD) := hgv.mono fun z xs h => inb z _ h (ne_of h hp3 (by intro y; cases y)) (ne_of h hn3 (by intro y; cases y)) (ne_of h hev3 (by intro y; cases y))
            generalize lessH (lessH (lessH H3 pd) nd) ed = Hb at hb0 hbp hbn hbe hHb hgb hgvb
            have hgn := hgv.len
            rw [List.length_map] at hgn
            replace hGPl : GP.length = cntK A'.ed B'.ed (x0, y0, (l : Int)) := hGPl
            have hEL2 := hCnt2.le
            have hPL2c := pairs_cap hPB2
            have hcl := hCnt2.letter (PL' := PL2) hPB2.nd (Pre.refl _) hz2 (by omega : (l : Int) < A'.lt)
            have hcl2 := hcl.le
            refine ⟨gl, rfl, ⟨_, SqL.of hgl⟩, for_list (K := K) (a := gl) (xs := gv)
              (fun j σ3 H4 => ∃ (PL3 : List Pair) (EL3 : List Edge) (kvs : List (List Key × V)) (pv ev : List V) (v5 : Option V), σ3 = [some (.ref p), some (.ref q), some (.ref pd), none, some (.ref nd), v5, some (.ref ed), some (.int (taken : Int)), some (.int (l : Int))] ∧ Ex Hb H4 ∧ H4 pd = some (.lst pv) ∧ IsL H4 pv (PL3.map prD) ∧ H4 nd = some (.dT kvs) ∧ NumOk kvs PL3 ∧ H4 ed = some (.lst ev) ∧ IsL H4 ev (EL3.map eD) ∧
                PB A' B' PL3 EL3 ∧ Pre PL2 PL3 ∧ (∀ e ∈ EL2, e ∈ EL3) ∧ (∀ z ∈ GP.take j, ∃ i : Nat, PL3[i]? = some z ∧ ((taken : Int), (l : Int), (i : Int)) ∈ EL3) ∧ EL3.length = EL2.length + j) ?_ ?_ ?_ ?_⟩
            · exact ⟨PL2, EL2, kvs2, pv2, ev2, v52, rfl, hb0, hp3, hpl2.mono (Tk.of e3), hn3, hnum2, hev3, hel2.mono (Tk.of e3), hPB2, Pre.refl _, fun _ h => h, fun z h => by simp at h, rfl⟩
            · rintro j σ3 H4 _ ⟨_, _, _, _, _, _, rfl, e4, _⟩
              exact SqL.of (e4 _ _ hgb)
            · rintro j x σ3 H4 hx ⟨PL3, EL3, kvs3, pv3, ev3, v53, rfl, e4, hp4, hpl4, hn4, hnum4, hev4, hel4, hPB4, hpre4, hsub4, hGP4, hlen4⟩
              obtain ⟨d0, hd0, hx0⟩ := (hgvb.mono (Tk.of e4)).get hx
              obtain ⟨⟨x1, y1⟩, hzz, rfl⟩ := tup_get hd0
              have hjl : j < GP.length := (List.getElem?_eq_some_iff.mp hzz).1
              obtain ⟨hm1, hm2⟩ := (hGP x1 y1).mp (List.mem_of_getElem? hzz)
              obtain ⟨t, rfl, ht⟩ := Is.ints_iff.mp hx0
              have hz4 := hpre4.get hz2
              have hPL4c := pairs_cap hPB4
              have fin : ∀ (H6 : Hp) (PL6 : List Pair) (i : Nat) (kvs6 : List (List Key × V)) (pv6 ev6 : List V), Ex Hb H6 → H6 pd = some (.lst pv6) → IsL H6 pv6 (PL6.map prD) → H6 nd = some (.dT kvs6) → NumOk kvs6 PL6 → H6 ed = some (.lst ev6) → IsL H6 ev6 (EL3.map eD ++ [eD ((taken : Int), (l : Int), (i : Int))]) → PB A' B' PL6 EL3 → Pre PL3 PL6 → PL6[i]? = some (x1, y1) →
                  ∃ (PL3 : List Pair) (EL3 : List Edge) (kvs : List (List Key × V)) (pv ev : List V) (v5 : Option V), [some (V.ref p), some (.ref q), some (.ref pd), none, some (.ref nd), some (.ref t), some (.ref ed), some (.int (taken : Int)), some (.int (l : Int))] = [some (.ref p), some (.ref q), some (.ref pd), none, some (.ref nd), v5, some (.ref ed), some (.int (taken : Int)), some (.int (l : Int))] ∧ Ex Hb H6 ∧ H6 pd = some (.lst pv) ∧ IsL H6 pv (PL3.map prD) ∧ H6 nd = some (.dT kvs) ∧ NumOk kvs PL3 ∧ H6 ed = some (.lst ev) ∧ IsL H6 ev (EL3.map eD) ∧
                    PB A' B' PL3 EL3 ∧ Pre PL2 PL3 ∧ (∀ e ∈ EL2, e ∈ EL3) ∧ (∀ z ∈ GP.take (j + 1), ∃ i : Nat, PL3[i]? = some z ∧ ((taken : Int), (l : Int), (i : Int)) ∈ EL3) ∧ EL3.length = EL2.length + (j + 1) := fun H6 PL6 i kvs6 pv6 ev6 a1 a2 a3 a4 a5 a6 a7 a8 a9 a10 => by
                refine ⟨PL6, EL3 ++ [((taken : Int), (l : Int), (i : Int))], kvs6, pv6, ev6, _, rfl, a1, a2, a3, a4, a5, a6, by rw [List.map_append]; exact a7, a8.hit (a9.get hz4) a10 hm1 hm2, hpre4.trans a9, fun e h => List.mem_append_left _ (hsub4 e h), fun z hz => ?_, by rw [List.length_append, hlen4]; rfl⟩
                rw [List.take_add_one, hzz] at hz
                rcases List.mem_append.mp hz with y | y
                · obtain ⟨i', b1, b2⟩ := hGP4 z y
                  exact ⟨i', a9.get b1, List.mem_append_left _ b2⟩
                · rw [List.mem_singleton.mp y]
                  exact ⟨i, a10, List.mem_append_right _ (List.mem_singleton.mpr rfl)⟩
              refine ⟨_, rfl, _, rfl, nd, _, rfl, DGet.t (k := pK x1 y1) hn4 ht, _, rfl, ?_⟩
              cases e5 : valV kvs3 (pK x1 y1) with
              | some v =>
                obtain ⟨i, rfl, hi⟩ := (hnum4.2 x1 y1).1 v e5
                refine nxT ?_
                refine app_is (K := K) (pd := eD ((taken : Int), (l : Int), (i : Int))) hev4 hel4 (by rw [List.length_map]; omega) e4 hbe (fun Q z => ⟨_, rfl, z⟩) (fun Q z => ⟨_, rfl, _, rfl, _, rfl, _, rfl, nd, _, rfl, e5 ▸ DGet.t (k := pK x1 y1) hn4 ht, by show 3 ≤ sizeLine; decide, fun u hu => z _ _ (Ex.new hu) (isEdge upd_same)⟩) fun H6 ev6 e6 o6 t6 hev6 hel6 => ?_
                exact fin H6 PL3 i kvs3 pv3 ev6 e6 (o6 _ _ hp4 npe) (hpl4.mono t6) (o6 _ _ hn4 nne) hnum4 hev6 hel6 hPB4 (Pre.refl _) hi
              | none =>
                have hnew := (hnum4.2 x1 y1).2 e5
                have hpvl3 := hpl4.len
                rw [List.length_map] at hpvl3
                refine ⟨_, rfl, pd, _, rfl, .inl (SqL.of hp4), _, rfl, _, rfl, nd, _, rfl, DPut.t (k := pK x1 y1) hn4 ht (lineLt (by rw [hnum4.1]; omega)), ?_⟩
                have tkd : Tk H4 (upd H4 nd (.dT (putK kvs3 (pK x1 y1) (.int (pv3.length : Int))))) := Tk.wr hn4 fun _ q => nomatch q
                have e4d : Ex Hb (upd H4 nd (.dT (putK kvs3 (pK x1 y1) (.int (pv3.length : Int))))) := Ex.mut e4 hbn
                have hp5 : upd H4 nd (.dT (putK kvs3 (pK x1 y1) (.int (pv3.length : Int)))) pd = some (.lst pv3) := by rw [upd_ne npn]; exact hp4
                have hev5 : upd H4 nd (.dT (putK kvs3 (pK x1 y1) (.int (pv3.length : Int)))) ed = some (.lst ev3) := by rw [upd_ne nne.symm]; exact hev4
                have hn5 : upd H4 nd (.dT (putK kvs3 (pK x1 y1) (.int (pv3.length : Int)))) nd = some (.dT (putK kvs3 (pK x1 y1) (.int (pv3.length : Int)))) := upd_same
                have ht5 := tkd _ _ ht
                generalize upd H4 nd (.dT (putK kvs3 (pK x1 y1) (.int (pv3.length : Int)))) = H5 at tkd e4d hp5 hev5 hn5 ht5
                (try dsimp only [gName, tNext])
                refine app_is (K := K) (pd := prD (x1, y1)) hp5 (hpl4.mono tkd) (by rw [List.length_map]; omega) e4d hbp (fun Q z => ⟨_, rfl, z⟩) (fun Q z => ⟨_, rfl, z _ _ (Ex.refl _) (isInts (ns := [x1, y1]) ht5)⟩) fun H6 pv6 e6 o6 t6 hp6 hpl6 => ?_
                have hn6 := o6 _ _ hn5 npn.symm
                have hev6 := o6 _ _ hev5 npe.symm
                have hpv6 := hpl6.len
                have hnum6 := hnum4.new e5
                rw [← hpvl3] at hnum6
                (try dsimp only [gName, tNext])
                refine app_is (K := K) (pd := eD ((taken : Int), (l : Int), ((pv3.length : Nat) : Int))) hev6 (hel4.mono (tkd.trans t6)) (by rw [List.length_map]; omega) e6 hbe (fun Q z => ⟨_, rfl, z⟩) (fun Q z => ⟨_, rfl, _, rfl, _, rfl, _, rfl, nd, .int ((pv3.length : Nat) : Int), rfl, ?_, by show 3 ≤ sizeLine; decide, fun u hu => z _ _ (Ex.new hu) (isEdge upd_same)⟩) fun H7 ev7 e7 o7 t7 hev7 hel7 => ?_
                · have := DGet.t (k := pK x1 y1) hn6 (t6 _ _ ht5)
                  rwa [valV_put, if_pos rfl] at this
                · refine fin H7 (PL3 ++ [(x1, y1)]) pv3.length _ pv6 ev7 e7 (o7 _ _ hp6 npe) ?_ (o7 _ _ hn6 nne) hnum6 hev7 hel7 (hPB4.new hokA hokB hnew hm1 hm2) ⟨_, rfl⟩ (by rw [hpvl3]; simp)
                  rw [List.map_append]
                  exact hpl6.mono t7
            · rintro σ3 H4 ⟨PL3, EL3, kvs3, pv3, ev3, v53, rfl, e4, hp4, hpl4, hn4, hnum4, hev4, hel4, hPB4, hpre4, hsub4, hGP4, hlen4⟩
              rw [hgn, List.take_length] at hGP4
              have hcl3 := hCnt2.letter hPB4.nd hpre4 hz2 (by omega : (l : Int) < A'.lt)
              rw [hgn, hGPl] at hlen4
              rw [← hlen4] at hcl3
              refine ⟨PL3, EL3, _, kvs3, pv3, ev3, v53, _, rfl, hHb.trans e4, hp4, hpl4, hn4, hnum4, hev4, hel4, hPB4, ?_, hcl3, hpre.trans hpre4⟩
              exact (hDone2.mono hpre4 hsub4 (List.getElem?_eq_some_iff.mp hz2).1).letter (hpre4.get hz2) fun x' y' h3 h4 => hGP4 _ ((hGP x' y').mpr ⟨h3, h4⟩)
          · rintro σ2 H2 ⟨PL2, EL2, ks2, kvs2, pv2, ev2, v52, v82, rfl, e', hp2, hpl2, hn2, hnum2, hev2, hel2, hPB2, hDone2, hCnt2, hpre⟩
            rw [Int.toNat_of_nonneg (by omega)] at hDone2 hCnt2
            refine ⟨_, rfl, _, _, rfl, rfl, ?_⟩
            have htl : taken < PL2.length := (List.getElem?_eq_some_iff.mp (hpre.get hz1)).1
            have hcap2 := pairs_cap hPB2
            exact ⟨A'.nd.toNat * B'.nd.toNat - (taken + 1), by omega, taken + 1, PL2, EL2, ks2, kvs2, pv2, ev2, v52, v82, rfl, rfl, e', hp2, hpl2, hn2, hnum2, hev2, hel2, hPB2, hDone2.next hokA, hCnt2.next, by omega⟩
end
end Zp
set_option maxRecDepth 100000
set_option maxHeartbeats 0
namespace Zp
open PySem L2 Zs Evl Pr
section
variable {P : Program} {w : World} {K : PySem.W.Frag} {mg : Str → Option Value} {base : Heap}
def sp_both (T : Txt K mg) : Sp := fun vs H Q _ => ∃ (p q : Addr) (A B : NetD), vs = [.ref p, .ref q] ∧ NetAt T.cNet.C H p A ∧ NetAt T.cNet.C H q B ∧ A.st = B.st ∧ A.lt = B.lt ∧ (∀ e ∈ A.ed, A.st ≤ e.2.2) ∧ A.ed.length ≤ 8 ∧ B.ed.length ≤ 200 ∧ A.nd ≤ 10 ∧ B.nd ≤ 10 ∧ A.lt ≤ 10 ∧ A.en.length ≤ 10 ∧ B.en.length ≤ 10 ∧
  ∀ (x : Addr) (N : NetD) H', Ex H H' → NetAt T.cNet.C H' x N → N.st = A.st → N.lt = A.lt → N.nd ≤ 4000 → (∀ c : Conf, 0 ≤ c.1 ∧ c.1 < A.st → (Acc N c ↔ Acc A c ∧ Acc B c)) → Q (.ref x) H'
theorem ok_both (T : Txt K mg) : FnOk P w K mg base CX0 5 T.f.both.f T.f.both.fd ["a", "b"] (sp_both T) := by
  refine T.f.both.F.ok sc_both (fun vs H Q E h => ?_) (fun cdv A outer s H vs Q E hr h => ?_)
  · obtain ⟨p, q, A, B, rfl, _⟩ := h
    rfl
  · obtain ⟨p, q, A', B', rfl, hA, hB, hst, hlt, hpl, l1, l2, l3, l4, l5, l6, l7, k⟩ := h
    have hokA := hA.sz.2.2
    have hokB := hB.sz.2.2
    have hu := hu_of hr
    have hnd := sc_both.nd
    refine ⟨_, (pss_cons (ps_expr (pe_call (ok_need_alike T) (hr.mono (by decide)) (by rfl) T.f.g_need_alike T.f.need_alike.F.kp T.f.need_alike.b .nil pass0 (pa_cons (L2.pv 0) (pa_cons (L2.pv 1) pa_nil))))
    (pss_cons (ps_set (i := 2) hnd rfl (by first | exact Or.inl rfl | exact Or.inr rfl) (pe_call (ok_plain T) (hr.mono (by decide)) (by rfl) T.f.g_plain T.f.plain.F.kp T.f.plain.b .nil pass0 (pa_cons (L2.pv 0) pa_nil)))
    (pss_cons (ps_set (i := 3) hnd rfl (by first | exact Or.inl rfl | exact Or.inr rfl) (pe_call (ok_plain T) (hr.mono (by decide)) (by rfl) T.f.g_plain T.f.plain.F.kp T.f.plain.b .nil pass0 (pa_cons (L2.pv 1) pa_nil)))
    (pss_cons (ps_asg (pe_call (ok_paired T) (hr.mono (by decide)) (by rfl) T.f.g_paired T.f.paired.F.kp T.f.paired.b .nil pass0 (pa_cons (L2.pv 2) (pa_cons (L2.pv 3) pa_nil))) (pg_tup rfl (pgs_cons (pg_name (i := 4) hnd rfl (by first | exact Or.inl rfl | exact Or.inr rfl)) (pgs_cons (pg_name (i := 5) hnd rfl (by first | exact Or.inl rfl | exact Or.inr rfl)) pgs_nil))))
    (pss_cons (ps_setLc (i := 6) (own := [("index", 7), ("pair", 8)]) (g := (gTup K 2 (gCons (gName 7) (gCons (gName 8) gNil)))) (tt := _) rfl hnd rfl rfl (sw_true rfl rfl rfl (by decide +kernel)) (pi_enum (by rfl) T.b.enumerate (pa_cons (L2.pv 4) pa_nil)) (blkOk_by (own := [("index", 7), ("pair", 8)]) (N := nm_both) (sc := defScope s_both) (by decide +kernel)) (fun _ _ _ _ _ => (pg_tup rfl (pgs_cons (pg_name (i := 7) hnd rfl (by first | exact Or.inl rfl | exact Or.inr rfl)) (pgs_cons (pg_name (i := 8) hnd rfl (by first | exact Or.inl rfl | exact Or.inr rfl)) pgs_nil)))) (fun _ _ _ _ _ => pts_one (PW.pt (pw_and (pt_cmpR (op_in_seqK (K := K) rfl) (pe_ix (ix_tupK (K := K) rfl) (L2.pv 8) (pe_int) (fun _ _ => rfl)) (pe_fldK (K := K) rfl (L2.pv 2) rfl) (by with_unfolding_all rfl)) (pw_and1 (pt_cmpR (op_in_seqK (K := K) rfl) (pe_ix (ix_tupK (K := K) rfl) (L2.pv 8) (pe_int) (fun _ _ => rfl)) (pe_fldK (K := K) rfl (L2.pv 3) rfl) (by with_unfolding_all rfl)))))) (fun _ _ _ _ _ => (L2.pv 7)))
    (pss_one (ps_ret (pe_make T.cNet.made (ok_Net_init T) (hr.mono (by decide)) (by rfl) T.cNet.mg T.cNet.init.b .nil pass0 (pa_cons (pe_fldK (K := K) rfl (L2.pv 2) rfl) (pa_cons (pe_fldK (K := K) rfl (L2.pv 2) rfl) (pa_cons (pe_callB call_len_seq (by rfl) T.b.len PySem.boot_len (pa_cons (L2.pv 4) pa_nil)) (pa_cons (L2.pv 5) (pa_cons (L2.pv 6) pa_nil))))))))))))), ?_⟩
    refine ⟨_, rfl, _, rfl, p, q, A', B', rfl, hA, hB, hst, hlt, fun v0 => ?_⟩
    refine ⟨_, rfl, p, A', rfl, hA, by omega, by omega, fun x1 A1 H1 e1 hA1 a1 a2 a3 a4 a5 a6 => ?_⟩
    cases a6 hpl
    refine ⟨_, rfl, q, B', rfl, hB.mono e1, by omega, by omega, fun x2 B1 H2 e2 hB1 b1 b2 b3 b4 b5 _ => ?_⟩
    have e12 := e1.trans e2
    have hA2 := hA1.mono e2
    have hokB1 := hB1.sz.2.2
    have hszE : A'.ed.length * B1.ed.length < 4000 := Nat.lt_of_le_of_lt (Nat.mul_le_mul l1 (by omega : B1.ed.length ≤ 400)) (by decide)
    have hszN : A'.nd.toNat * B1.nd.toNat < 4000 := Nat.lt_of_le_of_lt (Nat.mul_le_mul (by omega : A'.nd.toNat ≤ 10) (by have := hokB.nd; omega : B1.nd.toNat ≤ 20)) (by decide)
    refine ⟨_, rfl, _, rfl, x1, x2, A', B1, rfl, hA2, hB1, by rw [b1]; exact hst, by rw [b2]; exact hlt, hszE, hszN, by omega, fun r pd ed H3 pv ev PL EL e3 hr hpd hpv hed hev hPB hDone hEL => ?_⟩
    have e13 := e12.trans e3
    have hcap := pairs_cap hPB
    have hpn := hpv.len
    rw [List.length_map] at hpn
    obtain ⟨dx, a, b, g, es, gs, hn⟩ := id (hA2.mono e3)
    obtain ⟨dx', a', b', g', es', gs', hn'⟩ := id (hB1.mono e3)
    refine ⟨r, _, rfl, SqT.of hr, rfl, _, _, rfl, _, _, rfl, rfl, ?_⟩
    -- ends
    refine ⟨_, rfl, pd, pv, rfl, SqL.of hpd, fun D hD => ?_⟩
    refine lcR (walk_enum (K := K) (a := pd) (xs := pv)) hD (by omega) (fun H' e => SqL.of (e _ _ hpd)) (fun i acc _ => ∃ ns : List Int, acc = ns.map V.int ∧ ns.length ≤ i ∧ ∀ n, n ∈ ns ↔ ∃ (k : Nat) (x y : Int), k < i ∧ n = k ∧ PL[k]? = some (x, y) ∧ x ∈ A'.en ∧ y ∈ B1.en) (fun _ _ _ _ _ _ z => z) ⟨[], rfl, Nat.le_refl _, fun n => ⟨(fun h => nomatch h), fun ⟨k, _, _, h, _⟩ => absurd h (by omega)⟩⟩ ?_ ?_
    · rintro i acc x H4 H5 B1' B2' hi _ e4 hD4 ⟨ns, rfl, hns1, hns2⟩ ⟨t, y, z, rfl, ht, rfl, hy, hz⟩ kB kB'
      replace hz : pv[i]? = some z := hz
      cases hy
      have et := Ex.new (o := HO.tup [.int (i : Nat), z]) ht
      have e4t := e4.trans et
      obtain ⟨d0, hd0, hz0⟩ := (hpv.mono (Tk.of e4t)).get hz
      obtain ⟨⟨px, py⟩, hpz, rfl⟩ := tup_get hd0
      obtain ⟨u, rfl, hu'⟩ := Is.ints_iff.mp hz0
      refine ⟨t, _, rfl, SqT.of upd_same, rfl, _, _, rfl, _, _, rfl, rfl, rfl, ?_⟩
      have skip : ¬ (px ∈ A'.en ∧ py ∈ B1.en) → ∃ ns' : List Int, ns.map V.int = ns'.map V.int ∧ ns'.length ≤ i + 1 ∧ ∀ n, n ∈ ns' ↔ ∃ (k : Nat) (x y : Int), k < i + 1 ∧ n = k ∧ PL[k]? = some (x, y) ∧ x ∈ A'.en ∧ y ∈ B1.en := fun hno => by
        refine ⟨ns, rfl, by omega, fun n => (hns2 n).trans ⟨fun ⟨k, x, y, h1, h2⟩ => ⟨k, x, y, by omega, h2⟩, fun ⟨k, x, y, h1, h2, h3, h4, h5⟩ => ?_⟩⟩
        by_cases hk : k < i
        · exact ⟨k, x, y, hk, h2, h3, h4, h5⟩
        · obtain rfl : k = i := by omega
          rw [hpz] at h3
          cases h3
          exact (hno ⟨h4, h5⟩).elim
      refine ⟨_, rfl, u, _, _, _, rfl, rfl, SqT.of hu', rfl, _, rfl, _, _, _, _, _, rfl, (e4t _ _ hn.ob), T.cNet.cl, T.cNet.n_ends, fz_at ndNet (i := 4) rfl rfl, b, _, rfl, .inr (SqT.of (e4t _ _ hn.nb)), rfl, flat_ints _, _, rfl, ?_⟩
      show (if (inV (.int px) (A'.en.map V.int)) = true then _ else _)
      rw [inV_ints]
      refine iteD (fun h1 => ?_) fun h1 => kB' _ et (skip fun z => h1 z.1)
      refine ⟨_, rfl, u, _, _, _, rfl, rfl, SqT.of hu', rfl, _, rfl, _, _, _, _, _, rfl, (e4t _ _ hn'.ob), T.cNet.cl, T.cNet.n_ends, fz_at ndNet (i := 4) rfl rfl, b', _, rfl, .inr (SqT.of (e4t _ _ hn'.nb)), rfl, flat_ints _, _, rfl, ?_⟩
      show (if (inV (.int py) (B1.en.map V.int)) = true then _ else _)
      rw [inV_ints]
      refine iteD (fun h2 => ?_) fun h2 => kB' _ et (skip fun z => h2 z.2)
      refine ⟨_, rfl, kB _ _ et ⟨ns ++ [(i : Int)], by rw [List.map_append]; rfl, by simp; omega, fun n => ?_⟩⟩
      rw [List.mem_append, List.mem_singleton, hns2]
      constructor
      · rintro (⟨k, x, y, h3, h4⟩ | rfl)
        · exact ⟨k, x, y, by omega, h4⟩
        · exact ⟨i, px, py, by omega, rfl, hpz, h1, h2⟩
      · rintro ⟨k, x, y, h3, h4, h5, h6⟩
        by_cases hk : k < i
        · exact .inl ⟨k, x, y, hk, h4, h5, h6⟩
        · obtain rfl : k = i := by omega
          exact .inr h4
    · rintro acc H4 e4 hD4 _ ⟨ns, rfl, hns1, hns2⟩
      have e14 := e13.trans e4
      refine ⟨_, rfl, _, _, _, _, _, rfl, (e4 _ _ hn.ob), T.cNet.cl, T.cNet.n_states, fz_at ndNet (i := 0) rfl rfl, _, rfl, _, _, _, _, _, rfl, (e4 _ _ hn.ob), T.cNet.cl, T.cNet.n_letters, fz_at ndNet (i := 1) rfl rfl, _, rfl, pd, _, rfl, .inl (SqL.of (e4 _ _ hpd)), _, rfl, _, rfl, ?_⟩
      have hPsz : (A'.st : Int) ≤ (PL.length : Int) := by
        by_cases h0 : A'.st ≤ 0
        · omega
        · have h1 := hPB.start (A'.st.toNat - 1) (by omega)
          have := (List.getElem?_eq_some_iff.mp h1).1
          omega
      rw [hpn]
      refine make_net T (N := ⟨A'.st, A'.lt, (PL.length : Int), EL, ns⟩) (.inl (e4 _ _ hed)) (hev.mono (Tk.of e4)) (.inl hD4) ⟨hokA.st, hokA.lt, hPsz, fun e he => ?_, fun n hn2 => ?_⟩ hEL (by show ns.length < 4000; omega)
        fun x N' H5 e5 _ hN' c1 c2 c3 c4 c5 _ _ => k x N' H5 (e14.trans e5) hN' c1 c2 (by rw [c3]; show (PL.length : Int) ≤ 4000; omega) fun c hc => ?_
      · obtain ⟨ea, el, eb⟩ := e
        obtain ⟨k1, j1, x1, y1, x2', y2', rfl, rfl, h1, h2, h3, h4⟩ := hPB.so _ _ _ he
        have := (List.getElem?_eq_some_iff.mp h1).1
        have := (List.getElem?_eq_some_iff.mp h2).1
        have := (hokA.ed _ h3).2.1
        show (0 ≤ (k1 : Int) ∧ (k1 : Int) < PL.length) ∧ (0 ≤ el ∧ el < A'.lt) ∧ 0 ≤ (j1 : Int) ∧ (j1 : Int) < PL.length
        simp only at this
        omega
      · obtain ⟨k1, x1, y1, h1, rfl, _⟩ := (hns2 n).mp hn2
        show 0 ≤ (k1 : Int) ∧ (k1 : Int) < PL.length
        omega
      · have hprod : ProdOf A' B1 ⟨A'.st, A'.lt, (PL.length : Int), EL, ns⟩ PL := by
          refine ⟨hPB.start, fun k1 x1 y1 hk l x2' y2' h1 h2 => hDone k1 x1 y1 l x2' y2' hk (.inl (List.getElem?_eq_some_iff.mp hk).1) h1 h2, hPB.so, fun e => (hns2 e).trans ⟨fun ⟨k1, x1, y1, h1, h2, h3⟩ => ⟨k1, x1, y1, h2, h3⟩, fun ⟨k1, x1, y1, h2, h3, h4⟩ => ⟨k1, x1, y1, by rw [hpn]; exact (List.getElem?_eq_some_iff.mp h3).1, h2, h3, h4⟩⟩⟩
        rw [Acc.congr (N := ⟨A'.st, A'.lt, (PL.length : Int), EL, ns⟩) c4 c5, prod_acc hprod hc, b5 c (by rw [← hst]; exact hc)]
end
end Zp
/-! What ways gives; improving. -/
namespace Pr
abbrev Way := Int × Int × List Edge
def wStep (S : NS) (l : Int) (w : Way) : List Way := (S.ks.filter (selE w.1 l)).map fun e => (e.2.2, w.2.1 + S.num e, w.2.2 ++ [e])
def waysL (S : NS) (n : Int) : List Int → List Way → List Way
  | [], ws => ws
  | l :: ls, ws => waysL S n ls (ws.flatMap (wStep S l))
def ways0 (S : NS) (n : Int) (laid : List Int) : List Way := waysL S n laid [(n, 0, [])]
theorem wStep_len (S : NS) (l : Int) (ws : List Way) : (ws.flatMap (wStep S l)).length ≤ ws.length * S.ks.length := by
  induction ws with
  | nil => simp
  | cons w ws ih =>
    rw [List.flatMap_cons, List.length_append, List.length_cons, Nat.succ_mul]
    have : (wStep S l w).length ≤ S.ks.length := by
      unfold wStep
      rw [List.length_map]
      exact List.length_filter_le _ _
    omega
theorem Chain.snoc : ∀ {n m : Int} {ls : List Int} {ps : List Edge}, Chain n ls ps m → ∀ e : Edge, e.1 = m → Chain n (ls ++ [e.2.1]) (ps ++ [e]) e.2.2
  | n, m, [], [], h, e, he => ⟨he.trans (show n = m from h).symm, rfl, rfl⟩
  | n, m, l :: ls, p :: ps, ⟨h1, h2, h3⟩, e, he => ⟨h1, h2, Chain.snoc h3 e he⟩
theorem Chain.split : ∀ {n m : Int} {l : Int} {ls : List Int} {ps : List Edge}, Chain n (ls ++ [l]) ps m → ∃ qs e, ps = qs ++ [e] ∧ Chain n ls qs e.1 ∧ e.2.1 = l ∧ e.2.2 = m
  | n, m, l, [], [p], h => ⟨[], p, rfl, h.1.symm, h.2.1, h.2.2⟩
  | n, m, l, [], [], h => (h : False).elim
  | n, m, l, [], _ :: _ :: _, h => (h.2.2 : False).elim
  | n, m, l, x :: ls, [], h => (h : False).elim
  | n, m, l, x :: ls, p :: ps, ⟨h1, h2, h3⟩ => by
    obtain ⟨qs, e, rfl, h4, h5, h6⟩ := Chain.split h3
    exact ⟨p :: qs, e, rfl, ⟨h1, h2, h4⟩, h5, h6⟩
/-- all the chains over some letters -/
def WOk (S : NS) (n : Int) (ls : List Int) (ws : List Way) : Prop := ∀ m k ps, (m, k, ps) ∈ ws ↔ Chain n ls ps m ∧ (∀ p ∈ ps, p ∈ S.ks) ∧ k = sumN S.num ps
theorem WOk.nil (S : NS) (n : Int) : WOk S n [] [(n, 0, [])] := by
  intro m k ps
  rw [List.mem_singleton]
  constructor
  · intro h
    cases h
    exact ⟨rfl, fun p hp => (nomatch hp), rfl⟩
  · rintro ⟨h1, h2, h3⟩
    match ps, h1 with
    | [], h1 =>
      have : n = m := h1
      subst this
      rw [h3]
      rfl
theorem WOk.step {S : NS} {n l : Int} {ls : List Int} {ws : List Way} (h : WOk S n ls ws) : WOk S n (ls ++ [l]) (ws.flatMap (wStep S l)) := by
  intro m k ps
  rw [List.mem_flatMap]
  constructor
  · rintro ⟨⟨m0, k0, ps0⟩, h1, h2⟩
    obtain ⟨e, he, h3⟩ := List.mem_map.mp h2
    cases h3
    obtain ⟨he1, he2⟩ := List.mem_filter.mp he
    simp only [selE, Bool.and_eq_true, decide_eq_true_eq] at he2
    obtain ⟨c1, c2, c3⟩ := (h m0 k0 ps0).mp h1
    refine ⟨he2.2 ▸ c1.snoc e he2.1, fun p hp => ?_, by rw [sumN_snoc, c3]⟩
    rcases List.mem_append.mp hp with z | z
    · exact c2 p z
    · rw [List.mem_singleton.mp z]; exact he1
  · rintro ⟨c1, c2, c3⟩
    obtain ⟨qs, e, rfl, c4, c5, c6⟩ := c1.split
    have he : e ∈ S.ks := c2 e (by simp)
    refine ⟨(e.1, sumN S.num qs, qs), (h _ _ _).mpr ⟨c4, fun p hp => c2 p (List.mem_append_left _ hp), rfl⟩, List.mem_map.mpr ⟨e, List.mem_filter.mpr ⟨he, ?_⟩, ?_⟩⟩
    · simp only [selE, Bool.and_eq_true, decide_eq_true_eq]
      exact ⟨trivial, c5⟩
    · rw [c3, sumN_snoc, c6]
theorem waysL_ok {S : NS} {n : Int} : ∀ {ls ls0 : List Int} {ws : List Way}, WOk S n ls0 ws → WOk S n (ls0 ++ ls) (waysL S n ls ws)
  | [], ls0, ws, h => by rw [List.append_nil]; exact h
  | l :: ls, ls0, ws, h => by
    have := waysL_ok (ls := ls) (h.step (l := l))
    rwa [List.append_assoc] at this
theorem ways0_ok (S : NS) (n : Int) (ls : List Int) : WOk S n ls (ways0 S n ls) := by
  have := waysL_ok (ls := ls) (WOk.nil S n)
  exact this
theorem chain_rng {M : Mach} {N : NetD} {S : NS} {tm : Edge → Nat} {c : Nat} (I : NI M N S tm c) {m : Int} : ∀ {n : Int} {ls : List Int} {ps : List Edge}, Chain n ls ps m → (∀ p ∈ ps, p ∈ S.ks) → (0 ≤ n ∧ n < N.nd) → 0 ≤ m ∧ m < N.nd
  | n, [], [], h, _, hn => by rw [← (show n = m from h)]; exact hn
  | n, l :: ls, p :: ps, ⟨_, _, h3⟩, hs, _ => chain_rng I h3 (fun q hq => hs q (List.mem_cons_of_mem _ hq)) (I.rng p (hs p List.mem_cons_self)).2.2
/-- how far the numbers have come since S0 -/
structure Imp (M : Mach) (N : NetD) (S0 S : NS) (tm : Edge → Nat) (c : Nat) : Prop where
  ni : NI M N S tm c
  nb : NB S
  all : ∀ e ∈ N.ed, e ∈ S.ks
  sub : ∀ e ∈ S0.ks, e ∈ S.ks ∧ S.num e ≤ S0.num e
theorem Imp.put {M : Mach} {N : NetD} {S0 S : NS} {tm : Edge → Nat} {c : Nat} (hM : MOk M) (hN : NetOk N) (hst : N.st = M.st) (hlt : N.lt = M.lt) (I0 : NB S0) (h : Imp M N S0 S tm c) {i : Nat} {s : StepD} {m k : Int} {ps : List Edge} (hs : M.steps[i]? = some s)
    (hc : Chain s.goal s.laid ps m) (hsub : ∀ p ∈ ps, p ∈ S0.ks) (hk : k = sumN S0.num ps) (hpos : ∀ e ∈ S0.ks, 0 ≤ S0.num e) (hnd0 : S0.ks.Nodup) (hput : (s.state, s.letter, m) ∈ S.ks → s.weight + k < S.num (s.state, s.letter, m)) :
    Imp M N S0 (S.set (s.state, s.letter, m) (s.weight + k) (some i) ps) (upf tm (s.state, s.letter, m) c) (c + 1) ∧ Mu (capE N) (S.set (s.state, s.letter, m) (s.weight + k) (some i) ps) < Mu (capE N) S := by
  obtain ⟨r1, r2, r3, r4, r5, r6⟩ := hM.stp s (List.mem_of_getElem? hs)
  have hw := hM.wt s (List.mem_of_getElem? hs)
  have hnd := hN.nd
  have hsub' : ∀ p ∈ ps, p ∈ S.ks := fun p hp => (h.sub p (hsub p hp)).1
  have hrm := chain_rng h.ni hc hsub' (by omega)
  have hin : InR N (s.state, s.letter, m) := ⟨by show 0 ≤ s.state ∧ s.state < N.nd; omega, by show 0 ≤ s.letter ∧ s.letter < N.lt; omega, hrm⟩
  have hle : sumN S.num ps ≤ k := by
    rw [hk]
    exact sumN_le fun p hp => (h.sub p (hsub p hp)).2
  have hk0 : 0 ≤ k := by
    rw [hk]
    exact sumN_nonneg fun p hp => hpos p (hsub p hp)
  have hI := h.ni.putDrv hM hs hc hsub' hle hin hput h.all
  have hlen0 : S0.ks.length ≤ S.ks.length := nd_len _ _ hnd0 fun e he => (h.sub e he).1
  have hkb : s.weight + k ≤ bnd (S.ks.length + 1) := by
    show s.weight + k ≤ 2 * bnd S.ks.length + 5
    have h1 : k ≤ 2 * bnd S0.ks.length := by
      rw [hk]
      exact sumN_two (bnd_pos _) (by rw [hc.len]; exact r4) fun p hp => I0 p (hsub p hp)
    have := bnd_mono hlen0
    omega
  refine ⟨⟨hI, h.nb.set hkb hput, fun e he => mem_addK.mpr (.inl (h.all e he)), fun e he => ?_⟩, Mu_set h.ni.nd h.ni.pos (by omega) hkb hput (edges_len hI.nd hI.rng)⟩
  obtain ⟨h1, h2⟩ := h.sub e he
  refine ⟨mem_addK.mpr (.inl h1), ?_⟩
  show upf S.num (s.state, s.letter, m) (s.weight + k) e ≤ S0.num e
  by_cases hee : e = (s.state, s.letter, m)
  · subst hee
    rw [upf_same]
    have := hput h1
    omega
  · rw [upf_ne hee]
    exact h2
end Pr
set_option maxRecDepth 100000
set_option maxHeartbeats 0
namespace Zp
open PySem L2 Zs Evl Pr
/-- t + (x,) -/
theorem ev_cat1 {K : PySem.W.Frag} {ta tx : TE} {σ : L2.St} {H : Hp} {a : Addr} {xs : List V} {x : V} (ha : ∀ Q : VK, Q (.ref a) H → ta σ H Q) (hx : ∀ Q : VK, Q x H → tx σ H Q) (ht : H a = some (.tup xs)) (hl : xs.length < 100000) (Q : VK)
    (k : ∀ b H', Ex H H' → H' b = some (.tup (xs ++ [x])) → Q (.ref b) H') : tOp (rCatA K) ta (tTup (tCons tx tNil)) σ H Q := by
  refine ha _ (hx _ ⟨by show 1 ≤ sizeLine; decide, fun u hu => ?_⟩)
  have eu := Ex.new (o := HO.tup [x]) hu
  refine ⟨a, u, xs, [x], rfl, rfl, SqT.of (eu _ _ ht), SqT.of upd_same, lineOf (by rw [List.length_singleton]; omega), fun z => ?_, (fun _ z => nomatch z), fun _ _ p hp => ?_⟩
  · refine k u _ eu ?_
    rw [upd_same, z]
    rfl
  · exact k p _ (eu.trans (Ex.new hp)) upd_same
theorem keys_put {kvs : List (List Key × V)} {k : List Key} {v : V} : (putK kvs k v).map (·.1) = if (valV kvs k).isSome then kvs.map (·.1) else kvs.map (·.1) ++ [k] := by
  cases e : valV kvs k with
  | none =>
    rw [putK_new _ e]
    simp
  | some x =>
    unfold putK
    rw [valV_any, e]
    simp only [Option.isSome_some, if_true, List.map_map]
    refine List.map_congr_left fun p _ => ?_
    show (if p.1 = k then (p.1, v) else p).1 = p.1
    split <;> rfl
/-! ### Numbers -/
def nsNumbers : List Str := ["machine", "found", "leaving"]
theorem ndNumbers : nsNumbers.Nodup := by decide +kernel
def ixD : Option Nat → PD
  | none => .n
  | some i => .i (i : Int)
def fD (n : Int) (i : Option Nat) (ps : List Edge) : PD := .t [.i n, ixD i, .t (ps.map eD)]
structure FOk (H : Hp) (kvs : List (List Key × V)) (S : NS) : Prop where
  keys : kvs.map (·.1) = S.ks.map eK
  val : ∀ e ∈ S.ks, ∃ v, valV kvs (eK e) = some v ∧ Is H v (fD (S.num e) (S.ix e) (S.ps e))
  no : ∀ e, e ∉ S.ks → valV kvs (eK e) = none
theorem FOk.len {H : Hp} {kvs : List (List Key × V)} {S : NS} (h : FOk H kvs S) : kvs.length = S.ks.length := by
  have := congrArg List.length h.keys
  simpa using this
theorem FOk.mono {H H' : Hp} {kvs : List (List Key × V)} {S : NS} (e : Tk H H') (h : FOk H kvs S) : FOk H' kvs S := ⟨h.keys, fun x hx => by
  obtain ⟨v, h1, h2⟩ := h.val x hx
  exact ⟨v, h1, h2.mono e⟩, h.no⟩
theorem FOk.set {H H' : Hp} {kvs : List (List Key × V)} {S : NS} (e : Tk H H') (h : FOk H kvs S) {x : Edge} {n : Int} {i : Option Nat} {ps : List Edge} {v : V} (hv : Is H' v (fD n i ps)) : FOk H' (putK kvs (eK x) v) (S.set x n i ps) := by
  refine ⟨?_, fun y hy => ?_, fun y hy => ?_⟩
  · rw [keys_put]
    show _ = (addK S.ks x).map eK
    by_cases hx : x ∈ S.ks
    · obtain ⟨v', h1, _⟩ := h.val x hx
      rw [h1, if_pos (show (some v').isSome = true from rfl), addK_old hx]
      exact h.keys
    · rw [h.no x hx, if_neg (by simp), addK_new hx, h.keys, List.map_append]
      rfl
  · rw [valV_put]
    by_cases hyx : y = x
    · subst hyx
      rw [if_pos rfl]
      refine ⟨v, rfl, ?_⟩
      show Is H' v (fD (upf S.num y n y) (upf S.ix y i y) (upf S.ps y ps y))
      rw [upf_same, upf_same, upf_same]
      exact hv
    · rw [if_neg fun z => hyx (eK_inj z)]
      rcases mem_addK.mp hy with z | z
      · obtain ⟨v', h1, h2⟩ := h.val y z
        refine ⟨v', h1, ?_⟩
        show Is H' v' (fD (upf S.num x n y) (upf S.ix x i y) (upf S.ps x ps y))
        rw [upf_ne hyx, upf_ne hyx, upf_ne hyx]
        exact h2.mono e
      · exact (hyx z).elim
  · rw [valV_put]
    have h1 : y ≠ x := fun z => hy (mem_addK.mpr (.inr z))
    have h2 : y ∉ S.ks := fun z => hy (mem_addK.mpr (.inl z))
    rw [if_neg fun z => h1 (eK_inj z)]
    exact h.no y h2
def LfD (ks : List Edge) (k : List Key) : List PD := (ks.filter fun e => decide (pK e.1 e.2.1 = k)).map eD
structure NumIs (C : Addr) (H0 H : Hp) (p : Addr) (S : NS) (dx m f l : Addr) (kvs lv : List (List Key × V)) (L : List Key → List V) : Prop where
  ob0 : H0 p = some (.ins C dx (fz nsNumbers [.ref m, .ref f, .ref l]))
  e0 : Ex H0 H
  f0 : H0 f = none
  fa : H f = some (.dT kvs)
  fk : FOk H kvs S
  ld : DL HO.dT H0 H l lv L
  ll : ∀ k, IsL H (L k) (LfD S.ks k)
  nfl : f ≠ l
  sz : lv.length ≤ S.ks.length
theorem NumIs.mono {C : Addr} {H0 H H' : Hp} {p : Addr} {S : NS} {dx m f l : Addr} {kvs lv : List (List Key × V)} {L : List Key → List V} (e : Ex H H') (h : NumIs C H0 H p S dx m f l kvs lv L) : NumIs C H0 H' p S dx m f l kvs lv L :=
  ⟨h.ob0, h.e0.trans e, h.f0, e _ _ h.fa, h.fk.mono (Tk.of e), h.ld.mono e, fun k => (h.ll k).mono (Tk.of e), h.nfl, h.sz⟩
theorem NumIs.ob {C : Addr} {H0 H : Hp} {p : Addr} {S : NS} {dx m f l : Addr} {kvs lv : List (List Key × V)} {L : List Key → List V} (h : NumIs C H0 H p S dx m f l kvs lv L) : H p = some (.ins C dx (fz nsNumbers [.ref m, .ref f, .ref l])) := h.e0 _ _ h.ob0
/-- with what is new taken to the base -/
theorem NumIs.gr {C : Addr} {H0 H H' : Hp} {p : Addr} {S : NS} {dx m f l : Addr} {kvs lv : List (List Key × V)} {L : List Key → List V} (e : Ex H H') (h : NumIs C H0 H p S dx m f l kvs lv L) : NumIs C (gr H0 H H') H' p S dx m f l kvs lv L := by
  have h' := h.mono e
  refine ⟨gr_old h.e0 _ _ h.ob0, gr_ex h.e0 e, gr_own h.fa h.f0, h'.fa, h'.fk, ?_, h'.ll, h'.nfl, h'.sz⟩
  refine ⟨h'.ld.at_, gr_own h.ld.at_ h.ld.d0, fun k v hv => ?_, h.ld.no, h.ld.inj⟩
  obtain ⟨b, rfl, h1, h2, h3⟩ := h.ld.ls k v hv
  exact ⟨b, rfl, gr_own h3 h1, h2, e _ _ h3⟩
theorem cut2 (a b c : V) : cutV [a, b, c] none (some 2) = [a, b] := rfl
theorem not_whole (a b c : V) : ¬ (HT.sIx ([a, b, c] : List V).length 0 none = 0 ∧ HT.sIx ([a, b, c] : List V).length ([a, b, c] : List V).length (some 2) = ([a, b, c] : List V).length) := fun z => absurd z.2 (by show ¬ (2 : Nat) = 3; decide)
section
variable {P : Program} {w : World} {K : PySem.W.Frag} {mg : Str → Option Value} {base : Heap}
def sp_Numbers_put (T : Txt K mg) : Sp := fun vs H Q _ => ∃ (p : Addr) (v vi vp : V) (e : Edge) (n : Int) (i : Option Nat) (ps : List Edge) (H0 : Hp) (S : NS) (dx m f l : Addr) (kvs lv : List (List Key × V)) (L : List Key → List V), vs = [.ref p, v, .int n, vi, vp] ∧
  NumIs T.cNumbers.C H0 H p S dx m f l kvs lv L ∧ Is H v (eD e) ∧ Is H vi (ixD i) ∧ Is H vp (.t (ps.map eD)) ∧ S.ks.length ≤ 50000 ∧
  ((e ∈ S.ks ∧ S.num e ≤ n) → Q (.bl false) H) ∧
  ((e ∈ S.ks → n < S.num e) → ∀ H' kvs' lv' L', NumIs T.cNumbers.C H0 H' p (S.set e n i ps) dx m f l kvs' lv' L' → Tk H H' → Q (.bl true) H')
theorem ok_Numbers_put (T : Txt K mg) : FnOk P w K mg base CX0 1 T.cNumbers.put.f T.cNumbers.put.fd ["self", "edge", "number", "index", "parts"] (sp_Numbers_put T) := by
  refine T.cNumbers.put.F.ok sc_Numbers_put (fun vs H Q E h => ?_) (fun cdv A outer s H vs Q E hr h => ?_)
  · obtain ⟨p, v, vi, vp, e, n, i, ps, H0, S, dx, m, f, l, kvs, lv, L, rfl, _⟩ := h
    rfl
  · obtain ⟨p, v, vi, vp, e, n, i, ps, H0, S, dx, m, f, l, kvs, lv, L, rfl, N, hv, hvi, hvp, hsz, k1, k2⟩ := h
    obtain ⟨t, rfl, ht⟩ := Is.edge_iff.mp hv
    have hu := hu_of hr
    have hnd := sc_Numbers_put.nd
    refine ⟨_, (pss_cons (ps_if (PW.pt (pw_and (pt_cmp (pc_din hu (L2.pv 1) (pe_fldK (K := K) rfl (L2.pv 0) rfl)) rfl) (pw_and1 (pt_cmpR op_le (pe_ix (ix_tupK (K := K) rfl) (pe_dget hu (pe_fldK (K := K) rfl (L2.pv 0) rfl) (L2.pv 1) (fun _ _ => rfl)) (pe_int) (fun _ _ => rfl)) (L2.pv 2) (nomark _))))) (pss_one (ps_ret (pe_bl))) pss_nil)
    (pss_cons (ps_if (pt_cmp (pc_dnotin hu (L2.pv 1) (pe_fldK (K := K) rfl (L2.pv 0) rfl)) rfl) (pss_one (ps_expr (pe_bm PySem.F.plainAttrs_list PySem.F.slot_list_append PySem.F.type_list_append mt_append (pe_setdT hu (pe_fldK (K := K) rfl (L2.pv 0) rfl) (pe_slice sl_tupA (L2.pv 1) po_none (po_some (pe_int))) (pe_lst pa_nil) ⟨rfl, rfl, rfl, rfl⟩) (pa_cons (L2.pv 1) pa_nil)))) pss_nil)
    (pss_cons (ps_dput hu (pe_fldK (K := K) rfl (L2.pv 0) rfl) (L2.pv 1) (pe_tup (pa_cons (L2.pv 2) (pa_cons (L2.pv 3) (pa_cons (L2.pv 4) pa_nil)))) rfl)
    (pss_one (ps_ret (pe_bl)))))), ?_⟩
    have fin : (e ∈ S.ks → n < S.num e) → ∀ (H1 : Hp) (lv1 : List (List Key × V)) (L1 : List Key → List V), Tk H H1 → Ex H0 H1 → H1 f = some (.dT kvs) → DL HO.dT H0 H1 l lv1 L1 → (∀ k, IsL H1 (L1 k) (LfD (addK S.ks e) k)) → lv1.length ≤ (addK S.ks e).length →
        tSeq (sDPut (tFld K (tVar 0) "found") (tVar 1) (tTup (tCons (tVar 2) (tCons (tVar 3) (tCons (tVar 4) tNil))))) (tRet (tC (.bl true))) { nx := fun _ H' => Q .non H', rt := Q } [some (.ref p), some (.ref t), some (.int n), some vi, some vp] H1 := by
      intro hput H1 lv1 L1 tk e01 hf1 hl1 hll1 hsz1
      have hob1 := e01 _ _ N.ob0
      refine ⟨_, rfl, _, rfl, _, rfl, by show 3 ≤ sizeLine; decide, fun u hu => ?_⟩
      have eu := Ex.new (o := HO.tup [.int n, vi, vp]) hu
      have fk1 := N.fk.mono tk
      refine ⟨_, rfl, _, _, _, _, _, rfl, (eu _ _ hob1), T.cNumbers.cl, T.cNumbers.n_found, fz_at ndNumbers (i := 1) rfl rfl, _, rfl, f, _, rfl, DPut.t (k := eK e) (eu _ _ hf1) (eu _ _ (tk _ _ ht)) (lineLt (by rw [N.fk.len]; omega)), ?_⟩
      have tk2 : Tk H1 (upd (upd H1 u (.tup [.int n, vi, vp])) f (.dT (putK kvs (eK e) (.ref u)))) := (Tk.of eu).trans (Tk.wr (eu _ _ hf1) fun _ q => nomatch q)
      have hfu : upd (upd H1 u (.tup [.int n, vi, vp])) f (.dT (putK kvs (eK e) (.ref u))) u = some (.tup [.int n, vi, vp]) := by
        rw [upd_ne (ne_of upd_same (eu _ _ hf1) (by intro z; cases z))]
        exact upd_same
      refine k2 hput _ (putK kvs (eK e) (.ref u)) lv1 L1 ⟨N.ob0, Ex.mut (e01.trans eu) N.f0, N.f0, upd_same, N.fk.set (tk.trans tk2) ?_, (hl1.mono eu).off Off.put N.nfl (by rw [eu _ _ hf1]; intro xs z; cases z), fun k => (hll1 k).mono tk2, N.nfl, hsz1⟩ (tk.trans tk2)
      exact Is.mk hfu (.cons (Is.int n) (.cons (hvi.mono (tk.trans tk2)) (.cons (hvp.mono (tk.trans tk2)) .nil)))
    refine ⟨_, rfl, _, rfl, _, _, _, _, _, rfl, N.ob, T.cNumbers.cl, T.cNumbers.n_found, fz_at ndNumbers (i := 1) rfl rfl, f, _, rfl, DGet.t (k := eK e) N.fa ht, _, rfl, ?_⟩
    by_cases he : e ∈ S.ks
    · obtain ⟨fv, hfv, hfi⟩ := N.fk.val e he
      obtain ⟨tf, fvs, rfl, htf, hfl⟩ := Is.t_iff.mp hfi
      obtain ⟨y1, r1, rfl, hy1, hr1⟩ := IsL.cons_iff.mp hfl
      cases Is.i_iff.mp hy1
      rw [hfv]
      refine ⟨_, rfl, _, _, _, _, _, rfl, N.ob, T.cNumbers.cl, T.cNumbers.n_found, fz_at ndNumbers (i := 1) rfl rfl, _, rfl, f, _, rfl, hfv ▸ DGet.t (k := eK e) N.fa ht, tf, _, _, _, rfl, rfl, SqT.of htf, atI_int (Int.le_refl 0) rfl, _, rfl, _, _, rfl, rfl, _, rfl, iteD (fun h1 => ?_) fun h1 => ?_⟩
      · exact k1 ⟨he, h1⟩
      · refine nxT ?_
        refine ⟨_, rfl, _, rfl, _, _, _, _, _, rfl, N.ob, T.cNumbers.cl, T.cNumbers.n_found, fz_at ndNumbers (i := 1) rfl rfl, f, _, rfl, hfv ▸ DGet.t (k := eK e) N.fa ht, _, rfl, ?_⟩
        refine nxT ?_
        exact fin (fun _ => by omega) H lv L (Tk.refl _) N.e0 N.fa N.ld (by rw [addK_old he]; exact N.ll) (by rw [addK_old he]; exact N.sz)
    · have hno := N.fk.no e he
      rw [hno]
      refine nxT ?_
      refine ⟨_, rfl, _, rfl, _, _, _, _, _, rfl, N.ob, T.cNumbers.cl, T.cNumbers.n_found, fz_at ndNumbers (i := 1) rfl rfl, f, _, rfl, hno ▸ DGet.t (k := eK e) N.fa ht, _, rfl, ?_⟩
      have hLl := (N.ll (pK e.1 e.2.1)).len
      unfold LfD at hLl
      rw [List.length_map] at hLl
      have hfl := List.length_filter_le (fun x => decide (pK x.1 x.2.1 = pK e.1 e.2.1)) S.ks
      have hsz' := N.sz
      refine setdT_app (K := K) (k := pK e.1 e.2.1) (X := fun x _ => x = .ref t) N.ld N.e0 (by omega) (by omega) (fun Q z => ⟨_, rfl, _, _, _, _, _, rfl, N.ob, T.cNumbers.cl, T.cNumbers.n_leaving, fz_at ndNumbers (i := 2) rfl rfl, z⟩) (fun Q z => ⟨_, rfl, _, rfl, t, _, rfl, SqT.of ht, (fun w => absurd w (not_whole _ _ _)), fun _ q hq => z q hq⟩) (fun H1 _ Q z => ⟨_, rfl, z _ _ (Ex.refl _) rfl⟩) fun x H2 H3 lv' e3 tk3 kp3 hl3 ow3 D3 hX tk23 => ?_
      subst hX
      have nfo : ¬ Own l lv f := by
        rintro (z | ⟨k, hk⟩)
        · exact N.nfl z
        · obtain ⟨b, eb, _, _, h4⟩ := N.ld.ls k _ hk
          cases eb
          rw [N.fa] at h4
          cases h4
      refine fin (fun z => (he z).elim) H3 lv' _ tk3 e3 (kp3 _ _ (by rw [minus_ne nfo]; exact N.fa)) D3 (fun k => ?_) (by rw [addK_new he, List.length_append]; simp; omega)
      rw [addK_new he]
      unfold LfD pushL
      rw [List.filter_append, List.map_append]
      by_cases hk : k = pK e.1 e.2.1
      · subst hk
        rw [if_pos rfl]
        refine ((N.ll _).mono tk3).app ?_
        rw [show [e].filter (fun x : Edge => decide (pK x.1 x.2.1 = pK e.1 e.2.1)) = [e] by simp]
        exact .cons (hv.mono tk3) .nil
      · rw [if_neg hk, show [e].filter (fun x : Edge => decide (pK x.1 x.2.1 = k)) = [] by simp [Ne.symm hk], List.map_nil, List.append_nil]
        exact (N.ll k).mono tk3
end
end Zp
set_option maxRecDepth 100000
set_option maxHeartbeats 0
namespace Zp
open PySem L2 Zs Evl Pr
/-- for over a list that is computed -/
theorem for_ev {K : PySem.W.Frag} {te : TE} {g : TG} {tb : TS} {D : Ends} {σ : L2.St} {H : Hp} (h : te σ H fun x H1 => ∃ a, x = .ref a ∧ (∃ xs, SqL K H1 a xs) ∧ ∃ W : Nat → Nat → L2.St → Hp → Prop, (∃ m, W 0 m σ H1) ∧ ∀ i m σ H, W i m σ H →
  ((Itl K a).stop i H ∧ D.nx σ H) ∨ ((Itl K a).go i H ∧ ∃ N : L2.St → Hp → Prop, (∀ σ' H', N σ' H' → ∃ m', m' < m ∧ W (i + 1) m' σ' H') ∧ ∀ x H', (Itl K a).yld i H x H' → g x σ H' fun σ2 H2 => tb { D with nx := N, ct := N, bk := D.nx } σ2 H2)) : tFor (iList K te) g tb D σ H := h
def wD (w : Way) : PD := .t [.i w.1, .i w.2.1, .t (w.2.2.map eD)]
theorem waysL_snoc (S : NS) (n l : Int) : ∀ (ls : List Int) (ws : List Way), waysL S n (ls ++ [l]) ws = (waysL S n ls ws).flatMap (wStep S l)
  | [], ws => rfl
  | x :: ls, ws => waysL_snoc S n l ls _
theorem LfD_sel (ks : List Edge) (n l : Int) : LfD ks (pK n l) = (ks.filter (selE n l)).map eD := by
  unfold LfD
  congr 1
  refine List.filter_congr fun e _ => ?_
  unfold selE
  rw [Bool.eq_iff_iff, Bool.and_eq_true, decide_eq_true_iff, decide_eq_true_iff, decide_eq_true_iff]
  constructor
  · intro h; exact pK_inj h
  · rintro ⟨rfl, rfl⟩; rfl
theorem ways_len1 (S : NS) (n : Int) : ∀ (ls : List Int) (ws : List Way), (waysL S n ls ws).length ≤ ws.length * S.ks.length ^ ls.length
  | [], ws => by simp [waysL]
  | l :: ls, ws => by
    have h1 := ways_len1 S n ls (ws.flatMap (wStep S l))
    have h2 := wStep_len S l ws
    show (waysL S n ls (ws.flatMap (wStep S l))).length ≤ _
    rw [List.length_cons, Nat.pow_succ, Nat.mul_comm (_ ^ _), ← Nat.mul_assoc]
    exact Nat.le_trans h1 (Nat.mul_le_mul_right _ h2)
section
variable {P : Program} {w : World} {K : PySem.W.Frag} {mg : Str → Option Value} {base : Heap}
def sp_Numbers_ways (T : Txt K mg) : Sp := fun vs H Q _ => ∃ (p : Addr) (v : V) (node : Int) (laid : List Int) (H0 : Hp) (S : NS) (dx m f l : Addr) (kvs lv : List (List Key × V)) (L : List Key → List V), vs = [.ref p, .int node, v] ∧
  NumIs T.cNumbers.C H0 H p S dx m f l kvs lv L ∧ Is H v (iD laid) ∧ laid.length ≤ 2 ∧ S.ks.length ≤ 300 ∧
  ∀ (r : Addr) H' (wv : List V), Ex H H' → H r = none → H' r = some (.lst wv) → IsL H' wv ((ways0 S node laid).map wD) → Q (.ref r) H'
theorem ok_Numbers_ways (T : Txt K mg) : FnOk P w K mg base CX0 1 T.cNumbers.ways.f T.cNumbers.ways.fd ["self", "node", "laid"] (sp_Numbers_ways T) := by
  refine T.cNumbers.ways.F.ok sc_Numbers_ways (fun vs H Q E h => ?_) (fun cdv A outer s H vs Q E hr h => ?_)
  · obtain ⟨p, v, node, laid, H0, S, dx, m, f, l, kvs, lv, L, rfl, _⟩ := h
    rfl
  · obtain ⟨p, v, node, laid, H0, S, dx, m, f, l, kvs, lv, L, rfl, N, hv, hl2, hsz, k⟩ := h
    obtain ⟨lt, rfl, hlt⟩ := Is.ints_iff.mp hv
    have hwl : ∀ i, i ≤ 2 → (waysL S node (laid.take i) [(node, 0, [])]).length ≤ 90000 := fun i hi => by
      refine Nat.le_trans (ways_len1 S node _ _) ?_
      rw [List.length_singleton, Nat.one_mul]
      have h1 : (laid.take i).length ≤ 2 := by rw [List.length_take]; omega
      calc S.ks.length ^ (laid.take i).length ≤ 300 ^ (laid.take i).length := Nat.pow_le_pow_left hsz _
        _ ≤ 300 ^ 2 := Nat.pow_le_pow_right (by decide) h1
        _ = 90000 := rfl
    have hu := hu_of hr
    have hnd := sc_Numbers_ways.nd
    refine ⟨_, (pss_cons (ps_set (i := 3) hnd rfl (by first | exact Or.inl rfl | exact Or.inr rfl) (pe_lst (pa_cons (pe_tup (pa_cons (L2.pv 1) (pa_cons (pe_int) (pa_cons (pe_tup pa_nil) pa_nil)))) pa_nil)))
    (pss_cons (ps_for PassesOwn.never rfl (pi_tup (L2.pv 2)) (pg_name (i := 4) hnd rfl (by first | exact Or.inl rfl | exact Or.inr rfl))
      (pss_cons (ps_set (i := 5) hnd rfl (by first | exact Or.inl rfl | exact Or.inr rfl) (pe_lst pa_nil))
    (pss_cons (ps_for PassesOwn.never rfl (pi_listK (K := K) rfl (L2.pv 3)) (pg_tup rfl (pgs_cons (pg_name (i := 6) hnd rfl (by first | exact Or.inl rfl | exact Or.inr rfl)) (pgs_cons (pg_name (i := 7) hnd rfl (by first | exact Or.inl rfl | exact Or.inr rfl)) (pgs_cons (pg_name (i := 8) hnd rfl (by first | exact Or.inl rfl | exact Or.inr rfl)) pgs_nil))))
      (pss_one (ps_for PassesOwn.never rfl (pi_listK (K := K) rfl (pe_dget2 hu (pe_fldK (K := K) rfl (L2.pv 0) rfl) (pe_tup (pa_cons (L2.pv 6) (pa_cons (L2.pv 4) pa_nil))) (pe_lst pa_nil) ⟨rfl, rfl, rfl, rfl⟩)) (pg_name (i := 9) hnd rfl (by first | exact Or.inl rfl | exact Or.inr rfl))
      (pss_one (ps_expr (pe_bm PySem.F.plainAttrs_list PySem.F.slot_list_append PySem.F.type_list_append mt_append (L2.pv 5) (pa_cons (pe_tup (pa_cons (pe_ix (ix_tupK (K := K) rfl) (L2.pv 9) (pe_int) (fun _ _ => rfl)) (pa_cons (pe_op op_add (L2.pv 7) (pe_ix (ix_tupK (K := K) rfl) (pe_dget hu (pe_fldK (K := K) rfl (L2.pv 0) rfl) (L2.pv 9) (fun _ _ => rfl)) (pe_int) (fun _ _ => rfl))) (pa_cons (pe_op op_catA (L2.pv 8) (pe_tup (pa_cons (L2.pv 9) pa_nil))) pa_nil)))) pa_nil)))))))
    (pss_one (ps_set (i := 3) hnd rfl (by first | exact Or.inl rfl | exact Or.inr rfl) (L2.pv 5))))))
    (pss_one (ps_ret (L2.pv 3))))), ?_⟩
    refine ⟨_, rfl, Nat.zero_le _, fun t0 ht0 => ?_⟩
    have et0 := Ex.new (o := HO.tup []) ht0
    refine ⟨by show 3 ≤ sizeLine; decide, fun t1 ht1 => ?_⟩
    have et1 := et0.trans (Ex.new (o := HO.tup [.int node, .int 0, .ref t0]) ht1)
    refine ⟨by show 1 ≤ sizeLine; decide, fun p0 hp0 => ?_⟩
    have ep0 := et1.trans (Ex.new (o := HO.lst [.ref t1]) hp0)
    refine ⟨_, rfl, lt, rfl, ⟨_, SqT.of (ep0 _ _ hlt)⟩, for_tup (K := K) (a := lt) (xs := laid.map V.int)
      (fun i σ' H' => ∃ (pa : Addr) (pv : List V) (v4 v5 v6 v7 v8 v9 : Option V), σ' = [some (.ref p), some (.int node), some (.ref lt), some (.ref pa), v4, v5, v6, v7, v8, v9] ∧ Ex H H' ∧ H pa = none ∧ H' pa = some (.lst pv) ∧ IsL H' pv ((waysL S node (laid.take i) [(node, 0, [])]).map wD)) ?_ ?_ ?_ ?_⟩
    · refine ⟨p0, _, none, none, none, none, none, none, rfl, ep0, fresh_back et1 hp0, upd_same, .cons ?_ .nil⟩
      exact Is.mk (Ex.new hp0 _ _ upd_same) (.cons (Is.int _) (.cons (Is.int _) (.cons (Is.mk (Ex.new hp0 _ _ (Ex.new ht1 _ _ upd_same)) .nil) .nil)))
    · rintro i σ' H' _ ⟨_, _, _, _, _, _, _, _, rfl, e, _⟩
      exact SqT.of (e _ _ hlt)
    · rintro i x σ' H' hx ⟨pa, pv, v4, v5, v6, v7, v8, v9, rfl, e, hpa0, hpa, hpv⟩
      obtain ⟨li, hli, rfl⟩ := ints_get hx
      have hi2 : i < laid.length := (List.getElem?_eq_some_iff.mp hli).1
      have htk : laid.take (i + 1) = laid.take i ++ [li] := by rw [List.take_add_one, hli]; rfl
      generalize hW : waysL S node (laid.take i) [(node, 0, [])] = WS at hpv
      have hWn : waysL S node (laid.take (i + 1)) [(node, 0, [])] = WS.flatMap (wStep S li) := by rw [htk, waysL_snoc, hW]
      have hWl := hwl (i + 1) (by omega)
      rw [hWn] at hWl
      have hpn := hpv.len
      rw [List.length_map] at hpn
      refine ⟨Nat.zero_le _, fun lo hlo => ?_⟩
      have elo := e.trans (Ex.new (o := HO.lst []) hlo)
      have hlo0 := fresh_back e hlo
      have hpl : pa ≠ lo := ne_of_none hpa hlo
      refine ⟨_, rfl, pa, rfl, ⟨_, SqL.of (Ex.new hlo _ _ hpa)⟩, for_list (K := K) (a := pa) (xs := pv)
        (fun j σ2 H2 => ∃ (lo_v : List V) (v6 v7 v8 v9 : Option V), σ2 = [some (.ref p), some (.int node), some (.ref lt), some (.ref pa), some (.int li), some (.ref lo), v6, v7, v8, v9] ∧ Ex H' H2 ∧ H2 lo = some (.lst lo_v) ∧ IsL H2 lo_v (((WS.take j).flatMap (wStep S li)).map wD)) ?_ ?_ ?_ ?_⟩
      · exact ⟨[], v6, v7, v8, v9, rfl, Ex.new hlo, upd_same, .nil⟩
      · rintro j σ2 H2 _ ⟨_, _, _, _, _, rfl, e2, _⟩
        exact SqL.of (e2 _ _ hpa)
      · rintro j y σ2 H2 hy ⟨lov, v6, v7, v8, v9, rfl, e2, hlo2, hlov⟩
        obtain ⟨d0, hd0, hy0⟩ := (hpv.mono (Tk.of e2)).get hy
        obtain ⟨⟨we, wn, wps⟩, hwy, rfl⟩ := tup_get hd0
        have hjl : j < WS.length := (List.getElem?_eq_some_iff.mp hwy).1
        obtain ⟨ty, tvs, rfl, hty, htl⟩ := Is.t_iff.mp hy0
        obtain ⟨y1, r1, rfl, hy1, hr1⟩ := IsL.cons_iff.mp htl
        obtain ⟨y2, r2, rfl, hy2, hr2⟩ := IsL.cons_iff.mp hr1
        obtain ⟨y3, r3, rfl, hy3, hr3⟩ := IsL.cons_iff.mp hr2
        cases IsL.nil_iff.mp hr3
        cases Is.i_iff.mp hy1
        cases Is.i_iff.mp hy2
        obtain ⟨pt, pvs, rfl, hpt, hpl3⟩ := Is.t_iff.mp hy3
        have hwps : wps.length ≤ 2 := by
          have h1 := waysL_ok (ls := laid.take i) (WOk.nil S node)
          rw [hW] at h1
          have h2 := ((h1 we wn wps).mp (List.mem_of_getElem? hwy)).1.len
          rw [h2, List.nil_append, List.length_take]
          omega
        have hwtk : (WS.take (j + 1)).flatMap (wStep S li) = (WS.take j).flatMap (wStep S li) ++ wStep S li (we, wn, wps) := by
          rw [List.take_add_one, hwy]
          simp
        have eH2 := e.trans e2
        have N2 := N.mono eH2
        refine ⟨ty, _, rfl, SqT.of hty, rfl, _, _, rfl, _, _, rfl, _, _, rfl, rfl, ?_⟩
        refine for_ev (ev_getTL (k := pK we li) N2.ld.at_ N2.ld.dr (fun Q z => ⟨_, rfl, _, _, _, _, _, rfl, N2.ob, T.cNumbers.cl, T.cNumbers.n_leaving, fz_at ndNumbers (i := 2) rfl rfl, z⟩) (fun Q z => ⟨_, rfl, _, rfl, by show 2 ≤ sizeLine; decide, z⟩) _ fun a H3 e3 ha hor => ?_)
        have hLl := (N2.ll (pK we li)).mono (Tk.of e3)
        rw [LfD_sel] at hLl
        have nal : a ≠ lo := by
          rcases hor with z | z
          · obtain ⟨b, eb, _, _, hb⟩ := N.ld.ls _ _ z
            cases eb
            exact ne_of_none hb hlo0
          · exact (ne_of_none hlo2 z).symm
        have hlo3 := e3 _ _ hlo2
        have inb : ∀ z o, H3 z = some o → z ≠ lo → lessH H3 lo z = some o := fun z o h hz => by rw [lessH_ne hz]; exact h
        have hHb : Ex H' (lessH H3 lo) := fun z o h => inb z o ((e2.trans e3) z o h) (ne_of_none h hlo)
        have hab := inb _ _ ha nal
        have hLb : IsL (lessH H3 lo) (L (pK we li)) ((S.ks.filter (selE we li)).map eD) := hLl.mono fun z xs h => inb z _ h (ne_of h hlo3 (by intro q; cases q))
        have htyb := inb _ _ (e3 _ _ hty) (ne_of (e3 _ _ hty) hlo3 (by intro q; cases q))
        have hptb := inb _ _ (e3 _ _ hpt) (ne_of (e3 _ _ hpt) hlo3 (by intro q; cases q))
        have hplb : IsL (lessH H3 lo) pvs (wps.map eD) := hpl3.mono fun z xs h => inb z _ (e3 _ _ h) (ne_of (e3 _ _ h) hlo3 (by intro q; cases q))
        have hb0 := lessH_ex H3 lo
        have hbl : lessH H3 lo lo = none := lessH_at
        generalize lessH H3 lo = Hb at hHb hab hLb htyb hptb hplb hb0 hbl
        have eHb := e.trans hHb
        have Nb := N.mono eHb
        refine ⟨a, rfl, ⟨_, SqL.of ha⟩, for_list (K := K) (a := a) (xs := L (pK we li))
          (fun q σ3 H4 => ∃ (lo_v : List V) (v9 : Option V), σ3 = [some (.ref p), some (.int node), some (.ref lt), some (.ref pa), some (.int li), some (.ref lo), some (.int we), some (.int wn), some (.ref pt), v9] ∧ Ex Hb H4 ∧ H4 lo = some (.lst lo_v) ∧
            IsL H4 lo_v ((((WS.take j).flatMap (wStep S li)) ++ ((S.ks.filter (selE we li)).take q).map fun e => (e.2.2, wn + S.num e, wps ++ [e])).map wD)) ?_ ?_ ?_ ?_⟩
        · exact ⟨lov, v9, rfl, hb0, hlo3, by rw [List.take_zero, List.map_nil, List.append_nil]; exact hlov.mono (Tk.of e3)⟩
        · rintro q σ3 H4 _ ⟨_, _, rfl, e4, _⟩
          exact SqL.of (e4 _ _ hab)
        · rintro q z σ3 H4 hz ⟨lov4, v9, rfl, e4, hlo4, hlov4⟩
          obtain ⟨d1, hd1, hz0⟩ := (hLb.mono (Tk.of e4)).get hz
          obtain ⟨ed, hed, rfl⟩ := tup_get hd1
          have hedk := (List.mem_filter.mp (List.mem_of_getElem? hed)).1
          obtain ⟨u, rfl, hu'⟩ := Is.edge_iff.mp hz0
          have N4 := Nb.mono e4
          obtain ⟨fv, hfv, hfi⟩ := N4.fk.val ed hedk
          obtain ⟨tf, fvs, rfl, htf, hfl⟩ := Is.t_iff.mp hfi
          obtain ⟨g1, gr1, rfl, hg1, hgr1⟩ := IsL.cons_iff.mp hfl
          cases Is.i_iff.mp hg1
          have hlen4 := hlov4.len
          have hql : q < (S.ks.filter (selE we li)).length := (List.getElem?_eq_some_iff.mp hed).1
          have hbig : (((WS.take j).flatMap (wStep S li)) ++ ((S.ks.filter (selE we li)).take q).map fun e => (e.2.2, wn + S.num e, wps ++ [e])).length < 100000 := by
            have h1 : ((WS.take (j + 1)).flatMap (wStep S li)).length ≤ (WS.flatMap (wStep S li)).length := by
              conv => rhs; rw [← List.take_append_drop (j + 1) WS]
              rw [List.flatMap_append, List.length_append]
              omega
            rw [hwtk, List.length_append] at h1
            have h2 : (wStep S li (we, wn, wps)).length = (S.ks.filter (selE we li)).length := by
              unfold wStep
              rw [List.length_map]
            rw [List.length_append, List.length_map, List.length_take]
            omega
          have hnew : (((S.ks.filter (selE we li)).take (q + 1)).map fun e => ((e.2.2, wn + S.num e, wps ++ [e]) : Way)) = (((S.ks.filter (selE we li)).take q).map fun e => (e.2.2, wn + S.num e, wps ++ [e])) ++ [(ed.2.2, wn + S.num ed, wps ++ [ed])] := by
            rw [List.take_add_one, hed]
            simp
          have hpt4 := e4 _ _ hptb
          have hpl4 := hplb.mono (Tk.of e4)
          refine app_is (K := K) (pd := wD (ed.2.2, wn + S.num ed, wps ++ [ed])) hlo4 hlov4 (by rw [List.length_map]; exact hbig) e4 hbl (fun Q z => ⟨_, rfl, z⟩) (fun Q kz => ⟨_, rfl, u, _, _, _, rfl, rfl, SqT.of hu', rfl, _, rfl, _, rfl, _, _, _, _, _, rfl, N4.ob, T.cNumbers.cl, T.cNumbers.n_found, fz_at ndNumbers (i := 1) rfl rfl, _, rfl, f, _, rfl, hfv ▸ DGet.t (k := eK ed) N4.fa hu', tf, _, _, _, rfl, rfl, SqT.of htf, atI_int (Int.le_refl 0) rfl, _, _, rfl, rfl, ?_⟩) fun H5 lov5 e5 o5 t5 hlo5 hlov5 => ?_
          · refine ev_cat1 (fun Q z => ⟨_, rfl, z⟩) (fun Q z => ⟨_, rfl, z⟩) hpt4 (by have := hpl4.len; rw [List.length_map] at this; omega) _ fun b H6 e6 hb => ⟨by show 3 ≤ sizeLine; decide, fun un hun => kz _ _ (e6.trans (Ex.new hun)) (Is.mk upd_same (.cons (Is.int _) (.cons (Is.int _) (.cons (Is.mk (Ex.new hun _ _ hb) ?_) .nil))))⟩
            rw [List.map_append]
            exact (hpl4.mono (Tk.of (e6.trans (Ex.new hun)))).app (.cons (hz0.mono (Tk.of (e6.trans (Ex.new hun)))) .nil)
          · refine ⟨lov5, _, rfl, e5, hlo5, ?_⟩
            rw [hnew, ← List.append_assoc, List.map_append]
            exact hlov5
        · rintro σ3 H4 ⟨lov4, v9, rfl, e4, hlo4, hlov4⟩
          have hll := hLb.len
          rw [List.length_map] at hll
          rw [hll, List.take_length] at hlov4
          refine ⟨lov4, _, _, _, v9, rfl, hHb.trans e4, hlo4, ?_⟩
          rw [hwtk]
          exact hlov4
      · rintro σ2 H2 ⟨lov, v6, v7, v8, v9, rfl, e2, hlo2, hlov⟩
        rw [hpn, List.take_length] at hlov
        refine ⟨_, rfl, lo, lov, _, _, v6, v7, v8, v9, rfl, e.trans e2, hlo0, hlo2, ?_⟩
        rw [hWn]
        exact hlov
    · rintro σ' H' ⟨pa, pv, v4, v5, v6, v7, v8, v9, rfl, e, hpa0, hpa, hpv⟩
      rw [List.length_map, List.take_length] at hpv
      exact ⟨_, rfl, k pa H' pv e hpa0 hpa hpv⟩
end
end Zp
set_option maxRecDepth 100000
set_option maxHeartbeats 0
namespace Zp
open PySem L2 Zs Evl Pr
theorem NumIs.down {C : Addr} {H0 Hb H : Hp} {p : Addr} {S : NS} {dx m f l : Addr} {kvs lv : List (List Key × V)} {L : List Key → List V} (e : Ex H0 Hb) (h0 : H0 p = some (.ins C dx (fz nsNumbers [.ref m, .ref f, .ref l]))) (h : NumIs C Hb H p S dx m f l kvs lv L) : NumIs C H0 H p S dx m f l kvs lv L :=
  ⟨h0, e.trans h.e0, fresh_back e h.f0, h.fa, h.fk, h.ld.base (fun a ha _ => fresh_back e ha), h.ll, h.nfl, h.sz⟩
section
variable {P : Program} {w : World} {K : PySem.W.Frag} {mg : Str → Option Value} {base : Heap}
def sp_Numbers_improve (T : Txt K mg) : Sp := fun vs H Q _ => ∃ (p : Addr) (i : Nat) (M : Mach) (N : NetD) (H0 : Hp) (S : NS) (tm : Edge → Nat) (c : Nat) (dx m f l mdx ma : Addr) (mvs : List V) (kvs lv : List (List Key × V)) (L : List Key → List V), vs = [.ref p, .int (i : Int)] ∧
  NumIs T.cNumbers.C H0 H p S dx m f l kvs lv L ∧ MachIs T.cMachine.C T.cStep.C H0 m M mdx ma mvs ∧ i < M.steps.length ∧ NetOk N ∧ N.st = M.st ∧ N.lt = M.lt ∧ NI M N S tm c ∧ NB S ∧ (∀ e ∈ N.ed, e ∈ S.ks) ∧ capE N ≤ 300 ∧
  ∀ (b : Bool) (S' : NS) tm' c' kvs' lv' L' H', NumIs T.cNumbers.C H0 H' p S' dx m f l kvs' lv' L' → NI M N S' tm' c' → NB S' → (∀ e ∈ N.ed, e ∈ S'.ks) → (b = true → Mu (capE N) S' < Mu (capE N) S) → (b = false → S' = S ∧ tm' = tm ∧ c' = c ∧ Still M S i) → Tk H H' → Q (.bl b) H'
theorem ok_Numbers_improve (T : Txt K mg) : FnOk P w K mg base CX0 2 T.cNumbers.improve.f T.cNumbers.improve.fd ["self", "index"] (sp_Numbers_improve T) := by
  refine T.cNumbers.improve.F.ok sc_Numbers_improve (fun vs H Q E h => ?_) (fun cdv A outer s H vs Q E hr h => ?_)
  · obtain ⟨p, i, M, N, H0, S, tm, c, dx, m, f, l, mdx, ma, mvs, kvs, lv, L, rfl, _⟩ := h
    rfl
  · obtain ⟨p, i, M, N, H0, S, tm, c, dx, m, f, l, mdx, ma, mvs, kvs, lv, L, rfl, Nu, hM, hi, hN, hst, hlt, hI, hB, hall, hcap, k⟩ := h
    have hu := hu_of hr
    have hnd := sc_Numbers_improve.nd
    refine ⟨_, (pss_cons (ps_set (i := 2) hnd rfl (by first | exact Or.inl rfl | exact Or.inr rfl) (pe_ix (ix_tupK (K := K) rfl) (pe_fldK (K := K) rfl (pe_fldK (K := K) rfl (L2.pv 0) rfl) rfl) (L2.pv 1) (fun _ _ => rfl)))
    (pss_cons (ps_set (i := 3) hnd rfl (by first | exact Or.inl rfl | exact Or.inr rfl) (pe_bl))
    (pss_cons (ps_for PassesOwn.never rfl (pi_listK (K := K) rfl (pe_meth (L2.pv 0) T.cNumbers.cl T.cNumbers.m_ways (ok_Numbers_ways T) (hr.mono (by decide)) T.cNumbers.ways.b .nil pass0 (pa_cons (pe_fldK (K := K) rfl (L2.pv 2) rfl) (pa_cons (pe_fldK (K := K) rfl (L2.pv 2) rfl) pa_nil)))) (pg_tup rfl (pgs_cons (pg_name (i := 4) hnd rfl (by first | exact Or.inl rfl | exact Or.inr rfl)) (pgs_cons (pg_name (i := 5) hnd rfl (by first | exact Or.inl rfl | exact Or.inr rfl)) (pgs_cons (pg_name (i := 6) hnd rfl (by first | exact Or.inl rfl | exact Or.inr rfl)) pgs_nil))))
      (pss_one (ps_if (pt_val (pe_meth (L2.pv 0) T.cNumbers.cl T.cNumbers.m_put (ok_Numbers_put T) (hr.mono (by decide)) T.cNumbers.put.b .nil pass0 (pa_cons (pe_tup (pa_cons (pe_fldK (K := K) rfl (L2.pv 2) rfl) (pa_cons (pe_fldK (K := K) rfl (L2.pv 2) rfl) (pa_cons (L2.pv 4) pa_nil)))) (pa_cons (pe_op op_add (pe_fldK (K := K) rfl (L2.pv 2) rfl) (L2.pv 5)) (pa_cons (L2.pv 1) (pa_cons (L2.pv 6) pa_nil)))))) (pss_one (ps_set (i := 3) hnd rfl (by first | exact Or.inl rfl | exact Or.inr rfl) (pe_bl))) pss_nil)))
    (pss_one (ps_ret (L2.pv 3)))))), ?_⟩
    have hks : S.ks.length ≤ 300 := Nat.le_trans (edges_len hI.nd hI.rng) hcap
    obtain ⟨st, hst1⟩ : ∃ st, M.steps[i]? = some st := ⟨_, List.getElem?_eq_getElem hi⟩
    obtain ⟨sv, hsv, hat⟩ := hM.get' hst1
    obtain ⟨sp, sdx, la, rfl, hs⟩ := hat
    have hstp := hM.ok.stp st (List.mem_of_getElem? hst1)
    refine ⟨_, rfl, _, _, _, _, _, rfl, Nu.ob, T.cNumbers.cl, T.cNumbers.n_machine, fz_at ndNumbers (i := 0) rfl rfl, _, _, _, _, _, rfl, (Nu.e0 _ _ hM.ob), T.cMachine.cl, T.cMachine.n_steps, fz_at ndMachine (i := 2) rfl rfl, _, rfl, ma, _, _, .ref sp, rfl, rfl, SqT.of (Nu.e0 _ _ hM.sa), atI_nat hsv, ?_⟩
    have hsH := hs.mono Nu.e0
    refine ⟨_, rfl, _, _, _, rfl, Nu.ob, fz_no (by decide +kernel), _, rfl, _, _, _, _, _, rfl, hsH.ob, T.cStep.cl, T.cStep.n_goal, fz_at ndStep (i := 2) rfl rfl, _, rfl, _, _, _, _, _, rfl, hsH.ob, T.cStep.cl, T.cStep.n_laid, fz_at ndStep (i := 3) rfl rfl, p, .ref la, st.goal, st.laid, H0, S, dx, m, f, l, kvs, lv, L, rfl, Nu, isInts hsH.la, hstp.2.2.2.1, hks, fun r H1 wv e1 hr0 hr hwv => ?_⟩
    have Nu1 := Nu.gr e1
    have hwn := hwv.len
    rw [List.length_map] at hwn
    have hok := ways0_ok S st.goal st.laid
    have hH0 := gr_old (H' := H1) Nu.e0
    have hrb : gr H0 H H1 r = some (.lst wv) := gr_new hr0 hr
    generalize gr H0 H H1 = Hb at Nu1 hH0 hrb
    have hMb := hM.mono hH0
    refine ⟨r, rfl, ⟨_, SqL.of hr⟩, for_list (K := K) (a := r) (xs := wv)
      (fun j σ' H' => ∃ (b : Bool) (S' : NS) (tm' : Edge → Nat) (c' : Nat) (kvs' lv' : List (List Key × V)) (L' : List Key → List V) (v4 v5 v6 : Option V), σ' = [some (.ref p), some (.int (i : Int)), some (.ref sp), some (.bl b), v4, v5, v6] ∧ NumIs T.cNumbers.C Hb H' p S' dx m f l kvs' lv' L' ∧ Tk H1 H' ∧ Imp M N S S' tm' c' ∧
        (b = true → Mu (capE N) S' < Mu (capE N) S) ∧ (b = false → S' = S ∧ tm' = tm ∧ c' = c ∧ ∀ w ∈ (ways0 S st.goal st.laid).take j, (st.state, st.letter, w.1) ∈ S.ks ∧ S.num (st.state, st.letter, w.1) ≤ st.weight + w.2.1)) ?_ ?_ ?_ ?_⟩
    · exact ⟨false, S, tm, c, kvs, lv, L, none, none, none, rfl, Nu1, Tk.refl _, ⟨hI, hB, hall, fun e he => ⟨he, Int.le_refl _⟩⟩, (fun z => nomatch z), fun _ => ⟨rfl, rfl, rfl, fun w h => by simp at h⟩⟩
    · rintro j σ' H' _ ⟨_, _, _, _, _, _, _, _, _, _, rfl, N', _⟩
      exact SqL.of (N'.e0 _ _ hrb)
    · rintro j x σ' H' hx ⟨b, S', tm', c', kvs', lv', L', v4, v5, v6, rfl, N', tk', hImp, hbt, hbf⟩
      obtain ⟨d0, hd0, hx0⟩ := (hwv.mono tk').get hx
      obtain ⟨⟨we, wn, wps⟩, hwx, rfl⟩ := tup_get hd0
      obtain ⟨ty, tvs, rfl, hty, htl⟩ := Is.t_iff.mp hx0
      obtain ⟨y1, r1, rfl, hy1, hr1⟩ := IsL.cons_iff.mp htl
      obtain ⟨y2, r2, rfl, hy2, hr2⟩ := IsL.cons_iff.mp hr1
      obtain ⟨y3, r3, rfl, hy3, hr3⟩ := IsL.cons_iff.mp hr2
      cases IsL.nil_iff.mp hr3
      cases Is.i_iff.mp hy1
      cases Is.i_iff.mp hy2
      obtain ⟨hch, hsub, hnum⟩ := (hok we wn wps).mp (List.mem_of_getElem? hwx)
      have hsM := (hs.mono (hH0.trans N'.e0))
      refine ⟨ty, _, rfl, SqT.of hty, rfl, _, _, rfl, _, _, rfl, _, _, rfl, rfl, ?_⟩
      refine ⟨_, rfl, _, _, _, rfl, N'.ob, fz_no (by decide +kernel), _, rfl, _, _, _, _, _, rfl, hsM.ob, T.cStep.cl, T.cStep.n_state, fz_at ndStep (i := 0) rfl rfl, _, rfl, _, _, _, _, _, rfl, hsM.ob, T.cStep.cl, T.cStep.n_letter, fz_at ndStep (i := 1) rfl rfl, _, rfl, by show 3 ≤ sizeLine; decide, fun u hu => ?_⟩
      have eu := Ex.new (o := HO.tup [.int st.state, .int st.letter, .int we]) hu
      have Nu2 := N'.mono eu
      have hsM2 := hsM.mono eu
      have hks' : S'.ks.length ≤ 300 := Nat.le_trans (edges_len hImp.ni.nd hImp.ni.rng) hcap
      refine ⟨_, rfl, _, _, _, _, _, rfl, hsM2.ob, T.cStep.cl, T.cStep.n_weight, fz_at ndStep (i := 4) rfl rfl, _, rfl, _, _, rfl, rfl, _, rfl, _, rfl, p, .ref u, .int (i : Int), y3, (st.state, st.letter, we), st.weight + wn, some i, wps, Hb, S', dx, m, f, l, kvs', lv', L', rfl, Nu2, isEdge upd_same, Is.int _, hy3.mono (Tk.of eu), by omega, fun hno => ⟨_, rfl, ?_⟩, fun hyes H3 kvs3 lv3 L3 N3 tk3 => ⟨_, rfl, ?_⟩⟩
      · refine ⟨b, S', tm', c', kvs', lv', L', _, _, _, rfl, Nu2, tk'.trans (Tk.of eu), hImp, hbt, fun hb => ?_⟩
        obtain ⟨rfl, h2, h3, h4⟩ := hbf hb
        refine ⟨rfl, h2, h3, fun w' hw' => ?_⟩
        rw [List.take_add_one, hwx] at hw'
        rcases List.mem_append.mp hw' with z | z
        · exact h4 w' z
        · rw [List.mem_singleton.mp z]
          exact hno
      · obtain ⟨h1, h2⟩ := hImp.put hM.ok hN hst hlt hB hst1 hch hsub hnum hI.pos hI.nd hyes
        refine ⟨true, _, _, _, kvs3, lv3, L3, _, _, _, rfl, N3, (tk'.trans (Tk.of eu)).trans tk3, h1, fun _ => ?_, fun z => nomatch z⟩
        cases b with
        | true => exact Nat.lt_trans h2 (hbt rfl)
        | false =>
          obtain ⟨e1, _⟩ := hbf rfl
          rw [e1] at h2 ⊢
          exact h2
    · rintro σ' H' ⟨b, S', tm', c', kvs', lv', L', v4, v5, v6, rfl, N', tk', hImp, hbt, hbf⟩
      refine ⟨_, rfl, k b S' tm' c' kvs' lv' L' H' (N'.down hH0 Nu.ob0) hImp.ni hImp.nb hImp.all hbt (fun hb => ?_) ((Tk.of e1).trans tk')⟩
      obtain ⟨h1, h2, h3, h4⟩ := hbf hb
      rw [hwn, List.take_length] at h4
      refine ⟨h1, h2, h3, fun s' hs' parts m' hc hp => ?_⟩
      rw [hst1] at hs'
      cases hs'
      exact h4 (m', sumN S.num parts, parts) ((hok _ _ _).mpr ⟨hc, hp, rfl⟩)
end
end Zp
set_option maxRecDepth 100000
set_option maxHeartbeats 0
namespace Zp
open PySem L2 Zs Evl Pr
theorem isL_keys {H : Hp} {bs : List Addr} : ∀ {kvs : List (List Key × V)} {ks : List Edge}, IsKeys H kvs bs → kvs.map (·.1) = ks.map eK → IsL H (bs.map V.ref) (ks.map eD)
  | [], [], h, _ => by
    cases h
    exact .nil
  | [], k :: ks, _, h => by cases h
  | p :: kvs, [], _, h => by cases h
  | p :: kvs, k :: ks, h, e => by
    simp only [List.map_cons, List.cons.injEq] at e
    cases h with
    | cons h1 h2 =>
      refine .cons (isEdge ?_) (isL_keys h2 e.2)
      rw [h1, e.1]
      rfl
section
variable {P : Program} {w : World} {K : PySem.W.Frag} {mg : Str → Option Value} {base : Heap}
def sp_Numbers_init (T : Txt K mg) : Sp := fun vs H Q _ => ∃ (p dx m q : Addr) (M : Mach) (N : NetD) (H0 : Hp), vs = [.ref p, .ref m, .ref q] ∧ Ex H0 H ∧ H0 p = none ∧ H p = some (.ins T.cNumbers.C dx []) ∧ MachAt T.cMachine.C T.cStep.C H0 m M ∧ NetAt T.cNet.C H0 q N ∧ N.st = M.st ∧ N.lt = M.lt ∧ capE N ≤ 300 ∧
  ∀ (H' H1 : Hp) (S : NS) tm (f l : Addr) kvs lv L, NumIs T.cNumbers.C H1 H' p S dx m f l kvs lv L → Ex H0 H1 → NF M N S.ks S.ix S.ps tm → S.ks.length ≤ capE N → Q .non H'
theorem ok_Numbers_init (T : Txt K mg) : FnOk P w K mg base CX0 3 T.cNumbers.init.f T.cNumbers.init.fd ["self", "machine", "net"] (sp_Numbers_init T) := by
  refine T.cNumbers.init.F.ok sc_Numbers_init (fun vs H Q E h => ?_) (fun cdv A outer s H vs Q E hr h => ?_)
  · obtain ⟨p, dx, m, q, M, N, H0, rfl, _⟩ := h
    rfl
  · obtain ⟨p, dx, m, q, M, N, H0, rfl, e0, hp0, hp, ⟨mdx, ma, mvs, hM⟩, ⟨ndx, na, nb, ng, nes, ngs, hn⟩, hst, hlt, hcap, k⟩ := h
    have hu := hu_of hr
    have hnd := sc_Numbers_init.nd
    refine ⟨_, (pss_cons (ps_fld (L2.pv 0) (L2.pv 1) rfl)
    (pss_cons (ps_fld (L2.pv 0) (pe_dnewT) rfl)
    (pss_cons (ps_fld (L2.pv 0) (pe_dnewT) rfl)
    (pss_cons (ps_for PassesOwn.never rfl (pi_tup (pe_fldK (K := K) rfl (L2.pv 2) rfl)) (pg_name (i := 3) hnd rfl (by first | exact Or.inl rfl | exact Or.inr rfl))
      (pss_one (ps_expr (pe_meth (L2.pv 0) T.cNumbers.cl T.cNumbers.m_put (ok_Numbers_put T) (hr.mono (by decide)) T.cNumbers.put.b .nil pass0 (pa_cons (L2.pv 3) (pa_cons (pe_int) (pa_cons (pe_non) (pa_cons (pe_tup pa_nil) pa_nil))))))))
    (pss_cons (ps_set (i := 4) hnd rfl (by first | exact Or.inl rfl | exact Or.inr rfl) (pe_bl))
    (pss_one (ps_while PassesOwn.never (pt_val (L2.pv 4)) (pss_cons (ps_set (i := 4) hnd rfl (by first | exact Or.inl rfl | exact Or.inr rfl) (pe_bl))
    (pss_one (ps_for PassesOwn.never rfl (pi_range1 (by rfl) T.b.range (pa_cons (pe_callB call_len_seq (by rfl) T.b.len PySem.boot_len (pa_cons (pe_fldK (K := K) rfl (L2.pv 1) rfl) pa_nil)) pa_nil)) (pg_name (i := 5) hnd rfl (by first | exact Or.inl rfl | exact Or.inr rfl))
      (pss_one (ps_if (pt_val (pe_meth (L2.pv 0) T.cNumbers.cl T.cNumbers.m_improve (ok_Numbers_improve T) (hr.mono (by decide)) T.cNumbers.improve.b .nil pass0 (pa_cons (L2.pv 5) pa_nil))) (pss_one (ps_set (i := 4) hnd rfl (by first | exact Or.inl rfl | exact Or.inr rfl) (pe_bl))) pss_nil)))))))))))), ?_⟩
    rw [fz_nil (ns := nsNumbers)] at hp
    refine q_fld (v := .ref m) (fun Q z => ⟨_, rfl, z⟩) (fun Q z => ⟨_, rfl, z⟩) hp T.cNumbers.cl T.cNumbers.n_machine ndNumbers rfl (by decide) fun H1 o1 hp1 => ?_
    intro f hf
    refine ⟨_, rfl, p, _, _, _, rfl, Ex.new hf _ _ hp1, T.cNumbers.cl, T.cNumbers.n_found, fz_len (by decide), fld_put ndNumbers rfl fun H2 o2 hp2 => ?_⟩
    intro l hl
    refine ⟨_, rfl, p, _, _, _, rfl, Ex.new hl _ _ hp2, T.cNumbers.cl, T.cNumbers.n_leaving, fz_len (by decide), fld_put ndNumbers rfl fun H3 o3 hp3 => ?_⟩
    have nfp : f ≠ p := (ne_of_none hp1 hf).symm
    have nlp : l ≠ p := (ne_of_none hp2 hl).symm
    have hf2 := o2 _ _ (upd_same (H := H1) (a := f) (o := HO.dT [])) nfp
    have nfl : f ≠ l := ne_of_none hf2 hl
    have hf3 := o3 _ _ (Ex.new (o := HO.dT []) hl _ _ hf2) nfp
    have hl3 := o3 _ _ (upd_same (H := H2) (a := l) (o := HO.dT [])) nlp
    have o12 : Off p H1 H2 := (Off.of (Ex.new hf)).trans o2
    have o23 : Off p H2 H3 := (Off.of (Ex.new hl)).trans o3
    have hb0 : Ex (lessH (lessH H3 f) l) H3 := (lessH_ex _ _).trans (lessH_ex _ _)
    have hbf : lessH (lessH H3 f) l f = none := by rw [lessH_ne nfl]; exact lessH_at
    have hbl : lessH (lessH H3 f) l l = none := lessH_at
    have hHb : Ex H0 (lessH (lessH H3 f) l) := fun z o h => by
      have hzp : z ≠ p := fun q => by rw [q, hp0] at h; cases h
      have h1 := o1 z o (e0 z o h) hzp
      rw [lessH_ne (ne_of_none (o12 z o h1 hzp) hl), lessH_ne (ne_of_none h1 hf)]
      exact o23 z o (o12 z o h1 hzp) hzp
    have hpb : lessH (lessH H3 f) l p = some (.ins T.cNumbers.C dx (fz nsNumbers [.ref m, .ref f, .ref l])) := by rw [lessH_ne nlp.symm, lessH_ne nfp.symm]; exact hp3
    generalize lessH (lessH H3 f) l = Hb at hb0 hbf hbl hHb hpb
    have hMb := hM.mono hHb
    have hnb := hn.mono hHb
    have hlen := hn.el.len
    rw [List.length_map] at hlen
    have hNok := hn.ok
    -- for edge in net.edges
    refine ⟨_, rfl, _, _, _, _, _, rfl, (hb0 _ _ hnb.ob), T.cNet.cl, T.cNet.n_edges, fz_at ndNet (i := 3) rfl rfl, na, rfl, ⟨_, SqT.of (hb0 _ _ hnb.ea)⟩, for_tup (K := K) (a := na) (xs := nes)
      (fun i σ' H' => ∃ (S : NS) (tm : Edge → Nat) (c : Nat) (kvs lv : List (List Key × V)) (L : List Key → List V) (v3 : Option V), σ' = [some (.ref p), some (.ref m), some (.ref q), v3, none, none] ∧ NumIs T.cNumbers.C Hb H' p S dx m f l kvs lv L ∧ NI M N S tm c ∧ NB S ∧ ∀ e ∈ N.ed.take i, e ∈ S.ks) ?_ ?_ ?_ ?_⟩
    · refine ⟨⟨[], fun _ => 0, fun _ => none, fun _ => []⟩, _, _, [], [], fun _ => [], none, rfl, ⟨hpb, hb0, hbf, hf3, ⟨rfl, fun e h => (nomatch h), fun e _ => rfl⟩, DL.empty hl3 hbl, fun k => .nil, nfl, Nat.le_refl _⟩, NI.empty M N, fun e h => (nomatch h), fun e h => by simp at h⟩
    · rintro i σ' H' _ ⟨_, _, _, _, _, _, _, rfl, Nu, _⟩
      exact SqT.of (Nu.e0 _ _ hnb.ea)
    · rintro i x σ' H' hx ⟨S, tm, c, kvs, lv, L, v3, rfl, Nu, hI, hB, hall⟩
      obtain ⟨d0, hd0, hx0⟩ := (hnb.el.mono (Tk.of Nu.e0)).get hx
      obtain ⟨ed, hed, rfl⟩ := tup_get hd0
      have hedm := List.mem_of_getElem? hed
      have hks : S.ks.length ≤ 300 := Nat.le_trans (edges_len hI.nd hI.rng) hcap
      refine ⟨_, rfl, _, _, _, rfl, Nu.ob, fz_no (by decide +kernel), _, rfl, Nat.zero_le _, fun u hu => ?_⟩
      have eu := Ex.new (o := HO.tup []) hu
      have hnum0 : ed ∈ S.ks → S.num ed = 0 := fun h => (hI.base ed h (hI.net ed hedm h)).2.2
      have htk : ∀ ks : List Edge, (∀ e ∈ N.ed.take i, e ∈ ks) → ed ∈ ks → ∀ e ∈ N.ed.take (i + 1), e ∈ ks := fun ks h1 h2 e he => by
        rw [List.take_add_one, hed] at he
        rcases List.mem_append.mp he with z | z
        · exact h1 e z
        · rw [List.mem_singleton.mp z]; exact h2
      refine ⟨p, x, .non, .ref u, ed, 0, none, [], Hb, S, dx, m, f, l, kvs, lv, L, rfl, Nu.mono eu, hx0.mono (Tk.of eu), Is.non, Is.mk upd_same .nil, by omega, fun h1 => ?_, fun h2 H2' kvs' lv' L' N' tk' => ?_⟩
      · exact ⟨S, tm, c, kvs, lv, L, _, rfl, Nu.mono eu, hI, hB, htk _ hall h1.1⟩
      · have hno : ed ∉ S.ks := fun z => by have := h2 z; have := hnum0 z; omega
        refine ⟨_, _, _, kvs', lv', L', _, rfl, N', hI.putBase hedm (hNok.ed _ hedm) hno, hB.set (bnd_pos _) (fun z => (hno z).elim), htk _ (fun e he => mem_addK.mpr (.inl (hall e he))) (mem_addK.mpr (.inr rfl))⟩
    · rintro σ' H' ⟨S, tm, c, kvs, lv, L, v3, rfl, Nu, hI, hB, hall⟩
      rw [hlen, List.take_length] at hall
      -- changed = True; while changed
      refine ⟨fun mm σ' H' => ∃ (b : Bool) (S : NS) (tm : Edge → Nat) (c : Nat) (kvs lv : List (List Key × V)) (L : List Key → List V) (v5 : Option V), mm = (if b = true then Mu (capE N) S + 1 else 0) ∧ σ' = [some (.ref p), some (.ref m), some (.ref q), v3, some (.bl b), v5] ∧ NumIs T.cNumbers.C Hb H' p S dx m f l kvs lv L ∧ NI M N S tm c ∧ NB S ∧ (∀ e ∈ N.ed, e ∈ S.ks) ∧ (b = false → ∀ i, Still M S i),
        ⟨_, true, S, tm, c, kvs, lv, L, none, rfl, rfl, Nu, hI, hB, hall, fun z => nomatch z⟩, ?_⟩
      rintro mm σ' H' ⟨b, S, tm, c, kvs, lv, L, v5, rfl, rfl, Nu, hI, hB, hall, hstill⟩
      refine ⟨_, rfl, b, rfl, ?_⟩
      cases b with
      | false =>
        rw [if_neg (by decide)]
        exact k H' Hb S tm f l kvs lv L Nu hHb (hI.final hall (hstill rfl)) (edges_len hI.nd hI.rng)
      | true =>
        rw [if_pos rfl]
        refine ⟨fun σ' H' => ∃ m', m' < Mu (capE N) S + 1 ∧ ∃ (b : Bool) (S : NS) (tm : Edge → Nat) (c : Nat) (kvs lv : List (List Key × V)) (L : List Key → List V) (v5 : Option V), m' = (if b = true then Mu (capE N) S + 1 else 0) ∧ σ' = [some (.ref p), some (.ref m), some (.ref q), v3, some (.bl b), v5] ∧ NumIs T.cNumbers.C Hb H' p S dx m f l kvs lv L ∧ NI M N S tm c ∧ NB S ∧ (∀ e ∈ N.ed, e ∈ S.ks) ∧ (b = false → ∀ i, Still M S i), fun σ' H' h => h, ?_⟩
        have hmlen := hM.len
        have hmsz := hM.sz
        refine ⟨_, rfl, _, _, _, _, _, rfl, (Nu.e0 _ _ hMb.ob), T.cMachine.cl, T.cMachine.n_steps, fz_at ndMachine (i := 2) rfl rfl, ma, _, rfl, .inr (SqT.of (Nu.e0 _ _ hMb.sa)), ((mvs.length : Nat) : Int), rfl, by omega, by omega, for_range (lo := 0) (n := ((mvs.length : Nat) : Int).toNat)
          (fun i σ2 H2 => ∃ (b : Bool) (S2 : NS) (tm2 : Edge → Nat) (c2 : Nat) (kvs lv : List (List Key × V)) (L : List Key → List V) (v5 : Option V), σ2 = [some (.ref p), some (.ref m), some (.ref q), v3, some (.bl b), v5] ∧ NumIs T.cNumbers.C Hb H2 p S2 dx m f l kvs lv L ∧ NI M N S2 tm2 c2 ∧ NB S2 ∧ (∀ e ∈ N.ed, e ∈ S2.ks) ∧ (b = true → Mu (capE N) S2 < Mu (capE N) S) ∧ (b = false → S2 = S ∧ ∀ j < i, Still M S j)) ?_ ?_ ?_⟩
        · exact ⟨false, S, tm, c, kvs, lv, L, v5, rfl, Nu, hI, hB, hall, (fun z => nomatch z), fun _ => ⟨rfl, fun j h => absurd h (by omega)⟩⟩
        · rintro i σ2 H2 hi ⟨b, S2, tm2, c2, kvs2, lv2, L2, v52, rfl, Nu2, hI2, hB2, hall2, hbt, hbf⟩
          have hzl : (0 : Int) + (i : Int) = i := Int.zero_add _
          rw [hzl]
          refine ⟨_, rfl, _, _, _, rfl, Nu2.ob, fz_no (by decide +kernel), _, rfl, p, i, M, N, Hb, S2, tm2, c2, dx, m, f, l, mdx, ma, mvs, kvs2, lv2, L2, rfl, Nu2, hMb, by omega, hNok, hst, hlt, hI2, hB2, hall2, hcap, fun b2 S3 tm3 c3 kvs3 lv3 L3 H3 Nu3 hI3 hB3 hall3 hb2t hb2f tk3 => ⟨_, rfl, iteB (fun hb2 => ?_) fun hb2 => ?_⟩⟩
          · refine ⟨true, S3, tm3, c3, kvs3, lv3, L3, _, rfl, Nu3, hI3, hB3, hall3, fun _ => ?_, fun z => nomatch z⟩
            cases b with
            | true => exact Nat.lt_trans (hb2t hb2) (hbt rfl)
            | false =>
              obtain ⟨e1, _⟩ := hbf rfl
              have := hb2t hb2
              rw [e1] at this
              exact this
          · obtain ⟨rfl, rfl, rfl, hs4⟩ := hb2f hb2
            refine ⟨b, S3, tm3, c3, kvs3, lv3, L3, _, rfl, Nu3, hI3, hB3, hall3, hbt, fun hb => ?_⟩
            obtain ⟨e1, h2⟩ := hbf hb
            refine ⟨e1, fun j hj => ?_⟩
            by_cases hji : j < i
            · exact h2 j hji
            · obtain rfl : j = i := by omega
              rw [← e1]
              exact hs4
        · rintro σ2 H2 ⟨b, S2, tm2, c2, kvs2, lv2, L2, v52, rfl, Nu2, hI2, hB2, hall2, hbt, hbf⟩
          refine ⟨if b = true then Mu (capE N) S2 + 1 else 0, ?_, b, S2, tm2, c2, kvs2, lv2, L2, v52, rfl, rfl, Nu2, hI2, hB2, hall2, fun hb i => ?_⟩
          · cases b with
            | true => rw [if_pos rfl]; have := hbt rfl; omega
            | false => rw [if_neg (by decide)]; omega
          · obtain ⟨e1, h2⟩ := hbf hb
            subst e1
            by_cases hi : i < mvs.length
            · exact h2 i (by omega)
            · intro s hs
              have := (List.getElem?_eq_some_iff.mp hs).1
              omega
theorem make_numbers (T : Txt K mg) {H : Hp} {R : Addr → Hp → Prop} {E : XK} {m q : Addr} {M : Mach} {N : NetD} (hM : MachAt T.cMachine.C T.cStep.C H m M) (hN : NetAt T.cNet.C H q N) (h1 : N.st = M.st) (h2 : N.lt = M.lt) (h3 : capE N ≤ 300)
    (k : ∀ (x dx : Addr) (H' H1 : Hp) (S : NS) tm (f l : Addr) kvs lv L, NumIs T.cNumbers.C H1 H' x S dx m f l kvs lv L → Ex H H1 → NF M N S.ks S.ix S.ps tm → S.ks.length ≤ capE N → R x H') :
    ∀ x dx, H x = none → H dx = none → dx ≠ x → sp_Numbers_init T (.ref x :: ([.ref m, .ref q] ++ [])) (upd (upd H dx (.own x)) x (.ins T.cNumbers.C dx [])) (fun v H2 => v = .non ∧ R x H2) E := by
  intro x dx hx hdx hne
  exact ⟨x, dx, m, q, M, N, H, rfl, ex_made hx hdx, hx, upd_same, hM, hN, h1, h2, h3, fun H' H1 S tm f l kvs lv L a1 a2 a3 a4 => ⟨rfl, k x dx H' H1 S tm f l kvs lv L a1 a2 a3 a4⟩⟩
def sp_ahead (T : Txt K mg) : Sp := fun vs H Q _ => ∃ (m q : Addr) (M : Mach) (N : NetD), vs = [.ref m, .ref q] ∧ MachAt T.cMachine.C T.cStep.C H m M ∧ NetAt T.cNet.C H q N ∧ N.st = M.st ∧ N.lt = M.lt ∧ capE N ≤ 300 ∧ (∀ e ∈ N.ed, N.st ≤ e.2.2) ∧
  ∀ (x : Addr) (N' : NetD) H' ks ix ps tm, Ex H H' → NetAt T.cNet.C H' x N' → N'.st = N.st → N'.lt = N.lt → N'.nd = N.nd → (∀ e, e ∈ N'.ed ↔ e ∈ ks) → (∀ e, e ∈ N'.en ↔ e ∈ N.en) → N'.ed.length ≤ capE N → N'.en.length ≤ N.en.length → NF M N ks ix ps tm → Q (.ref x) H'
theorem ok_ahead (T : Txt K mg) : FnOk P w K mg base CX0 5 T.f.ahead.f T.f.ahead.fd ["machine", "net"] (sp_ahead T) := by
  refine T.f.ahead.F.ok sc_ahead (fun vs H Q E h => ?_) (fun cdv A outer s H vs Q E hr h => ?_)
  · obtain ⟨m, q, M, N, rfl, _⟩ := h
    rfl
  · obtain ⟨m, q, M, N, rfl, hM, hN, h1, h2, h3, h4, k⟩ := h
    have hu := hu_of hr
    have hnd := sc_ahead.nd
    refine ⟨_, (pss_cons (ps_expr (pe_call (ok_need_fit T) (hr.mono (by decide)) (by rfl) T.f.g_need_fit T.f.need_fit.F.kp T.f.need_fit.b .nil pass0 (pa_cons (L2.pv 0) (pa_cons (L2.pv 1) pa_nil))))
    (pss_one (ps_ret (pe_make T.cNet.made (ok_Net_init T) (hr.mono (by decide)) (by rfl) T.cNet.mg T.cNet.init.b .nil pass0 (pa_cons (pe_fldK (K := K) rfl (L2.pv 1) rfl) (pa_cons (pe_fldK (K := K) rfl (L2.pv 1) rfl) (pa_cons (pe_fldK (K := K) rfl (L2.pv 1) rfl) (pa_cons (pe_callTy (call_list_dT rfl) (by rfl) T.b.list (by decide +kernel) (pa_cons (pe_fldK (K := K) rfl (pe_make T.cNumbers.made (ok_Numbers_init T) (hr.mono (by decide)) (by rfl) T.cNumbers.mg T.cNumbers.init.b .nil pass0 (pa_cons (L2.pv 0) (pa_cons (L2.pv 1) pa_nil))) rfl) pa_nil)) (pa_cons (pe_fldK (K := K) rfl (L2.pv 1) rfl) pa_nil))))))))), ?_⟩
    refine ⟨_, rfl, _, rfl, m, q, M, N, rfl, hM, hN, h1, h2, h4, fun v0 H1 e1 => ?_⟩
    obtain ⟨dx, a, b, g, es, gs, hn⟩ := id (hN.mono e1)
    refine ⟨_, rfl, _, _, _, _, _, rfl, hn.ob, T.cNet.cl, T.cNet.n_states, fz_at ndNet (i := 0) rfl rfl, _, rfl, _, _, _, _, _, rfl, hn.ob, T.cNet.cl, T.cNet.n_letters, fz_at ndNet (i := 1) rfl rfl, _, rfl, _, _, _, _, _, rfl, hn.ob, T.cNet.cl, T.cNet.n_nodes, fz_at ndNet (i := 2) rfl rfl, _, rfl, _, rfl, ?_⟩
    refine make_numbers T (hM.mono e1) (hN.mono e1) h1 h2 h3 fun x ndx H2 H0 S tm f l kvs lv L Nu e0 hF hcap => ?_
    have e02 := e0.trans Nu.e0
    refine ⟨_, _, _, _, _, rfl, Nu.ob, T.cNumbers.cl, T.cNumbers.n_found, fz_at ndNumbers (i := 1) rfl rfl, f, kvs, rfl, .inl Nu.fa, fun pl bs hpl hbs => ?_⟩
    have epl := Ex.new (o := HO.lst (bs.map V.ref)) hpl
    have eT := e02.trans epl
    refine ⟨_, rfl, _, _, _, _, _, rfl, (eT _ _ hn.ob), T.cNet.cl, T.cNet.n_ends, fz_at ndNet (i := 4) rfl rfl, ?_⟩
    have hen := (hN.mono (e1.trans eT)).sz.2.1
    refine make_net T (N := ⟨N.st, N.lt, N.nd, S.ks, N.en⟩) (.inl upd_same) ((isL_keys hbs Nu.fk.keys).mono (Tk.of epl)) (.inr (eT _ _ hn.nb)) ⟨hn.ok.st, hn.ok.lt, hn.ok.nd, hF.rng, hn.ok.en⟩ (by show S.ks.length < 4000; omega) hen
      fun y N' H3 e3 _ hN' c1 c2 c3 c4 c5 c6 c7 => k y N' H3 S.ks S.ix S.ps tm (e1.trans (eT.trans e3)) hN' c1 c2 c3 c4 c5 (Nat.le_trans c6 hcap) c7 hF
end
end Zp
set_option maxRecDepth 100000
set_option maxHeartbeats 0
namespace Zp
open PySem L2 Zs Evl Pr
theorem valV_mem {κ : Type} [DecidableEq κ] : ∀ {kvs : List (κ × V)} {k : κ} {v : V}, valV kvs k = some v → (k, v) ∈ kvs
  | [], _, _, h => nomatch h
  | p :: r, k, v, h => by
    by_cases e : p.1 = k
    · rw [valV_pos e] at h
      cases h
      rw [← e]
      exact List.mem_cons_self
    · rw [valV_neg e] at h
      exact List.mem_cons_of_mem _ (valV_mem h)
theorem valV_at {κ : Type} [DecidableEq κ] : ∀ {kvs : List (κ × V)} {k : κ} {v : V}, (kvs.map (·.1)).Nodup → (k, v) ∈ kvs → valV kvs k = some v
  | [], _, _, _, h => nomatch h
  | p :: r, k, v, hn, h => by
    obtain ⟨h1, h2⟩ := List.nodup_cons.mp hn
    rcases List.mem_cons.mp h with z | z
    · rw [← z]
      exact valV_pos (p := (k, v)) rfl
    · have hne : ¬ p.1 = k := fun e => h1 (List.mem_map.mpr ⟨(k, v), z, e.symm⟩)
      rw [valV_neg hne]
      exact valV_at h2 z
theorem FOk.get {H : Hp} {kvs : List (List Key × V)} {S : NS} (h : FOk H kvs S) (hnd : S.ks.Nodup) {i : Nat} {k : List Key} {v : V} (hi : kvs[i]? = some (k, v)) : ∃ e ∈ S.ks, S.ks[i]? = some e ∧ k = eK e ∧ Is H v (fD (S.num e) (S.ix e) (S.ps e)) := by
  have h1 : (S.ks.map eK)[i]? = some k := by rw [← h.keys, List.getElem?_map, hi]; rfl
  obtain ⟨e, he, rfl⟩ := tup_get h1
  have hem := List.mem_of_getElem? he
  obtain ⟨v', h2, h3⟩ := h.val e hem
  have hkn : (kvs.map (·.1)).Nodup := by
    rw [h.keys]
    exact List.pairwise_map.mpr (hnd.imp fun hne e => hne (eK_inj e))
  have := valV_at hkn (List.mem_of_getElem? hi)
  rw [this] at h2
  cases h2
  exact ⟨e, hem, he, rfl, h3⟩
section
variable {P : Program} {w : World} {K : PySem.W.Frag} {mg : Str → Option Value} {base : Heap}
def sp_told_numbers (T : Txt K mg) : Sp := fun vs H Q _ => ∃ (p : Addr) (H0 : Hp) (S : NS) (dx m f l : Addr) (kvs lv : List (List Key × V)) (L : List Key → List V), vs = [.ref p] ∧ NumIs T.cNumbers.C H0 H p S dx m f l kvs lv L ∧ S.ks.Nodup ∧ S.ks.length ≤ 300 ∧ ∀ v' H', Ex H H' → Q v' H'
theorem ok_told_numbers (T : Txt K mg) : FnOk P w K mg base CX0 1 T.f.told_numbers.f T.f.told_numbers.fd ["numbers"] (sp_told_numbers T) := by
  refine T.f.told_numbers.F.ok sc_told_numbers (fun vs H Q E h => ?_) (fun cdv A outer s H vs Q E hr h => ?_)
  · obtain ⟨p, H0, S, dx, m, f, l, kvs, lv, L, rfl, _⟩ := h
    rfl
  · obtain ⟨p, H0, S, dx, m, f, l, kvs, lv, L, rfl, Nu, hkn, hsz, k⟩ := h
    have hu := hu_of hr
    have hnd := sc_told_numbers.nd
    refine ⟨_, (pss_one (ps_ret (pe_callTy call_tuple_of (by rfl) T.b.tuple (by decide +kernel) (pa_cons (pe_callB (cr_sortP hr.units) (by rfl) T.b.sorted (by decide +kernel) (pa_cons (pe_lock (pe_lc (own := [("edge", 1), ("found", 2)]) (g := (gTup K 2 (gCons (gName 1) (gCons (gName 2) gNil)))) (tt := tYes) rfl hnd (pi_itT (pe_fldK (K := K) rfl (L2.pv 0) rfl)) (blkOk_by (own := [("edge", 1), ("found", 2)]) (N := nm_told_numbers) (sc := defScope s_told_numbers) (by decide +kernel)) (fun _ _ _ _ _ => (pg_tup rfl (pgs_cons (pg_name (i := 1) hnd rfl (by first | exact Or.inl rfl | exact Or.inr rfl)) (pgs_cons (pg_name (i := 2) hnd rfl (by first | exact Or.inl rfl | exact Or.inr rfl)) pgs_nil)))) (fun _ _ _ _ _ => pts_nil) (fun _ _ _ _ _ => (pe_tup (pa_cons (L2.pv 1) (pa_cons (pe_ix (ix_tupK (K := K) rfl) (L2.pv 2) (pe_int) (fun _ _ => rfl)) pa_nil)))))) pa_nil)) pa_nil)))), ?_⟩
    refine ⟨f, _, Nu.fa, trivial, fun od => ?_⟩
    have npf : p ≠ f := ne_of Nu.ob Nu.fa (by intro z; cases z)
    have hkl := Nu.fk.len
    have hp1 : upd H f (.frz od (.dT kvs)) p = _ := (upd_ne npf).trans Nu.ob
    have hf1 : upd H f (.frz od (.dT kvs)) f = some (.frz od (.dT kvs)) := upd_same
    have tk1 : Tk H (upd H f (.frz od (.dT kvs))) := Tk.wr Nu.fa fun _ q => nomatch q
    have back : ∀ H', Ex (upd H f (.frz od (.dT kvs))) H' → Ex H (upd H' f (.dT kvs)) := fun H' e z o h => by
      by_cases hz : z = f
      · subst hz
        rw [Nu.fa] at h
        rw [upd_same]
        exact h
      · rw [upd_ne hz]
        exact e z o (by rw [upd_ne hz]; exact h)
    generalize upd H f (.frz od (.dT kvs)) = Hl at hp1 hf1 tk1 back
    have fk1 := Nu.fk.mono tk1
    refine ⟨_, rfl, _, _, _, _, _, rfl, hp1, T.cNumbers.cl, T.cNumbers.n_found, fz_at ndNumbers (i := 1) rfl rfl, f, od, kvs, rfl, hf1, fun D hD => ?_⟩
    refine lcR walk_T hD (by omega) (fun H' e => e _ _ hf1) (fun i acc H' => ∀ x ∈ acc, ∃ (t b : Addr) (ns : List Int) (n : Int), x = V.ref t ∧ H' t = some (.tup [.ref b, .int n]) ∧ H' b = some (.tup (ns.map V.int)) ∧ ns.length = 3)
      (fun i acc H H' o ⟨l, hl⟩ z x hx => by
        obtain ⟨t, b, ns, n, h1, h2, h3, h4⟩ := z x hx
        exact ⟨t, b, ns, n, h1, o _ _ h2 (ne_of h2 hl (by intro q; cases q)), o _ _ h3 (ne_of h3 hl (by intro q; cases q)), h4⟩) (fun x h => nomatch h) ?_ ?_
    · rintro i acc x H1 H2 B B' hi _ e1 hD1 r ⟨tt, q, k1, v1, hk1, rfl, htt, hq, rfl⟩ kB _
      obtain ⟨e, hem, _, rfl, hv1⟩ := (fk1.mono (Tk.of e1)).get hkn hk1
      obtain ⟨tf, fvs, rfl, htf, hfl⟩ := Is.t_iff.mp hv1
      obtain ⟨g1, gr1, rfl, hg1, hgr1⟩ := IsL.cons_iff.mp hfl
      cases Is.i_iff.mp hg1
      have et := Ex.new (o := HO.tup [.ref q, .ref tf]) htt
      refine ⟨tt, _, rfl, SqT.of upd_same, rfl, _, _, rfl, _, _, rfl, rfl, rfl, _, rfl, _, rfl, tf, _, _, _, rfl, rfl, SqT.of (et _ _ htf), atI_int (Int.le_refl 0) rfl, by show 2 ≤ sizeLine; decide, fun u hu => kB _ _ (et.trans (Ex.new hu)) fun x hx => ?_⟩
      have eT := et.trans (Ex.new (o := HO.tup [.ref q, .int (S.num e)]) hu)
      rcases List.mem_append.mp hx with z | z
      · obtain ⟨t', b', ns', n', h1, h2, h3, h4⟩ := r x z
        exact ⟨t', b', ns', n', h1, eT _ _ h2, eT _ _ h3, h4⟩
      · rw [List.mem_singleton.mp z]
        exact ⟨u, q, eL e, S.num e, rfl, upd_same, eT _ _ hq, rfl⟩
    · rintro acc H1 e1 hD1 _ r
      refine ⟨e1 _ _ hf1, ?_⟩
      have e2 := back H1 e1
      have nDf : D ≠ f := (ne_of_none hf1 hD).symm
      have tk3 : Tk H1 (upd H1 f (.dT kvs)) := Tk.wr (e1 _ _ hf1) fun _ q => nomatch q
      have hD3 : upd H1 f (.dT kvs) D = some (.lst acc) := by rw [upd_ne nDf]; exact hD1
      refine ⟨D, acc, 3, rfl, SqL.of hD3, fun x hx => ?_, fun ys q _ hq => ⟨q, ys, rfl, .inl ⟨SqL.of upd_same, fun u hu => k _ _ (e2.trans ((Ex.new hq).trans (Ex.new hu)))⟩⟩⟩
      obtain ⟨t, b, ns, n, h1, h2, h3, h4⟩ := r x hx
      exact ⟨t, b, ns, n, h1, tk3 _ _ h2, tk3 _ _ h3, h4⟩
end
end Zp
/-! The stack's bottom; places. -/
namespace Pr
def Bot (e : Edge) (sk : List (Edge × Bool)) : Prop := ∃ l b, sk = l ++ [(e, b)]
theorem Bot.one (e : Edge) (b : Bool) : Bot e [(e, b)] := ⟨[], b, rfl⟩
theorem Bot.tail {e : Edge} {x : Edge × Bool} {r : List (Edge × Bool)} (h : Bot e (x :: r)) : (r = [] ∧ x.1 = e) ∨ Bot e r := by
  obtain ⟨l, b, h⟩ := h
  cases l with
  | nil =>
    injection h with h1 h2
    exact .inl ⟨h2, by rw [h1]⟩
  | cons y l =>
    injection h with h1 h2
    exact .inr ⟨l, b, h2⟩
theorem Bot.expand {e x : Edge} {b : Bool} {r pre : List (Edge × Bool)} (h : Bot e ((x, b) :: r)) : Bot e (pre ++ (x, true) :: r) := by
  rcases h.tail with ⟨rfl, h2⟩ | ⟨l, b', rfl⟩
  · exact ⟨pre, true, by simp only at h2; rw [h2]⟩
  · exact ⟨pre ++ (x, true) :: l, b', by simp⟩
/-- rows come behind rows -/
def PreE (a b : List Edge) : Prop := ∃ m, b = a ++ m
theorem PreE.refl (a : List Edge) : PreE a a := ⟨[], by simp⟩
theorem PreE.trans {a b c : List Edge} : PreE a b → PreE b c → PreE a c
  | ⟨m, h⟩, ⟨n, h2⟩ => ⟨m ++ n, by rw [h2, h, List.append_assoc]⟩
theorem PreE.mem {a b : List Edge} (h : PreE a b) {e : Edge} (he : e ∈ a) : e ∈ b := by
  obtain ⟨m, rfl⟩ := h
  exact List.mem_append_left _ he
theorem PreE.item {ix : Edge → Option Nat} {a b : List Edge} (h : PreE a b) {p : Edge} {it : Item} (hi : ItemAt ix a p it) : ItemAt ix b p it := by
  obtain ⟨m, rfl⟩ := h
  exact hi.mono
end Pr
set_option maxRecDepth 100000
set_option maxHeartbeats 0
namespace Zp
open PySem L2 Zs Evl Pr
def EPl (kvs : List (List Key × V)) (pl : List Edge) : Prop := kvs.length = pl.length ∧ ∀ e, (∀ v, valV kvs (eK e) = some v → ∃ k : Nat, v = .int k ∧ pl[k]? = some e) ∧ (valV kvs (eK e) = none → e ∉ pl)
theorem EPl.nil : EPl [] [] := ⟨rfl, fun e => ⟨fun v h => (nomatch h), fun _ h => nomatch h⟩⟩
theorem EPl.new {kvs : List (List Key × V)} {pl : List Edge} (h : EPl kvs pl) {e : Edge} (hv : valV kvs (eK e) = none) : EPl (putK kvs (eK e) (.int (pl.length : Int))) (pl ++ [e]) := by
  refine ⟨by rw [putK_new _ hv, List.length_append, List.length_append, h.1]; rfl, fun a => ?_⟩
  rw [valV_put]
  by_cases ea : eK a = eK e
  · obtain rfl := eK_inj ea
    rw [if_pos rfl]
    exact ⟨fun v hv' => ⟨pl.length, by cases hv'; rfl, by simp⟩, fun z => nomatch z⟩
  · rw [if_neg ea]
    refine ⟨fun v hv' => ?_, fun z hm => ?_⟩
    · obtain ⟨i, h1, h2⟩ := (h.2 a).1 v hv'
      exact ⟨i, h1, get_app h2⟩
    · rcases List.mem_append.mp hm with q | q
      · exact (h.2 a).2 z q
      · rw [List.mem_singleton.mp q] at ea
        exact ea rfl
theorem EPl.mem {kvs : List (List Key × V)} {pl : List Edge} (h : EPl kvs pl) (e : Edge) : (valV kvs (eK e)).isSome = true ↔ e ∈ pl := by
  cases hv : valV kvs (eK e) with
  | none => exact ⟨(fun z => nomatch z), fun z => ((h.2 e).2 hv z).elim⟩
  | some v =>
    obtain ⟨k, _, hk⟩ := (h.2 e).1 v hv
    exact ⟨fun _ => List.mem_of_getElem? hk, fun _ => rfl⟩
def nsRowsD : List Str := ["found", "places", "rows"]
theorem ndRowsD : nsRowsD.Nodup := by decide +kernel
def derD (i : Option Nat) (ps : List Edge) : PD := .t [ixD i, .t (ps.map eD)]
structure RDIs (C : Addr) (H0 H : Hp) (p : Addr) (ks : List Edge) (ix : Edge → Option Nat) (ps : Edge → List Edge) (pl : List Edge) (rows : List (Int × List Item)) (dx f pc rl : Addr) (fk pk : List (List Key × V)) (rv : List V) : Prop where
  ob0 : H0 p = some (.ins C dx (fz nsRowsD [.ref f, .ref pc, .ref rl]))
  e0 : Ex H0 H
  fa0 : H0 f = some (.dT fk)
  der : ∀ e ∈ ks, ∃ v, valV fk (eK e) = some v ∧ Is H v (derD (ix e) (ps e))
  p0 : H0 pc = none
  pa : H pc = some (.dT pk)
  pok : EPl pk pl
  r0 : H0 rl = none
  ra : H rl = some (.lst rv)
  rok : IsL H rv (rows.map rowD)
section
variable {C : Addr} {H0 H H' : Hp} {p : Addr} {ks : List Edge} {ix : Edge → Option Nat} {ps : Edge → List Edge} {pl : List Edge} {rows : List (Int × List Item)} {dx f pc rl : Addr} {fk pk : List (List Key × V)} {rv : List V}
theorem RDIs.mono (e : Ex H H') (h : RDIs C H0 H p ks ix ps pl rows dx f pc rl fk pk rv) : RDIs C H0 H' p ks ix ps pl rows dx f pc rl fk pk rv :=
  ⟨h.ob0, h.e0.trans e, h.fa0, fun x hx => by
    obtain ⟨v, h1, h2⟩ := h.der x hx
    exact ⟨v, h1, h2.mono (Tk.of e)⟩, h.p0, e _ _ h.pa, h.pok, h.r0, e _ _ h.ra, h.rok.mono (Tk.of e)⟩
theorem RDIs.ob (h : RDIs C H0 H p ks ix ps pl rows dx f pc rl fk pk rv) : H p = some (.ins C dx (fz nsRowsD [.ref f, .ref pc, .ref rl])) := h.e0 _ _ h.ob0
theorem RDIs.fa (h : RDIs C H0 H p ks ix ps pl rows dx f pc rl fk pk rv) : H f = some (.dT fk) := h.e0 _ _ h.fa0
theorem RDIs.gr (e : Ex H H') (h : RDIs C H0 H p ks ix ps pl rows dx f pc rl fk pk rv) : RDIs C (gr H0 H H') H' p ks ix ps pl rows dx f pc rl fk pk rv := by
  have h' := h.mono e
  exact ⟨gr_old h.e0 _ _ h.ob0, gr_ex h.e0 e, gr_old h.e0 _ _ h.fa0, h'.der, gr_own h.pa h.p0, h'.pa, h'.pok, gr_own h.ra h.r0, h'.ra, h'.rok⟩
theorem RDIs.down {Hb : Hp} (e : Ex H0 Hb) (h0 : H0 p = some (.ins C dx (fz nsRowsD [.ref f, .ref pc, .ref rl]))) (h1 : H0 f = some (.dT fk)) (h : RDIs C Hb H p ks ix ps pl rows dx f pc rl fk pk rv) : RDIs C H0 H p ks ix ps pl rows dx f pc rl fk pk rv :=
  ⟨h0, e.trans h.e0, h1, h.der, fresh_back e h.p0, h.pa, h.pok, fresh_back e h.r0, h.ra, h.rok⟩
/-- a value of found -/
theorem RDIs.val (h : RDIs C H0 H p ks ix ps pl rows dx f pc rl fk pk rv) {e : Edge} (he : e ∈ ks) : ∃ (t pt : Addr) (iv : V) (pv : List V), valV fk (eK e) = some (.ref t) ∧ H t = some (.tup [iv, .ref pt]) ∧ Is H iv (ixD (ix e)) ∧ H pt = some (.tup pv) ∧ IsL H pv ((ps e).map eD) := by
  obtain ⟨v, h1, h2⟩ := h.der e he
  obtain ⟨t, vs, rfl, ht, hl⟩ := Is.t_iff.mp h2
  obtain ⟨y1, r1, rfl, hy1, hr1⟩ := IsL.cons_iff.mp hl
  obtain ⟨y2, r2, rfl, hy2, hr2⟩ := IsL.cons_iff.mp hr1
  cases IsL.nil_iff.mp hr2
  obtain ⟨pt, pv, rfl, h3, h4⟩ := Is.t_iff.mp hy2
  exact ⟨t, pt, y1, pv, h1, ht, hy1, h3, h4⟩
theorem ixD_non {H : Hp} {v : V} {i : Option Nat} (h : Is H v (ixD i)) : v = .non ↔ i = none := by
  cases i with
  | none => exact ⟨fun _ => rfl, fun _ => Is.n_iff.mp h⟩
  | some i =>
    cases Is.i_iff.mp h
    exact ⟨(fun z => nomatch z), (fun z => nomatch z)⟩
end
def missL (ix : Edge → Option Nat) (pl : List Edge) (ps : List Edge) : List Edge := ps.filter fun p => decide (ix p ≠ none) && decide (p ∉ pl)
theorem missL_mem {ix : Edge → Option Nat} {pl ps : List Edge} {p : Edge} : p ∈ missL ix pl ps ↔ p ∈ ps ∧ ix p ≠ none ∧ p ∉ pl := by
  unfold missL
  rw [List.mem_filter, Bool.and_eq_true, decide_eq_true_iff, decide_eq_true_iff]
section
variable {P : Program} {w : World} {K : PySem.W.Frag} {mg : Str → Option Value} {base : Heap}
def sp_RowsD_missing (T : Txt K mg) : Sp := fun vs H Q _ => ∃ (p : Addr) (v : V) (e : Edge) (H0 : Hp) (ks : List Edge) (ix : Edge → Option Nat) (ps : Edge → List Edge) (pl : List Edge) (rows : List (Int × List Item)) (dx f pc rl : Addr) (fk pk : List (List Key × V)) (rv : List V), vs = [.ref p, v] ∧
  RDIs T.cRowsD.C H0 H p ks ix ps pl rows dx f pc rl fk pk rv ∧ Is H v (eD e) ∧ e ∈ ks ∧ (∀ q ∈ ps e, q ∈ ks) ∧ (ps e).length ≤ 1000 ∧
  ∀ (r : Addr) (mv : List V) H', Ex H H' → H r = none → H' r = some (.lst mv) → IsL H' mv ((missL ix pl (ps e)).map eD) → Q (.ref r) H'
theorem ok_RowsD_missing (T : Txt K mg) : FnOk P w K mg base CX0 1 T.cRowsD.missing.f T.cRowsD.missing.fd ["self", "key"] (sp_RowsD_missing T) := by
  refine T.cRowsD.missing.F.ok sc_RowsD_missing (fun vs H Q E h => ?_) (fun cdv A outer s H vs Q E hr h => ?_)
  · obtain ⟨p, v, e, H0, ks, ix, ps, pl, rows, dx, f, pc, rl, fk, pk, rv, rfl, _⟩ := h
    rfl
  · obtain ⟨p, v, e, H0, ks, ix, ps, pl, rows, dx, f, pc, rl, fk, pk, rv, rfl, R, hv, he, hps, hpl, k⟩ := h
    obtain ⟨u, rfl, hu0⟩ := Is.edge_iff.mp hv
    obtain ⟨t, pt, iv, pv, hfv, ht, hiv, hpt, hpvl⟩ := R.val he
    have hpn := hpvl.len
    rw [List.length_map] at hpn
    have hu := hu_of hr
    have hnd := sc_RowsD_missing.nd
    refine ⟨_, (pss_cons (ps_set (i := 2) hnd rfl (by first | exact Or.inl rfl | exact Or.inr rfl) (pe_ix (ix_tupK (K := K) rfl) (pe_dget hu (pe_fldK (K := K) rfl (L2.pv 0) rfl) (L2.pv 1) (fun _ _ => rfl)) (pe_int) (fun _ _ => rfl)))
    (pss_one (ps_ret (pe_lc (own := [("part", 3)]) (g := (gName 3)) (tt := _) rfl hnd (pi_tup (L2.pv 2)) (blkOk_by (own := [("part", 3)]) (N := nm_RowsD_missing) (sc := defScope s_RowsD_missing) (by decide +kernel)) (fun _ _ _ _ _ => (pg_name (i := 3) hnd rfl (by first | exact Or.inl rfl | exact Or.inr rfl))) (fun _ _ _ _ _ => pts_one (PW.pt (pw_and (pt_cmpR op_notN (pe_ix (ix_tupK (K := K) rfl) (pe_dget hu (pe_fldK (K := K) rfl (L2.pv 0) rfl) (L2.pv 3) (fun _ _ => rfl)) (pe_int) (fun _ _ => rfl)) (pe_non) (nomark _)) (pw_and1 (pt_cmp (pc_dnotin hu (L2.pv 3) (pe_fldK (K := K) rfl (L2.pv 0) rfl)) rfl))))) (fun _ _ _ _ _ => (L2.pv 3)))))), ?_⟩
    refine ⟨_, rfl, _, _, _, _, _, rfl, R.ob, T.cRowsD.cl, T.cRowsD.n_found, fz_at ndRowsD (i := 0) rfl rfl, _, rfl, f, _, rfl, hfv ▸ DGet.t (k := eK e) R.fa hu0, t, _, _, _, rfl, rfl, SqT.of ht, rfl, ?_⟩
    refine ⟨_, rfl, pt, rfl, ⟨_, SqT.of hpt⟩, fun D hD => ?_⟩
    refine lcR (walk_tup (xs := pv)) hD (by omega) (fun H' e => SqT.of (e _ _ hpt)) (fun i acc H' => IsL H' acc ((missL ix pl ((ps e).take i)).map eD)) (fun i acc H H' o ⟨l, hl⟩ z => z.mono (o.tk (by rw [hl]; intro xs q; cases q))) .nil ?_ ?_
    · rintro i acc x H1 H2 B B' hi _ e1 hD1 r ⟨rfl, hx⟩ kB kB'
      have R1 := R.mono e1
      obtain ⟨d0, hd0, hx0⟩ := (hpvl.mono (Tk.of e1)).get hx
      obtain ⟨q, hq, rfl⟩ := tup_get hd0
      have hqk := hps q (List.mem_of_getElem? hq)
      obtain ⟨w1, rfl, hw1⟩ := Is.edge_iff.mp hx0
      obtain ⟨t2, pt2, iv2, pv2, hfv2, ht2, hiv2, _, _⟩ := R1.val hqk
      have htk : missL ix pl ((ps e).take (i + 1)) = missL ix pl ((ps e).take i) ++ (if ix q ≠ none ∧ q ∉ pl then [q] else []) := by
        rw [List.take_add_one, hq]
        unfold missL
        rw [List.filter_append]
        congr 1
        by_cases h1 : ix q ≠ none ∧ q ∉ pl
        · rw [if_pos h1]; simp [h1.1, h1.2]
        · rw [if_neg h1, Option.toList, List.filter_eq_nil_iff]
          intro z hz hz2
          rw [List.mem_singleton.mp hz, Bool.and_eq_true, decide_eq_true_iff, decide_eq_true_iff] at hz2
          exact h1 hz2
      refine ⟨rfl, _, rfl, _, _, _, _, _, rfl, R1.ob, T.cRowsD.cl, T.cRowsD.n_found, fz_at ndRowsD (i := 0) rfl rfl, _, rfl, f, _, rfl, hfv2 ▸ DGet.t (k := eK q) R1.fa hw1, t2, _, _, _, rfl, rfl, SqT.of ht2, rfl, rfl, _, rfl, iteN (fun h1 => ?_) fun h1 => ?_⟩
      · refine kB' _ (Ex.refl _) ?_
        rw [htk, if_neg fun z => z.1 ((ixD_non hiv2).mp h1), List.append_nil]
        exact r
      · refine ⟨_, rfl, _, rfl, _, _, _, _, _, rfl, R1.ob, T.cRowsD.cl, T.cRowsD.n_places, fz_at ndRowsD (i := 1) rfl rfl, pc, _, rfl, DGet.t (k := eK q) R1.pa hw1, _, rfl, iteNB (fun h2 => ?_) fun h2 => ?_⟩
        · refine kB' _ (Ex.refl _) ?_
          rw [htk, if_neg fun z => z.2 ((R1.pok.mem q).mp h2), List.append_nil]
          exact r
        · refine ⟨_, rfl, kB _ _ (Ex.refl _) ?_⟩
          rw [htk, if_pos ⟨fun z => h1 ((ixD_non hiv2).mpr z), fun z => by rw [(R1.pok.mem q).mpr z] at h2; cases h2⟩, List.map_append]
          exact r.app (.cons hx0 .nil)
    · rintro acc H1 e1 hD1 _ r
      rw [hpn, List.take_length] at r
      exact k D acc H1 e1 hD hD1 r
def sp_RowsD_item (T : Txt K mg) : Sp := fun vs H Q _ => ∃ (p : Addr) (v : V) (e : Edge) (H0 : Hp) (ks : List Edge) (ix : Edge → Option Nat) (ps : Edge → List Edge) (pl : List Edge) (rows : List (Int × List Item)) (dx f pc rl : Addr) (fk pk : List (List Key × V)) (rv : List V), vs = [.ref p, v] ∧
  RDIs T.cRowsD.C H0 H p ks ix ps pl rows dx f pc rl fk pk rv ∧ Is H v (eD e) ∧ e ∈ ks ∧ (ix e = none ∨ e ∈ pl) ∧
  ∀ v' it H', Ex H H' → Is H' v' (itD it) → ItemAt ix pl e it → Q v' H'
theorem ok_RowsD_item (T : Txt K mg) : FnOk P w K mg base CX0 1 T.cRowsD.item.f T.cRowsD.item.fd ["self", "key"] (sp_RowsD_item T) := by
  refine T.cRowsD.item.F.ok sc_RowsD_item (fun vs H Q E h => ?_) (fun cdv A outer s H vs Q E hr h => ?_)
  · obtain ⟨p, v, e, H0, ks, ix, ps, pl, rows, dx, f, pc, rl, fk, pk, rv, rfl, _⟩ := h
    rfl
  · obtain ⟨p, v, e, H0, ks, ix, ps, pl, rows, dx, f, pc, rl, fk, pk, rv, rfl, R, hv, he, hor, k⟩ := h
    obtain ⟨u, rfl, hu0⟩ := Is.edge_iff.mp hv
    obtain ⟨t, pt, iv, pv, hfv, ht, hiv, hpt, hpvl⟩ := R.val he
    have hu := hu_of hr
    have hnd := sc_RowsD_item.nd
    refine ⟨_, (pss_cons (ps_if (pt_cmpR op_isN (pe_ix (ix_tupK (K := K) rfl) (pe_dget hu (pe_fldK (K := K) rfl (L2.pv 0) rfl) (L2.pv 1) (fun _ _ => rfl)) (pe_int) (fun _ _ => rfl)) (pe_non) (nomark _)) (pss_one (ps_ret (pe_tup (pa_cons (pe_str) (pa_cons (L2.pv 1) pa_nil))))) pss_nil)
    (pss_one (ps_ret (pe_tup (pa_cons (pe_str) (pa_cons (pe_dget hu (pe_fldK (K := K) rfl (L2.pv 0) rfl) (L2.pv 1) (fun _ _ => rfl)) pa_nil)))))), ?_⟩
    refine ⟨_, rfl, _, _, _, _, _, rfl, R.ob, T.cRowsD.cl, T.cRowsD.n_found, fz_at ndRowsD (i := 0) rfl rfl, _, rfl, f, _, rfl, hfv ▸ DGet.t (k := eK e) R.fa hu0, t, _, _, _, rfl, rfl, SqT.of ht, rfl, rfl, _, rfl, iteD (fun h1 => ?_) fun h1 => ?_⟩
    · refine ⟨_, rfl, by show 2 ≤ sizeLine; decide, fun q hq => k _ (.net e) _ (Ex.new hq) ?_ (.inl ⟨(ixD_non hiv).mp h1, rfl⟩)⟩
      exact Is.mk upd_same (.cons (Is.str _) (.cons (isEdge (Ex.new hq _ _ hu0)) .nil))
    · have hep : e ∈ pl := hor.resolve_left fun z => h1 ((ixD_non hiv).mpr z)
      refine nxT ?_
      cases hpv : valV pk (eK e) with
      | none => exact ((R.pok.2 e).2 hpv hep).elim
      | some pv' =>
        obtain ⟨i, rfl, hi⟩ := (R.pok.2 e).1 pv' hpv
        refine ⟨_, rfl, _, _, _, _, _, rfl, R.ob, T.cRowsD.cl, T.cRowsD.n_places, fz_at ndRowsD (i := 1) rfl rfl, _, rfl, pc, _, rfl, hpv ▸ DGet.t (k := eK e) R.pa hu0, by show 2 ≤ sizeLine; decide, fun q hq => k _ (.row (i : Int)) _ (Ex.new hq) ?_ (.inr ⟨i, hi, rfl⟩)⟩
        exact Is.mk upd_same (.cons (Is.str _) (.cons (Is.int _) .nil))
def sp_RowsD_init (T : Txt K mg) : Sp := fun vs H Q _ => ∃ (p dx f : Addr) (H0 : Hp) (fk : List (List Key × V)) (ks : List Edge) (ix : Edge → Option Nat) (ps : Edge → List Edge), vs = [.ref p, .ref f] ∧ Ex H0 H ∧ H0 p = none ∧ H p = some (.ins T.cRowsD.C dx []) ∧ H0 f = some (.dT fk) ∧
  (∀ e ∈ ks, ∃ v, valV fk (eK e) = some v ∧ Is H0 v (derD (ix e) (ps e))) ∧
  ∀ (H' H1 : Hp) (pc rl : Addr), RDIs T.cRowsD.C H1 H' p ks ix ps [] [] dx f pc rl fk [] [] → Ex H0 H1 → Q .non H'
theorem ok_RowsD_init (T : Txt K mg) : FnOk P w K mg base CX0 1 T.cRowsD.init.f T.cRowsD.init.fd ["self", "found"] (sp_RowsD_init T) := by
  refine T.cRowsD.init.F.ok sc_RowsD_init (fun vs H Q E h => ?_) (fun cdv A outer s H vs Q E hr h => ?_)
  · obtain ⟨p, dx, f, H0, fk, ks, ix, ps, rfl, _⟩ := h
    rfl
  · obtain ⟨p, dx, f, H0, fk, ks, ix, ps, rfl, e0, hp0, hp, hf, hder, k⟩ := h
    have hu := hu_of hr
    have hnd := sc_RowsD_init.nd
    refine ⟨_, (pss_cons (ps_fld (L2.pv 0) (L2.pv 1) rfl)
    (pss_cons (ps_fld (L2.pv 0) (pe_dnewT) rfl)
    (pss_one (ps_fld (L2.pv 0) (pe_lst pa_nil) rfl)))), ?_⟩
    rw [fz_nil (ns := nsRowsD)] at hp
    refine q_fld (v := .ref f) (fun Q z => ⟨_, rfl, z⟩) (fun Q z => ⟨_, rfl, z⟩) hp T.cRowsD.cl T.cRowsD.n_found ndRowsD rfl (by decide) fun H1 o1 hp1 => ?_
    intro pc hpc
    refine ⟨_, rfl, p, _, _, _, rfl, Ex.new hpc _ _ hp1, T.cRowsD.cl, T.cRowsD.n_places, fz_len (by decide), fld_put ndRowsD rfl fun H2 o2 hp2 => ?_⟩
    refine ⟨Nat.zero_le _, fun rl hrl => ?_⟩
    refine ⟨_, rfl, p, _, _, _, rfl, Ex.new hrl _ _ hp2, T.cRowsD.cl, T.cRowsD.n_rows, fz_len (by decide), fld_put ndRowsD rfl fun H3 o3 hp3 => ?_⟩
    have nfp : pc ≠ p := (ne_of_none hp1 hpc).symm
    have nlp : rl ≠ p := (ne_of_none hp2 hrl).symm
    have hf2 := o2 _ _ (upd_same (H := H1) (a := pc) (o := HO.dT [])) nfp
    have nfl : pc ≠ rl := ne_of_none hf2 hrl
    have hf3 := o3 _ _ (Ex.new (o := HO.lst []) hrl _ _ hf2) nfp
    have hl3 := o3 _ _ (upd_same (H := H2) (a := rl) (o := HO.lst [])) nlp
    have o12 : Off p H1 H2 := (Off.of (Ex.new hpc)).trans o2
    have o23 : Off p H2 H3 := (Off.of (Ex.new hrl)).trans o3
    have hb0 : Ex (lessH (lessH H3 pc) rl) H3 := (lessH_ex _ _).trans (lessH_ex _ _)
    have hbf : lessH (lessH H3 pc) rl pc = none := by rw [lessH_ne nfl]; exact lessH_at
    have hbl : lessH (lessH H3 pc) rl rl = none := lessH_at
    have hHb : Ex H0 (lessH (lessH H3 pc) rl) := fun z o h => by
      have hzp : z ≠ p := fun q => by rw [q, hp0] at h; cases h
      have h1 := o1 z o (e0 z o h) hzp
      rw [lessH_ne (ne_of_none (o12 z o h1 hzp) hrl), lessH_ne (ne_of_none h1 hpc)]
      exact o23 z o (o12 z o h1 hzp) hzp
    have hpb : lessH (lessH H3 pc) rl p = some (.ins T.cRowsD.C dx (fz nsRowsD [.ref f, .ref pc, .ref rl])) := by rw [lessH_ne nlp.symm, lessH_ne nfp.symm]; exact hp3
    refine k H3 _ pc rl ⟨hpb, hb0, hHb _ _ hf, fun e he => ?_, hbf, hf3, EPl.nil, hbl, hl3, .nil⟩ hHb
    obtain ⟨v, h1, h2⟩ := hder e he
    exact ⟨v, h1, h2.mono (Tk.of (hHb.trans hb0))⟩
end
end Zp
set_option maxRecDepth 100000
set_option maxHeartbeats 0
namespace Zp
open PySem L2 Zs Evl Pr
theorem IsL.snoc_inv {H : Hp} {vs : List V} {ds : List PD} {d : PD} (h : IsL H vs (ds ++ [d])) : ∃ a y, vs = a ++ [y] ∧ IsL H a ds ∧ Is H y d := by
  induction ds generalizing vs with
  | nil =>
    obtain ⟨y, r, rfl, h1, h2⟩ := IsL.cons_iff.mp h
    cases IsL.nil_iff.mp h2
    exact ⟨[], y, rfl, .nil, h1⟩
  | cons c ds ih =>
    obtain ⟨y, r, rfl, h1, h2⟩ := IsL.cons_iff.mp h
    obtain ⟨a, z, rfl, h3, h4⟩ := ih h2
    exact ⟨y :: a, z, rfl, .cons h1 h3, h4⟩
def skD (sk : List (Edge × Bool)) : List PD := (sk.reverse.map (·.1)).map eD
section
variable {P : Program} {w : World} {K : PySem.W.Frag} {mg : Str → Option Value} {base : Heap}
def sp_RowsD_add (T : Txt K mg) : Sp := fun vs H Q _ => ∃ (p : Addr) (v : V) (e : Edge) (M : Mach) (N : NetD) (tm : Edge → Nat) (H0 : Hp) (ks : List Edge) (ix : Edge → Option Nat) (ps : Edge → List Edge) (pl : List Edge) (rows : List (Int × List Item)) (dx f pc rl : Addr) (fk pk : List (List Key × V)) (rv : List V), vs = [.ref p, v, .bl true] ∧
  RDIs T.cRowsD.C H0 H p ks ix ps pl rows dx f pc rl fk pk rv ∧ Is H v (eD e) ∧ e ∈ ks ∧ MOk M ∧ NF M N ks ix ps tm ∧ RI M ks ix ps pl rows ∧ ks.length ≤ 300 ∧
  ∀ (pl' : List Edge) (rows' : List (Int × List Item)) (pk' : List (List Key × V)) (rv' : List V) H', RDIs T.cRowsD.C H0 H' p ks ix ps pl' rows' dx f pc rl fk pk' rv' → RI M ks ix ps pl' rows' → PreE pl pl' → (ix e = none ∨ e ∈ pl') → Tk H H' → Q .non H'
theorem ok_RowsD_add (T : Txt K mg) : FnOk P w K mg base CX0 2 T.cRowsD.add.f T.cRowsD.add.fd ["self", "key", "with_items"] (sp_RowsD_add T) := by
  refine T.cRowsD.add.F.ok sc_RowsD_add (fun vs H Q E h => ?_) (fun cdv A outer s H vs Q E hr h => ?_)
  · obtain ⟨p, v, e, M, N, tm, H0, ks, ix, ps, pl, rows, dx, f, pc, rl, fk, pk, rv, rfl, _⟩ := h
    rfl
  · obtain ⟨p, kv, e0, M, N, tm, H0, ks, ix, ps, pl0, rows0, dx, f, pc, rl, fk, pk0, rv0, rfl, R0, hv, he0, hMok, hNF, hRI0, hks, k⟩ := h
    have hu := hu_of hr
    have hnd := sc_RowsD_add.nd
    refine ⟨_, (pss_cons (ps_set (i := 3) hnd rfl (by first | exact Or.inl rfl | exact Or.inr rfl) (pe_lst (pa_cons (L2.pv 1) pa_nil)))
    (pss_one (ps_while PassesOwn.never (pt_cmpR op_gt (pe_callB call_len_seq (by rfl) T.b.len PySem.boot_len (pa_cons (L2.pv 3) pa_nil)) (pe_int) (nomark _)) (pss_cons (ps_set (i := 4) hnd rfl (by first | exact Or.inl rfl | exact Or.inr rfl) (pe_ix (ix_listK (K := K) rfl) (L2.pv 3) (pe_un un_neg (pe_int)) (fun _ _ => rfl)))
    (pss_cons (ps_asg (pe_dget hu (pe_fldK (K := K) rfl (L2.pv 0) rfl) (L2.pv 4) (fun _ _ => rfl)) (pg_tup rfl (pgs_cons (pg_name (i := 5) hnd rfl (by first | exact Or.inl rfl | exact Or.inr rfl)) (pgs_cons (pg_name (i := 6) hnd rfl (by first | exact Or.inl rfl | exact Or.inr rfl)) pgs_nil))))
    (pss_cons (ps_set (i := 7) hnd rfl (by first | exact Or.inl rfl | exact Or.inr rfl) (pe_meth (L2.pv 0) T.cRowsD.cl T.cRowsD.m_missing (ok_RowsD_missing T) (hr.mono (by decide)) T.cRowsD.missing.b .nil pass0 (pa_cons (L2.pv 4) pa_nil)))
    (pss_one (ps_if (PW.pt (pw_or (pt_cmpR op_isN (L2.pv 5) (pe_non) (nomark _)) (pw_or1 (pt_cmp (pc_din hu (L2.pv 4) (pe_fldK (K := K) rfl (L2.pv 0) rfl)) rfl)))) (pss_one (ps_expr (pe_bm0 PySem.F.plainAttrs_list PySem.F.slot_list_pop PySem.F.type_list_pop mt_pop (L2.pv 3)))) (pss_one (ps_if (pt_cmpR op_gt (pe_callB call_len_seq (by rfl) T.b.len PySem.boot_len (pa_cons (L2.pv 7) pa_nil)) (pe_int) (nomark _)) (pss_one (ps_expr (pe_bm PySem.F.plainAttrs_list PySem.F.slot_list_extend PySem.F.type_list_extend mt_extend (L2.pv 3) (pa_cons (L2.pv 7) pa_nil)))) (pss_cons (ps_if (pt_val (L2.pv 2)) (pss_one (ps_set (i := 8) hnd rfl (by first | exact Or.inl rfl | exact Or.inr rfl) (pe_callTy call_tuple_of (by rfl) T.b.tuple (by decide +kernel) (pa_cons (pe_lc (own := [("part", 9)]) (g := (gName 9)) (tt := tYes) rfl hnd (pi_tup (L2.pv 6)) (blkOk_by (own := [("part", 9)]) (N := nm_RowsD_add) (sc := defScope s_RowsD_add) (by decide +kernel)) (fun _ _ _ _ _ => (pg_name (i := 9) hnd rfl (by first | exact Or.inl rfl | exact Or.inr rfl))) (fun _ _ _ _ _ => pts_nil) (fun _ _ _ _ _ => (pe_meth (L2.pv 0) T.cRowsD.cl T.cRowsD.m_item (ok_RowsD_item T) (hr.mono (by decide)) T.cRowsD.item.b .nil pass0 (pa_cons (L2.pv 9) pa_nil)))) pa_nil)))) (pss_one (ps_set (i := 8) hnd rfl (by first | exact Or.inl rfl | exact Or.inr rfl) (pe_callTy call_tuple_of (by rfl) T.b.tuple (by decide +kernel) (pa_cons (pe_lc (own := [("part", 9)]) (g := (gName 9)) (tt := tYes) rfl hnd (pi_tup (L2.pv 6)) (blkOk_by (own := [("part", 9)]) (N := nm_RowsD_add) (sc := defScope s_RowsD_add) (by decide +kernel)) (fun _ _ _ _ _ => (pg_name (i := 9) hnd rfl (by first | exact Or.inl rfl | exact Or.inr rfl))) (fun _ _ _ _ _ => pts_nil) (fun _ _ _ _ _ => (pe_dget hu (pe_fldK (K := K) rfl (L2.pv 0) rfl) (L2.pv 9) (fun _ _ => rfl)))) pa_nil)))))
    (pss_cons (ps_dput hu (pe_fldK (K := K) rfl (L2.pv 0) rfl) (L2.pv 4) (pe_callB call_len_seq (by rfl) T.b.len PySem.boot_len (pa_cons (pe_fldK (K := K) rfl (L2.pv 0) rfl) pa_nil)) rfl)
    (pss_cons (ps_expr (pe_bm PySem.F.plainAttrs_list PySem.F.slot_list_append PySem.F.type_list_append mt_append (pe_fldK (K := K) rfl (L2.pv 0) rfl) (pa_cons (pe_tup (pa_cons (L2.pv 5) (pa_cons (L2.pv 8) pa_nil))) pa_nil)))
    (pss_one (ps_expr (pe_bm0 PySem.F.plainAttrs_list PySem.F.slot_list_pop PySem.F.type_list_pop mt_pop (L2.pv 3))))))))))))))))), ?_⟩
    refine ⟨_, rfl, by show 1 ≤ sizeLine; decide, fun pd hpd => ?_⟩
    have epd := Ex.new (o := HO.lst [kv]) hpd
    have npr : pd ≠ rl := (ne_of_none R0.ra hpd).symm
    have npc : pd ≠ pc := (ne_of_none R0.pa hpd).symm
    have ncr : pc ≠ rl := ne_of R0.pa R0.ra (by intro z; cases z)
    have hpd0 : H0 pd = none := fresh_back R0.e0 hpd
    have hpsk : ∀ e ∈ ks, ∀ i, ix e = some i → (∀ q ∈ ps e, q ∈ ks ∧ tm q < tm e) ∧ (ps e).length ≤ 2 := fun e he i hi => by
      obtain ⟨s, h1, _, _, h4, h5⟩ := hNF.drv e he i hi
      exact ⟨h5, by rw [h4.len]; exact (hMok.stp s (List.mem_of_getElem? h1)).2.2.2.1⟩
    refine ⟨fun m σ' H' => ∃ (sk : List (Edge × Bool)) (pl : List Edge) (rows : List (Int × List Item)) (pk : List (List Key × V)) (rv pvs : List V) (v4 v5 v6 v7 v8 : Option V), m = costS tm sk ∧ σ' = [some (.ref p), some kv, some (.bl true), some (.ref pd), v4, v5, v6, v7, v8, none] ∧ RDIs T.cRowsD.C H0 H' p ks ix ps pl rows dx f pc rl fk pk rv ∧ RI M ks ix ps pl rows ∧ SK ks ix ps tm pl sk ∧ H' pd = some (.lst pvs) ∧ IsL H' pvs (skD sk) ∧ Tk H H' ∧ PreE pl0 pl ∧ (Bot e0 sk ∨ (sk = [] ∧ (ix e0 = none ∨ e0 ∈ pl))),
      ⟨_, [(e0, false)], pl0, rows0, pk0, rv0, [kv], none, none, none, none, none, rfl, rfl, R0.mono epd, hRI0, SK.one he0, upd_same, .cons (hv.mono (Tk.of epd)) .nil, Tk.of epd, PreE.refl _, .inl (Bot.one _ _)⟩, ?_⟩
    rintro m σ' H' ⟨sk, pl, rows, pk, rv, pvs, v4, v5, v6, v7, v8, rfl, rfl, R, hRI, hSK, hpv, hpvs, tk, hpre, hbot⟩
    have hpn := hpvs.len
    have hsl : (skD sk).length = sk.length := by unfold skD; simp
    have hsk := hSK.len hNF.nd
    refine ⟨_, rfl, pd, _, rfl, .inl (SqL.of hpv), _, _, rfl, rfl, _, rfl, iteD (fun h1 => ?_) fun h1 => ?_⟩
    rotate_left
    · have : sk = [] := List.length_eq_zero_iff.mp (by omega)
      subst this
      refine k pl rows pk rv H' R hRI hpre ?_ tk
      rcases hbot with ⟨l, b, z⟩ | z
      · cases l <;> cases z
      · exact z.2
    obtain ⟨e, b, r, rfl⟩ : ∃ e b r, sk = (e, b) :: r := by
      cases sk with
      | nil => rw [hpn, hsl] at h1; exact absurd h1 (by simp)
      | cons x r => exact ⟨x.1, x.2, r, rfl⟩
    have hbot' : Bot e0 ((e, b) :: r) := hbot.resolve_right fun z => nomatch z.1
    have hskd : skD ((e, b) :: r) = skD r ++ [eD e] := by unfold skD; simp
    rw [hskd] at hpvs
    obtain ⟨pvs, lv, rfl, hpvs', hlv⟩ := hpvs.snoc_inv
    have hek : e ∈ ks := hSK.sub (e, b) List.mem_cons_self
    refine ⟨fun σ' H' => ∃ m', m' < costS tm ((e, b) :: r) ∧ ∃ (sk : List (Edge × Bool)) (pl : List Edge) (rows : List (Int × List Item)) (pk : List (List Key × V)) (rv pvs : List V) (v4 v5 v6 v7 v8 : Option V), m' = costS tm sk ∧ σ' = [some (.ref p), some kv, some (.bl true), some (.ref pd), v4, v5, v6, v7, v8, none] ∧ RDIs T.cRowsD.C H0 H' p ks ix ps pl rows dx f pc rl fk pk rv ∧ RI M ks ix ps pl rows ∧ SK ks ix ps tm pl sk ∧ H' pd = some (.lst pvs) ∧ IsL H' pvs (skD sk) ∧ Tk H H' ∧ PreE pl0 pl ∧ (Bot e0 sk ∨ (sk = [] ∧ (ix e0 = none ∨ e0 ∈ pl))), fun σ' H' h => h, ?_⟩
    obtain ⟨u, rfl, hu0⟩ := Is.edge_iff.mp hlv
    obtain ⟨t, pt, iv, pv, hfv, ht, hiv, hpt, hpvl⟩ := R.val hek
    refine ⟨_, rfl, _, rfl, pd, _, _, _, rfl, rfl, SqL.of hpv, atI_last _ _, ?_⟩
    refine ⟨_, rfl, _, _, _, _, _, rfl, R.ob, T.cRowsD.cl, T.cRowsD.n_found, fz_at ndRowsD (i := 0) rfl rfl, _, rfl, f, _, rfl, hfv ▸ DGet.t (k := eK e) R.fa hu0, t, _, rfl, SqT.of ht, rfl, _, _, rfl, _, _, rfl, rfl, ?_⟩
    -- the pop, once it stands that the top is served
    have pop : ∀ (pl' : List Edge) (rows' : List (Int × List Item)) (pk' : List (List Key × V)) (rv' : List V) (H2 : Hp) (v7 v8 : Option V), RDIs T.cRowsD.C H0 H2 p ks ix ps pl' rows' dx f pc rl fk pk' rv' → RI M ks ix ps pl' rows' → PreE pl pl' → (ix e = none ∨ e ∈ pl') → Tk H' H2 → H2 pd = some (.lst (pvs ++ [.ref u])) →
        ∃ m', m' < costS tm ((e, b) :: r) ∧ ∃ (sk : List (Edge × Bool)) (pl : List Edge) (rows : List (Int × List Item)) (pk : List (List Key × V)) (rv pvs' : List V) (v4 v5 v6 v7' v8' : Option V), m' = costS tm sk ∧ [some (V.ref p), some kv, some (.bl true), some (.ref pd), some (.ref u), some iv, some (.ref pt), v7, v8, none] = [some (.ref p), some kv, some (.bl true), some (.ref pd), v4, v5, v6, v7', v8', none] ∧ RDIs T.cRowsD.C H0 (upd H2 pd (.lst (pvs ++ [V.ref u]).dropLast)) p ks ix ps pl rows dx f pc rl fk pk rv ∧ RI M ks ix ps pl rows ∧ SK ks ix ps tm pl sk ∧ (upd H2 pd (.lst (pvs ++ [V.ref u]).dropLast)) pd = some (.lst pvs') ∧ IsL (upd H2 pd (.lst (pvs ++ [V.ref u]).dropLast)) pvs' (skD sk) ∧ Tk H (upd H2 pd (.lst (pvs ++ [V.ref u]).dropLast)) ∧ PreE pl0 pl ∧ (Bot e0 sk ∨ (sk = [] ∧ (ix e0 = none ∨ e0 ∈ pl))) := by
      intro pl' rows' pk' rv' H2 v7 v8 R2 hRI2 hp2 hx tk2 hpd2
      obtain ⟨hSK2, hcost⟩ := hSK.pop (pl' := pl') (fun q hq => hp2.mem hq) hx
      have tk3 : Tk H2 (upd H2 pd (.lst (pvs ++ [V.ref u]).dropLast)) := Tk.wr hpd2 fun _ q => nomatch q
      refine ⟨_, hcost, r, pl', rows', pk', rv', pvs, _, _, _, _, _, rfl, rfl, ⟨R2.ob0, Ex.mut R2.e0 hpd0, R2.fa0, fun x hx => ?_, R2.p0, by rw [upd_ne npc.symm]; exact R2.pa, R2.pok, R2.r0, by rw [upd_ne npr.symm]; exact R2.ra, R2.rok.mono tk3⟩, hRI2, hSK2, by rw [upd_same, List.dropLast_concat], hpvs'.mono (tk2.trans tk3), tk.trans (tk2.trans tk3), hpre.trans hp2, ?_⟩
      · obtain ⟨v, h1, h2⟩ := R2.der x hx
        exact ⟨v, h1, h2.mono tk3⟩
      · rcases hbot'.tail with ⟨z1, z2⟩ | z
        · exact .inr ⟨z1, z2 ▸ hx⟩
        · exact .inl z
    have hpsq : (∀ q ∈ ps e, q ∈ ks) ∧ (ps e).length ≤ 2 := by
      cases hi : ix e with
      | none => rw [hNF.bps e hek hi]; exact ⟨fun q h => (nomatch h), by decide⟩
      | some i => exact ⟨fun q h => ((hpsk e hek i hi).1 q h).1, (hpsk e hek i hi).2⟩
    refine ⟨_, rfl, _, _, _, rfl, R.ob, fz_no (by decide +kernel), _, rfl, p, .ref u, e, H0, ks, ix, ps, pl, rows, dx, f, pc, rl, fk, pk, rv, rfl, R, isEdge hu0, hek, hpsq.1, by omega, fun br mv H2 e2 hbr0 hbr hmv => ?_⟩
    have R2 := R.mono e2
    have hpd2 := e2 _ _ hpv
    have hmn := hmv.len
    rw [List.length_map] at hmn
    refine ⟨_, rfl, rfl, _, rfl, iteD (fun h2 => ?_) fun h2 => ?_⟩
    · exact ⟨_, rfl, .inl ⟨rfl, _, SqL.of hpd2⟩, pd, _, .ref u, rfl, rfl, hpd2, by simp, pop pl rows pk rv H2 _ _ R2 hRI (PreE.refl _) (.inl ((ixD_non hiv).mp h2)) (Tk.of e2) hpd2⟩
    obtain ⟨i, hi⟩ : ∃ i, ix e = some i := by
      cases hi : ix e with
      | none => exact (h2 ((ixD_non hiv).mpr hi)).elim
      | some i => exact ⟨i, rfl⟩
    refine ⟨_, rfl, _, rfl, _, _, _, _, _, rfl, R2.ob, T.cRowsD.cl, T.cRowsD.n_places, fz_at ndRowsD (i := 1) rfl rfl, pc, _, rfl, DGet.t (k := eK e) R2.pa (e2 _ _ hu0), _, rfl, iteB (fun h3 => ?_) fun h3 => ?_⟩
    · exact ⟨_, rfl, .inl ⟨rfl, _, SqL.of hpd2⟩, pd, _, .ref u, rfl, rfl, hpd2, by simp, pop pl rows pk rv H2 _ _ R2 hRI (PreE.refl _) (.inr ((R2.pok.mem e).mp h3)) (Tk.of e2) hpd2⟩
    have hepl : e ∉ pl := fun z => by rw [(R2.pok.mem e).mpr z] at h3; cases h3
    refine ⟨_, rfl, br, _, rfl, .inl (SqL.of hbr), _, _, rfl, rfl, _, rfl, iteD (fun h4 => ?_) fun h4 => ?_⟩
    · -- pending.extend(before)
      have hms : missL ix pl (ps e) ≠ [] := fun z => by rw [hmn, z] at h4; exact absurd h4 (by simp)
      have hml : (missL ix pl (ps e)).length ≤ (ps e).length := by
        unfold missL
        exact List.length_filter_le _ _
      obtain ⟨hSK2, hcost⟩ := hSK.expand hms (by omega) (fun q hq => missL_mem.mp hq) (fun q hq => by
        by_cases z1 : ix q = none
        · exact .inl z1
        · by_cases z2 : q ∈ pl
          · exact .inr (.inl z2)
          · exact .inr (.inr (missL_mem.mpr ⟨hq, z1, z2⟩))) (hpsk e hek i hi).1
      have nbp : br ≠ pd := (ne_of_none hpv hbr0).symm
      refine ⟨_, rfl, .inl ⟨rfl, _, SqL.of hpd2⟩, _, rfl, pd, br, _, _, rfl, rfl, hpd2, hbr, lineOf (by rw [hpn, hsl, hmn]; omega), ?_⟩
      have tk3 : Tk H2 (upd H2 pd (.lst (pvs ++ [V.ref u] ++ mv))) := Tk.wr hpd2 fun _ q => nomatch q
      refine ⟨_, hcost, _, pl, rows, pk, rv, _, _, _, _, _, _, rfl, rfl, ⟨R2.ob0, Ex.mut R2.e0 hpd0, R2.fa0, fun x hx => ?_, R2.p0, by rw [upd_ne npc.symm]; exact R2.pa, R2.pok, R2.r0, by rw [upd_ne npr.symm]; exact R2.ra, R2.rok.mono tk3⟩, hRI, hSK2, upd_same, ?_, tk.trans ((Tk.of e2).trans tk3), hpre, .inl hbot'.expand⟩
      · obtain ⟨v, z1, z2⟩ := R2.der x hx
        exact ⟨v, z1, z2.mono tk3⟩
      · have : skD ((missL ix pl (ps e)).reverse.map (·, false) ++ (e, true) :: r) = (skD r ++ [eD e]) ++ (missL ix pl (ps e)).map eD := by
          unfold skD
          simp
        rw [this]
        have h5 := (hpvs'.mono ((Tk.of e2).trans tk3)).app (.cons (hlv.mono ((Tk.of e2).trans tk3)) .nil)
        exact h5.app (hmv.mono tk3)
    · -- written
      have hmz : missL ix pl (ps e) = [] := List.length_eq_zero_iff.mp (by omega)
      have hserved : ∀ q ∈ ps e, ix q = none ∨ q ∈ pl := fun q hq => by
        by_cases z1 : ix q = none
        · exact .inl z1
        · by_cases z2 : q ∈ pl
          · exact .inr z2
          · have := missL_mem.mpr ⟨hq, z1, z2⟩
            rw [hmz] at this
            cases this
      have hpt2 := e2 _ _ hpt
      have hpvl2 := hpvl.mono (Tk.of e2)
      have hpvn := hpvl.len
      rw [List.length_map] at hpvn
      refine ⟨_, rfl, true, rfl, ?_⟩
      refine ⟨_, rfl, pt, rfl, ⟨_, SqT.of hpt2⟩, fun D hD => ?_⟩
      refine lcR (walk_tup (xs := pv)) hD (by omega) (fun H' e => SqT.of (e _ _ hpt2)) (fun j acc H' => ∃ its : List Item, IsL H' acc (its.map itD) ∧ All2 (fun q it => ItemAt ix pl q it) ((ps e).take j) its) (fun i acc H H' o ⟨l, hl⟩ ⟨its, z, z2⟩ => ⟨its, z.mono (o.tk (by rw [hl]; intro xs q; cases q)), z2⟩) ⟨[], .nil, .nil⟩ ?_ ?_
      · rintro j acc x H3 H4 B B' hj _ e3 hD3 ⟨its, r1, r2⟩ ⟨rfl, hx⟩ kB _
        obtain ⟨d0, hd0, hx0⟩ := (hpvl2.mono (Tk.of e3)).get hx
        obtain ⟨q, hq, rfl⟩ := tup_get hd0
        have hqm := List.mem_of_getElem? hq
        have R3 := R2.mono e3
        refine ⟨rfl, _, rfl, _, _, _, rfl, R3.ob, fz_no (by decide +kernel), _, rfl, p, x, q, H0, ks, ix, ps, pl, rows, dx, f, pc, rl, fk, pk, rv, rfl, R3, hx0, hpsq.1 q hqm, hserved q hqm, fun v' it H5 e5 hv' hit => kB _ _ e5 ⟨its ++ [it], ?_, ?_⟩⟩
        · rw [List.map_append]
          exact (r1.mono (Tk.of e5)).app (.cons hv' .nil)
        · rw [List.take_add_one, hq]
          exact r2.snoc hit
      · rintro acc H3 e3 hD3 _ ⟨its, r1, r2⟩
        rw [hpvn, List.take_length] at r2
        refine ⟨D, acc, rfl, .inl ⟨SqL.of hD3, fun wt hwt => ?_⟩⟩
        have ewt := Ex.new (o := HO.tup acc) hwt
        have e24 := e2.trans (e3.trans ewt)
        have R4 := R2.mono (e3.trans ewt)
        have hpd4 := (e3.trans ewt) _ _ hpd2
        have hw4 : upd H3 wt (.tup acc) wt = some (.tup acc) := upd_same
        have r4 := r1.mono (Tk.of ewt)
        have hu4 := e24 _ _ hu0
        generalize upd H3 wt (.tup acc) = H4 at e24 R4 hpd4 hw4 r4 hu4
        -- self.places[last] = len(self.rows)
        have hrl := hRI.row.len
        have hrvn := R4.rok.len
        rw [List.length_map] at hrvn
        have hpkn := R4.pok.1
        have hpln : pl.length ≤ 300 := Nat.le_trans (nd_len _ _ hRI.nd fun x hx => (hRI.sub x hx).1) hks
        have hno : valV pk (eK e) = none := by
          cases z : valV pk (eK e) with
          | none => rfl
          | some v => exact (hepl ((R4.pok.mem e).mp (by rw [z]; rfl))).elim
        refine ⟨_, rfl, _, _, _, _, _, rfl, R4.ob, T.cRowsD.cl, T.cRowsD.n_rows, fz_at ndRowsD (i := 2) rfl rfl, rl, _, rfl, .inl (SqL.of R4.ra), _, rfl, _, _, _, _, _, rfl, R4.ob, T.cRowsD.cl, T.cRowsD.n_places, fz_at ndRowsD (i := 1) rfl rfl, _, rfl, pc, _, rfl, DPut.t (k := eK e) R4.pa hu4 (lineLt (by omega)), ?_⟩
        have tk5 : Tk H4 (upd H4 pc (.dT (putK pk (eK e) (.int (rv.length : Int))))) := Tk.wr R4.pa fun _ q => nomatch q
        have e05 : Ex H0 (upd H4 pc (.dT (putK pk (eK e) (.int (rv.length : Int))))) := Ex.mut R4.e0 R4.p0
        have hra5 : upd H4 pc (.dT (putK pk (eK e) (.int (rv.length : Int)))) rl = some (.lst rv) := by rw [upd_ne ncr.symm]; exact R4.ra
        have hpc5 : upd H4 pc (.dT (putK pk (eK e) (.int (rv.length : Int)))) pc = some (.dT (putK pk (eK e) (.int (rv.length : Int)))) := upd_same
        have hpd5 : upd H4 pc (.dT (putK pk (eK e) (.int (rv.length : Int)))) pd = some (.lst (pvs ++ [V.ref u])) := by rw [upd_ne npc]; exact hpd4
        generalize upd H4 pc (.dT (putK pk (eK e) (.int (rv.length : Int)))) = H5 at tk5 e05 hra5 hpc5 hpd5
        have hob5 := e05 _ _ R4.ob0
        have hiv5 : Is H5 iv (.i (i : Int)) := by
          have := hiv.mono ((Tk.of e24).trans tk5)
          rw [hi] at this
          exact this
        -- self.rows.append((step, written))
        (try dsimp only [gName, tNext])
        refine app_is (K := K) (pd := rowD ((i : Int), its)) hra5 (R4.rok.mono tk5) (by rw [List.length_map]; omega) e05 R4.r0 (fun Q z => ⟨_, rfl, _, _, _, _, _, rfl, hob5, T.cRowsD.cl, T.cRowsD.n_rows, fz_at ndRowsD (i := 2) rfl rfl, z⟩) (fun Q z => ⟨_, rfl, _, rfl, by show 2 ≤ sizeLine; decide, fun un hun => z _ _ (Ex.new hun) (Is.mk upd_same (.cons (hiv5.mono (Tk.new hun)) (.cons (Is.mk (Ex.new hun _ _ (tk5 _ _ hw4)) (r4.mono (tk5.trans (Tk.new hun)))) .nil)))⟩) fun H6 rv6 e6 o6 t6 hra6 hrok6 => ?_
        have hpd6 := o6 _ _ hpd5 npr
        have hpc6 := o6 _ _ hpc5 ncr
        have hpok6 := R4.pok.new hno
        refine ⟨_, rfl, .inl ⟨rfl, _, SqL.of hpd6⟩, pd, _, .ref u, rfl, rfl, hpd6, by simp, pop (pl ++ [e]) (rows ++ [((i : Int), its)]) _ rv6 H6 _ _ ⟨R4.ob0, e6, R4.fa0, fun x hx => ?_, R4.p0, hpc6, ?_, R4.r0, hra6, by rw [List.map_append]; exact hrok6⟩ (hRI.snoc hek hi hepl r2) ⟨_, rfl⟩ (.inr (by simp)) ((Tk.of e24).trans (tk5.trans t6)) hpd6⟩
        · obtain ⟨v, z1, z2⟩ := R4.der x hx
          exact ⟨v, z1, z2.mono (tk5.trans t6)⟩
        · have : rv.length = pl.length := by omega
          rw [this]
          exact hpok6
end
end Zp
set_option maxRecDepth 100000
set_option maxHeartbeats 0
namespace Zp
open PySem L2 Zs Evl Pr
theorem keysG {κ : Type} [DecidableEq κ] {kvs : List (κ × V)} {k : κ} {v : V} : (putK kvs k v).map (·.1) = if (valV kvs k).isSome then kvs.map (·.1) else kvs.map (·.1) ++ [k] := by
  cases e : valV kvs k with
  | none =>
    rw [putK_new _ e]
    simp
  | some x =>
    unfold putK
    rw [valV_any, e]
    simp only [Option.isSome_some, if_true, List.map_map]
    refine List.map_congr_left fun p _ => ?_
    show (if p.1 = k then (p.1, v) else p).1 = p.1
    split <;> rfl
theorem valV_no {κ : Type} [DecidableEq κ] : ∀ {kvs : List (κ × V)} {k : κ}, valV kvs k = none → k ∉ kvs.map (·.1)
  | [], _, _, h => nomatch h
  | p :: r, k, hv, h => by
    by_cases e : p.1 = k
    · rw [valV_pos e] at hv; cases hv
    · rw [valV_neg e] at hv
      rcases List.mem_cons.mp h with z | z
      · exact e z.symm
      · exact valV_no hv z
theorem nodup_put {κ : Type} [DecidableEq κ] {kvs : List (κ × V)} {k : κ} {v : V} (h : (kvs.map (·.1)).Nodup) : ((putK kvs k v).map (·.1)).Nodup := by
  rw [keysG]
  cases e : valV kvs k with
  | some x => rw [if_pos (show (some x).isSome = true from rfl)]; exact h
  | none =>
    rw [if_neg (by simp)]
    exact List.nodup_append.mpr ⟨h, by simp, fun a ha b hb z => valV_no e (by rw [← List.mem_singleton.mp hb, ← z]; exact ha)⟩
theorem mem_put {κ : Type} [DecidableEq κ] {kvs : List (κ × V)} {k k' : κ} {v v' : V} (h : (k', v') ∈ putK kvs k v) : (k' = k ∧ v' = v) ∨ (k', v') ∈ kvs := by
  unfold putK at h
  split at h
  · obtain ⟨p, hp, e⟩ := List.mem_map.mp h
    by_cases z : p.1 = k
    · rw [if_pos z] at e
      cases e
      exact .inl ⟨z, rfl⟩
    · rw [if_neg z] at e
      rw [← e]
      exact .inr hp
  · rcases List.mem_append.mp h with z | z
    · exact .inr z
    · cases List.mem_singleton.mp z
      exact .inl ⟨rfl, rfl⟩
def wyD (n : Int) (ps : List Edge) : PD := .t [.i n, .t (ps.map eD)]
structure PO (H : Hp) (kvs : List (Key × V)) (ks : List Edge) (c0 : Int) (w : List Int) (nd : Int) : Prop where
  mem : ∀ k v, (k, v) ∈ kvs → ∃ (node n : Int) (ps : List Edge), k = iK node ∧ (0 ≤ node ∧ node < nd) ∧ Is H v (wyD n ps) ∧ Chain c0 w ps node ∧ ∀ p ∈ ps, p ∈ ks
  nd : (kvs.map (·.1)).Nodup
theorem PO.mono {H H' : Hp} {kvs : List (Key × V)} {ks : List Edge} {c0 : Int} {w : List Int} {nd : Int} (e : Tk H H') (h : PO H kvs ks c0 w nd) : PO H' kvs ks c0 w nd := ⟨fun k v hk => by
  obtain ⟨node, n, ps, h1, h2, h3, h4⟩ := h.mem k v hk
  exact ⟨node, n, ps, h1, h2, h3.mono e, h4⟩, h.nd⟩
theorem PO.len {H : Hp} {kvs : List (Key × V)} {ks : List Edge} {c0 : Int} {w : List Int} {nd : Int} (h : PO H kvs ks c0 w nd) : kvs.length ≤ nd.toNat := by
  have := nd_len (kvs.map (·.1)) ((List.range nd.toNat).map fun i : Nat => iK (i : Int)) h.nd fun x hx => ?_
  · simpa using this
  · obtain ⟨⟨k, v⟩, hk, rfl⟩ := List.mem_map.mp hx
    obtain ⟨node, _, _, rfl, h2, _⟩ := h.mem k v hk
    exact List.mem_map.mpr ⟨node.toNat, List.mem_range.mpr (by omega), by show iK ((node.toNat : Nat) : Int) = iK node; congr 1; omega⟩
theorem PO.put {H : Hp} {kvs : List (Key × V)} {ks : List Edge} {c0 : Int} {w : List Int} {nd : Int} (h : PO H kvs ks c0 w nd) {node n : Int} {ps : List Edge} {v : V} (h1 : 0 ≤ node ∧ node < nd) (h2 : Is H v (wyD n ps)) (h3 : Chain c0 w ps node) (h4 : ∀ p ∈ ps, p ∈ ks) : PO H (putK kvs (iK node) v) ks c0 w nd := by
  refine ⟨fun k' v' hk => ?_, nodup_put h.nd⟩
  rcases mem_put hk with ⟨rfl, rfl⟩ | z
  · exact ⟨node, n, ps, rfl, h1, h2, h3, h4⟩
  · exact h.mem k' v' z
section
variable {P : Program} {w : World} {K : PySem.W.Frag} {mg : Str → Option Value} {base : Heap}
def sp_least_path (T : Txt K mg) : Sp := fun vs H Q _ => ∃ (p q : Addr) (v : V) (N : NetD) (c : Conf) (H0 : Hp) (S : NS) (dx m f l : Addr) (kvs lv : List (List Key × V)) (L : List Key → List V), vs = [.ref p, .ref q, v] ∧ NumIs T.cNumbers.C H0 H p S dx m f l kvs lv L ∧ NetAt T.cNet.C H q N ∧ Is H v (cD c) ∧ (0 ≤ c.1 ∧ c.1 < N.nd) ∧ (∀ e ∈ S.ks, InR N e) ∧ N.nd ≤ 1000 ∧ c.2.length ≤ 5000 ∧ S.ks.length ≤ 300 ∧
  (∃ e ∈ N.en, Path (mem S.ks) c.1 c.2 e) ∧
  ∀ v' (n : Int) (ps : List Edge) (e : Int) H', Ex H H' → Is H' v' (wyD n ps) → Chain c.1 c.2 ps e → (∀ p ∈ ps, p ∈ S.ks) → e ∈ N.en → Q v' H'
theorem ok_least_path (T : Txt K mg) : FnOk P w K mg base CX0 1 T.f.least_path.f T.f.least_path.fd ["numbers", "net", "configuration"] (sp_least_path T) := by
  refine T.f.least_path.F.ok sc_least_path (fun vs H Q E h => ?_) (fun cdv A outer s H vs Q E hr h => ?_)
  · obtain ⟨p, q, v, N, c, H0, S, dx, m, f, l, kvs, lv, L, rfl, _⟩ := h
    rfl
  · obtain ⟨p, q, v, N, c, H0, S, dx, m, f, l, kvs, lv, L, rfl, Nu, hN, hv, hc1, hrg, hnd1, hcl, hks, ⟨e0, he0, hpath⟩, k⟩ := h
    obtain ⟨ca, pl, rfl, hca, hpl⟩ := Is.conf_iff.mp hv
    obtain ⟨ndx, na, nb, ng, nes, ngs, hn⟩ := id hN
    have hu := hu_of hr
    have hnd := sc_least_path.nd
    refine ⟨_, (pss_cons (ps_asg (L2.pv 2) (pg_tup rfl (pgs_cons (pg_name (i := 3) hnd rfl (by first | exact Or.inl rfl | exact Or.inr rfl)) (pgs_cons (pg_name (i := 4) hnd rfl (by first | exact Or.inl rfl | exact Or.inr rfl)) pgs_nil))))
    (pss_cons (ps_set (i := 5) hnd rfl (by first | exact Or.inl rfl | exact Or.inr rfl) (pe_disp (pps_cons (L2.pv 3) (pe_tup (pa_cons (pe_int) (pa_cons (pe_tup pa_nil) pa_nil))) pps_nil) (by rfl) (by rfl) (fun z => by cases z) (by decide)))
    (pss_cons (ps_for PassesOwn.never rfl (pi_tup (L2.pv 4)) (pg_name (i := 6) hnd rfl (by first | exact Or.inl rfl | exact Or.inr rfl))
      (pss_cons (ps_set (i := 7) hnd rfl (by first | exact Or.inl rfl | exact Or.inr rfl) (pe_dnewK))
    (pss_cons (ps_lock (ps_for PassesOwn.never rfl (pi_items (L2.pv 5)) (pg_tup rfl (pgs_cons (pg_name (i := 8) hnd rfl (by first | exact Or.inl rfl | exact Or.inr rfl)) (pgs_cons (pg_tup rfl (pgs_cons (pg_name (i := 9) hnd rfl (by first | exact Or.inl rfl | exact Or.inr rfl)) (pgs_cons (pg_name (i := 10) hnd rfl (by first | exact Or.inl rfl | exact Or.inr rfl)) pgs_nil))) pgs_nil)))
      (pss_one (ps_for PassesOwn.never rfl (pi_listK (K := K) rfl (pe_dget2 hu (pe_fldK (K := K) rfl (L2.pv 0) rfl) (pe_tup (pa_cons (L2.pv 8) (pa_cons (L2.pv 6) pa_nil))) (pe_lst pa_nil) ⟨rfl, rfl, rfl, rfl⟩)) (pg_name (i := 11) hnd rfl (by first | exact Or.inl rfl | exact Or.inr rfl))
      (pss_cons (ps_set (i := 12) hnd rfl (by first | exact Or.inl rfl | exact Or.inr rfl) (pe_op op_add (L2.pv 9) (pe_ix (ix_tupK (K := K) rfl) (pe_dget hu (pe_fldK (K := K) rfl (L2.pv 0) rfl) (L2.pv 11) (fun _ _ => rfl)) (pe_int) (fun _ _ => rfl))))
    (pss_one (ps_if (PW.pt (pw_or (pt_cmp (pc_dnotin hu (pe_ix (ix_tupK (K := K) rfl) (L2.pv 11) (pe_int) (fun _ _ => rfl)) (L2.pv 7)) rfl) (pw_or1 (pt_cmpR op_lt (L2.pv 12) (pe_ix (ix_tupK (K := K) rfl) (pe_dget hu (L2.pv 7) (pe_ix (ix_tupK (K := K) rfl) (L2.pv 11) (pe_int) (fun _ _ => rfl)) (fun _ _ => rfl)) (pe_int) (fun _ _ => rfl)) (nomark _))))) (pss_one (ps_dput hu (L2.pv 7) (pe_ix (ix_tupK (K := K) rfl) (L2.pv 11) (pe_int) (fun _ _ => rfl)) (pe_tup (pa_cons (L2.pv 12) (pa_cons (pe_op op_catA (L2.pv 10) (pe_tup (pa_cons (L2.pv 11) pa_nil))) pa_nil))) rfl)) pss_nil)))))))
    (pss_one (ps_set (i := 5) hnd rfl (by first | exact Or.inl rfl | exact Or.inr rfl) (L2.pv 7))))))
    (pss_cons (ps_set (i := 13) hnd rfl (by first | exact Or.inl rfl | exact Or.inr rfl) (pe_non))
    (pss_cons (ps_for PassesOwn.never rfl (pi_tup (pe_fldK (K := K) rfl (L2.pv 1) rfl)) (pg_name (i := 8) hnd rfl (by first | exact Or.inl rfl | exact Or.inr rfl))
      (pss_one (ps_if (PW.pt (pw_and (pt_cmp (pc_din hu (L2.pv 8) (L2.pv 5)) rfl) (pw_and1 (PW.pt (pw_or (pt_cmpR op_isN (L2.pv 13) (pe_non) (nomark _)) (pw_or1 (pt_cmpR op_lt (pe_ix (ix_tupK (K := K) rfl) (pe_dget hu (L2.pv 5) (L2.pv 8) (fun _ _ => rfl)) (pe_int) (fun _ _ => rfl)) (pe_ix (ix_tupK (K := K) rfl) (L2.pv 13) (pe_int) (fun _ _ => rfl)) (nomark _)))))))) (pss_one (ps_set (i := 13) hnd rfl (by first | exact Or.inl rfl | exact Or.inr rfl) (pe_dget hu (L2.pv 5) (L2.pv 8) (fun _ _ => rfl)))) pss_nil)))
    (pss_one (ps_ret (L2.pv 13)))))))), ?_⟩
    refine ⟨_, rfl, ca, _, rfl, SqT.of hca, rfl, _, _, rfl, _, _, rfl, rfl, ?_⟩
    -- paths = {state: (0, ())}
    intro d0 hd0
    have ed0 := Ex.new (o := HO.dK []) hd0
    refine ⟨_, rfl, Nat.zero_le _, fun t0 ht0 => ⟨by show 2 ≤ sizeLine; decide, fun t1 ht1 => ?_⟩⟩
    have et1 := (Ex.new (o := HO.tup []) ht0).trans (Ex.new (o := HO.tup [.int 0, .ref t0]) ht1)
    have hd1 := et1 d0 (HO.dK []) upd_same
    refine ⟨hd1, [(iK c.1, .ref t1)], rfl, by show 1 ≤ 15; decide, ?_⟩
    have eS : Ex H (upd (upd (upd (upd H d0 (.dK [])) t0 (.tup [])) t1 (.tup [.int 0, .ref t0])) d0 (.dK (mergeK [] [(iK c.1, .ref t1)]))) := Ex.mut (ed0.trans et1) hd0
    have hw1 : Is (upd (upd (upd (upd H d0 (.dK [])) t0 (.tup [])) t1 (.tup [.int 0, .ref t0])) d0 (.dK (mergeK [] [(iK c.1, .ref t1)]))) (.ref t1) (wyD 0 []) := by
      refine Is.mono (Tk.wr hd1 fun _ q => nomatch q) (Is.mk upd_same (.cons (Is.int 0) (.cons (Is.mk (Ex.new ht1 _ _ upd_same) .nil) .nil)))
    have hdS : upd (upd (upd (upd H d0 (.dK [])) t0 (.tup [])) t1 (.tup [.int 0, .ref t0])) d0 (.dK (mergeK [] [(iK c.1, .ref t1)])) d0 = some (.dK [(iK c.1, .ref t1)]) := upd_same
    generalize upd (upd (upd (upd H d0 (.dK [])) t0 (.tup [])) t1 (.tup [.int 0, .ref t0])) d0 (.dK (mergeK [] [(iK c.1, .ref t1)])) = HS at eS hw1 hdS
    refine ⟨_, rfl, pl, rfl, ⟨_, SqT.of (eS _ _ hpl)⟩, for_tup (K := K) (a := pl) (xs := c.2.map V.int)
      (fun i σ' H' => ∃ (pd : Addr) (pk : List (Key × V)) (v6 v7 v8 v9 v10 v11 v12 : Option V), σ' = [some (.ref p), some (.ref q), some (.ref ca), some (.int c.1), some (.ref pl), some (.ref pd), v6, v7, v8, v9, v10, v11, v12, none] ∧ Ex H H' ∧ H pd = none ∧ H' pd = some (.dK pk) ∧ PO H' pk S.ks c.1 (c.2.take i) N.nd ∧ ∀ node, Path (mem S.ks) c.1 (c.2.take i) node → (valV pk (iK node)).isSome = true) ?_ ?_ ?_ ?_⟩
    · refine ⟨d0, _, none, none, none, none, none, none, none, rfl, eS, hd0, hdS, ⟨fun k v hk => ?_, by simp⟩, fun node hp => ?_⟩
      · cases List.mem_singleton.mp hk
        exact ⟨c.1, 0, [], rfl, hc1, hw1, rfl, fun p h => nomatch h⟩
      · rw [List.take_zero] at hp
        rw [← hp.nil_eq, valV_pos (p := (iK c.1, V.ref t1)) rfl]
        rfl
    · rintro i σ' H' _ ⟨_, _, _, _, _, _, _, _, _, rfl, e, _⟩
      exact SqT.of (e _ _ hpl)
    · rintro i x σ' H' hx ⟨pd, pk, v6, v7, v8, v9, v10, v11, v12, rfl, e, hpd0, hpd, hPO, hall⟩
      obtain ⟨li, hli, rfl⟩ := ints_get hx
      have htk : c.2.take (i + 1) = c.2.take i ++ [li] := by rw [List.take_add_one, hli]; rfl
      intro lo hlo
      have elo := Ex.new (o := HO.dK []) hlo
      have hlo0 := fresh_back e hlo
      have npl : pd ≠ lo := ne_of_none hpd hlo
      -- for node, (number, edges) in paths.items()
      refine ⟨pd, _, elo _ _ hpd, trivial, fun od => ?_⟩
      have eHl : Ex H (upd (upd H' lo (.dK [])) pd (.frz od (.dK pk))) := Ex.mut (e.trans elo) hpd0
      have tkl : Tk H' (upd (upd H' lo (.dK [])) pd (.frz od (.dK pk))) := (Tk.of elo).trans (Tk.wr (elo _ _ hpd) fun _ q => nomatch q)
      have hfz : upd (upd H' lo (.dK [])) pd (.frz od (.dK pk)) pd = some (.frz od (.dK pk)) := upd_same
      have hlol : upd (upd H' lo (.dK [])) pd (.frz od (.dK pk)) lo = some (.dK []) := by rw [upd_ne npl.symm]; exact upd_same
      generalize upd (upd H' lo (.dK [])) pd (.frz od (.dK pk)) = Hl at eHl tkl hfz hlol
      have hb0 := lessH_ex Hl lo
      have hbl : lessH Hl lo lo = none := lessH_at
      have hfb : lessH Hl lo pd = some (.frz od (.dK pk)) := by rw [lessH_ne npl]; exact hfz
      have hHb : Ex H (lessH Hl lo) := fun z o h => by rw [lessH_ne (ne_of_none h hlo0)]; exact eHl z o h
      have tkb : Tk H' (lessH Hl lo) := fun z xs h => by
        have h1 := tkl z xs h
        rw [lessH_ne (ne_of h1 hlol (by intro q; cases q))]
        exact h1
      generalize lessH Hl lo = Hb at hb0 hbl hfb hHb tkb
      have hPOb := hPO.mono tkb
      refine ⟨_, rfl, pd, od, pk, rfl, hfz, for_it walk_items
        (fun j σ2 H2 => ∃ (lk : List (Key × V)) (v8 v9 v10 v11 v12 : Option V), σ2 = [some (.ref p), some (.ref q), some (.ref ca), some (.int c.1), some (.ref pl), some (.ref pd), some (.int li), some (.ref lo), v8, v9, v10, v11, v12, none] ∧ Ex Hb H2 ∧ H2 lo = some (.dK lk) ∧ PO H2 lk S.ks c.1 (c.2.take (i + 1)) N.nd ∧
          ∀ j' < j, ∀ node v, pk[j']? = some (iK node, v) → ∀ g, (node, li, g) ∈ S.ks → (valV lk (iK g)).isSome = true) ?_ ?_ ?_ ?_⟩
      · exact ⟨[], v8, v9, v10, v11, v12, rfl, hb0, hlol, ⟨fun k v h => (nomatch h), List.nodup_nil⟩, fun j' h => absurd h (by omega)⟩
      · rintro j σ2 H2 _ ⟨_, _, _, _, _, _, rfl, e2, _⟩
        exact e2 _ _ hfb
      · rintro j y σ2 H2 H3 hj ⟨lk, v8, v9, v10, v11, v12, rfl, e2, hlo2, hPO2, hdone⟩ ⟨tt, y1, y2, rfl, htt, rfl, hy1, hy2⟩
        replace hy1 : pk[j]?.map (fun kv => kV kv.1) = some y1 := hy1
        replace hy2 : pk[j]?.map Prod.snd = some y2 := hy2
        obtain ⟨⟨pkk, pkv⟩, hpkj, rfl⟩ := Option.map_eq_some_iff.mp hy1
        rw [hpkj] at hy2
        cases hy2
        obtain ⟨node, n0, ps0, rfl, hnr, hpi, hch, hsub⟩ := (hPOb.mono (Tk.of e2)).mem _ _ (List.mem_of_getElem? hpkj)
        have ett := Ex.new (o := HO.tup [kV (iK node), pkv]) htt
        obtain ⟨tw, tws, rfl, htw, htl⟩ := Is.t_iff.mp (hpi.mono (Tk.of ett))
        obtain ⟨z1, r1, rfl, hz1, hr1⟩ := IsL.cons_iff.mp htl
        obtain ⟨z2, r2, rfl, hz2, hr2⟩ := IsL.cons_iff.mp hr1
        cases IsL.nil_iff.mp hr2
        cases Is.i_iff.mp hz1
        obtain ⟨pt, pvs, rfl, hpt, hpvl⟩ := Is.t_iff.mp hz2
        have eH3 := hHb.trans (e2.trans ett)
        have N3 := Nu.mono eH3
        refine ⟨tt, _, rfl, SqT.of upd_same, rfl, _, _, rfl, _, _, rfl, ⟨tw, _, rfl, SqT.of htw, rfl, _, _, rfl, _, _, rfl, rfl, rfl, ?_⟩⟩
        refine for_ev (ev_getTL (k := pK node li) N3.ld.at_ N3.ld.dr (fun Q z => ⟨_, rfl, _, _, _, _, _, rfl, N3.ob, T.cNumbers.cl, T.cNumbers.n_leaving, fz_at ndNumbers (i := 2) rfl rfl, z⟩) (fun Q z => ⟨_, rfl, _, rfl, by show 2 ≤ sizeLine; decide, z⟩) _ fun a H4 e4 ha _ => ?_)
        have eH4 := eH3.trans e4
        have N4 := Nu.mono eH4
        have hLl := N4.ll (pK node li)
        rw [LfD_sel] at hLl
        have hlo4 := e4 _ _ (ett _ _ hlo2)
        have nal : a ≠ lo := ne_of ha hlo4 (by intro q; cases q)
        have hc0 := lessH_ex H4 lo
        have hcl' : lessH H4 lo lo = none := lessH_at
        have inb : ∀ z o, H4 z = some o → z ≠ lo → lessH H4 lo z = some o := fun z o h hz => by rw [lessH_ne hz]; exact h
        have hac := inb _ _ ha nal
        have hbc : Ex Hb (lessH H4 lo) := fun z o h => inb z o ((e2.trans (ett.trans e4)) z o h) (fun q => by rw [q, hbl] at h; cases h)
        have tkc : Tk H4 (lessH H4 lo) := fun z xs h => inb z _ h (ne_of h hlo4 (by intro q; cases q))
        generalize lessH H4 lo = Hc at hc0 hcl' hac hbc tkc
        have hLc := hLl.mono tkc
        have hptc := tkc _ _ (e4 _ _ hpt)
        have hplc := hpvl.mono ((Tk.of e4).trans tkc)
        have Nc := Nu.mono (hHb.trans hbc)
        have hps0 : ps0.length ≤ 5000 := by rw [hch.len, List.length_take]; omega
        refine ⟨a, rfl, ⟨_, SqL.of ha⟩, for_list (K := K) (a := a) (xs := L (pK node li))
          (fun jj σ3 H5 => ∃ (lk : List (Key × V)) (v11 v12 : Option V), σ3 = [some (.ref p), some (.ref q), some (.ref ca), some (.int c.1), some (.ref pl), some (.ref pd), some (.int li), some (.ref lo), some (.int node), some (.int n0), some (.ref pt), v11, v12, none] ∧ Ex Hc H5 ∧ H5 lo = some (.dK lk) ∧ PO H5 lk S.ks c.1 (c.2.take (i + 1)) N.nd ∧
            (∀ j' < j, ∀ node v, pk[j']? = some (iK node, v) → ∀ g, (node, li, g) ∈ S.ks → (valV lk (iK g)).isSome = true) ∧ ∀ e ∈ (S.ks.filter (selE node li)).take jj, (valV lk (iK e.2.2)).isSome = true) ?_ ?_ ?_ ?_⟩
        · exact ⟨lk, v11, v12, rfl, hc0, hlo4, hPO2.mono ((Tk.of ett).trans (Tk.of e4)), hdone, fun e h => by simp at h⟩
        · rintro jj σ3 H5 _ ⟨_, _, _, rfl, e5, _⟩
          exact SqL.of (e5 _ _ hac)
        · rintro jj z σ3 H5 hz ⟨lk5, v11, v12, rfl, e5, hlo5, hPO5, hdone5, hdn5⟩
          obtain ⟨dd, hdd, hz0⟩ := (hLc.mono (Tk.of e5)).get hz
          obtain ⟨ed, hed, rfl⟩ := tup_get hdd
          obtain ⟨hedk, hsel⟩ := List.mem_filter.mp (List.mem_of_getElem? hed)
          simp only [selE, Bool.and_eq_true, decide_eq_true_eq] at hsel
          obtain ⟨u, rfl, hu0⟩ := Is.edge_iff.mp hz0
          have N5 := Nc.mono e5
          obtain ⟨fv, hfv, hfi⟩ := N5.fk.val ed hedk
          obtain ⟨tf, fvs, rfl, htf, hfl⟩ := Is.t_iff.mp hfi
          obtain ⟨g1, gr1, rfl, hg1, hgr1⟩ := IsL.cons_iff.mp hfl
          cases Is.i_iff.mp hg1
          have hedr := (hrg ed hedk).2.2
          have hlen5 := hPO5.len
          have step : ∀ lk', (∀ g, (valV lk5 (iK g)).isSome = true → (valV lk' (iK g)).isSome = true) → (valV lk' (iK ed.2.2)).isSome = true →
              (∀ j' < j, ∀ node v, pk[j']? = some (iK node, v) → ∀ g, (node, li, g) ∈ S.ks → (valV lk' (iK g)).isSome = true) ∧ ∀ e ∈ (S.ks.filter (selE node li)).take (jj + 1), (valV lk' (iK e.2.2)).isSome = true := fun lk' h1 h2 => by
            refine ⟨fun j' hj' nd' v' hn' g hg => h1 g (hdone5 j' hj' nd' v' hn' g hg), fun e he => ?_⟩
            rw [List.take_add_one, hed] at he
            rcases List.mem_append.mp he with y | y
            · exact h1 _ (hdn5 e y)
            · rw [List.mem_singleton.mp y]; exact h2
          refine ⟨_, rfl, _, rfl, _, _, _, _, _, rfl, N5.ob, T.cNumbers.cl, T.cNumbers.n_found, fz_at ndNumbers (i := 1) rfl rfl, _, rfl, f, _, rfl, hfv ▸ DGet.t (k := eK ed) N5.fa hu0, tf, _, _, _, rfl, rfl, SqT.of htf, atI_int (Int.le_refl 0) rfl, _, _, rfl, rfl, ?_⟩
          -- the store
          have hpt5 := e5 _ _ hptc
          have hpl5 := hplc.mono (Tk.of e5)
          have hnew : Chain c.1 (c.2.take (i + 1)) (ps0 ++ [ed]) ed.2.2 := by
            rw [htk, ← hsel.2]
            exact hch.snoc ed hsel.1
          have fin : ∀ (H7 : Hp) (un : Addr), Ex H5 H7 → Is H7 (.ref un) (wyD (n0 + S.num ed) (ps0 ++ [ed])) → ∃ (lk : List (Key × V)) (v11 v12 : Option V), [some (V.ref p), some (.ref q), some (.ref ca), some (.int c.1), some (.ref pl), some (.ref pd), some (.int li), some (.ref lo), some (.int node), some (.int n0), some (.ref pt), some (.ref u), some (.int (n0 + S.num ed)), none] = [some (.ref p), some (.ref q), some (.ref ca), some (.int c.1), some (.ref pl), some (.ref pd), some (.int li), some (.ref lo), some (.int node), some (.int n0), some (.ref pt), v11, v12, none] ∧ Ex Hc (upd H7 lo (.dK (putK lk5 (iK ed.2.2) (.ref un)))) ∧ upd H7 lo (.dK (putK lk5 (iK ed.2.2) (.ref un))) lo = some (.dK lk) ∧ PO (upd H7 lo (.dK (putK lk5 (iK ed.2.2) (.ref un)))) lk S.ks c.1 (c.2.take (i + 1)) N.nd ∧
              (∀ j' < j, ∀ node v, pk[j']? = some (iK node, v) → ∀ g, (node, li, g) ∈ S.ks → (valV lk (iK g)).isSome = true) ∧ ∀ e ∈ (S.ks.filter (selE node li)).take (jj + 1), (valV lk (iK e.2.2)).isSome = true := fun H7 un e7 hun => by
            have tk7 : Tk H7 (upd H7 lo (.dK (putK lk5 (iK ed.2.2) (.ref un)))) := Tk.wr (e7 _ _ hlo5) fun _ q => nomatch q
            obtain ⟨s1, s2⟩ := step (putK lk5 (iK ed.2.2) (.ref un)) (fun g hg => by rw [valV_put]; split <;> first | rfl | exact hg) (by rw [valV_put, if_pos rfl]; rfl)
            exact ⟨_, _, _, rfl, Ex.mut (e5.trans e7) hcl', upd_same, (hPO5.mono ((Tk.of e7).trans tk7)).put hedr (hun.mono tk7) hnew fun q hq => (List.mem_append.mp hq).elim (hsub q) fun z => by rw [List.mem_singleton.mp z]; exact hedk, s1, s2⟩
          refine ⟨_, rfl, u, _, _, _, rfl, rfl, SqT.of hu0, rfl, _, rfl, lo, _, rfl, DGet.k (k := iK ed.2.2) hlo5, _, rfl, ?_⟩
          cases hvv : valV lk5 (iK ed.2.2) with
          | none =>
            refine ⟨_, rfl, ?_⟩
            refine ev_cat1 (fun Q z => ⟨_, rfl, z⟩) (fun Q z => ⟨_, rfl, z⟩) hpt5 (by have := hpl5.len; rw [List.length_map] at this; omega) _ fun bb H6 e6 hbb => ⟨by show 2 ≤ sizeLine; decide, fun un hun => ?_⟩
            have e7 := e6.trans (Ex.new (o := HO.tup [.int (n0 + S.num ed), .ref bb]) hun)
            refine ⟨_, rfl, _, rfl, u, _, _, _, rfl, rfl, SqT.of (e7 _ _ hu0), rfl, lo, _, rfl, DPut.k (k := iK ed.2.2) (e7 _ _ hlo5) (lineLt (by omega)), fin _ un e7 (Is.mk upd_same (.cons (Is.int _) (.cons (Is.mk (Ex.new hun _ _ hbb) ?_) .nil)))⟩
            rw [List.map_append]
            exact (hpl5.mono (Tk.of e7)).app (.cons (hz0.mono (Tk.of e7)) .nil)
          | some vv =>
            obtain ⟨nd', n', ps', hk', _, hvi, _⟩ := hPO5.mem _ _ (valV_mem hvv)
            obtain ⟨tv, tvs, rfl, htv, htvl⟩ := Is.t_iff.mp hvi
            obtain ⟨x1, xr1, rfl, hx1, hxr1⟩ := IsL.cons_iff.mp htvl
            cases Is.i_iff.mp hx1
            refine ⟨_, rfl, _, rfl, _, rfl, u, _, _, _, rfl, rfl, SqT.of hu0, rfl, lo, _, rfl, hvv ▸ DGet.k (k := iK ed.2.2) hlo5, tv, _, _, _, rfl, rfl, SqT.of htv, atI_int (Int.le_refl 0) rfl, _, _, rfl, rfl, _, rfl, iteD (fun hlt => ?_) fun hlt => ?_⟩
            · refine ⟨_, rfl, ?_⟩
              refine ev_cat1 (fun Q z => ⟨_, rfl, z⟩) (fun Q z => ⟨_, rfl, z⟩) hpt5 (by have := hpl5.len; rw [List.length_map] at this; omega) _ fun bb H6 e6 hbb => ⟨by show 2 ≤ sizeLine; decide, fun un hun => ?_⟩
              have e7 := e6.trans (Ex.new (o := HO.tup [.int (n0 + S.num ed), .ref bb]) hun)
              refine ⟨_, rfl, _, rfl, u, _, _, _, rfl, rfl, SqT.of (e7 _ _ hu0), rfl, lo, _, rfl, DPut.k (k := iK ed.2.2) (e7 _ _ hlo5) (lineLt (by omega)), fin _ un e7 (Is.mk upd_same (.cons (Is.int _) (.cons (Is.mk (Ex.new hun _ _ hbb) ?_) .nil)))⟩
              rw [List.map_append]
              exact (hpl5.mono (Tk.of e7)).app (.cons (hz0.mono (Tk.of e7)) .nil)
            · obtain ⟨s1, s2⟩ := step lk5 (fun g hg => hg) (by rw [hvv]; rfl)
              exact ⟨lk5, _, _, rfl, e5, hlo5, hPO5, s1, s2⟩
        · rintro σ3 H5 ⟨lk5, v11, v12, rfl, e5, hlo5, hPO5, hdone5, hdn5⟩
          have hll := hLc.len
          rw [List.length_map] at hll
          rw [hll, List.take_length] at hdn5
          refine ⟨lk5, _, _, _, v11, v12, rfl, hbc.trans e5, hlo5, hPO5, fun j' hj' nd' v' hn' g hg => ?_⟩
          by_cases hjj : j' < j
          · exact hdone5 j' hjj nd' v' hn' g hg
          · obtain rfl : j' = j := by omega
            rw [hpkj] at hn'
            injection hn' with hn'
            injection hn' with h1 h2
            obtain rfl := iK_inj _ _ h1
            exact hdn5 (node, li, g) (List.mem_filter.mpr ⟨hg, by simp [selE]⟩)
      · rintro σ2 H2 ⟨lk, v8, v9, v10, v11, v12, rfl, e2, hlo2, hPO2, hdone⟩
        have hfz2 := e2 _ _ hfb
        refine ⟨hfz2, ?_⟩
        have tk2 : Tk H2 (upd H2 pd (.dK pk)) := Tk.wr hfz2 fun _ q => nomatch q
        refine ⟨_, rfl, lo, lk, _, _, v8, v9, v10, v11, v12, rfl, Ex.mut (hHb.trans e2) hpd0, hlo0, by rw [upd_ne npl.symm]; exact hlo2, hPO2.mono tk2, fun node hp => ?_⟩
        rw [htk, path_take] at hp
        obtain ⟨n1, hp1, hp2⟩ := hp
        have h1 := hall n1 hp1
        cases hvv : valV pk (iK n1) with
        | none => rw [hvv] at h1; cases h1
        | some vv =>
          obtain ⟨j, hj⟩ := List.mem_iff_getElem?.mp (valV_mem hvv)
          exact hdone j (List.getElem?_eq_some_iff.mp hj).1 n1 vv hj node hp2
    · rintro σ' H' ⟨pd, pk, v6, v7, v8, v9, v10, v11, v12, rfl, e, hpd0, hpd, hPO, hall⟩
      rw [List.length_map, List.take_length] at hPO hall
      -- best
      refine ⟨_, rfl, _, _, _, _, _, rfl, (e _ _ hn.ob), T.cNet.cl, T.cNet.n_ends, fz_at ndNet (i := 4) rfl rfl, nb, rfl, ⟨_, SqT.of (e _ _ hn.nb)⟩, for_tup (K := K) (a := nb) (xs := N.en.map V.int)
        (fun i σ2 H2 => ∃ (v8 : Option V) (bv : V), σ2 = [some (.ref p), some (.ref q), some (.ref ca), some (.int c.1), some (.ref pl), some (.ref pd), v6, v7, v8, v9, v10, v11, v12, some bv] ∧ H2 = H' ∧ ((bv = .non ∧ ∀ e ∈ N.en.take i, valV pk (iK e) = none) ∨ ∃ (n : Int) (ps : List Edge) (e : Int), Is H' bv (wyD n ps) ∧ Chain c.1 c.2 ps e ∧ (∀ q ∈ ps, q ∈ S.ks) ∧ e ∈ N.en)) ?_ ?_ ?_ ?_⟩
      · exact ⟨v8, .non, rfl, rfl, .inl ⟨rfl, fun e h => by simp at h⟩⟩
      · rintro i σ2 H2 _ ⟨_, _, rfl, rfl, _⟩
        exact SqT.of (e _ _ hn.nb)
      · rintro i x σ2 H2 hx ⟨v8, bv, rfl, rfl, hb⟩
        obtain ⟨en, hen, rfl⟩ := ints_get hx
        have henm := List.mem_of_getElem? hen
        have htk : N.en.take (i + 1) = N.en.take i ++ [en] := by rw [List.take_add_one, hen]; rfl
        refine ⟨_, rfl, _, rfl, pd, _, rfl, DGet.k (k := iK en) hpd, _, rfl, ?_⟩
        cases hvv : valV pk (iK en) with
        | none =>
          refine ⟨_, bv, rfl, rfl, hb.imp (fun ⟨h1, h2⟩ => ⟨h1, fun e he => ?_⟩) id⟩
          rw [htk] at he
          rcases List.mem_append.mp he with y | y
          · exact h2 e y
          · rw [List.mem_singleton.mp y]; exact hvv
        | some vv =>
          obtain ⟨nd', n', ps', hk', _, hvi, hch', hsub'⟩ := hPO.mem _ _ (valV_mem hvv)
          obtain rfl := iK_inj _ _ hk'
          have good : ∃ (v8 : Option V) (bv' : V), [some (V.ref p), some (.ref q), some (.ref ca), some (.int c.1), some (.ref pl), some (.ref pd), v6, v7, some (.int en), v9, v10, v11, v12, some vv] = [some (.ref p), some (.ref q), some (.ref ca), some (.int c.1), some (.ref pl), some (.ref pd), v6, v7, v8, v9, v10, v11, v12, some bv'] ∧ H2 = H2 ∧ ((bv' = .non ∧ ∀ e ∈ N.en.take (i + 1), valV pk (iK e) = none) ∨ ∃ (n : Int) (ps : List Edge) (e : Int), Is H2 bv' (wyD n ps) ∧ Chain c.1 c.2 ps e ∧ (∀ q ∈ ps, q ∈ S.ks) ∧ e ∈ N.en) :=
            ⟨_, vv, rfl, rfl, .inr ⟨n', ps', en, hvi, hch', hsub', henm⟩⟩
          refine ⟨_, rfl, rfl, _, rfl, ?_⟩
          rcases hb with ⟨rfl, h2⟩ | ⟨nb', psb, eb, hbi, hbr⟩
          · refine iteD (fun _ => ?_) fun z => (z rfl).elim
            exact ⟨_, rfl, _, rfl, pd, _, rfl, hvv ▸ DGet.k (k := iK en) hpd, good⟩
          · obtain ⟨tb, tbs, rfl, htb, htbl⟩ := Is.t_iff.mp hbi
            obtain ⟨x1, xr1, rfl, hx1, hxr1⟩ := IsL.cons_iff.mp htbl
            cases Is.i_iff.mp hx1
            obtain ⟨tv, tvs, rfl, htv, htvl⟩ := Is.t_iff.mp hvi
            obtain ⟨y1, yr1, rfl, hy1, hyr1⟩ := IsL.cons_iff.mp htvl
            cases Is.i_iff.mp hy1
            refine iteD (fun z => nomatch z) fun _ => ?_
            refine ⟨_, rfl, _, rfl, pd, _, rfl, hvv ▸ DGet.k (k := iK en) hpd, tv, _, _, _, rfl, rfl, SqT.of htv, atI_int (Int.le_refl 0) rfl, _, rfl, tb, _, _, _, rfl, rfl, SqT.of htb, atI_int (Int.le_refl 0) rfl, _, _, rfl, rfl, _, rfl, iteD (fun hlt => ?_) fun hlt => ?_⟩
            · exact ⟨_, rfl, _, rfl, pd, _, rfl, hvv ▸ DGet.k (k := iK en) hpd, good⟩
            · exact ⟨_, _, rfl, rfl, .inr ⟨nb', psb, eb, hbi, hbr⟩⟩
      · rintro σ2 H2 ⟨v8, bv, rfl, rfl, hb⟩
        rw [List.length_map, List.take_length] at hb
        refine ⟨_, rfl, ?_⟩
        rcases hb with ⟨_, h2⟩ | ⟨n, ps, e1, h1, h2, h3, h4⟩
        · have := hall e0 hpath
          rw [h2 e0 he0] at this
          cases this
        · exact k bv n ps e1 H2 e h1 h2 h3 h4
end
end Zp
set_option maxRecDepth 100000
set_option maxHeartbeats 0
namespace Zp
open PySem L2 Zs Evl Pr
theorem RI_small {M : Mach} {N : NetD} {ks : List Edge} {ix : Edge → Option Nat} {ps : Edge → List Edge} {tm : Edge → Nat} {pl : List Edge} {rows : List (Int × List Item)} (hM : MOk M) (F : NF M N ks ix ps tm) (I : RI M ks ix ps pl rows) : rows.length ≤ ks.length ∧ ∀ r ∈ rows, r.2.length ≤ 2 := by
  refine ⟨?_, fun r hr => ?_⟩
  · rw [← I.row.len]
    exact nd_len pl ks I.nd fun e he => (I.sub e he).1
  · obtain ⟨j, hj⟩ := List.getElem?_of_mem hr
    have hl : j < pl.length := by rw [I.row.len]; exact (List.getElem?_eq_some_iff.mp hj).1
    obtain ⟨b, hb, _, i, h1, h2, h3, h4⟩ := I.row.get (List.getElem?_eq_getElem hl)
    rw [hj] at hb
    cases hb
    obtain ⟨s, g1, _, _, g4, _⟩ := F.drv _ (I.sub _ (List.getElem_mem hl)).1 i h2
    rw [← h4.len, g4.len]
    exact (hM.stp s (List.mem_of_getElem? g1)).2.2.2.1
theorem putK_le {κ : Type} [DecidableEq κ] {kvs : List (κ × V)} {k : κ} {v : V} : (putK kvs k v).length ≤ kvs.length + 1 := by
  unfold putK
  split
  · rw [List.length_map]; omega
  · rw [List.length_append]; exact Nat.le_refl _
section
variable {P : Program} {w : World} {K : PySem.W.Frag} {mg : Str → Option Value} {base : Heap}
theorem make_rowsd (T : Txt K mg) {H : Hp} {R : Addr → Hp → Prop} {E : XK} {f : Addr} {fk : List (List Key × V)} {ks : List Edge} {ix : Edge → Option Nat} {ps : Edge → List Edge} (hf : H f = some (.dT fk)) (hder : ∀ e ∈ ks, ∃ v, valV fk (eK e) = some v ∧ Is H v (derD (ix e) (ps e)))
    (k : ∀ (x dx : Addr) (H' H1 : Hp) (pc rl : Addr), RDIs T.cRowsD.C H1 H' x ks ix ps [] [] dx f pc rl fk [] [] → Ex H H1 → R x H') :
    ∀ x dx, H x = none → H dx = none → dx ≠ x → sp_RowsD_init T (.ref x :: ([.ref f] ++ [])) (upd (upd H dx (.own x)) x (.ins T.cRowsD.C dx [])) (fun v H2 => v = .non ∧ R x H2) E := by
  intro x dx hx hdx hne
  exact ⟨x, dx, f, H, fk, ks, ix, ps, rfl, ex_made hx hdx, hx, upd_same, hf, hder, fun H' H1 pc rl h1 h2 => ⟨rfl, k x dx H' H1 pc rl h1 h2⟩⟩
def sp_least (T : Txt K mg) : Sp := fun vs H Q _ => ∃ (m q : Addr) (v : V) (M : Mach) (N : NetD) (c : Conf), vs = [.ref m, .ref q, v] ∧ MachAt T.cMachine.C T.cStep.C H m M ∧ NetAt T.cNet.C H q N ∧ Is H v (cD c) ∧ N.st = M.st ∧ N.lt = M.lt ∧ capE N ≤ 300 ∧ (∀ e ∈ N.ed, N.st ≤ e.2.2) ∧ (0 ≤ c.1 ∧ c.1 < N.nd) ∧ N.nd ≤ 1000 ∧ c.2.length ≤ 5000 ∧
  (∀ ks ix ps tm, NF M N ks ix ps tm → ∃ e ∈ N.en, Path (mem ks) c.1 c.2 e) ∧
  ∀ (x t : Addr) (nv rv wv tv : V) (rows : List (Int × List Item)) (way : List Item) H', Ex H H' → H' x = some (.tup [nv, .ref t]) → H' t = some (.tup [.str "least", rv, wv, tv]) → Is H' rv (.t (rows.map rowD)) → Is H' wv (.t (way.map itD)) → PaperOk M N.ed N.en c rows way → rows.length ≤ 300 → (∀ r ∈ rows, r.2.length ≤ 2) → way.length = c.2.length → Q (.ref x) H'
theorem ok_least (T : Txt K mg) : FnOk P w K mg base CX0 5 T.f.least.f T.f.least.fd ["machine", "net", "configuration"] (sp_least T) := by
  refine T.f.least.F.ok sc_least (fun vs H Q E h => ?_) (fun cdv A outer s H vs Q E hr h => ?_)
  · obtain ⟨m, q, v, M, N, c, rfl, _⟩ := h
    rfl
  · obtain ⟨m, q, v, M, N, c, rfl, hM, hN, hv, h1, h2, h3, h4, hc, hnd1, hcl, hpath, k⟩ := h
    have hu := hu_of hr
    have hnd := sc_least.nd
    refine ⟨_, (pss_cons (ps_expr (pe_call (ok_need_fit T) (hr.mono (by decide)) (by rfl) T.f.g_need_fit T.f.need_fit.F.kp T.f.need_fit.b .nil pass0 (pa_cons (L2.pv 0) (pa_cons (L2.pv 1) pa_nil))))
    (pss_cons (ps_set (i := 3) hnd rfl (by first | exact Or.inl rfl | exact Or.inr rfl) (pe_make T.cNumbers.made (ok_Numbers_init T) (hr.mono (by decide)) (by rfl) T.cNumbers.mg T.cNumbers.init.b .nil pass0 (pa_cons (L2.pv 0) (pa_cons (L2.pv 1) pa_nil))))
    (pss_cons (ps_set (i := 4) hnd rfl (by first | exact Or.inl rfl | exact Or.inr rfl) (pe_call (ok_least_path T) (hr.mono (by decide)) (by rfl) T.f.g_least_path T.f.least_path.F.kp T.f.least_path.b .nil pass0 (pa_cons (L2.pv 3) (pa_cons (L2.pv 1) (pa_cons (L2.pv 2) pa_nil)))))
    (pss_cons (ps_if (pt_cmpR op_isN (L2.pv 4) (pe_non) (nomark _)) (pss_one (ps_ret (pe_tup (pa_cons (pe_non) (pa_cons (pe_tup (pa_cons (pe_str) (pa_cons (pe_call (ok_told_numbers T) (hr.mono (by decide)) (by rfl) T.f.g_told_numbers T.f.told_numbers.F.kp T.f.told_numbers.b .nil pass0 (pa_cons (L2.pv 3) pa_nil)) pa_nil))) pa_nil))))) pss_nil)
    (pss_cons (ps_set (i := 5) hnd rfl (by first | exact Or.inl rfl | exact Or.inr rfl) (pe_dnewT))
    (pss_cons (ps_lock (ps_for PassesOwn.never rfl (pi_itT (pe_fldK (K := K) rfl (L2.pv 3) rfl)) (pg_tup rfl (pgs_cons (pg_name (i := 6) hnd rfl (by first | exact Or.inl rfl | exact Or.inr rfl)) (pgs_cons (pg_tup rfl (pgs_cons (pg_name (i := 7) hnd rfl (by first | exact Or.inl rfl | exact Or.inr rfl)) (pgs_cons (pg_name (i := 8) hnd rfl (by first | exact Or.inl rfl | exact Or.inr rfl)) (pgs_cons (pg_name (i := 9) hnd rfl (by first | exact Or.inl rfl | exact Or.inr rfl)) pgs_nil)))) pgs_nil)))
      (pss_one (ps_dput hu (L2.pv 5) (L2.pv 6) (pe_tup (pa_cons (L2.pv 8) (pa_cons (L2.pv 9) pa_nil))) rfl))))
    (pss_cons (ps_set (i := 10) hnd rfl (by first | exact Or.inl rfl | exact Or.inr rfl) (pe_make T.cRowsD.made (ok_RowsD_init T) (hr.mono (by decide)) (by rfl) T.cRowsD.mg T.cRowsD.init.b .nil pass0 (pa_cons (L2.pv 5) pa_nil)))
    (pss_cons (ps_for PassesOwn.never rfl (pi_tup (pe_ix (ix_tupK (K := K) rfl) (L2.pv 4) (pe_int) (fun _ _ => rfl))) (pg_name (i := 6) hnd rfl (by first | exact Or.inl rfl | exact Or.inr rfl))
      (pss_one (ps_expr (pe_meth (L2.pv 10) T.cRowsD.cl T.cRowsD.m_add (ok_RowsD_add T) (hr.mono (by decide)) T.cRowsD.add.b .nil pass0 (pa_cons (L2.pv 6) (pa_cons (pe_bl) pa_nil))))))
    (pss_cons (ps_set (i := 11) hnd rfl (by first | exact Or.inl rfl | exact Or.inr rfl) (pe_callTy call_tuple_of (by rfl) T.b.tuple (by decide +kernel) (pa_cons (pe_lc (own := [("edge", 6)]) (g := (gName 6)) (tt := tYes) rfl hnd (pi_tup (pe_ix (ix_tupK (K := K) rfl) (L2.pv 4) (pe_int) (fun _ _ => rfl))) (blkOk_by (own := [("edge", 6)]) (N := nm_least) (sc := defScope s_least) (by decide +kernel)) (fun _ _ _ _ _ => (pg_name (i := 6) hnd rfl (by first | exact Or.inl rfl | exact Or.inr rfl))) (fun _ _ _ _ _ => pts_nil) (fun _ _ _ _ _ => (pe_meth (L2.pv 10) T.cRowsD.cl T.cRowsD.m_item (ok_RowsD_item T) (hr.mono (by decide)) T.cRowsD.item.b .nil pass0 (pa_cons (L2.pv 6) pa_nil)))) pa_nil)))
    (pss_one (ps_ret (pe_tup (pa_cons (pe_ix (ix_tupK (K := K) rfl) (L2.pv 4) (pe_int) (fun _ _ => rfl)) (pa_cons (pe_tup (pa_cons (pe_str) (pa_cons (pe_callTy call_tuple_of (by rfl) T.b.tuple (by decide +kernel) (pa_cons (pe_fldK (K := K) rfl (L2.pv 10) rfl) pa_nil)) (pa_cons (L2.pv 11) (pa_cons (pe_call (ok_told_numbers T) (hr.mono (by decide)) (by rfl) T.f.g_told_numbers T.f.told_numbers.F.kp T.f.told_numbers.b .nil pass0 (pa_cons (L2.pv 3) pa_nil)) pa_nil))))) pa_nil)))))))))))))), ?_⟩
    refine ⟨_, rfl, _, rfl, m, q, M, N, rfl, hM, hN, h1, h2, h4, fun v0 H1 e1 => ?_⟩
    refine ⟨_, rfl, _, rfl, ?_⟩
    refine make_numbers T (hM.mono e1) (hN.mono e1) h1 h2 h3 fun x ndx H2 H0 S tm f l kvs lv L Nu e0 hF hcap => ?_
    have e02 := e1.trans (e0.trans Nu.e0)
    refine ⟨_, rfl, _, rfl, _, rfl, x, q, v, N, c, H0, S, ndx, m, f, l, kvs, lv, L, rfl, Nu, hN.mono e02, hv.mono (Tk.of e02), hc, hF.rng, hnd1, hcl, Nat.le_trans hcap h3, hpath _ _ _ _ hF, fun bv bn bps be H3 e3 hbv hbch hbsub hben => ?_⟩
    obtain ⟨bt, bvs, rfl, hbt, hbl⟩ := Is.t_iff.mp hbv
    obtain ⟨y1, r1, rfl, hy1, hr1⟩ := IsL.cons_iff.mp hbl
    obtain ⟨y2, r2, rfl, hy2, hr2⟩ := IsL.cons_iff.mp hr1
    cases IsL.nil_iff.mp hr2
    obtain ⟨bp, bpv, rfl, hbp, hbpl⟩ := Is.t_iff.mp hy2
    have Nu3 := Nu.mono e3
    refine ⟨_, rfl, rfl, _, rfl, iteD (fun z => nomatch z) fun _ => ?_⟩
    refine nxT ?_
    intro d hd
    have ed := Ex.new (o := HO.dT []) hd
    have hf3 := Nu3.fa
    refine ⟨f, _, ed _ _ hf3, trivial, fun od => ?_⟩
    have npd : x ≠ d := ne_of_none Nu3.ob hd
    have nfd : f ≠ d := ne_of_none hf3 hd
    have npf : x ≠ f := ne_of Nu3.ob hf3 (by intro z; cases z)
    have hkl := Nu3.fk.len
    have tk1 : Tk H3 (upd (upd H3 d (.dT [])) f (.frz od (.dT kvs))) := (Tk.of ed).trans (Tk.wr (ed _ _ hf3) fun _ q => nomatch q)
    have hp1 : upd (upd H3 d (.dT [])) f (.frz od (.dT kvs)) x = _ := (upd_ne npf).trans ((upd_ne npd).trans Nu3.ob)
    have hf1 : upd (upd H3 d (.dT [])) f (.frz od (.dT kvs)) f = some (.frz od (.dT kvs)) := upd_same
    have hd1 : upd (upd H3 d (.dT [])) f (.frz od (.dT kvs)) d = some (.dT []) := by rw [upd_ne nfd.symm]; exact upd_same
    have bk1 : ∀ z o, H3 z = some o → z ≠ f → upd (upd H3 d (.dT [])) f (.frz od (.dT kvs)) z = some o := fun z o h hz => by
      rw [upd_ne hz]
      exact ed z o h
    generalize upd (upd H3 d (.dT [])) f (.frz od (.dT kvs)) = Hl at tk1 hp1 hf1 hd1 bk1
    have hb0 := lessH_ex Hl d
    have hbd : lessH Hl d d = none := lessH_at
    have hfb : lessH Hl d f = some (.frz od (.dT kvs)) := by rw [lessH_ne nfd]; exact hf1
    have tkb : Tk H3 (lessH Hl d) := fun z xs h => by
      rw [lessH_ne (ne_of_none h hd)]
      exact tk1 z xs h
    have bkb : ∀ z o, H3 z = some o → z ≠ f → lessH Hl d z = some o := fun z o h hz => by
      rw [lessH_ne (ne_of_none h hd)]
      exact bk1 z o h hz
    generalize lessH Hl d = Hb at hb0 hbd hfb tkb bkb
    have fkb := Nu3.fk.mono tkb
    refine ⟨_, rfl, _, _, _, _, _, rfl, hp1, T.cNumbers.cl, T.cNumbers.n_found, fz_at ndNumbers (i := 1) rfl rfl, f, od, kvs, rfl, hf1, for_it walk_T
      (fun i σ' H' => ∃ (dk : List (List Key × V)) (v6 v7 v8 v9 : Option V), σ' = [some (.ref m), some (.ref q), some v, some (.ref x), some (.ref bt), some (.ref d), v6, v7, v8, v9, none, none] ∧ Ex Hb H' ∧ H' d = some (.dT dk) ∧ dk.length ≤ i ∧ ∀ j < i, ∀ e, S.ks[j]? = some e → ∃ v, valV dk (eK e) = some v ∧ Is H' v (derD (S.ix e) (S.ps e))) ?_ ?_ ?_ ?_⟩
    · exact ⟨[], none, none, none, none, rfl, hb0, hd1, Nat.le_refl _, fun j h => absurd h (by omega)⟩
    · rintro j σ2 H2 _ ⟨_, _, _, _, _, rfl, e2, _⟩
      exact e2 _ _ hfb
    · rintro j y σ2 H4 H5 hj ⟨dk, v6, v7, v8, v9, rfl, e2, hd2, hdl, hall⟩ ⟨tt, kq, k1, v1, hk1, rfl, htt, hkq, rfl⟩
      obtain ⟨e, hem, hek, rfl, hv1⟩ := (fkb.mono (Tk.of e2)).get hF.nd hk1
      obtain ⟨tf, fvs, rfl, htf, hfl⟩ := Is.t_iff.mp hv1
      obtain ⟨g1, gr1, rfl, hg1, hgr1⟩ := IsL.cons_iff.mp hfl
      obtain ⟨g2, gr2, rfl, hg2, hgr2⟩ := IsL.cons_iff.mp hgr1
      obtain ⟨g3, gr3, rfl, hg3, hgr3⟩ := IsL.cons_iff.mp hgr2
      cases IsL.nil_iff.mp hgr3
      have et := Ex.new (o := HO.tup [.ref kq, .ref tf]) htt
      refine ⟨tt, _, rfl, SqT.of upd_same, rfl, _, _, rfl, _, _, rfl, ⟨tf, _, rfl, SqT.of (et _ _ htf), rfl, _, _, rfl, _, _, rfl, _, _, rfl, rfl, rfl, ?_⟩⟩
      refine ⟨_, rfl, _, rfl, by show 2 ≤ sizeLine; decide, fun u hu => ?_⟩
      have eu := et.trans (Ex.new (o := HO.tup [g2, g3]) hu)
      refine ⟨_, rfl, _, rfl, d, _, rfl, DPut.t (k := eK e) (eu _ _ hd2) (eu _ _ hkq) (lineLt (by omega)), ?_⟩
      have hu0 : upd (upd H4 tt (.tup [.ref kq, .ref tf])) u (.tup [g2, g3]) u = some (.tup [g2, g3]) := upd_same
      have hd0 := eu _ _ hd2
      generalize upd (upd H4 tt (.tup [.ref kq, .ref tf])) u (.tup [g2, g3]) = H6 at eu hu0 hd0
      have tk7 : Tk H6 (upd H6 d (.dT (putK dk (eK e) (.ref u)))) := Tk.wr hd0 fun _ q => nomatch q
      refine ⟨_, _, _, _, _, rfl, Ex.mut (e2.trans eu) hbd, upd_same, Nat.le_trans putK_le (by omega), fun j' hj' e' he' => ?_⟩
      rw [valV_put]
      by_cases z : eK e' = eK e
      · obtain rfl := eK_inj z
        rw [if_pos rfl]
        exact ⟨_, rfl, Is.mk (tk7 _ _ hu0) (.cons (hg2.mono ((Tk.of eu).trans tk7)) (.cons (hg3.mono ((Tk.of eu).trans tk7)) .nil))⟩
      · rw [if_neg z]
        have hne : j' ≠ j := fun h => by rw [h, hek] at he'; cases he'; exact z rfl
        obtain ⟨v', h1, h2⟩ := hall j' (by omega) e' he'
        exact ⟨v', h1, h2.mono ((Tk.of eu).trans tk7)⟩
    · rintro σ2 H4 ⟨dk, v6, v7, v8, v9, rfl, e4, hd4, hdl, hall⟩
      have hder0 : ∀ e ∈ S.ks, ∃ v, valV dk (eK e) = some v ∧ Is H4 v (derD (S.ix e) (S.ps e)) := fun e he => by
        obtain ⟨j, hj⟩ := List.getElem?_of_mem he
        have := (List.getElem?_eq_some_iff.mp hj).1
        exact hall j (by omega) e hj
      refine ⟨e4 _ _ hfb, ?_⟩
      have tk5 : Tk H4 (upd H4 f (.dT kvs)) := Tk.wr (e4 _ _ hfb) fun _ q => nomatch q
      have e35 : Ex H3 (upd H4 f (.dT kvs)) := fun z o h => by
        by_cases hz : z = f
        · subst hz
          rw [hf3] at h
          rw [upd_same]
          exact h
        · rw [upd_ne hz]
          exact e4 z o (bkb z o h hz)
      have hd5 : upd H4 f (.dT kvs) d = some (.dT dk) := by rw [upd_ne nfd.symm]; exact hd4
      have hder5 : ∀ e ∈ S.ks, ∃ v, valV dk (eK e) = some v ∧ Is (upd H4 f (.dT kvs)) v (derD (S.ix e) (S.ps e)) := fun e he => by
        obtain ⟨v', h1, h2⟩ := hder0 e he
        exact ⟨v', h1, h2.mono tk5⟩
      generalize upd H4 f (.dT kvs) = H5 at e35 hd5 hder5
      refine ⟨_, rfl, ?_⟩
      refine make_rowsd T hd5 hder5 fun ro rdx H6 H7 pc rl R0 e57 => ?_
      have eb : Ex H3 H7 := e35.trans e57
      have hMok : MOk M := by obtain ⟨_, _, _, h⟩ := hM; exact h.ok
      have hbpn := hbpl.len
      rw [List.length_map] at hbpn
      refine ⟨_, rfl, bt, _, _, _, rfl, rfl, SqT.of ((eb.trans R0.e0) _ _ hbt), rfl, bp, rfl, ⟨_, SqT.of ((eb.trans R0.e0) _ _ hbp)⟩, for_tup (K := K) (a := bp) (xs := bpv)
        (fun i σ' H' => ∃ (pl : List Edge) (rows : List (Int × List Item)) (pk : List (List Key × V)) (rv : List V) (w6 : Option V), σ' = [some (.ref m), some (.ref q), some v, some (.ref x), some (.ref bt), some (.ref d), w6, v7, v8, v9, some (.ref ro), none] ∧ RDIs T.cRowsD.C H7 H' ro S.ks S.ix S.ps pl rows rdx d pc rl dk pk rv ∧ RI M S.ks S.ix S.ps pl rows ∧ ∀ e ∈ bps.take i, S.ix e = none ∨ e ∈ pl) ?_ ?_ ?_ ?_⟩
      · exact ⟨[], [], [], [], v6, rfl, R0, ⟨.nil, fun e h => (nomatch h), .nil⟩, fun e h => by simp at h⟩
      · rintro i σ' H' _ ⟨_, _, _, _, _, rfl, R, _⟩
        exact SqT.of ((eb.trans R.e0) _ _ hbp)
      · rintro i y σ' H' hy ⟨pl, rows, pk, rv, w6, rfl, R, hRI, hall2⟩
        obtain ⟨d0, hd0, hy0⟩ := (hbpl.mono (Tk.of (eb.trans R.e0))).get hy
        obtain ⟨e, he, rfl⟩ := tup_get hd0
        have hem := hbsub e (List.mem_of_getElem? he)
        refine ⟨_, rfl, _, _, _, rfl, R.ob, fz_no (by decide +kernel), _, rfl, ro, y, e, M, N, tm, H7, S.ks, S.ix, S.ps, pl, rows, rdx, d, pc, rl, dk, pk, rv, rfl, R, hy0, hem, hMok, hF, hRI, by omega, fun pl' rows' pk' rv' H8 R8 hRI8 hpre hx tk8 => ?_⟩
        refine ⟨pl', rows', pk', rv', _, rfl, R8, hRI8, fun e' he' => ?_⟩
        rw [List.take_add_one, he] at he'
        rcases List.mem_append.mp he' with z | z
        · exact (hall2 e' z).imp id fun h => hpre.mem h
        · rw [List.mem_singleton.mp z]; exact hx
      · rintro σ' H8 ⟨pl, rows, pk, rv, w6, rfl, R, hRI, hall2⟩
        rw [hbpn, List.take_length] at hall2
        have e38 := eb.trans R.e0
        refine ⟨_, rfl, bt, _, _, _, rfl, rfl, SqT.of (e38 _ _ hbt), rfl, bp, rfl, ⟨_, SqT.of (e38 _ _ hbp)⟩, fun D hD => ?_⟩
        refine lcR (walk_tup (xs := bpv)) hD (by have := hbch.len; omega) (fun H' e => SqT.of (e _ _ (e38 _ _ hbp))) (fun j acc H' => ∃ its : List Item, IsL H' acc (its.map itD) ∧ All2 (fun q it => ItemAt S.ix pl q it) (bps.take j) its) (fun i acc H H' o ⟨l, hl⟩ ⟨its, z, z2⟩ => ⟨its, z.mono (o.tk (by rw [hl]; intro xs q; cases q)), z2⟩) ⟨[], .nil, .nil⟩ ?_ ?_
        · rintro j acc y HA HB B B' hj _ eA hDA ⟨its, r1, r2⟩ ⟨rfl, hy⟩ kB _
          obtain ⟨d0, hd0, hy0⟩ := (hbpl.mono (Tk.of (e38.trans eA))).get hy
          obtain ⟨e, he, rfl⟩ := tup_get hd0
          have hem := List.mem_of_getElem? he
          have RA := R.mono eA
          refine ⟨rfl, _, rfl, _, _, _, rfl, RA.ob, fz_no (by decide +kernel), _, rfl, ro, y, e, H7, S.ks, S.ix, S.ps, pl, rows, rdx, d, pc, rl, dk, pk, rv, rfl, RA, hy0, hbsub e hem, hall2 e hem, fun v' it HC eC hv' hit => kB _ _ eC ⟨its ++ [it], ?_, ?_⟩⟩
          · rw [List.map_append]
            exact (r1.mono (Tk.of eC)).app (.cons hv' .nil)
          · rw [List.take_add_one, he]
            exact r2.snoc hit
        · rintro acc HA eA hDA _ ⟨way, r1, r2⟩
          rw [hbpn, List.take_length] at r2
          refine ⟨D, acc, rfl, .inl ⟨SqL.of hDA, fun wt hwt => ?_⟩⟩
          have ewt := Ex.new (o := HO.tup acc) hwt
          have RB := (R.mono eA).mono ewt
          have hwi : Is (upd HA wt (.tup acc)) (.ref wt) (.t (way.map itD)) := Is.mk upd_same (r1.mono (Tk.of ewt))
          have e3B := e38.trans (eA.trans ewt)
          generalize upd HA wt (.tup acc) = HB at RB hwi e3B
          refine ⟨_, rfl, bt, _, _, _, rfl, rfl, SqT.of (e3B _ _ hbt), atI_int (Int.le_refl 0) rfl, ?_⟩
          refine ⟨_, rfl, _, _, _, _, _, rfl, RB.ob, T.cRowsD.cl, T.cRowsD.n_rows, fz_at ndRowsD (i := 2) rfl rfl, rl, rv, rfl, .inl ⟨SqL.of RB.ra, fun rt hrt => ?_⟩⟩
          have ert := Ex.new (o := HO.tup rv) hrt
          have hri : Is (upd HB rt (.tup rv)) (.ref rt) (.t (rows.map rowD)) := Is.mk upd_same (RB.rok.mono (Tk.of ert))
          refine ⟨_, rfl, _, rfl, x, H0, S, ndx, m, f, l, kvs, lv, L, rfl, Nu3.mono (e3B.trans ert), hF.nd, by omega, fun tv HC eC => ?_⟩
          refine ⟨by show 4 ≤ sizeLine; decide, fun t ht => ⟨by show 2 ≤ sizeLine; decide, fun r hr => ?_⟩⟩
          have et := Ex.new (o := HO.tup [.str "least", .ref rt, .ref wt, tv]) ht
          have er := Ex.new (o := HO.tup [y1, .ref t]) hr
          obtain ⟨z1, z2⟩ := RI_small hMok hF hRI
          refine k r t y1 _ _ tv rows way _ (e02.trans (e3.trans (e3B.trans (ert.trans (eC.trans (et.trans er)))))) upd_same (er _ _ upd_same) (hri.mono (Tk.of (eC.trans (et.trans er)))) (hwi.mono (Tk.of (ert.trans (eC.trans (et.trans er))))) (hRI.paper hF hbch hbsub hben r2) (by omega) z2 (by rw [← r2.len, hbch.len])
end
end Zp
/-! The forwards net's invariants. -/
namespace Pr
structure FS where
  ed : List Edge
  en : List Int
  bt : List (Int × Int)
def btR (n0 : Int) (bt : List (Int × Int)) : ES := fun g a m => ∃ i : Nat, bt[i]? = some (g, a) ∧ m = n0 + (i : Int)
theorem btR_app {n0 : Int} {bt m : List (Int × Int)} {a b c : Int} (h : btR n0 bt a b c) : btR n0 (bt ++ m) a b c := by
  obtain ⟨i, h1, h2⟩ := h
  exact ⟨i, by rw [List.getElem?_append_left (List.getElem?_eq_some_iff.mp h1).1]; exact h1, h2⟩
def capB (M : Mach) : Nat := M.st.toNat * M.lt.toNat
def FC (M : Mach) (N : NetD) : NetD := ⟨N.st, N.lt, N.nd + (capB M : Int), [], []⟩
def FX (N : NetD) (S : FS) : NetD := ⟨N.st, N.lt, N.nd + (S.bt.length : Int), S.ed, S.en⟩
structure FI (M : Mach) (N : NetD) (S : FS) : Prop where
  edn : S.ed.Nodup
  enn : S.en.Nodup
  btn : S.bt.Nodup
  btr : ∀ z ∈ S.bt, (0 ≤ z.1 ∧ z.1 < M.st) ∧ 0 ≤ z.2 ∧ z.2 < M.lt
  rng : ∀ e ∈ S.ed, InR (FX N S) e
  enr : ∀ n ∈ S.en, 0 ≤ n ∧ n < N.nd
  be : ∀ n a m, (n, a, m) ∈ S.ed → BE M (mem N.ed) (btR N.nd S.bt) n a m
  bn : ∀ n ∈ S.en, BN M (mem N.ed) (· ∈ N.en) (btR N.nd S.bt) n
theorem FI.cap {M : Mach} {N : NetD} {S : FS} (h : FI M N S) : S.bt.length ≤ capB M := by
  have := nd_len (S.bt.map fun z => z.1.toNat * M.lt.toNat + z.2.toNat) (List.range (capB M)) (List.pairwise_map.mpr (List.Pairwise.imp_of_mem (fun {a b} ha hb hne e => ?_) h.btn)) fun x hx => ?_
  · simpa using this
  · have h1 := h.btr a ha
    have h2 := h.btr b hb
    have ea : a.2.toNat < M.lt.toNat := by omega
    have eb : b.2.toNat < M.lt.toNat := by omega
    have h3 : a.2.toNat = b.2.toNat := by
      have := congrArg (· % M.lt.toNat) e
      simp only [Nat.mul_comm _ M.lt.toNat, Nat.mul_add_mod, Nat.mod_eq_of_lt ea, Nat.mod_eq_of_lt eb] at this
      exact this
    have h4 : a.1.toNat = b.1.toNat := by
      rw [h3] at e
      exact Nat.eq_of_mul_eq_mul_right (by omega) (Nat.add_right_cancel e)
    exact hne (Prod.ext (by omega) (by omega))
  · obtain ⟨z, hz, rfl⟩ := List.mem_map.mp hx
    have h1 := h.btr z hz
    have ea : z.2.toNat < M.lt.toNat := by omega
    have eb : z.1.toNat + 1 ≤ M.st.toNat := by omega
    have := Nat.mul_le_mul_right M.lt.toNat eb
    rw [Nat.add_mul, Nat.one_mul] at this
    exact List.mem_range.mpr (by unfold capB; omega)
theorem FI.edl {M : Mach} {N : NetD} {S : FS} (h : FI M N S) : S.ed.length ≤ capE (FC M N) := by
  have hc := h.cap
  refine edges_len h.edn fun e he => ?_
  obtain ⟨h1, h2, h3⟩ := h.rng e he
  simp only [FX] at h1 h2 h3
  refine ⟨?_, h2, ?_⟩
  · simp only [FC]; omega
  · simp only [FC]; omega
theorem FI.enl {M : Mach} {N : NetD} {S : FS} (h : FI M N S) : S.en.length ≤ N.nd.toNat := by
  have := nd_len S.en ((List.range N.nd.toNat).map fun i : Nat => (i : Int)) h.enn fun n hn => ?_
  · simpa using this
  · have := h.enr n hn
    exact List.mem_map.mpr ⟨n.toNat, List.mem_range.mpr (by omega), by omega⟩
def MuF (M : Mach) (N : NetD) (S : FS) : Nat := (capE (FC M N) - S.ed.length) + (N.nd.toNat - S.en.length)
def FS.put (S : FS) (e : Edge) : FS := { S with ed := S.ed ++ [e] }
def FS.endp (S : FS) (n : Int) : FS := { S with en := S.en ++ [n] }
def FS.btp (S : FS) (z : Int × Int) : FS := { S with bt := S.bt ++ [z] }
theorem FI.put {M : Mach} {N : NetD} {S : FS} (h : FI M N S) {e : Edge} (hn : e ∉ S.ed) (hr : InR (FX N S) e) (hb : BE M (mem N.ed) (btR N.nd S.bt) e.1 e.2.1 e.2.2) : FI M N (S.put e) := by
  refine ⟨List.nodup_append.mpr ⟨h.edn, by simp, fun a ha b hb' z => hn (by rw [← List.mem_singleton.mp hb', ← z]; exact ha)⟩, h.enn, h.btn, h.btr, fun x hx => ?_, h.enr, fun n a m hx => ?_, h.bn⟩
  · rcases List.mem_append.mp hx with z | z
    · exact h.rng x z
    · rw [List.mem_singleton.mp z]; exact hr
  · rcases List.mem_append.mp hx with z | z
    · exact h.be n a m z
    · cases List.mem_singleton.mp z; exact hb
theorem FI.endp {M : Mach} {N : NetD} {S : FS} (h : FI M N S) {n : Int} (hn : n ∉ S.en) (hr : 0 ≤ n ∧ n < N.nd) (hb : BN M (mem N.ed) (· ∈ N.en) (btR N.nd S.bt) n) : FI M N (S.endp n) := by
  refine ⟨h.edn, List.nodup_append.mpr ⟨h.enn, by simp, fun a ha b hb' z => hn (by rw [← List.mem_singleton.mp hb', ← z]; exact ha)⟩, h.btn, h.btr, h.rng, fun x hx => ?_, h.be, fun x hx => ?_⟩
  · rcases List.mem_append.mp hx with z | z
    · exact h.enr x z
    · rw [List.mem_singleton.mp z]; exact hr
  · rcases List.mem_append.mp hx with z | z
    · exact h.bn x z
    · rw [List.mem_singleton.mp z]; exact hb
theorem FI.btp {M : Mach} {N : NetD} {S : FS} (h : FI M N S) {z : Int × Int} (hn : z ∉ S.bt) (hr : (0 ≤ z.1 ∧ z.1 < M.st) ∧ 0 ≤ z.2 ∧ z.2 < M.lt) : FI M N (S.btp z) := by
  refine ⟨h.edn, h.enn, List.nodup_append.mpr ⟨h.btn, by simp, fun a ha b hb' z' => hn (by rw [← List.mem_singleton.mp hb', ← z']; exact ha)⟩, fun x hx => ?_, fun e he => ?_, h.enr, fun n a m hx => (h.be n a m hx).mono fun _ _ _ => btR_app, fun n hx => (h.bn n hx).mono fun _ _ _ => btR_app⟩
  · rcases List.mem_append.mp hx with y | y
    · exact h.btr x y
    · rw [List.mem_singleton.mp y]; exact hr
  · obtain ⟨h1, h2, h3⟩ := h.rng e he
    simp only [FX] at h1 h2 h3
    refine ⟨?_, h2, ?_⟩
    · simp only [FX, FS.btp, List.length_append, List.length_singleton]; omega
    · simp only [FX, FS.btp, List.length_append, List.length_singleton]; omega
structure GrF (S S' : FS) : Prop where
  ed : ∀ e ∈ S.ed, e ∈ S'.ed
  en : ∀ e ∈ S.en, e ∈ S'.en
theorem GrF.refl (S : FS) : GrF S S := ⟨fun _ h => h, fun _ h => h⟩
theorem GrF.trans {A B C : FS} (h : GrF A B) (g : GrF B C) : GrF A C := ⟨fun e z => g.ed e (h.ed e z), fun e z => g.en e (h.en e z)⟩
structure Chg (M : Mach) (N : NetD) (S : FS) (c : Bool) (S' : FS) (c' : Bool) : Prop where
  fl : c' = false → c = false ∧ S' = S
  le : MuF M N S' ≤ MuF M N S
  lt : c' = true → c = true ∨ MuF M N S' < MuF M N S
  gr : GrF S S'
theorem Chg.refl {M : Mach} {N : NetD} (S : FS) (c : Bool) : Chg M N S c S c := ⟨fun h => ⟨h, rfl⟩, Nat.le_refl _, .inl, GrF.refl S⟩
theorem Chg.trans {M : Mach} {N : NetD} {S1 S2 S3 : FS} {a b c : Bool} (h : Chg M N S1 a S2 b) (g : Chg M N S2 b S3 c) : Chg M N S1 a S3 c := by
  refine ⟨fun hc => ?_, Nat.le_trans g.le h.le, fun hc => ?_, h.gr.trans g.gr⟩
  · obtain ⟨h1, h2⟩ := g.fl hc
    obtain ⟨h3, h4⟩ := h.fl h1
    exact ⟨h3, h2.trans h4⟩
  · rcases g.lt hc with z | z
    · rcases h.lt z with y | y
      · exact .inl y
      · exact .inr (Nat.lt_of_le_of_lt g.le y)
    · exact .inr (Nat.lt_of_lt_of_le z h.le)
theorem Chg.put {M : Mach} {N : NetD} {S : FS} {e : Edge} (h : FI M N (S.put e)) (c : Bool) : Chg M N S c (S.put e) true := by
  have hl := h.edl
  simp only [FS.put, List.length_append, List.length_singleton] at hl
  have : MuF M N (S.put e) < MuF M N S := by
    simp only [MuF, FS.put, List.length_append, List.length_singleton]; omega
  exact ⟨(fun z => nomatch z), Nat.le_of_lt this, fun _ => .inr this, fun x hx => List.mem_append.mpr (.inl hx), fun _ z => z⟩
theorem Chg.endp {M : Mach} {N : NetD} {S : FS} {n : Int} (h : FI M N (S.endp n)) (c : Bool) : Chg M N S c (S.endp n) true := by
  have hl := h.enl
  simp only [FS.endp, List.length_append, List.length_singleton] at hl
  have : MuF M N (S.endp n) < MuF M N S := by
    simp only [MuF, FS.endp, List.length_append, List.length_singleton]; omega
  exact ⟨(fun z => nomatch z), Nat.le_of_lt this, fun _ => .inr this, fun x hx => hx, fun x hx => List.mem_append.mpr (.inl hx)⟩
/-- a new node, then an edge that is new -/
theorem Chg.btput {M : Mach} {N : NetD} {S : FS} {z : Int × Int} {e : Edge} (h : FI M N ((S.btp z).put e)) (c : Bool) : Chg M N S c ((S.btp z).put e) true := by
  have hl := h.edl
  simp only [FS.put, FS.btp, List.length_append, List.length_singleton] at hl
  have : MuF M N ((S.btp z).put e) < MuF M N S := by
    simp only [MuF, FS.put, FS.btp, List.length_append, List.length_singleton]; omega
  exact ⟨(fun z => nomatch z), Nat.le_of_lt this, fun _ => .inr this, fun x hx => List.mem_append.mpr (.inl hx), fun _ z => z⟩
/-- what a step asks at a node -/
structure ClF (S : FS) (s : StepD) (q : Int) : Prop where
  pop : s.laid = [] → (∀ l n, (q, l, n) ∈ S.ed → (s.goal, l, n) ∈ S.ed) ∧ (q ∈ S.en → s.goal ∈ S.en)
  swap : ∀ a, s.laid = [a] → (s.goal, a, q) ∈ S.ed
  push : ∀ a b, s.laid = [a, b] → ∃ r, (s.goal, a, r) ∈ S.ed ∧ (r, b, q) ∈ S.ed
theorem fwd_of {M : Mach} {N : NetD} {S : FS} (h : ∀ s ∈ M.steps, ∀ q, (s.state, s.letter, q) ∈ S.ed → ClF S s q) : Fwd M (FX N S) := fun s hs q hq => ⟨(h s hs q hq).pop, (h s hs q hq).swap, (h s hs q hq).push⟩
theorem FI.ok {M : Mach} {N : NetD} {S : FS} (hN : NetOk N) (h : FI M N S) : NetOk (FX N S) := ⟨hN.st, hN.lt, by have := hN.nd; simp only [FX]; omega, h.rng, fun e he => by have := h.enr e he; simp only [FX]; omega⟩
theorem FI.reach {M : Mach} {N : NetD} {S : FS} (hM : MOk M) (hN : NetOk N) (hst : N.st = M.st) (hpl : ∀ e ∈ N.ed, N.st ≤ e.2.2) (h : FI M N S) {c : Conf} (h0 : 0 ≤ c.1 ∧ c.1 < M.st) (ha : Acc (FX N S) c) : Reach M N c := by
  refine acc_reach (bt := btR N.nd S.bt) hM ⟨by rw [← hst]; exact hN.nd, fun g a m ⟨i, _, hm⟩ => by omega, fun g a g' a' m ⟨i, h1, h2⟩ ⟨j, h3, h4⟩ => ?_, fun n a m hm => ?_⟩ (fun n hn => (hN.en n hn).2) h.be h.bn h0 ha
  · have : i = j := by omega
    subst this
    rw [h1] at h3
    cases h3
    exact ⟨rfl, rfl⟩
  · have h1 := hN.ed _ hm
    have h2 := hpl _ hm
    exact ⟨by rw [← hst]; exact h2, h1.2.2.2, h1.1.2⟩
theorem FI.base {M : Mach} {N : NetD} (hN : NetOk N) : FI M N ⟨[], [], []⟩ := ⟨.nil, .nil, .nil, fun _ h => (nomatch h), fun _ h => (nomatch h), fun _ h => (nomatch h), fun _ _ _ h => (nomatch h), fun _ h => (nomatch h)⟩
end Pr
set_option maxRecDepth 100000
set_option maxHeartbeats 0
namespace Zp
open PySem L2 Zs Evl Pr
def nsForwards : List Str := ["machine", "nodes", "edges", "leaving", "ends", "between", "changed"]
theorem ndForwards : nsForwards.Nodup := by decide +kernel
def chL : Option Bool → List V
  | none => []
  | some b => [.bl b]
def BtV (kvs : List (List Key × V)) (bt : List (Int × Int)) (n0 : Int) : Prop := kvs.length = bt.length ∧ ∀ g a, (∀ v, valV kvs (pK g a) = some v → ∃ i : Nat, v = .int (n0 + (i : Int)) ∧ bt[i]? = some (g, a)) ∧ (valV kvs (pK g a) = none → (g, a) ∉ bt)
theorem BtV.nil {n0 : Int} : BtV [] [] n0 := ⟨rfl, fun g a => ⟨fun v h => (nomatch h), fun _ h => nomatch h⟩⟩
theorem BtV.new {kvs : List (List Key × V)} {bt : List (Int × Int)} {n0 : Int} (h : BtV kvs bt n0) {g a : Int} (hv : valV kvs (pK g a) = none) : BtV (putK kvs (pK g a) (.int (n0 + (bt.length : Int)))) (bt ++ [(g, a)]) n0 := by
  refine ⟨by rw [putK_new _ hv, List.length_append, List.length_append, h.1]; rfl, fun x y => ?_⟩
  rw [valV_put]
  by_cases ea : pK x y = pK g a
  · obtain ⟨rfl, rfl⟩ := pK_inj ea
    rw [if_pos rfl]
    exact ⟨fun v hv' => ⟨bt.length, by cases hv'; rfl, by simp⟩, fun z => nomatch z⟩
  · rw [if_neg ea]
    refine ⟨fun v hv' => ?_, fun z hm => ?_⟩
    · obtain ⟨i, h1, h2⟩ := (h.2 x y).1 v hv'
      exact ⟨i, h1, get_app h2⟩
    · rcases List.mem_append.mp hm with q | q
      · exact (h.2 x y).2 z q
      · cases List.mem_singleton.mp q
        exact ea rfl
theorem kd_new {α κ : Type} [DecidableEq α] [DecidableEq κ] {f : α → κ} (hf : ∀ a b, f a = f b → a = b) {ms : List α} {m : α} (h : m ∉ ms) : putK (kd f ms) (f m) (.bl true) = kd f (ms ++ [m]) := by rw [kd_put hf, if_neg h]
structure FwIs (C : Addr) (H0 H : Hp) (p : Addr) (S : FS) (n0 : Int) (dx m e l n b : Addr) (ch : Option Bool) (lv bv : List (List Key × V)) : Prop where
  p0 : H0 p = none
  ob : H p = some (.ins C dx (fz nsForwards ([.ref m, .int (n0 + (S.bt.length : Int)), .ref e, .ref l, .ref n, .ref b] ++ chL ch)))
  ex : Ex H0 H
  e0 : H0 e = none
  ea : H e = some (.dT (kd eK S.ed))
  ld : DL HO.dT H0 H l lv (Lof S.ed)
  sz : lv.length ≤ S.ed.length
  n0' : H0 n = none
  na : H n = some (.dK (kd iK S.en))
  b0 : H0 b = none
  ba : H b = some (.dT bv)
  bk : BtV bv S.bt n0
  nel : e ≠ l
  neb : e ≠ b
  nlb : l ≠ b
section
variable {C : Addr} {H0 H H' : Hp} {p : Addr} {S : FS} {n0 : Int} {dx m e l n b : Addr} {ch : Option Bool} {lv bv : List (List Key × V)}
theorem FwIs.mono (x : Ex H H') (h : FwIs C H0 H p S n0 dx m e l n b ch lv bv) : FwIs C H0 H' p S n0 dx m e l n b ch lv bv :=
  ⟨h.p0, x _ _ h.ob, h.ex.trans x, h.e0, x _ _ h.ea, h.ld.mono x, h.sz, h.n0', x _ _ h.na, h.b0, x _ _ h.ba, h.bk, h.nel, h.neb, h.nlb⟩
theorem FwIs.gr (x : Ex H H') (h : FwIs C H0 H p S n0 dx m e l n b ch lv bv) : FwIs C (gr H0 H H') H' p S n0 dx m e l n b ch lv bv := by
  have h' := h.mono x
  refine ⟨gr_own h.ob h.p0, h'.ob, gr_ex h.ex x, gr_own h.ea h.e0, h'.ea, ?_, h.sz, gr_own h.na h.n0', h'.na, gr_own h.ba h.b0, h'.ba, h.bk, h.nel, h.neb, h.nlb⟩
  refine ⟨h'.ld.at_, gr_own h.ld.at_ h.ld.d0, fun k v hv => ?_, h.ld.no, h.ld.inj⟩
  obtain ⟨b, rfl, h1, h2, h3⟩ := h.ld.ls k v hv
  exact ⟨b, rfl, gr_own h3 h1, h2, x _ _ h3⟩
theorem FwIs.down {Hb : Hp} (x : Ex H0 Hb) (h : FwIs C Hb H p S n0 dx m e l n b ch lv bv) : FwIs C H0 H p S n0 dx m e l n b ch lv bv :=
  ⟨fresh_back x h.p0, h.ob, x.trans h.ex, fresh_back x h.e0, h.ea, h.ld.base (fun a ha _ => fresh_back x ha), h.sz, fresh_back x h.n0', h.na, fresh_back x h.b0, h.ba, h.bk, h.nel, h.neb, h.nlb⟩
theorem FwIs.nop (h : FwIs C H0 H p S n0 dx m e l n b ch lv bv) {q : Addr} (ho : Own l lv q) : q ≠ p ∧ q ≠ e ∧ q ≠ n ∧ q ≠ b := by
  rcases ho with rfl | ⟨k, hk⟩
  · exact ⟨ne_of h.ld.at_ h.ob (by intro z; cases z), h.nel.symm, ne_of h.ld.at_ h.na (by intro z; cases z), h.nlb⟩
  · obtain ⟨q', e', _, _, h4⟩ := h.ld.ls k _ hk
    cases e'
    exact ⟨ne_of h4 h.ob (by intro z; cases z), ne_of h4 h.ea (by intro z; cases z), ne_of h4 h.na (by intro z; cases z), ne_of h4 h.ba (by intro z; cases z)⟩
end
section
variable {P : Program} {w : World} {K : PySem.W.Frag} {mg : Str → Option Value} {base : Heap}
def sp_Forwards_put (T : Txt K mg) : Sp := fun vs H Q _ => ∃ (p : Addr) (v : V) (ed : Edge) (H0 : Hp) (S : FS) (n0 : Int) (dx m e l n b : Addr) (ch : Option Bool) (lv bv : List (List Key × V)), vs = [.ref p, v] ∧ FwIs T.cForwards.C H0 H p S n0 dx m e l n b ch lv bv ∧ Is H v (eD ed) ∧ S.ed.length ≤ 5000 ∧
  (ed ∈ S.ed → Q .non H) ∧ (ed ∉ S.ed → ∀ H' lv', FwIs T.cForwards.C H0 H' p (S.put ed) n0 dx m e l n b (some true) lv' bv → Tk H H' → Q .non H')
theorem ok_Forwards_put (T : Txt K mg) : FnOk P w K mg base CX0 1 T.cForwards.put.f T.cForwards.put.fd ["self", "edge"] (sp_Forwards_put T) := by
  refine T.cForwards.put.F.ok sc_Forwards_put (fun vs H Q E h => ?_) (fun cdv A outer s H vs Q E hr h => ?_)
  · obtain ⟨p, v, ed, H0, S, n0, dx, m, e, l, n, b, ch, lv, bv, rfl, _⟩ := h
    rfl
  · obtain ⟨p, v, ed, H0, S, n0, dx, m, e, l, n, b, ch, lv, bv, rfl, F, hv, hsz, k1, k2⟩ := h
    obtain ⟨t, rfl, ht⟩ := Is.edge_iff.mp hv
    have hu := hu_of hr
    have hnd := sc_Forwards_put.nd
    refine ⟨_, (pss_one (ps_if (pt_cmp (pc_dnotin hu (L2.pv 1) (pe_fldK (K := K) rfl (L2.pv 0) rfl)) rfl) (pss_cons (ps_dput hu (pe_fldK (K := K) rfl (L2.pv 0) rfl) (L2.pv 1) (pe_bl) rfl)
    (pss_cons (ps_expr (pe_bm PySem.F.plainAttrs_list PySem.F.slot_list_append PySem.F.type_list_append mt_append (pe_setdT hu (pe_fldK (K := K) rfl (L2.pv 0) rfl) (pe_slice sl_tupA (L2.pv 1) po_none (po_some (pe_int))) (pe_lst pa_nil) ⟨rfl, rfl, rfl, rfl⟩) (pa_cons (pe_ix (ix_tupK (K := K) rfl) (L2.pv 1) (pe_int) (fun _ _ => rfl)) pa_nil)))
    (pss_one (ps_fld (L2.pv 0) (pe_bl) rfl)))) pss_nil)), ?_⟩
    refine ⟨_, rfl, _, rfl, _, _, _, _, _, rfl, F.ob, T.cForwards.cl, T.cForwards.n_edges, fz_at ndForwards (i := 2) rfl rfl, e, _, rfl, DGet.t (k := eK ed) F.ea ht, _, rfl, ?_⟩
    refine iteNB (fun h0 => k1 ((kd_mem eK_inj' _ _).mp h0)) fun h0 => ?_
    have h : ed ∉ S.ed := fun z => by rw [(kd_mem eK_inj' _ _).mpr z] at h0; cases h0
    refine ⟨_, rfl, _, _, _, _, _, rfl, F.ob, T.cForwards.cl, T.cForwards.n_edges, fz_at ndForwards (i := 2) rfl rfl, _, rfl, e, _, rfl, DPut.t (k := eK ed) F.ea ht (lineLt (by rw [kd_len]; omega)), ?_⟩
    rw [kd_new eK_inj' h]
    have npe : p ≠ e := ne_of F.ob F.ea (by intro z; cases z)
    have nne : n ≠ e := ne_of F.na F.ea (by intro z; cases z)
    have tk1 : Tk H (upd H e (.dT (kd eK (S.ed ++ [ed])))) := Tk.wr F.ea fun _ q => nomatch q
    have hob1 : upd H e (.dT (kd eK (S.ed ++ [ed]))) p = _ := (upd_ne npe).trans F.ob
    have he1 : upd H e (.dT (kd eK (S.ed ++ [ed]))) e = some (.dT (kd eK (S.ed ++ [ed]))) := upd_same
    have hn1 : upd H e (.dT (kd eK (S.ed ++ [ed]))) n = _ := (upd_ne nne).trans F.na
    have hb1 : upd H e (.dT (kd eK (S.ed ++ [ed]))) b = _ := (upd_ne F.neb.symm).trans F.ba
    have ex1 : Ex H0 (upd H e (.dT (kd eK (S.ed ++ [ed])))) := Ex.mut F.ex F.e0
    have ld1 : DL HO.dT H0 (upd H e (.dT (kd eK (S.ed ++ [ed])))) l lv (Lof S.ed) := F.ld.off Off.put F.nel (by rw [F.ea]; intro xs z; cases z)
    have nop1 : ∀ q, Own l lv q → q ≠ p ∧ q ≠ e ∧ q ≠ n ∧ q ≠ b := fun q hq => F.nop hq
    have ht1 := tk1 _ _ ht
    generalize upd H e (.dT (kd eK (S.ed ++ [ed]))) = H1 at tk1 hob1 he1 hn1 hb1 ex1 ld1 ht1
    have hLl := Lof_len S.ed (pK ed.1 ed.2.1)
    have hsz' := F.sz
    (try dsimp only [gName, tNext])
    refine setdT_app (K := K) (k := pK ed.1 ed.2.1) (X := fun x _ => x = .int ed.2.2) ld1 ex1 (by omega) (by omega) (fun Q z => ⟨_, rfl, _, _, _, _, _, rfl, hob1, T.cForwards.cl, T.cForwards.n_leaving, fz_at ndForwards (i := 3) rfl rfl, z⟩) (fun Q z => ⟨_, rfl, _, rfl, t, _, rfl, SqT.of ht1, (fun w => absurd w (not_whole _ _ _)), fun _ q hq => z q hq⟩) (fun H1 tk' Q z => ⟨_, rfl, t, _, _, _, rfl, rfl, SqT.of (tk' _ _ ht1), rfl, z _ _ (Ex.refl _) rfl⟩) fun x H2 H3 lv' e3 tk3 kp3 hl3 ow3 D3 hX tk23 => ?_
    subst hX
    have kp : ∀ q o, H1 q = some o → (¬ Own l lv q) → H3 q = some o := fun q o hq hno => kp3 _ _ (by rw [minus_ne hno]; exact hq)
    have hob3 := kp _ _ hob1 fun z => (nop1 _ z).1 rfl
    have he3 := kp _ _ he1 fun z => (nop1 _ z).2.1 rfl
    have hn3 := kp _ _ hn1 fun z => (nop1 _ z).2.2.1 rfl
    have hb3 := kp _ _ hb1 fun z => (nop1 _ z).2.2.2 rfl
    rw [← Lof_snoc] at D3
    have fin : ∀ H4, Off p H3 H4 → H4 p = some (.ins T.cForwards.C dx (fz nsForwards ([.ref m, .int (n0 + (S.bt.length : Int)), .ref e, .ref l, .ref n, .ref b] ++ chL (some true)))) → Q .non H4 := fun H4 o4 hp4 => by
      have npl : p ≠ l := ne_of hob3 D3.at_ (by intro z; cases z)
      refine k2 h H4 lv' ⟨F.p0, hp4, o4.ex e3 F.p0, F.e0, o4 _ _ he3 npe.symm, D3.off o4 npl (by rw [hob3]; intro xs z; cases z), ?_, F.n0', o4 _ _ hn3 (ne_of hob3 hn3 (by intro z; cases z)).symm, F.b0, o4 _ _ hb3 (ne_of hob3 hb3 (by intro z; cases z)).symm, F.bk, F.nel, F.neb, F.nlb⟩ (tk1.trans (tk3.trans (o4.tk (by rw [hob3]; intro xs z; cases z))))
      show lv'.length ≤ (S.ed ++ [ed]).length
      rw [List.length_append, List.length_singleton]
      omega
    refine nxS ?_
    cases ch with
    | none =>
      refine st_fld (v := .bl true) (fun Q z => z) (fun Q z => ⟨_, rfl, z⟩) hob3 T.cForwards.cl T.cForwards.n_changed ndForwards rfl (by decide) fun H4 o4 hp4 => ?_
      exact fin H4 o4 hp4
    | some c =>
      refine st_fldU (i := 6) (v := .bl true) (fun Q z => z) (fun Q z => ⟨_, rfl, z⟩) hob3 T.cForwards.cl T.cForwards.n_changed ndForwards rfl (by decide) (by show 6 < 7; decide) fun H4 o4 hp4 => ?_
      exact fin H4 o4 hp4
end
end Zp
set_option maxRecDepth 100000
set_option maxHeartbeats 0
namespace Zp
open PySem L2 Zs Evl Pr
section
variable {P : Program} {w : World} {K : PySem.W.Frag} {mg : Str → Option Value} {base : Heap}
def sp_Forwards_node_between (T : Txt K mg) : Sp := fun vs H Q _ => ∃ (p : Addr) (g a : Int) (H0 : Hp) (S : FS) (n0 : Int) (dx m e l n b : Addr) (ch : Option Bool) (lv bv : List (List Key × V)), vs = [.ref p, .int g, .int a] ∧ FwIs T.cForwards.C H0 H p S n0 dx m e l n b ch lv bv ∧ S.bt.length ≤ 5000 ∧
  (∀ i : Nat, S.bt[i]? = some (g, a) → ∀ H', Ex H H' → Q (.int (n0 + (i : Int))) H') ∧ ((g, a) ∉ S.bt → ∀ H' bv', FwIs T.cForwards.C H0 H' p (S.btp (g, a)) n0 dx m e l n b ch lv bv' → Tk H H' → Q (.int (n0 + (S.bt.length : Int))) H')
theorem ok_Forwards_node_between (T : Txt K mg) : FnOk P w K mg base CX0 1 T.cForwards.node_between.f T.cForwards.node_between.fd ["self", "goal", "letter"] (sp_Forwards_node_between T) := by
  refine T.cForwards.node_between.F.ok sc_Forwards_node_between (fun vs H Q E h => ?_) (fun cdv A outer s H vs Q E hr h => ?_)
  · obtain ⟨p, g, a, H0, S, n0, dx, m, e, l, n, b, ch, lv, bv, rfl, _⟩ := h
    rfl
  · obtain ⟨p, g, a, H0, S, n0, dx, m, e, l, n, b, ch, lv, bv, rfl, F, hsz, k1, k2⟩ := h
    have hu := hu_of hr
    have hnd := sc_Forwards_node_between.nd
    refine ⟨_, (pss_cons (ps_if (pt_cmp (pc_dnotin hu (pe_tup (pa_cons (L2.pv 1) (pa_cons (L2.pv 2) pa_nil))) (pe_fldK (K := K) rfl (L2.pv 0) rfl)) rfl) (pss_cons (ps_dput hu (pe_fldK (K := K) rfl (L2.pv 0) rfl) (pe_tup (pa_cons (L2.pv 1) (pa_cons (L2.pv 2) pa_nil))) (pe_fldK (K := K) rfl (L2.pv 0) rfl) rfl)
    (pss_one (ps_fld (L2.pv 0) (pe_op op_add (pe_fldK (K := K) rfl (L2.pv 0) rfl) (pe_int)) rfl))) pss_nil)
    (pss_one (ps_ret (pe_dget hu (pe_fldK (K := K) rfl (L2.pv 0) rfl) (pe_tup (pa_cons (L2.pv 1) (pa_cons (L2.pv 2) pa_nil))) (fun _ _ => rfl))))), ?_⟩
    have hbl := F.bk.1
    refine ⟨_, rfl, _, rfl, by show 2 ≤ sizeLine; decide, fun t ht => ?_⟩
    have et := Ex.new (o := HO.tup [.int g, .int a]) ht
    have F1 := F.mono et
    refine ⟨_, rfl, _, _, _, _, _, rfl, F1.ob, T.cForwards.cl, T.cForwards.n_between, fz_at ndForwards (i := 5) rfl rfl, b, _, rfl, DGet.t (k := pK g a) F1.ba upd_same, _, rfl, ?_⟩
    cases hv : valV bv (pK g a) with
    | some v =>
      refine nxT ?_
      refine ⟨_, rfl, _, _, _, _, _, rfl, F1.ob, T.cForwards.cl, T.cForwards.n_between, fz_at ndForwards (i := 5) rfl rfl, _, rfl, _, rfl, by show 2 ≤ sizeLine; decide, fun t2 ht2 => ?_⟩
      have et2 := Ex.new (o := HO.tup [.int g, .int a]) ht2
      have F2 := F1.mono et2
      obtain ⟨i, rfl, hi⟩ := (F.bk.2 g a).1 v hv
      exact ⟨b, _, rfl, hv ▸ DGet.t (k := pK g a) F2.ba upd_same, k1 i hi _ (et.trans et2)⟩
    | none =>
      have hno := (F.bk.2 g a).2 hv
      refine ⟨_, rfl, _, _, _, _, _, rfl, F1.ob, T.cForwards.cl, T.cForwards.n_nodes, fz_at ndForwards (i := 1) rfl rfl, _, rfl, _, _, _, _, _, rfl, F1.ob, T.cForwards.cl, T.cForwards.n_between, fz_at ndForwards (i := 5) rfl rfl, _, rfl, _, rfl, by show 2 ≤ sizeLine; decide, fun t2 ht2 => ?_⟩
      have et2 := Ex.new (o := HO.tup [.int g, .int a]) ht2
      have F2 := F1.mono et2
      have e2 := et.trans et2
      refine ⟨b, _, rfl, DPut.t (k := pK g a) F2.ba upd_same (lineLt (by omega)), ?_⟩
      have hbk := F.bk.new hv
      generalize upd (upd H t (.tup [.int g, .int a])) t2 (.tup [.int g, .int a]) = H2 at F2 e2
      have npb : p ≠ b := ne_of F2.ob F2.ba (by intro z; cases z)
      have nnb : n ≠ b := ne_of F2.na F2.ba (by intro z; cases z)
      have tk3 : Tk H2 (upd H2 b (.dT (putK bv (pK g a) (.int (n0 + (S.bt.length : Int)))))) := Tk.wr F2.ba fun _ q => nomatch q
      have hob3 : upd H2 b (.dT (putK bv (pK g a) (.int (n0 + (S.bt.length : Int))))) p = _ := (upd_ne npb).trans F2.ob
      have hb3 : upd H2 b (.dT (putK bv (pK g a) (.int (n0 + (S.bt.length : Int))))) b = some (.dT (putK bv (pK g a) (.int (n0 + (S.bt.length : Int))))) := upd_same
      have he3 : upd H2 b (.dT (putK bv (pK g a) (.int (n0 + (S.bt.length : Int))))) e = _ := (upd_ne F.neb).trans F2.ea
      have hn3 : upd H2 b (.dT (putK bv (pK g a) (.int (n0 + (S.bt.length : Int))))) n = _ := (upd_ne nnb).trans F2.na
      have ex3 : Ex H0 (upd H2 b (.dT (putK bv (pK g a) (.int (n0 + (S.bt.length : Int)))))) := Ex.mut F2.ex F2.b0
      have ld3 : DL HO.dT H0 (upd H2 b (.dT (putK bv (pK g a) (.int (n0 + (S.bt.length : Int)))))) l lv (Lof S.ed) := F2.ld.off Off.put F.nlb.symm (by rw [F2.ba]; intro xs z; cases z)
      generalize upd H2 b (.dT (putK bv (pK g a) (.int (n0 + (S.bt.length : Int))))) = H3 at tk3 hob3 hb3 he3 hn3 ex3 ld3
      refine nxS ?_
      refine st_fldU (i := 1) (v := .int (n0 + (S.bt.length : Int) + 1)) (fun Q z => ⟨_, rfl, _, _, _, _, _, rfl, hob3, T.cForwards.cl, T.cForwards.n_nodes, fz_at ndForwards (i := 1) rfl rfl, _, _, rfl, rfl, z⟩) (fun Q z => ⟨_, rfl, z⟩) hob3 T.cForwards.cl T.cForwards.n_nodes ndForwards rfl (by decide) (by simp) fun H4 o4 hp4 => ?_
      have hp4' : H4 p = some (.ins T.cForwards.C dx (fz nsForwards ([.ref m, .int (n0 + ((S.btp (g, a)).bt.length : Int)), .ref e, .ref l, .ref n, .ref b] ++ chL ch))) := by
        have : n0 + ((S.btp (g, a)).bt.length : Int) = n0 + (S.bt.length : Int) + 1 := by
          show n0 + ((S.bt ++ [(g, a)]).length : Int) = _
          rw [List.length_append, List.length_singleton]
          omega
        rw [this]
        exact hp4
      have F4 : FwIs T.cForwards.C H0 H4 p (S.btp (g, a)) n0 dx m e l n b ch lv (putK bv (pK g a) (.int (n0 + (S.bt.length : Int)))) :=
        ⟨F.p0, hp4', o4.ex ex3 F.p0, F.e0, o4 _ _ he3 (ne_of hob3 he3 (by intro z; cases z)).symm, ld3.off o4 (ne_of hob3 ld3.at_ (by intro z; cases z)) (by rw [hob3]; intro xs z; cases z), F.sz, F.n0', o4 _ _ hn3 (ne_of hob3 hn3 (by intro z; cases z)).symm, F.b0, o4 _ _ hb3 (ne_of hob3 hb3 (by intro z; cases z)).symm, hbk, F.nel, F.neb, F.nlb⟩
      have tk4 : Tk H H4 := (Tk.of e2).trans (tk3.trans (o4.tk (by rw [hob3]; intro xs z; cases z)))
      refine nxS ?_
      refine ⟨_, rfl, _, _, _, _, _, rfl, F4.ob, T.cForwards.cl, T.cForwards.n_between, fz_at ndForwards (i := 5) rfl rfl, _, rfl, _, rfl, by show 2 ≤ sizeLine; decide, fun t3 ht3 => ?_⟩
      have et3 := Ex.new (o := HO.tup [.int g, .int a]) ht3
      have F5 := F4.mono et3
      have hval : valV (putK bv (pK g a) (.int (n0 + (S.bt.length : Int)))) (pK g a) = some (.int (n0 + (S.bt.length : Int))) := by rw [valV_put, if_pos rfl]
      exact ⟨b, _, rfl, hval ▸ DGet.t (k := pK g a) F5.ba upd_same, k2 hno _ _ F5 (tk4.trans (Tk.of et3))⟩
end
end Zp
set_option maxRecDepth 100000
set_option maxHeartbeats 0
namespace Zp
open PySem L2 Zs Evl Pr
section
variable {P : Program} {w : World} {K : PySem.W.Frag} {mg : Str → Option Value} {base : Heap}
theorem fw_put (T : Txt K mg) {M : Mach} {N : NetD} {p : Addr} {v : V} {ed : Edge} {H0 H : Hp} {S : FS} {dx m e l n b : Addr} {ch : Option Bool} {c : Bool} {lv bv : List (List Key × V)} {Q : VK} {E : XK}
    (F : FwIs T.cForwards.C H0 H p S N.nd dx m e l n b ch lv bv) (hch : ch = some c ∨ (ch = none ∧ c = true)) (hI : FI M N S) (hcap : capE (FC M N) ≤ 1200) (hv : Is H v (eD ed)) (hr : InR (FX N S) ed) (hb : BE M (mem N.ed) (btR N.nd S.bt) ed.1 ed.2.1 ed.2.2)
    (k : ∀ S' ch' c' lv' H', FwIs T.cForwards.C H0 H' p S' N.nd dx m e l n b ch' lv' bv → (ch' = some c' ∨ (ch' = none ∧ c' = true)) → (ch = some c → ch' = some c') → FI M N S' → Chg M N S c S' c' → ed ∈ S'.ed → S'.bt = S.bt → Tk H H' → Q .non H') : sp_Forwards_put T [.ref p, v] H Q E := by
  have hl := hI.edl
  refine ⟨p, v, ed, H0, S, N.nd, dx, m, e, l, n, b, ch, lv, bv, rfl, F, hv, by omega, fun h => ?_, fun h H' lv' F' tk => ?_⟩
  · exact k S ch c lv H F hch id hI (Chg.refl S c) h rfl (Tk.refl _)
  · have hI' := hI.put h hr hb
    exact k (S.put ed) (some true) true lv' H' F' (.inl rfl) (fun _ => rfl) hI' (Chg.put hI' c) (List.mem_append.mpr (.inr List.mem_cons_self)) rfl tk
theorem fw_nb (T : Txt K mg) {M : Mach} {N : NetD} {p : Addr} {g a : Int} {H0 H : Hp} {S : FS} {dx m e l n b : Addr} {ch : Option Bool} {lv bv : List (List Key × V)} {Q : VK} {E : XK}
    (F : FwIs T.cForwards.C H0 H p S N.nd dx m e l n b ch lv bv) (hI : FI M N S) (hcb : capB M ≤ 100) (hr : (0 ≤ g ∧ g < M.st) ∧ 0 ≤ a ∧ a < M.lt)
    (k : ∀ S' r bv' H', FwIs T.cForwards.C H0 H' p S' N.nd dx m e l n b ch lv bv' → FI M N S' → btR N.nd S'.bt g a r → (S' = S ∨ (S' = S.btp (g, a) ∧ r = N.nd + (S.bt.length : Int))) → Tk H H' → Q (.int r) H') : sp_Forwards_node_between T [.ref p, .int g, .int a] H Q E := by
  have hl := hI.cap
  refine ⟨p, g, a, H0, S, N.nd, dx, m, e, l, n, b, ch, lv, bv, rfl, F, by omega, fun i hi H' e' => ?_, fun h H' bv' F' tk => ?_⟩
  · exact k S _ bv H' (F.mono e') hI ⟨i, hi, rfl⟩ (.inl rfl) (Tk.of e')
  · refine k (S.btp (g, a)) _ bv' H' F' (hI.btp h hr) ⟨S.bt.length, ?_, rfl⟩ (.inr ⟨rfl, rfl⟩) tk
    show (S.bt ++ [(g, a)])[S.bt.length]? = some (g, a)
    simp
theorem for_evC {K : PySem.W.Frag} {te : TE} {r : List V → Hp → VK → Prop} {g : TG} {tb : TS} {D : Ends} {σ : L2.St} {H : Hp} (h : te σ H fun x0 H0 => r [x0] H0 fun x H1 => ∃ a, x = .ref a ∧ (∃ xs, SqL K H1 a xs) ∧ ∃ W : Nat → Nat → L2.St → Hp → Prop, (∃ m, W 0 m σ H1) ∧ ∀ i m σ H, W i m σ H →
  ((Itl K a).stop i H ∧ D.nx σ H) ∨ ((Itl K a).go i H ∧ ∃ N : L2.St → Hp → Prop, (∀ σ' H', N σ' H' → ∃ m', m' < m ∧ W (i + 1) m' σ' H') ∧ ∀ x H', (Itl K a).yld i H x H' → g x σ H' fun σ2 H2 => tb { D with nx := N, ct := N, bk := D.nx } σ2 H2)) : tFor (iList K (tCB r (tCons te tNil))) g tb D σ H := h
def sp_Forwards_go_on (T : Txt K mg) : Sp := fun vs H Q _ => ∃ (p : Addr) (v : V) (q : Int) (M : Mach) (N : NetD) (s : StepD) (H0 : Hp) (S : FS) (dx m e l n b : Addr) (c : Bool) (lv bv : List (List Key × V)), vs = [.ref p, v, .int q] ∧ FwIs T.cForwards.C H0 H p S N.nd dx m e l n b (some c) lv bv ∧ MachAt T.cMachine.C T.cStep.C H0 m M ∧ StepAt T.cStep.C H0 v s ∧ s ∈ M.steps ∧ NetOk N ∧ N.st = M.st ∧ N.lt = M.lt ∧ FI M N S ∧ (s.state, s.letter, q) ∈ S.ed ∧ capE (FC M N) ≤ 1200 ∧ capB M ≤ 100 ∧ N.nd ≤ 100 ∧ N.lt ≤ 100 ∧
  ∀ S' c' lv' bv' H', FwIs T.cForwards.C H0 H' p S' N.nd dx m e l n b (some c') lv' bv' → FI M N S' → Chg M N S c S' c' → (c' = false → ClF S s q) → Tk H H' → Q .non H'
theorem ok_Forwards_go_on (T : Txt K mg) : FnOk P w K mg base CX0 2 T.cForwards.go_on.f T.cForwards.go_on.fd ["self", "step", "end"] (sp_Forwards_go_on T) := by
  refine T.cForwards.go_on.F.ok sc_Forwards_go_on (fun vs H Q E h => ?_) (fun cdv A outer s H vs Q E hr h => ?_)
  · obtain ⟨p, v, q, M, N, s, H0, S, dx, m, e, l, n, b, c, lv, bv, rfl, _⟩ := h
    rfl
  · obtain ⟨p, v, q, M, N, st, H0, S, dx, m, e, l, n, b, c, lv, bv, rfl, F, ⟨mdx, ma, mvs, hM⟩, ⟨sp, sdx, la, rfl, hs⟩, hst, hN, h1, h2, hI, hq, hcap, hcb, hnd100, hlt100, k⟩ := h
    obtain ⟨⟨hsS, hsS'⟩, ⟨hsL, hsL'⟩, ⟨hsG, hsG'⟩, hl2, hla, _⟩ := hM.ok.stp st hst
    have hqr := hI.rng _ hq
    have hbq := hI.be _ _ _ hq
    have hNnd := hN.nd
    have hbt := hI.cap
    have hu := hu_of hr
    have hnd := sc_Forwards_go_on.nd
    refine ⟨_, (pss_one (ps_if (pt_cmpR op_eq (pe_callB call_len_seq (by rfl) T.b.len PySem.boot_len (pa_cons (pe_fldK (K := K) rfl (L2.pv 1) rfl) pa_nil)) (pe_int) (nomark _)) (pss_cons (ps_for PassesOwn.never rfl (pi_range1 (by rfl) T.b.range (pa_cons (pe_fldK (K := K) rfl (pe_fldK (K := K) rfl (L2.pv 0) rfl) rfl) pa_nil)) (pg_name (i := 3) hnd rfl (by first | exact Or.inl rfl | exact Or.inr rfl))
      (pss_one (ps_for PassesOwn.never rfl (pi_listK (K := K) rfl (pe_callTy call_list_of (by rfl) T.b.list (by decide +kernel) (pa_cons (pe_dget2 hu (pe_fldK (K := K) rfl (L2.pv 0) rfl) (pe_tup (pa_cons (L2.pv 2) (pa_cons (L2.pv 3) pa_nil))) (pe_lst pa_nil) ⟨rfl, rfl, rfl, rfl⟩) pa_nil))) (pg_name (i := 4) hnd rfl (by first | exact Or.inl rfl | exact Or.inr rfl))
      (pss_one (ps_expr (pe_meth (L2.pv 0) T.cForwards.cl T.cForwards.m_put (ok_Forwards_put T) (hr.mono (by decide)) T.cForwards.put.b .nil pass0 (pa_cons (pe_tup (pa_cons (pe_fldK (K := K) rfl (L2.pv 1) rfl) (pa_cons (L2.pv 3) (pa_cons (L2.pv 4) pa_nil)))) pa_nil)))))))
    (pss_one (ps_if (PW.pt (pw_and (pt_cmp (pc_din hu (L2.pv 2) (pe_fldK (K := K) rfl (L2.pv 0) rfl)) rfl) (pw_and1 (pt_cmp (pc_dnotin hu (pe_fldK (K := K) rfl (L2.pv 1) rfl) (pe_fldK (K := K) rfl (L2.pv 0) rfl)) rfl)))) (pss_cons (ps_dput hu (pe_fldK (K := K) rfl (L2.pv 0) rfl) (pe_fldK (K := K) rfl (L2.pv 1) rfl) (pe_bl) rfl)
    (pss_one (ps_fld (L2.pv 0) (pe_bl) rfl))) pss_nil))) (pss_one (ps_if (pt_cmpR op_eq (pe_callB call_len_seq (by rfl) T.b.len PySem.boot_len (pa_cons (pe_fldK (K := K) rfl (L2.pv 1) rfl) pa_nil)) (pe_int) (nomark _)) (pss_one (ps_expr (pe_meth (L2.pv 0) T.cForwards.cl T.cForwards.m_put (ok_Forwards_put T) (hr.mono (by decide)) T.cForwards.put.b .nil pass0 (pa_cons (pe_tup (pa_cons (pe_fldK (K := K) rfl (L2.pv 1) rfl) (pa_cons (pe_ix (ix_tupK (K := K) rfl) (pe_fldK (K := K) rfl (L2.pv 1) rfl) (pe_int) (fun _ _ => rfl)) (pa_cons (L2.pv 2) pa_nil)))) pa_nil)))) (pss_cons (ps_set (i := 4) hnd rfl (by first | exact Or.inl rfl | exact Or.inr rfl) (pe_meth (L2.pv 0) T.cForwards.cl T.cForwards.m_node_between (ok_Forwards_node_between T) (hr.mono (by decide)) T.cForwards.node_between.b .nil pass0 (pa_cons (pe_fldK (K := K) rfl (L2.pv 1) rfl) (pa_cons (pe_ix (ix_tupK (K := K) rfl) (pe_fldK (K := K) rfl (L2.pv 1) rfl) (pe_int) (fun _ _ => rfl)) pa_nil))))
    (pss_cons (ps_expr (pe_meth (L2.pv 0) T.cForwards.cl T.cForwards.m_put (ok_Forwards_put T) (hr.mono (by decide)) T.cForwards.put.b .nil pass0 (pa_cons (pe_tup (pa_cons (pe_fldK (K := K) rfl (L2.pv 1) rfl) (pa_cons (pe_ix (ix_tupK (K := K) rfl) (pe_fldK (K := K) rfl (L2.pv 1) rfl) (pe_int) (fun _ _ => rfl)) (pa_cons (L2.pv 4) pa_nil)))) pa_nil)))
    (pss_one (ps_expr (pe_meth (L2.pv 0) T.cForwards.cl T.cForwards.m_put (ok_Forwards_put T) (hr.mono (by decide)) T.cForwards.put.b .nil pass0 (pa_cons (pe_tup (pa_cons (L2.pv 4) (pa_cons (pe_ix (ix_tupK (K := K) rfl) (pe_fldK (K := K) rfl (L2.pv 1) rfl) (pe_int) (fun _ _ => rfl)) (pa_cons (L2.pv 2) pa_nil)))) pa_nil)))))))))), ?_⟩
    refine ⟨_, rfl, _, _, _, _, _, rfl, (F.ex _ _ hs.ob), T.cStep.cl, T.cStep.n_laid, fz_at ndStep (i := 3) rfl rfl, la, _, rfl, .inr (SqT.of (F.ex _ _ hs.la)), rfl, _, rfl, iteD (fun hl => ?_) fun hl => ?_⟩
    · have hl0 : st.laid = [] := List.length_eq_zero_iff.mp (by rw [List.length_map] at hl; injection hl with z; omega)
      have hlt := hM.ok.lt
      refine ⟨_, rfl, _, _, _, _, _, rfl, F.ob, T.cForwards.cl, T.cForwards.n_machine, fz_at ndForwards (i := 0) rfl rfl, _, _, _, _, _, rfl, (F.ex _ _ hM.ob), T.cMachine.cl, T.cMachine.n_letters, fz_at ndMachine (i := 1) rfl rfl, M.lt, rfl, by omega, by omega, for_range (lo := 0) (n := M.lt.toNat)
        (fun i σ' H' => ∃ (S' : FS) (c' : Bool) (lv' : List (List Key × V)) (v3 v4 : Option V), σ' = [some (.ref p), some (.ref sp), some (.int q), v3, v4] ∧ FwIs T.cForwards.C H0 H' p S' N.nd dx m e l n b (some c') lv' bv ∧ FI M N S' ∧ Chg M N S c S' c' ∧ S'.bt = S.bt ∧ (c' = false → ∀ lt n, 0 ≤ lt → lt < (i : Int) → (q, lt, n) ∈ S.ed → (st.goal, lt, n) ∈ S.ed) ∧ Tk H H') ?_ ?_ ?_⟩
      · exact ⟨S, c, lv, none, none, rfl, F, hI, Chg.refl S c, rfl, fun _ lt n z1 z2 => absurd z2 (by omega), Tk.refl _⟩
      · rintro i σ' H' hi ⟨S', c', lv', v3, v4, rfl, F', hI', hchg, hbt', hcl, tk⟩
        have hzl : (0 : Int) + (i : Int) = i := Int.zero_add _
        rw [hzl]
        obtain ⟨xs, hxs, hxm, hxl⟩ := Lof_ints S'.ed q i
        have hel := hI'.edl
        (try dsimp only [gName, tNext])
        refine for_evC (ev_getTL (k := pK q i) F'.ld.at_ F'.ld.dr (fun Q z => ⟨_, rfl, _, _, _, _, _, rfl, F'.ob, T.cForwards.cl, T.cForwards.n_leaving, fz_at ndForwards (i := 3) rfl rfl, z⟩) (fun Q z => ⟨_, rfl, _, rfl, by show 2 ≤ sizeLine; decide, z⟩) _ fun a H1 e1 ha _ => ?_)
        rw [hxs] at ha
        refine ⟨a, _, rfl, .inl (SqL.of ha), fun r hr => ?_⟩
        have er := Ex.new (o := HO.lst (xs.map V.int)) hr
        have e2 := e1.trans er
        have Fb := F'.gr e2
        have hrb : gr H0 H' (upd H1 r (.lst (xs.map V.int))) r = some (.lst (xs.map V.int)) := gr_new (fresh_back e1 hr) upd_same
        have h0b : Ex H0 (gr H0 H' (upd H1 r (.lst (xs.map V.int)))) := gr_old F'.ex
        generalize gr H0 H' (upd H1 r (.lst (xs.map V.int))) = Hb at Fb hrb h0b
        generalize upd H1 r (.lst (xs.map V.int)) = H2 at e2 Fb
        refine ⟨r, rfl, ⟨_, SqL.of (Fb.ex _ _ hrb)⟩, for_list (K := K) (a := r) (xs := xs.map V.int)
          (fun j σ2 H3 => ∃ (S3 : FS) (c3 : Bool) (lv3 : List (List Key × V)) (v4 : Option V), σ2 = [some (.ref p), some (.ref sp), some (.int q), some (.int (i : Int)), v4] ∧ FwIs T.cForwards.C Hb H3 p S3 N.nd dx m e l n b (some c3) lv3 bv ∧ FI M N S3 ∧ Chg M N S' c' S3 c3 ∧ S3.bt = S.bt ∧ (c3 = false → ∀ n ∈ xs.take j, (st.goal, (i : Int), n) ∈ S'.ed) ∧ Tk H' H3) ?_ ?_ ?_ ?_⟩
        · exact ⟨S', c', lv', v4, rfl, Fb, hI', Chg.refl _ _, hbt', fun _ n z => by simp at z, Tk.of e2⟩
        · rintro j σ2 H3 _ ⟨_, _, _, _, rfl, F3, _⟩
          exact SqL.of (F3.ex _ _ hrb)
        · rintro j x σ2 H3 hx ⟨S3, c3, lv3, v4, rfl, F3, hI3, hchg3, hbt3, hcl3, tk3⟩
          obtain ⟨nd', hnd', rfl⟩ := ints_get hx
          have hnm : (q, (i : Int), nd') ∈ S'.ed := (hxm nd').mp (List.mem_of_getElem? hnd')
          have hob3 := F3.ex _ _ (h0b _ _ hs.ob)
          have hnr := hI'.rng _ hnm
          simp only [InR, FX] at hnr
          refine ⟨_, rfl, _, _, _, rfl, F3.ob, fz_no (by decide +kernel), _, rfl, _, _, _, _, _, rfl, hob3, T.cStep.cl, T.cStep.n_goal, fz_at ndStep (i := 2) rfl rfl, _, rfl, _, rfl, by show 3 ≤ sizeLine; decide, fun u hu => ?_⟩
          have eu := Ex.new (o := HO.tup [.int st.goal, .int (i : Int), .int nd']) hu
          dsimp only [tNil]
          refine fw_put T (ed := (st.goal, (i : Int), nd')) (c := c3) (F3.mono eu) (.inl rfl) hI3 hcap (isEdge upd_same) ?_ ?_ fun S4 ch4 c4 lv4 H4 F4 _ hcc hI4 hchg4 hmem hbt4 tk4 => ?_
          · simp only [InR, FX]
            rw [hbt3, ← hbt']
            exact ⟨⟨hsG, by omega⟩, hnr.2.1, hnr.2.2⟩
          · have hb2 := hI'.be _ _ _ hnm
            rw [hbt'] at hb2
            rw [hbt3]
            exact .pop hst hl0 hbq hb2
          · have hc4 := hcc rfl
            subst hc4
            refine ⟨S4, c4, lv4, _, rfl, F4, hI4, hchg3.trans hchg4, hbt4.trans hbt3, fun hf n hn => ?_, tk3.trans ((Tk.of eu).trans tk4)⟩
            obtain ⟨g1, g2⟩ := hchg4.fl hf
            obtain ⟨g3, g4⟩ := hchg3.fl g1
            rw [List.take_add_one, hnd'] at hn
            rcases List.mem_append.mp hn with z | z
            · exact hcl3 g1 n z
            · rw [List.mem_singleton.mp z, ← g4, ← g2]; exact hmem
        · rintro σ2 H3 ⟨S3, c3, lv3, v4, rfl, F3, hI3, hchg3, hbt3, hcl3, tk3⟩
          rw [List.length_map, List.take_length] at hcl3
          refine ⟨S3, c3, lv3, _, _, rfl, F3.down h0b, hI3, hchg.trans hchg3, hbt3, fun hf lt n z1 z2 z3 => ?_, tk.trans tk3⟩
          obtain ⟨g1, g2⟩ := hchg3.fl hf
          obtain ⟨g3, g4⟩ := hchg.fl g1
          by_cases hlt' : lt < (i : Int)
          · exact hcl g1 lt n z1 hlt' z3
          · obtain rfl : lt = (i : Int) := by omega
            have := hcl3 hf n ((hxm n).mpr (by rw [g4]; exact z3))
            rw [g4] at this
            exact this
      · rintro σ' H' ⟨S', c', lv', v3, v4, rfl, F', hI', hchg, hbt', hcl, tk⟩
        have clo : c' = false → (q ∈ S.en → st.goal ∈ S.en) → ClF S st q := fun hf he => by
          refine ⟨fun _ => ⟨fun lt n hm => ?_, he⟩, fun a z => (by rw [hl0] at z; cases z), fun a b z => (by rw [hl0] at z; cases z)⟩
          have h3 := (hI.rng _ hm).2.1
          simp only [FX] at h3
          exact hcl hf lt n h3.1 (by omega) hm
        have hob' := F'.ex _ _ hs.ob
        have henl := hI'.enl
        refine ⟨_, rfl, _, rfl, _, _, _, _, _, rfl, F'.ob, T.cForwards.cl, T.cForwards.n_ends, fz_at ndForwards (i := 4) rfl rfl, n, _, rfl, DGet.k (k := iK q) F'.na, _, rfl, ?_⟩
        refine iteB (fun hqe => ?_) fun hqe => ?_
        rotate_left
        · refine k S' c' lv' bv H' F' hI' hchg (fun hf => clo hf fun z => ?_) tk
          obtain ⟨_, g⟩ := hchg.fl hf
          rw [← g] at z
          rw [(kd_mem iK_inj _ _).mpr z] at hqe
          cases hqe
        have hqm := (kd_mem iK_inj _ _).mp hqe
        refine ⟨_, rfl, _, _, _, _, _, rfl, hob', T.cStep.cl, T.cStep.n_goal, fz_at ndStep (i := 2) rfl rfl, _, rfl, _, _, _, _, _, rfl, F'.ob, T.cForwards.cl, T.cForwards.n_ends, fz_at ndForwards (i := 4) rfl rfl, n, _, rfl, DGet.k (k := iK st.goal) F'.na, _, rfl, ?_⟩
        refine iteNB (fun hge => ?_) fun hge => ?_
        · refine k S' c' lv' bv H' F' hI' hchg (fun hf => clo hf fun _ => ?_) tk
          obtain ⟨_, g⟩ := hchg.fl hf
          rw [← g]
          exact (kd_mem iK_inj _ _).mp hge
        have hgn : st.goal ∉ S'.en := fun z => by rw [(kd_mem iK_inj _ _).mpr z] at hge; cases hge
        refine ⟨_, rfl, _, _, _, _, _, rfl, F'.ob, T.cForwards.cl, T.cForwards.n_ends, fz_at ndForwards (i := 4) rfl rfl, _, rfl, _, _, _, _, _, rfl, hob', T.cStep.cl, T.cStep.n_goal, fz_at ndStep (i := 2) rfl rfl, n, _, rfl, DPut.k (k := iK st.goal) F'.na (lineLt (by rw [kd_len]; omega)), ?_⟩
        rw [kd_new iK_inj hgn]
        have npn : p ≠ n := ne_of F'.ob F'.na (by intro z; cases z)
        have nen : e ≠ n := ne_of F'.ea F'.na (by intro z; cases z)
        have nbn : b ≠ n := ne_of F'.ba F'.na (by intro z; cases z)
        have nnl : n ≠ l := ne_of F'.na F'.ld.at_ (by intro z; cases z)
        have tk1 : Tk H' (upd H' n (.dK (kd iK (S'.en ++ [st.goal])))) := Tk.wr F'.na fun _ q => nomatch q
        have hob1 : upd H' n (.dK (kd iK (S'.en ++ [st.goal]))) p = _ := (upd_ne npn).trans F'.ob
        have he1 : upd H' n (.dK (kd iK (S'.en ++ [st.goal]))) e = _ := (upd_ne nen).trans F'.ea
        have hb1 : upd H' n (.dK (kd iK (S'.en ++ [st.goal]))) b = _ := (upd_ne nbn).trans F'.ba
        have hn1 : upd H' n (.dK (kd iK (S'.en ++ [st.goal]))) n = some (.dK (kd iK (S'.en ++ [st.goal]))) := upd_same
        have ex1 : Ex H0 (upd H' n (.dK (kd iK (S'.en ++ [st.goal])))) := Ex.mut F'.ex F'.n0'
        have ld1 : DL HO.dT H0 (upd H' n (.dK (kd iK (S'.en ++ [st.goal])))) l lv' (Lof S'.ed) := F'.ld.off Off.put nnl (by rw [F'.na]; intro xs z; cases z)
        generalize upd H' n (.dK (kd iK (S'.en ++ [st.goal]))) = H1 at tk1 hob1 he1 hb1 hn1 ex1 ld1
        refine nxS ?_
        refine st_fldU (i := 6) (v := .bl true) (fun Q z => z) (fun Q z => ⟨_, rfl, z⟩) hob1 T.cForwards.cl T.cForwards.n_changed ndForwards rfl (by decide) (by show 6 < 7; decide) fun H4 o4 hp4 => ?_
        have hI4 : FI M N (S'.endp st.goal) := hI'.endp hgn ⟨hsG, by omega⟩ (.pop hst hl0 (by rw [hbt']; exact hbq) (hI'.bn q hqm))
        refine k (S'.endp st.goal) true lv' bv H4 ⟨F.p0, hp4, o4.ex ex1 F.p0, F.e0, o4 _ _ he1 (ne_of hob1 he1 (by intro z; cases z)).symm, ld1.off o4 (ne_of hob1 ld1.at_ (by intro z; cases z)) (by rw [hob1]; intro xs z; cases z), F'.sz, F.n0', o4 _ _ hn1 npn.symm, F.b0, o4 _ _ hb1 (ne_of hob1 hb1 (by intro z; cases z)).symm, F'.bk, F.nel, F.neb, F.nlb⟩ hI4 (hchg.trans (Chg.endp hI4 c')) (fun z => nomatch z) (tk.trans (tk1.trans (o4.tk (by rw [hob1]; intro xs z; cases z))))
    · have hla0 := F.ex _ _ hs.la
      refine ⟨_, rfl, _, _, _, _, _, rfl, (F.ex _ _ hs.ob), T.cStep.cl, T.cStep.n_laid, fz_at ndStep (i := 3) rfl rfl, la, _, rfl, .inr (SqT.of hla0), rfl, _, rfl, iteD (fun hl1 => ?_) fun hl1 => ?_⟩
      · obtain ⟨a, hl0⟩ : ∃ a, st.laid = [a] := List.length_eq_one_iff.mp (by rw [List.length_map] at hl1; injection hl1 with z; omega)
        rw [hl0] at hla0
        have hla1 := hla a (by rw [hl0]; exact List.mem_cons_self)
        simp only [InR, FX] at hqr
        refine ⟨_, rfl, _, _, _, rfl, F.ob, fz_no (by decide +kernel), _, rfl, _, _, _, _, _, rfl, (F.ex _ _ hs.ob), T.cStep.cl, T.cStep.n_goal, fz_at ndStep (i := 2) rfl rfl, _, rfl, _, _, _, _, _, rfl, (F.ex _ _ hs.ob), T.cStep.cl, T.cStep.n_laid, fz_at ndStep (i := 3) rfl rfl, la, _, _, _, rfl, rfl, SqT.of hla0, rfl, _, rfl, by show 3 ≤ sizeLine; decide, fun u hu => ?_⟩
        have eu := Ex.new (o := HO.tup [.int st.goal, .int a, .int q]) hu
        dsimp only [tNil]
        refine fw_put T (ed := (st.goal, a, q)) (c := c) (F.mono eu) (.inl rfl) hI hcap (isEdge upd_same) ?_ (.swap hst hl0 hbq) fun S4 ch4 c4 lv4 H4 F4 _ hcc hI4 hchg4 hmem hbt4 tk4 => ?_
        · simp only [InR, FX]
          exact ⟨⟨hsG, by omega⟩, by omega, hqr.2.2⟩
        · have hc4 := hcc rfl
          subst hc4
          refine k S4 c4 lv4 bv H4 F4 hI4 hchg4 (fun hf => ⟨fun z => (by rw [hl0] at z; cases z), fun a' z => ?_, fun a b z => by rw [hl0] at z; cases z⟩) ((Tk.of eu).trans tk4)
          rw [hl0] at z
          cases z
          rw [← (hchg4.fl hf).2]
          exact hmem
      · obtain ⟨a, b2, hl0⟩ : ∃ a b, st.laid = [a, b] := by
          rcases two_cases hl2 with z | ⟨a, z⟩ | z
          · exact (hl (by rw [z]; rfl)).elim
          · exact (hl1 (by rw [z]; rfl)).elim
          · exact z
        rw [hl0] at hla0
        have hla1 := hla a (by rw [hl0]; exact List.mem_cons_self)
        have hla2 := hla b2 (by rw [hl0]; exact List.mem_cons_of_mem _ List.mem_cons_self)
        simp only [InR, FX] at hqr
        refine ⟨_, rfl, _, _, _, rfl, F.ob, fz_no (by decide +kernel), _, rfl, _, _, _, _, _, rfl, (F.ex _ _ hs.ob), T.cStep.cl, T.cStep.n_goal, fz_at ndStep (i := 2) rfl rfl, _, rfl, _, _, _, _, _, rfl, (F.ex _ _ hs.ob), T.cStep.cl, T.cStep.n_laid, fz_at ndStep (i := 3) rfl rfl, la, _, _, _, rfl, rfl, SqT.of hla0, rfl, ?_⟩
        dsimp only [tNil]
        refine fw_nb T F hI hcb ⟨⟨hsG, hsG'⟩, hla1⟩ fun S1 r bv1 H1 F1 hI1 hbr hor tk1 => ?_
        have hbl1 : S.bt.length ≤ S1.bt.length := by
          rcases hor with rfl | ⟨rfl, _⟩
          · exact Nat.le_refl _
          · show _ ≤ (S.bt ++ [_]).length
            rw [List.length_append]; omega
        have hmu : MuF M N S1 = MuF M N S := by
          rcases hor with rfl | ⟨rfl, _⟩ <;> rfl
        have hed1 : S1.ed = S.ed := by
          rcases hor with rfl | ⟨rfl, _⟩ <;> rfl
        have hen1 : S1.en = S.en := by
          rcases hor with rfl | ⟨rfl, _⟩ <;> rfl
        have hrr : N.nd ≤ r ∧ r < N.nd + (S1.bt.length : Int) := by
          obtain ⟨i, hi, rfl⟩ := hbr
          have := (List.getElem?_eq_some_iff.mp hi).1
          omega
        have hbq1 := hI1.be _ _ _ (by rw [hed1]; exact hq : (st.state, st.letter, q) ∈ S1.ed)
        have hla3 := F1.ex _ _ hs.la
        rw [hl0] at hla3
        refine ⟨_, rfl, _, _, _, rfl, F1.ob, fz_no (by decide +kernel), _, rfl, _, _, _, _, _, rfl, (F1.ex _ _ hs.ob), T.cStep.cl, T.cStep.n_goal, fz_at ndStep (i := 2) rfl rfl, _, rfl, _, _, _, _, _, rfl, (F1.ex _ _ hs.ob), T.cStep.cl, T.cStep.n_laid, fz_at ndStep (i := 3) rfl rfl, la, _, _, _, rfl, rfl, SqT.of hla3, rfl, _, rfl, by show 3 ≤ sizeLine; decide, fun u hu => ?_⟩
        have eu := Ex.new (o := HO.tup [.int st.goal, .int a, .int r]) hu
        dsimp only [tNil]
        refine fw_put T (ed := (st.goal, a, r)) (c := c) (F1.mono eu) (.inl rfl) hI1 hcap (isEdge upd_same) ?_ (.push1 hst hl0 hbq1 hbr) fun S2 ch2 c2 lv2 H2 F2 _ hcc hI2 hchg2 hmem2 hbt2 tk2 => ?_
        · simp only [InR, FX]
          exact ⟨⟨hsG, by omega⟩, by omega, by omega⟩
        have hc2 := hcc rfl
        subst hc2
        have hchgS : Chg M N S c S2 c2 := by
          rcases hor with h | ⟨h, hr⟩
          · rw [h] at hchg2
            exact hchg2
          · refine ⟨fun hf => ?_, by rw [← hmu]; exact hchg2.le, by rw [← hmu]; exact hchg2.lt, ⟨fun x hx => hchg2.gr.ed x (by rw [hed1]; exact hx), fun x hx => hchg2.gr.en x (by rw [hen1]; exact hx)⟩⟩
            rw [(hchg2.fl hf).2, hed1] at hmem2
            have := (hI.rng _ hmem2).2.2.2
            simp only [FX] at this
            omega
        have hla4 := F2.ex _ _ hs.la
        rw [hl0] at hla4
        have hbq2 : BE M (mem N.ed) (btR N.nd S2.bt) st.state st.letter q := by rw [hbt2]; exact hbq1
        refine ⟨_, rfl, _, _, _, rfl, F2.ob, fz_no (by decide +kernel), _, rfl, _, rfl, _, _, _, _, _, rfl, (F2.ex _ _ hs.ob), T.cStep.cl, T.cStep.n_laid, fz_at ndStep (i := 3) rfl rfl, la, _, _, _, rfl, rfl, SqT.of hla4, rfl, _, rfl, by show 3 ≤ sizeLine; decide, fun u2 hu2 => ?_⟩
        have eu2 := Ex.new (o := HO.tup [.int r, .int b2, .int q]) hu2
        dsimp only [tNil]
        refine fw_put T (ed := (r, b2, q)) (c := c2) (F2.mono eu2) (.inl rfl) hI2 hcap (isEdge upd_same) ?_ (.push2 hst hl0 hbq2 (by rw [hbt2]; exact hbr)) fun S3 ch3 c3 lv3 H3 F3 _ hcc3 hI3 hchg3 hmem3 hbt3 tk3 => ?_
        · simp only [InR, FX]
          rw [hbt2]
          exact ⟨⟨by omega, by omega⟩, by omega, by omega, by omega⟩
        have hc3 := hcc3 rfl
        subst hc3
        refine k S3 c3 lv3 bv1 H3 F3 hI3 (hchgS.trans hchg3) (fun hf => ⟨fun z => (by rw [hl0] at z; cases z), fun a' z => (by rw [hl0] at z; cases z), fun a' b' z => ?_⟩) (tk1.trans ((Tk.of eu).trans (tk2.trans ((Tk.of eu2).trans tk3))))
        rw [hl0] at z
        cases z
        obtain ⟨g1, g2⟩ := hchg3.fl hf
        obtain ⟨_, g4⟩ := hchgS.fl g1
        rw [← g4]
        exact ⟨r, hmem2, by rw [← g2]; exact hmem3⟩
end
end Zp
set_option maxRecDepth 100000
set_option maxHeartbeats 0
namespace Zp
open PySem L2 Zs Evl Pr
theorem kd_old {α κ : Type} [DecidableEq α] [DecidableEq κ] {f : α → κ} (hf : ∀ a b, f a = f b → a = b) {ms : List α} {m : α} (h : m ∈ ms) : putK (kd f ms) (f m) (.bl true) = kd f ms := by rw [kd_put hf, if_pos h]
section
variable {C : Addr} {H0 H H' : Hp} {p : Addr} {S : FS} {n0 : Int} {dx m e l n b : Addr} {ch : Option Bool} {lv bv : List (List Key × V)}
theorem FwIs.setEn (F : FwIs C H0 H p S n0 dx m e l n b ch lv bv) (en : List Int) : FwIs C H0 (upd H n (.dK (kd iK en))) p { S with en := en } n0 dx m e l n b ch lv bv := by
  have npn : p ≠ n := ne_of F.ob F.na (by intro z; cases z)
  have nen : e ≠ n := ne_of F.ea F.na (by intro z; cases z)
  have nbn : b ≠ n := ne_of F.ba F.na (by intro z; cases z)
  have nnl : n ≠ l := ne_of F.na F.ld.at_ (by intro z; cases z)
  exact ⟨F.p0, (upd_ne npn).trans F.ob, Ex.mut F.ex F.n0', F.e0, (upd_ne nen).trans F.ea, F.ld.off Off.put nnl (by rw [F.na]; intro xs z; cases z), F.sz, F.n0', upd_same, F.b0, (upd_ne nbn).trans F.ba, F.bk, F.nel, F.neb, F.nlb⟩
theorem FwIs.setCh (F : FwIs C H0 H p S n0 dx m e l n b ch lv bv) {ch' : Option Bool} (o : Off p H H') (hp : H' p = some (.ins C dx (fz nsForwards ([.ref m, .int (n0 + (S.bt.length : Int)), .ref e, .ref l, .ref n, .ref b] ++ chL ch')))) : FwIs C H0 H' p S n0 dx m e l n b ch' lv bv :=
  ⟨F.p0, hp, o.ex F.ex F.p0, F.e0, o _ _ F.ea (ne_of F.ob F.ea (by intro z; cases z)).symm, F.ld.off o (ne_of F.ob F.ld.at_ (by intro z; cases z)) (by rw [F.ob]; intro xs z; cases z), F.sz, F.n0', o _ _ F.na (ne_of F.ob F.na (by intro z; cases z)).symm, F.b0, o _ _ F.ba (ne_of F.ob F.ba (by intro z; cases z)).symm, F.bk, F.nel, F.neb, F.nlb⟩
theorem q_ch {K : PySem.W.Frag} {ta tv : TE} {u : TS} {D : Ends} {σ : L2.St} (F : FwIs C H0 H p S n0 dx m e l n b ch lv bv) (c : Bool) (cl : Cls K C) (na : NoAttr K C "changed") (hv : ∀ Q : VK, Q (.bl c) H → tv σ H Q) (ho : ∀ Q : VK, Q (.ref p) H → ta σ H Q)
    (k : ∀ H1, FwIs C H0 H1 p S n0 dx m e l n b (some c) lv bv → Tk H H1 → u D σ H1) : tSeq (sFld K ta tv "changed") u D σ H := by
  cases ch with
  | none =>
    refine q_fld (v := .bl c) hv ho F.ob cl na ndForwards rfl (by decide) fun H4 o4 hp4 => ?_
    exact k H4 (F.setCh o4 hp4) (o4.tk (by rw [F.ob]; intro xs z; cases z))
  | some c' =>
    refine q_fldU (i := 6) (v := .bl c) hv ho F.ob cl na ndForwards rfl (by decide) (by show 6 < 7; decide) fun H4 o4 hp4 => ?_
    exact k H4 (F.setCh o4 hp4) (o4.tk (by rw [F.ob]; intro xs z; cases z))
end
section
variable {P : Program} {w : World} {K : PySem.W.Frag} {mg : Str → Option Value} {base : Heap}
def sp_Forwards_init (T : Txt K mg) : Sp := fun vs H Q _ => ∃ (p dx m q : Addr) (M : Mach) (N : NetD) (H0 : Hp), vs = [.ref p, .ref m, .ref q] ∧ Ex H0 H ∧ H0 p = none ∧ H p = some (.ins T.cForwards.C dx []) ∧ MachAt T.cMachine.C T.cStep.C H0 m M ∧ NetAt T.cNet.C H0 q N ∧ N.st = M.st ∧ N.lt = M.lt ∧ capE (FC M N) ≤ 1200 ∧ capB M ≤ 100 ∧ N.nd ≤ 100 ∧ N.lt ≤ 100 ∧
  ∀ (H' : Hp) (S : FS) (e l n b : Addr) c lv bv, FwIs T.cForwards.C H0 H' p S N.nd dx m e l n b (some c) lv bv → FI M N S → Fwd M (FX N S) → (∀ x ∈ N.ed, x ∈ S.ed) → (∀ x ∈ N.en, x ∈ S.en) → Q .non H'
theorem ok_Forwards_init (T : Txt K mg) : FnOk P w K mg base CX0 3 T.cForwards.init.f T.cForwards.init.fd ["self", "machine", "net"] (sp_Forwards_init T) := by
  refine T.cForwards.init.F.ok sc_Forwards_init (fun vs H Q E h => ?_) (fun cdv A outer s H vs Q E hr h => ?_)
  · obtain ⟨p, dx, m, q, M, N, H0, rfl, _⟩ := h
    rfl
  · obtain ⟨p, dx, m, q, M, N, H0, rfl, e0, hp0, hp, ⟨mdx, ma, mvs, hM⟩, ⟨ndx, na, nb, ng, nes, ngs, hn⟩, hst, hlt, hcap, hcb, hnd100, hlt100, k⟩ := h
    have hu := hu_of hr
    have hnd := sc_Forwards_init.nd
    refine ⟨_, (pss_cons (ps_fld (L2.pv 0) (L2.pv 1) rfl)
    (pss_cons (ps_fld (L2.pv 0) (pe_fldK (K := K) rfl (L2.pv 2) rfl) rfl)
    (pss_cons (ps_fld (L2.pv 0) (pe_dnewT) rfl)
    (pss_cons (ps_fld (L2.pv 0) (pe_dnewT) rfl)
    (pss_cons (ps_fld (L2.pv 0) (pe_dnewK) rfl)
    (pss_cons (ps_fld (L2.pv 0) (pe_dnewT) rfl)
    (pss_cons (ps_for PassesOwn.never rfl (pi_tup (pe_fldK (K := K) rfl (L2.pv 2) rfl)) (pg_name (i := 3) hnd rfl (by first | exact Or.inl rfl | exact Or.inr rfl))
      (pss_one (ps_expr (pe_meth (L2.pv 0) T.cForwards.cl T.cForwards.m_put (ok_Forwards_put T) (hr.mono (by decide)) T.cForwards.put.b .nil pass0 (pa_cons (L2.pv 3) pa_nil)))))
    (pss_cons (ps_for PassesOwn.never rfl (pi_tup (pe_fldK (K := K) rfl (L2.pv 2) rfl)) (pg_name (i := 4) hnd rfl (by first | exact Or.inl rfl | exact Or.inr rfl))
      (pss_one (ps_dput hu (pe_fldK (K := K) rfl (L2.pv 0) rfl) (L2.pv 4) (pe_bl) rfl)))
    (pss_cons (ps_fld (L2.pv 0) (pe_bl) rfl)
    (pss_one (ps_while PassesOwn.never (pt_val (pe_fldK (K := K) rfl (L2.pv 0) rfl)) (pss_cons (ps_fld (L2.pv 0) (pe_bl) rfl)
    (pss_one (ps_for PassesOwn.never rfl (pi_tup (pe_fldK (K := K) rfl (L2.pv 1) rfl)) (pg_name (i := 5) hnd rfl (by first | exact Or.inl rfl | exact Or.inr rfl))
      (pss_one (ps_for PassesOwn.never rfl (pi_listK (K := K) rfl (pe_callTy call_list_of (by rfl) T.b.list (by decide +kernel) (pa_cons (pe_dget2 hu (pe_fldK (K := K) rfl (L2.pv 0) rfl) (pe_tup (pa_cons (pe_fldK (K := K) rfl (L2.pv 5) rfl) (pa_cons (pe_fldK (K := K) rfl (L2.pv 5) rfl) pa_nil))) (pe_lst pa_nil) ⟨rfl, rfl, rfl, rfl⟩) pa_nil))) (pg_name (i := 6) hnd rfl (by first | exact Or.inl rfl | exact Or.inr rfl))
      (pss_one (ps_expr (pe_meth (L2.pv 0) T.cForwards.cl T.cForwards.m_go_on (ok_Forwards_go_on T) (hr.mono (by decide)) T.cForwards.go_on.b .nil pass0 (pa_cons (L2.pv 5) (pa_cons (L2.pv 6) pa_nil))))))))))))))))))))), ?_⟩
    rw [fz_nil (ns := nsForwards)] at hp
    have nqp : q ≠ p := fun z => by have := hn.ob; rw [z, hp0] at this; cases this
    refine q_fld (v := .ref m) (fun Q z => ⟨_, rfl, z⟩) (fun Q z => ⟨_, rfl, z⟩) hp T.cForwards.cl T.cForwards.n_machine ndForwards rfl (by decide) fun H1 o1 hp1 => ?_
    have hob1 := o1 _ _ (e0 _ _ hn.ob) nqp
    refine q_fld (v := .int N.nd) (fun Q z => ⟨_, rfl, _, _, _, _, _, rfl, hob1, T.cNet.cl, T.cNet.n_nodes, fz_at ndNet (i := 2) rfl rfl, z⟩) (fun Q z => ⟨_, rfl, z⟩) hp1 T.cForwards.cl T.cForwards.n_nodes ndForwards rfl (by decide) fun H2 o2 hp2 => ?_
    intro e he
    refine ⟨_, rfl, p, _, _, _, rfl, Ex.new he _ _ hp2, T.cForwards.cl, T.cForwards.n_edges, fz_len (by decide), fld_put ndForwards rfl fun H3 o3 hp3 => ?_⟩
    intro l hl
    refine ⟨_, rfl, p, _, _, _, rfl, Ex.new hl _ _ hp3, T.cForwards.cl, T.cForwards.n_leaving, fz_len (by decide), fld_put ndForwards rfl fun H4 o4 hp4 => ?_⟩
    intro n hn'
    refine ⟨_, rfl, p, _, _, _, rfl, Ex.new hn' _ _ hp4, T.cForwards.cl, T.cForwards.n_ends, fz_len (by decide), fld_put ndForwards rfl fun H5 o5 hp5 => ?_⟩
    intro b hb
    refine ⟨_, rfl, p, _, _, _, rfl, Ex.new hb _ _ hp5, T.cForwards.cl, T.cForwards.n_between, fz_len (by decide), fld_put ndForwards rfl fun H6 o6 hp6 => ?_⟩
    have nep : e ≠ p := (ne_of_none hp2 he).symm
    have nlp : l ≠ p := (ne_of_none hp3 hl).symm
    have nnp : n ≠ p := (ne_of_none hp4 hn').symm
    have nbp : b ≠ p := (ne_of_none hp5 hb).symm
    have o02 : Off p H H2 := o1.trans o2
    have o23 : Off p H2 H3 := (Off.of (Ex.new he)).trans o3
    have o34 : Off p H3 H4 := (Off.of (Ex.new hl)).trans o4
    have o45 : Off p H4 H5 := (Off.of (Ex.new hn')).trans o5
    have o56 : Off p H5 H6 := (Off.of (Ex.new hb)).trans o6
    have ex2 : Ex H0 H2 := o02.ex e0 hp0
    have ex3 : Ex H0 H3 := o23.ex ex2 hp0
    have ex4 : Ex H0 H4 := o34.ex ex3 hp0
    have ex5 : Ex H0 H5 := o45.ex ex4 hp0
    have ex6 : Ex H0 H6 := o56.ex ex5 hp0
    have he3 : H3 e = some (.dT []) := o3 _ _ upd_same nep
    have hl4 : H4 l = some (.dT []) := o4 _ _ upd_same nlp
    have hn5 : H5 n = some (.dK []) := o5 _ _ upd_same nnp
    have hb6 : H6 b = some (.dT []) := o6 _ _ upd_same nbp
    have he4 := o34 _ _ he3 nep
    have he5 := o45 _ _ he4 nep
    have he6 := o56 _ _ he5 nep
    have hl5 := o45 _ _ hl4 nlp
    have hl6 := o56 _ _ hl5 nlp
    have hn6 := o56 _ _ hn5 nnp
    have F6 : FwIs T.cForwards.C H0 H6 p ⟨[], [], []⟩ N.nd dx m e l n b none [] [] := by
      refine ⟨hp0, ?_, ex6, fresh_back ex2 he, he6, DL.empty hl6 (fresh_back ex3 hl), Nat.le_refl _, fresh_back ex4 hn', hn6, fresh_back ex5 hb, hb6, BtV.nil, ne_of_none he3 hl, ne_of_none he5 hb, ne_of_none hl5 hb⟩
      rw [hp6]
      show _ = some (HO.ins T.cForwards.C dx (fz nsForwards ([.ref m, .int (N.nd + (0 : Int)), .ref e, .ref l, .ref n, .ref b] ++ chL none)))
      rw [Int.add_zero]
      rfl
    have hNok := hn.ok
    have hlen := hn.el.len
    rw [List.length_map] at hlen
    -- for edge in net.edges
    refine ⟨_, rfl, _, _, _, _, _, rfl, (ex6 _ _ hn.ob), T.cNet.cl, T.cNet.n_edges, fz_at ndNet (i := 3) rfl rfl, na, rfl, ⟨_, SqT.of (ex6 _ _ hn.ea)⟩, for_tup (K := K) (a := na) (xs := nes)
      (fun i σ' H' => ∃ (S : FS) (ch : Option Bool) (c : Bool) (lv : List (List Key × V)) (v3 : Option V), σ' = [some (.ref p), some (.ref m), some (.ref q), v3, none, none, none] ∧ FwIs T.cForwards.C H0 H' p S N.nd dx m e l n b ch lv [] ∧ (ch = some c ∨ (ch = none ∧ c = true)) ∧ FI M N S ∧ ∀ x ∈ N.ed.take i, x ∈ S.ed) ?_ ?_ ?_ ?_⟩
    · exact ⟨_, none, true, [], none, rfl, F6, .inr ⟨rfl, rfl⟩, FI.base hNok, fun x h => by simp at h⟩
    · rintro i σ' H' _ ⟨_, _, _, _, _, rfl, F, _⟩
      exact SqT.of (F.ex _ _ hn.ea)
    · rintro i x σ' H' hx ⟨S, ch, c, lv, v3, rfl, F, hch, hI, hall⟩
      obtain ⟨d0, hd0, hx0⟩ := (hn.el.mono (Tk.of F.ex)).get hx
      obtain ⟨ed, hed, rfl⟩ := tup_get hd0
      have hedm := List.mem_of_getElem? hed
      have hr := hNok.ed _ hedm
      refine ⟨_, rfl, _, _, _, rfl, F.ob, fz_no (by decide +kernel), _, rfl, ?_⟩
      dsimp only [tNil]
      refine fw_put T (ed := ed) (c := c) F hch hI hcap hx0 ?_ (.base hedm) fun S4 ch4 c4 lv4 H4 F4 hc4 _ hI4 hchg4 hmem hbt4 tk4 => ?_
      · obtain ⟨z1, z2, z3⟩ := hr
        exact ⟨⟨z1.1, by simp only [FX]; omega⟩, z2, z3.1, by simp only [FX]; omega⟩
      · refine ⟨S4, ch4, c4, lv4, _, rfl, F4, hc4, hI4, fun y hy => ?_⟩
        rw [List.take_add_one, hed] at hy
        rcases List.mem_append.mp hy with z | z
        · exact hchg4.gr.ed y (hall y z)
        · rw [List.mem_singleton.mp z]; exact hmem
    · rintro σ' H' ⟨S, ch, c, lv, v3, rfl, F, hch, hI, hall⟩
      rw [hlen, List.take_length] at hall
      -- for node in net.ends
      refine ⟨_, rfl, _, _, _, _, _, rfl, (F.ex _ _ hn.ob), T.cNet.cl, T.cNet.n_ends, fz_at ndNet (i := 4) rfl rfl, nb, rfl, ⟨_, SqT.of (F.ex _ _ hn.nb)⟩, for_tup (K := K) (a := nb) (xs := N.en.map V.int)
        (fun i σ' H' => ∃ (S : FS) (ch : Option Bool) (lv : List (List Key × V)) (v4 : Option V), σ' = [some (.ref p), some (.ref m), some (.ref q), v3, v4, none, none] ∧ FwIs T.cForwards.C H0 H' p S N.nd dx m e l n b ch lv [] ∧ FI M N S ∧ (∀ x ∈ N.ed, x ∈ S.ed) ∧ ∀ x ∈ N.en.take i, x ∈ S.en) ?_ ?_ ?_ ?_⟩
      · exact ⟨S, ch, lv, none, rfl, F, hI, hall, fun x h => by simp at h⟩
      · rintro i σ' H' _ ⟨_, _, _, _, rfl, F, _⟩
        exact SqT.of (F.ex _ _ hn.nb)
      · rintro i x σ' H' hx ⟨S, ch, lv, v4, rfl, F, hI, hall, hen⟩
        obtain ⟨nd', hnd', rfl⟩ := ints_get hx
        have hndm := List.mem_of_getElem? hnd'
        have henl := hI.enl
        refine ⟨_, rfl, _, _, _, _, _, rfl, F.ob, T.cForwards.cl, T.cForwards.n_ends, fz_at ndForwards (i := 4) rfl rfl, _, rfl, n, _, rfl, DPut.k (k := iK nd') F.na (lineLt (by rw [kd_len]; omega)), ?_⟩
        have htk : ∀ en' : List Int, (∀ y ∈ S.en, y ∈ en') → nd' ∈ en' → ∀ y ∈ N.en.take (i + 1), y ∈ en' := fun en' z1 z2 y hy => by
          rw [List.take_add_one, hnd'] at hy
          rcases List.mem_append.mp hy with z | z
          · exact z1 y (hen y z)
          · rw [List.mem_singleton.mp z]; exact z2
        by_cases hm : nd' ∈ S.en
        · rw [kd_old iK_inj hm]
          exact ⟨S, ch, lv, _, rfl, F.setEn S.en, hI, hall, htk S.en (fun y z => z) hm⟩
        · rw [kd_new iK_inj hm]
          have hI' := hI.endp hm (hNok.en _ hndm) (.base hndm)
          exact ⟨S.endp nd', ch, lv, _, rfl, F.setEn _, hI', hall, htk _ (fun y z => List.mem_append.mpr (.inl z)) (List.mem_append.mpr (.inr List.mem_cons_self))⟩
      · rintro σ' H' ⟨S, ch, lv, v4, rfl, F, hI, hall, hen⟩
        rw [List.length_map, List.take_length] at hen
        (try dsimp only [gName, tNext])
        refine q_ch F true T.cForwards.cl T.cForwards.n_changed (fun Q z => z) (fun Q z => ⟨_, rfl, z⟩) fun H7 F7 _ => ?_
        refine ⟨fun mm σ' H' => ∃ (c : Bool) (S : FS) (lv bv : List (List Key × V)) (v5 v6 : Option V), mm = (if c = true then MuF M N S + 1 else 0) ∧ σ' = [some (.ref p), some (.ref m), some (.ref q), v3, v4, v5, v6] ∧ FwIs T.cForwards.C H0 H' p S N.nd dx m e l n b (some c) lv bv ∧ FI M N S ∧ (∀ x ∈ N.ed, x ∈ S.ed) ∧ (∀ x ∈ N.en, x ∈ S.en) ∧ (c = false → ∀ s ∈ M.steps, ∀ z, (s.state, s.letter, z) ∈ S.ed → ClF S s z),
          ⟨_, true, S, lv, [], none, none, rfl, rfl, F7, hI, hall, hen, fun z => nomatch z⟩, ?_⟩
        rintro mm σ' H' ⟨c, S, lv, bv, v5, v6, rfl, rfl, F, hI, hall, hen, hcl⟩
        refine ⟨_, rfl, _, _, _, _, _, rfl, F.ob, T.cForwards.cl, T.cForwards.n_changed, fz_at ndForwards (i := 6) rfl rfl, c, rfl, ?_⟩
        cases c with
        | false =>
          rw [if_neg (by decide)]
          exact k H' S e l n b false lv bv F hI (fwd_of (hcl rfl)) hall hen
        | true =>
          rw [if_pos rfl]
          refine ⟨fun σ' H' => ∃ m', m' < MuF M N S + 1 ∧ ∃ (c : Bool) (S : FS) (lv bv : List (List Key × V)) (v5 v6 : Option V), m' = (if c = true then MuF M N S + 1 else 0) ∧ σ' = [some (.ref p), some (.ref m), some (.ref q), v3, v4, v5, v6] ∧ FwIs T.cForwards.C H0 H' p S N.nd dx m e l n b (some c) lv bv ∧ FI M N S ∧ (∀ x ∈ N.ed, x ∈ S.ed) ∧ (∀ x ∈ N.en, x ∈ S.en) ∧ (c = false → ∀ s ∈ M.steps, ∀ z, (s.state, s.letter, z) ∈ S.ed → ClF S s z), fun σ' H' h => h, ?_⟩
          refine q_ch F false T.cForwards.cl T.cForwards.n_changed (fun Q z => z) (fun Q z => ⟨_, rfl, z⟩) fun H8 F8 _ => ?_
          have hmlen := hM.len
          refine ⟨_, rfl, _, _, _, _, _, rfl, (F8.ex _ _ hM.ob), T.cMachine.cl, T.cMachine.n_steps, fz_at ndMachine (i := 2) rfl rfl, ma, rfl, ⟨_, SqT.of (F8.ex _ _ hM.sa)⟩, for_tup (K := K) (a := ma) (xs := mvs)
            (fun i σ2 H2 => ∃ (c2 : Bool) (S2 : FS) (lv2 bv2 : List (List Key × V)) (v5 v6 : Option V), σ2 = [some (.ref p), some (.ref m), some (.ref q), v3, v4, v5, v6] ∧ FwIs T.cForwards.C H0 H2 p S2 N.nd dx m e l n b (some c2) lv2 bv2 ∧ FI M N S2 ∧ Chg M N S false S2 c2 ∧ (c2 = false → ∀ j < i, ∀ s, M.steps[j]? = some s → ∀ z, (s.state, s.letter, z) ∈ S.ed → ClF S s z)) ?_ ?_ ?_ ?_⟩
          · exact ⟨false, S, lv, bv, v5, v6, rfl, F8, hI, Chg.refl S false, fun _ j h => absurd h (by omega)⟩
          · rintro i σ2 H2 _ ⟨_, _, _, _, _, _, rfl, F2, _⟩
            exact SqT.of (F2.ex _ _ hM.sa)
          · rintro i x σ2 H2 hx ⟨c2, S2, lv2, bv2, v5, v6, rfl, F2, hI2, hchg2, hcl2⟩
            obtain ⟨st, hst', hsa⟩ := hM.get hx
            obtain ⟨sp, sdx, la, rfl, hs⟩ := id hsa
            have hob2 := F2.ex _ _ hs.ob
            have hstm := List.mem_of_getElem? hst'
            obtain ⟨xs, hxs, hxm, hxl⟩ := Lof_ints S2.ed st.state st.letter
            (try dsimp only [gName, tNext])
            refine for_evC (ev_getTL (k := pK st.state st.letter) F2.ld.at_ F2.ld.dr (fun Q z => ⟨_, rfl, _, _, _, _, _, rfl, F2.ob, T.cForwards.cl, T.cForwards.n_leaving, fz_at ndForwards (i := 3) rfl rfl, z⟩) (fun Q z => ⟨_, rfl, _, _, _, _, _, rfl, hob2, T.cStep.cl, T.cStep.n_state, fz_at ndStep (i := 0) rfl rfl, _, rfl, _, _, _, _, _, rfl, hob2, T.cStep.cl, T.cStep.n_letter, fz_at ndStep (i := 1) rfl rfl, by show 2 ≤ sizeLine; decide, z⟩) _ fun a H3 e3 ha _ => ?_)
            rw [hxs] at ha
            refine ⟨a, _, rfl, .inl (SqL.of ha), fun r hr => ?_⟩
            have er := Ex.new (o := HO.lst (xs.map V.int)) hr
            have e4 := e3.trans er
            have Fb := F2.gr e4
            have hrb : gr H0 H2 (upd H3 r (.lst (xs.map V.int))) r = some (.lst (xs.map V.int)) := gr_new (fresh_back e3 hr) upd_same
            have h0b : Ex H0 (gr H0 H2 (upd H3 r (.lst (xs.map V.int)))) := gr_old F2.ex
            generalize gr H0 H2 (upd H3 r (.lst (xs.map V.int))) = Hb at Fb hrb h0b
            generalize upd H3 r (.lst (xs.map V.int)) = H4 at e4 Fb
            refine ⟨r, rfl, ⟨_, SqL.of (Fb.ex _ _ hrb)⟩, for_list (K := K) (a := r) (xs := xs.map V.int)
              (fun j σ3 H5 => ∃ (c3 : Bool) (S3 : FS) (lv3 bv3 : List (List Key × V)) (v6 : Option V), σ3 = [some (.ref p), some (.ref m), some (.ref q), v3, v4, some (.ref sp), v6] ∧ FwIs T.cForwards.C Hb H5 p S3 N.nd dx m e l n b (some c3) lv3 bv3 ∧ FI M N S3 ∧ Chg M N S2 c2 S3 c3 ∧ (c3 = false → ∀ z ∈ xs.take j, ClF S2 st z)) ?_ ?_ ?_ ?_⟩
            · exact ⟨c2, S2, lv2, bv2, v6, rfl, Fb, hI2, Chg.refl _ _, fun _ z h => by simp at h⟩
            · rintro j σ3 H5 _ ⟨_, _, _, _, _, rfl, F3, _⟩
              exact SqL.of (F3.ex _ _ hrb)
            · rintro j y σ3 H5 hy ⟨c3, S3, lv3, bv3, v6, rfl, F3, hI3, hchg3, hcl3⟩
              obtain ⟨z, hz, rfl⟩ := ints_get hy
              have hzm : (st.state, st.letter, z) ∈ S2.ed := (hxm z).mp (List.mem_of_getElem? hz)
              refine ⟨_, rfl, _, _, _, rfl, F3.ob, fz_no (by decide +kernel), _, rfl, _, rfl, p, .ref sp, z, M, N, st, Hb, S3, dx, m, e, l, n, b, c3, lv3, bv3, rfl, F3, ⟨mdx, ma, mvs, hM.mono h0b⟩, hsa.mono h0b, hstm, hNok, hst, hlt, hI3, hchg3.gr.ed _ hzm, hcap, hcb, hnd100, hlt100, fun S4 c4 lv4 bv4 H6 F4 hI4 hchg4 hcl4 tk4 => ?_⟩
              refine ⟨c4, S4, lv4, bv4, _, rfl, F4, hI4, hchg3.trans hchg4, fun hf w' hw' => ?_⟩
              obtain ⟨g1, g2⟩ := hchg4.fl hf
              obtain ⟨g3, g4⟩ := hchg3.fl g1
              rw [List.take_add_one, hz] at hw'
              rcases List.mem_append.mp hw' with y | y
              · exact hcl3 g1 w' y
              · rw [List.mem_singleton.mp y, ← g4]; exact hcl4 hf
            · rintro σ3 H5 ⟨c3, S3, lv3, bv3, v6, rfl, F3, hI3, hchg3, hcl3⟩
              rw [List.length_map, List.take_length] at hcl3
              refine ⟨c3, S3, lv3, bv3, _, _, rfl, F3.down h0b, hI3, hchg2.trans hchg3, fun hf j hj s' hs' z hz => ?_⟩
              obtain ⟨g1, g2⟩ := hchg3.fl hf
              obtain ⟨g3, g4⟩ := hchg2.fl g1
              by_cases hji : j < i
              · exact hcl2 g1 j hji s' hs' z hz
              · obtain rfl : j = i := by omega
                rw [hst'] at hs'
                cases hs'
                rw [← g4]
                exact hcl3 hf z ((hxm z).mpr (by rw [g4]; exact hz))
          · rintro σ2 H2 ⟨c2, S2, lv2, bv2, v5, v6, rfl, F2, hI2, hchg2, hcl2⟩
            refine ⟨if c2 = true then MuF M N S2 + 1 else 0, ?_, c2, S2, lv2, bv2, v5, v6, rfl, rfl, F2, hI2, fun x hx => hchg2.gr.ed x (hall x hx), fun x hx => hchg2.gr.en x (hen x hx), fun hf s hs z hz => ?_⟩
            · cases c2 with
              | true =>
                rw [if_pos rfl]
                have := (hchg2.lt rfl).resolve_left (by decide)
                omega
              | false => rw [if_neg (by decide)]; omega
            · obtain ⟨_, g⟩ := hchg2.fl hf
              subst g
              obtain ⟨j, hj⟩ := List.getElem?_of_mem hs
              have := (List.getElem?_eq_some_iff.mp hj).1
              exact hcl2 hf j (by omega) s hj z hz
end
end Zp
set_option maxRecDepth 100000
set_option maxHeartbeats 0
namespace Zp
open PySem L2 Zs Evl Pr
theorem fwd_congr {M : Mach} {N N' : NetD} (h1 : ∀ e, e ∈ N'.ed ↔ e ∈ N.ed) (h2 : ∀ e, e ∈ N'.en ↔ e ∈ N.en) (h : Fwd M N) : Fwd M N' := fun s hs q hq => by
  obtain ⟨f0, f1, f2⟩ := h s hs q ((h1 _).mp hq)
  refine ⟨fun z => ⟨fun l n hm => (h1 _).mpr ((f0 z).1 l n ((h1 _).mp hm)), fun hm => (h2 _).mpr ((f0 z).2 ((h2 _).mp hm))⟩, fun a z => (h1 _).mpr (f1 a z), fun a b z => ?_⟩
  obtain ⟨r, g1, g2⟩ := f2 a b z
  exact ⟨r, (h1 _).mpr g1, (h1 _).mpr g2⟩
theorem acc_congr {N N' : NetD} (h1 : ∀ e, e ∈ N'.ed ↔ e ∈ N.ed) (h2 : ∀ e, e ∈ N'.en ↔ e ∈ N.en) {c : Conf} (h : Acc N' c) : Acc N c := by
  obtain ⟨e, he, hp⟩ := h
  exact ⟨e, (h2 e).mp he, hp.mono fun _ _ _ z => (h1 _).mp z⟩
section
variable {P : Program} {w : World} {K : PySem.W.Frag} {mg : Str → Option Value} {base : Heap}
theorem make_forwards (T : Txt K mg) {H : Hp} {R : Addr → Hp → Prop} {E : XK} {m q : Addr} {M : Mach} {N : NetD} (hM : MachAt T.cMachine.C T.cStep.C H m M) (hN : NetAt T.cNet.C H q N) (h1 : N.st = M.st) (h2 : N.lt = M.lt) (h3 : capE (FC M N) ≤ 1200) (h4 : capB M ≤ 100) (h5 : N.nd ≤ 100) (h6 : N.lt ≤ 100)
    (k : ∀ (x dx : Addr) (H' : Hp) (S : FS) (e l n b : Addr) c lv bv, FwIs T.cForwards.C H H' x S N.nd dx m e l n b (some c) lv bv → FI M N S → Fwd M (FX N S) → (∀ x ∈ N.ed, x ∈ S.ed) → (∀ x ∈ N.en, x ∈ S.en) → R x H') :
    ∀ x dx, H x = none → H dx = none → dx ≠ x → sp_Forwards_init T (.ref x :: ([.ref m, .ref q] ++ [])) (upd (upd H dx (.own x)) x (.ins T.cForwards.C dx [])) (fun v H2 => v = .non ∧ R x H2) E := by
  intro x dx hx hdx hne
  exact ⟨x, dx, m, q, M, N, H, rfl, ex_made hx hdx, hx, upd_same, hM, hN, h1, h2, h3, h4, h5, h6, fun H' S e l n b c lv bv a1 a2 a3 a4 a5 => ⟨rfl, k x dx H' S e l n b c lv bv a1 a2 a3 a4 a5⟩⟩
def sp_behind (T : Txt K mg) : Sp := fun vs H Q _ => ∃ (m q : Addr) (M : Mach) (N : NetD), vs = [.ref m, .ref q] ∧ MachAt T.cMachine.C T.cStep.C H m M ∧ NetAt T.cNet.C H q N ∧ N.st = M.st ∧ N.lt = M.lt ∧ (∀ e ∈ N.ed, N.st ≤ e.2.2) ∧ capE (FC M N) ≤ 1200 ∧ capB M ≤ 100 ∧ N.nd ≤ 100 ∧ N.lt ≤ 100 ∧
  ∀ (x : Addr) (B : NetD) H', Ex H H' → NetAt T.cNet.C H' x B → B.st = N.st → B.lt = N.lt → N.nd ≤ B.nd → Fwd M B → Ext N B → (∀ c : Conf, (0 ≤ c.1 ∧ c.1 < M.st) → Acc B c → Reach M N c) → B.ed.length ≤ 1200 → B.en.length ≤ 100 → Q (.ref x) H'
theorem ok_behind (T : Txt K mg) : FnOk P w K mg base CX0 5 T.f.behind.f T.f.behind.fd ["machine", "net"] (sp_behind T) := by
  refine T.f.behind.F.ok sc_behind (fun vs H Q E h => ?_) (fun cdv A outer s H vs Q E hr h => ?_)
  · obtain ⟨m, q, M, N, rfl, _⟩ := h
    rfl
  · obtain ⟨m, q, M, N, rfl, hM, hN, h1, h2, h4, h5, h6, h7, h8, k⟩ := h
    have hu := hu_of hr
    have hnd := sc_behind.nd
    refine ⟨_, (pss_cons (ps_expr (pe_call (ok_need_fit T) (hr.mono (by decide)) (by rfl) T.f.g_need_fit T.f.need_fit.F.kp T.f.need_fit.b .nil pass0 (pa_cons (L2.pv 0) (pa_cons (L2.pv 1) pa_nil))))
    (pss_cons (ps_set (i := 2) hnd rfl (by first | exact Or.inl rfl | exact Or.inr rfl) (pe_make T.cForwards.made (ok_Forwards_init T) (hr.mono (by decide)) (by rfl) T.cForwards.mg T.cForwards.init.b .nil pass0 (pa_cons (L2.pv 0) (pa_cons (L2.pv 1) pa_nil))))
    (pss_one (ps_ret (pe_make T.cNet.made (ok_Net_init T) (hr.mono (by decide)) (by rfl) T.cNet.mg T.cNet.init.b .nil pass0 (pa_cons (pe_fldK (K := K) rfl (L2.pv 1) rfl) (pa_cons (pe_fldK (K := K) rfl (L2.pv 1) rfl) (pa_cons (pe_fldK (K := K) rfl (L2.pv 2) rfl) (pa_cons (pe_callTy (call_list_dT rfl) (by rfl) T.b.list (by decide +kernel) (pa_cons (pe_fldK (K := K) rfl (L2.pv 2) rfl) pa_nil)) (pa_cons (pe_callTy (call_list_dK rfl) (by rfl) T.b.list (by decide +kernel) (pa_cons (pe_fldK (K := K) rfl (L2.pv 2) rfl) pa_nil)) pa_nil)))))))))), ?_⟩
    refine ⟨_, rfl, _, rfl, m, q, M, N, rfl, hM, hN, h1, h2, h4, fun v0 H1 e1 => ?_⟩
    refine ⟨_, rfl, _, rfl, ?_⟩
    refine make_forwards T (hM.mono e1) (hN.mono e1) h1 h2 h5 h6 h7 h8 fun x ndx H2 S e l n b c lv bv F hI hF ha hb => ?_
    obtain ⟨dx, na, nb, g, es, gs, hn⟩ := id (hN.mono (e1.trans F.ex))
    refine ⟨_, rfl, _, _, _, _, _, rfl, hn.ob, T.cNet.cl, T.cNet.n_states, fz_at ndNet (i := 0) rfl rfl, _, rfl, _, _, _, _, _, rfl, hn.ob, T.cNet.cl, T.cNet.n_letters, fz_at ndNet (i := 1) rfl rfl, _, rfl, _, _, _, _, _, rfl, F.ob, T.cForwards.cl, T.cForwards.n_nodes, fz_at ndForwards (i := 1) rfl rfl, ?_⟩
    refine ⟨_, rfl, _, _, _, _, _, rfl, F.ob, T.cForwards.cl, T.cForwards.n_edges, fz_at ndForwards (i := 2) rfl rfl, e, _, rfl, .inl F.ea, fun pl bs hpl hbs => ?_⟩
    have epl := Ex.new (o := HO.lst (bs.map V.ref)) hpl
    have F1 := F.mono epl
    have hes := (isL_keys (ks := S.ed) hbs (by unfold kd; rw [List.map_map]; rfl)).mono (Tk.of epl)
    have hpl1 : upd H2 pl (.lst (bs.map V.ref)) pl = some (.lst (bs.map V.ref)) := upd_same
    generalize upd H2 pl (.lst (bs.map V.ref)) = H3 at epl F1 hes hpl1
    refine ⟨_, rfl, _, _, _, _, _, rfl, F1.ob, T.cForwards.cl, T.cForwards.n_ends, fz_at ndForwards (i := 4) rfl rfl, n, _, rfl, F1.na, fun pe hpe => ?_⟩
    have epe := Ex.new (o := HO.lst ((kd iK S.en).map fun kv => kV kv.1)) hpe
    have hpe1 : upd H3 pe (.lst ((kd iK S.en).map fun kv => kV kv.1)) pe = some (.lst (S.en.map V.int)) := by
      rw [upd_same]
      unfold kd
      rw [List.map_map]
      rfl
    have hel := hI.edl
    have hMok : MOk M := by obtain ⟨_, _, _, h⟩ := hM; exact h.ok
    have henl := hI.enl
    refine make_net T (N := FX N S) (.inl (epe _ _ hpl1)) (hes.mono (Tk.of epe)) (.inl hpe1) (hI.ok hn.ok) (by show S.ed.length < 4000; omega) (by show S.en.length < 4000; omega)
      fun y B H4 e4 _ hB c1 c2 c3 c4 c5 c6 c7 => k y B H4 ((e1.trans F.ex).trans (epl.trans (epe.trans e4))) hB c1 c2 (by rw [c3]; simp only [FX]; omega) (fwd_congr c4 c5 hF) ⟨fun z hz => (c4 z).mpr (ha z hz), fun z hz => (c5 z).mpr (hb z hz)⟩ (fun c' hc hacc => hI.reach hMok hn.ok h1 h4 hc (acc_congr c4 c5 hacc)) (Nat.le_trans c6 (Nat.le_trans hel h5)) (Nat.le_trans c7 (Nat.le_trans henl (by omega)))
end
end Zp
/-! What came answers. -/
namespace Pr
theorem nf_sem {M : Mach} {N : NetD} (hM : MOk M) (hp : ∀ n a m, (n, a, m) ∈ N.ed → M.st ≤ m) {ks : List Edge} {ix : Edge → Option Nat} {ps : Edge → List Edge} {tm : Edge → Nat} (I : NF M N ks ix ps tm) {n e : Int} {u : List Int} (h : Path (mem ks) n u e) : ∃ d : Conf, Run M (n, u) d ∧ Path (mem N.ed) d.1 d.2 e :=
  path_run hM hp (h.mono fun a b c z => I.der hM _ (a, b, c) (Nat.lt_succ_self _) z)
theorem nf_of {M : Mach} {N : NetD} {ks : List Edge} {ix : Edge → Option Nat} {ps : Edge → List Edge} {tm : Edge → Nat} (I : NF M N ks ix ps tm) {x d : Conf} {e : Int} (r : Run M x d) (h : Path (mem N.ed) d.1 d.2 e) : Path (mem ks) x.1 x.2 e :=
  closed_run I.cl r (h.mono fun _ _ _ z => I.all _ z)
theorem nf_move {M : Mach} {N : NetD} (hM : MOk M) (hp : ∀ n a m, (n, a, m) ∈ N.ed → M.st ≤ m) {ks ks' : List Edge} {ix ix' : Edge → Option Nat} {ps ps' : Edge → List Edge} {tm tm' : Edge → Nat} (I : NF M N ks ix ps tm) (I' : NF M N ks' ix' ps' tm') {n e : Int} {u : List Int} (h : Path (mem ks) n u e) : Path (mem ks') n u e := by
  obtain ⟨d, r, p⟩ := nf_sem hM hp I h
  exact nf_of I' r p
end Pr
set_option maxRecDepth 100000
set_option maxHeartbeats 0
namespace Zp
open PySem L2 Zs Evl Pr
theorem capE_le {N : NetD} {a b : Nat} (h1 : N.nd ≤ (a : Int)) (h2 : N.lt ≤ (b : Int)) : capE N ≤ a * b * a := by
  unfold capE
  exact Nat.mul_le_mul (Nat.mul_le_mul (by omega) (by omega)) (by omega)
theorem capB_le {M : Mach} {a b : Nat} (h1 : M.st ≤ (a : Int)) (h2 : M.lt ≤ (b : Int)) : capB M ≤ a * b := by
  unfold capB
  exact Nat.mul_le_mul (by omega) (by omega)
section
variable {P : Program} {w : World} {K : PySem.W.Frag} {mg : Str → Option Value} {base : Heap}
def sp_came (T : Txt K mg) : Sp := fun vs H Q _ => ∃ (m q : Addr) (v : V) (M : Mach) (N : NetD) (c : Conf), vs = [.ref m, .ref q, v] ∧ MachAt T.cMachine.C T.cStep.C H m M ∧ NetAt T.cNet.C H q N ∧ Is H v (cD c) ∧ N.st = M.st ∧ N.lt = M.lt ∧ (∀ e ∈ N.ed, N.st ≤ e.2.2) ∧ (0 ≤ c.1 ∧ c.1 < M.st) ∧ (∀ l ∈ c.2, 0 ≤ l ∧ l < M.lt) ∧ c.2.length ≤ 4 ∧ M.st ≤ 4 ∧ M.lt ≤ 3 ∧ N.nd ≤ 7 ∧ N.ed.length ≤ 8 ∧ N.en.length ≤ 10 ∧
  ∀ v' (b : Bool) (pp : Paper) H', Ex H H' → Is H' v' (.t [.b b, paperD pp]) → TakesD M N c b pp → PaperFit M N pp → Q v' H'
theorem ok_came (T : Txt K mg) : FnOk P w K mg base CX0 6 T.f.came.f T.f.came.fd ["machine", "net", "configuration"] (sp_came T) := by
  refine T.f.came.F.ok sc_came (fun vs H Q E h => ?_) (fun cdv A outer s H vs Q E hr h => ?_)
  · obtain ⟨m, q, v, M, N, c, rfl, _⟩ := h
    rfl
  · obtain ⟨m, q, v, M, N, c, rfl, hM, hN, hv, h1, h2, h4, hc1, hc2, hc3, hMst, hMlt, hNnd, hNed, hNen, k⟩ := h
    obtain ⟨mdx, ma, mvs, hMi⟩ := id hM
    have hMok := hMi.ok
    have hu := hu_of hr
    have hnd := sc_came.nd
    refine ⟨_, (pss_cons (ps_expr (pe_call (ok_need_fit T) (hr.mono (by decide)) (by rfl) T.f.g_need_fit T.f.need_fit.F.kp T.f.need_fit.b .nil pass0 (pa_cons (L2.pv 0) (pa_cons (L2.pv 1) pa_nil))))
    (pss_cons (ps_set (i := 3) hnd rfl (by first | exact Or.inl rfl | exact Or.inr rfl) (pe_call (ok_single T) (hr.mono (by decide)) (by rfl) T.f.g_single T.f.single.F.kp T.f.single.b .nil pass0 (pa_cons (pe_fldK (K := K) rfl (L2.pv 0) rfl) (pa_cons (pe_fldK (K := K) rfl (L2.pv 0) rfl) (pa_cons (L2.pv 2) pa_nil)))))
    (pss_cons (ps_set (i := 4) hnd rfl (by first | exact Or.inl rfl | exact Or.inr rfl) (pe_call (ok_first T) (hr.mono (by decide)) (by rfl) T.f.g_first T.f.first.F.kp T.f.first.b .nil pass0 (pa_cons (pe_call (ok_both T) (hr.mono (by decide)) (by rfl) T.f.g_both T.f.both.F.kp T.f.both.b .nil pass0 (pa_cons (L2.pv 1) (pa_cons (pe_call (ok_ahead T) (hr.mono (by decide)) (by rfl) T.f.g_ahead T.f.ahead.F.kp T.f.ahead.b .nil pass0 (pa_cons (L2.pv 0) (pa_cons (L2.pv 3) pa_nil))) pa_nil))) pa_nil)))
    (pss_cons (ps_if (pt_cmpR op_isN (L2.pv 4) (pe_non) (nomark _)) (pss_cons (ps_set (i := 5) hnd rfl (by first | exact Or.inl rfl | exact Or.inr rfl) (pe_call (ok_behind T) (hr.mono (by decide)) (by rfl) T.f.g_behind T.f.behind.F.kp T.f.behind.b .nil pass0 (pa_cons (L2.pv 0) (pa_cons (L2.pv 1) pa_nil))))
    (pss_one (ps_ret (pe_tup (pa_cons (pe_bl) (pa_cons (pe_tup (pa_cons (pe_str) (pa_cons (pe_fldK (K := K) rfl (L2.pv 5) rfl) (pa_cons (pe_fldK (K := K) rfl (L2.pv 5) rfl) (pa_cons (pe_fldK (K := K) rfl (L2.pv 5) rfl) pa_nil))))) pa_nil)))))) pss_nil)
    (pss_cons (ps_asg (pe_ix (ix_tupK (K := K) rfl) (pe_call (ok_least T) (hr.mono (by decide)) (by rfl) T.f.g_least T.f.least.F.kp T.f.least.b .nil pass0 (pa_cons (L2.pv 0) (pa_cons (L2.pv 3) (pa_cons (L2.pv 4) pa_nil)))) (pe_int) (fun _ _ => rfl)) (pg_tup rfl (pgs_cons (pg_name (i := 6) hnd rfl (by first | exact Or.inl rfl | exact Or.inr rfl)) (pgs_cons (pg_name (i := 7) hnd rfl (by first | exact Or.inl rfl | exact Or.inr rfl)) (pgs_cons (pg_name (i := 8) hnd rfl (by first | exact Or.inl rfl | exact Or.inr rfl)) (pgs_cons (pg_name (i := 6) hnd rfl (by first | exact Or.inl rfl | exact Or.inr rfl)) pgs_nil))))))
    (pss_one (ps_ret (pe_tup (pa_cons (pe_bl) (pa_cons (pe_tup (pa_cons (pe_str) (pa_cons (L2.pv 4) (pa_cons (L2.pv 7) (pa_cons (L2.pv 8) pa_nil))))) pa_nil)))))))))), ?_⟩
    refine ⟨_, rfl, _, rfl, m, q, M, N, rfl, hM, hN, h1, h2, h4, fun v0 H1 e1 => ?_⟩
    have hMi1 := hMi.mono e1
    refine ⟨_, rfl, _, _, _, _, _, rfl, hMi1.ob, T.cMachine.cl, T.cMachine.n_states, fz_at ndMachine (i := 0) rfl rfl, _, rfl, _, _, _, _, _, rfl, hMi1.ob, T.cMachine.cl, T.cMachine.n_letters, fz_at ndMachine (i := 1) rfl rfl, _, rfl, M.st, M.lt, v, c, rfl, hv.mono (Tk.of e1), hMok.st, hMok.lt, hc1, hc2, by omega, fun tq T0 H2 e2 hT0 t1 t2 t3 t4 t5 t6 t7 => ?_⟩
    have e12 := e1.trans e2
    have hplT : ∀ n a m, (n, a, m) ∈ T0.ed → M.st ≤ m := fun n a m h => (sEd_rng ((t4 _).mp h)).2.1
    have hplT' : ∀ e ∈ T0.ed, T0.st ≤ e.2.2 := fun e h => by rw [t1]; exact hplT e.1 e.2.1 e.2.2 h
    have hcapT : capE T0 ≤ 8 * 3 * 8 := capE_le (by rw [t3]; omega) (by omega)
    refine ⟨_, rfl, _, rfl, _, rfl, m, tq, M, T0, rfl, hM.mono e12, hT0, t1, t2, by omega, hplT', fun ax A H3 ks ix ps tm e3 hA a1 a2 a3 a5 a6 a7 a8 hF => ?_⟩
    have e13 := e12.trans e3
    refine ⟨q, ax, N, A, rfl, hN.mono e13, hA, by rw [a1, t1, h1], by rw [a2, t2, h2], h4, hNed, by omega, by omega, by rw [a3, t3]; omega, by omega, hNen, by omega, fun bx B H4 e4 hB b1 b2 b3 b4 => ?_⟩
    refine ⟨bx, B, rfl, hB, by omega, by rw [b2]; omega, fun sv H5 e5 hs => ?_⟩
    have e35 := e4.trans e5
    have e15 := e13.trans e35
    refine ⟨_, rfl, rfl, _, rfl, ?_⟩
    rcases hs with ⟨rfl, hno⟩ | ⟨stc, hst, hacc, hr1, hr2, hr3⟩
    · refine iteD (fun _ => ?_) fun z => (z rfl).elim
      have hcb := capB_le (M := M) (a := 4) (b := 3) (by omega) (by omega)
      have hcF : capE (FC M N) ≤ 19 * 3 * 19 := capE_le (by simp only [FC]; omega) (by simp only [FC]; omega)
      refine ⟨_, rfl, _, rfl, m, q, M, N, rfl, hM.mono e15, hN.mono e15, h1, h2, h4, by omega, by omega, by omega, by omega, fun x B' H6 e6 hB' g1 g2 g3 hFw hE hR g4 g5 => ?_⟩
      obtain ⟨bdx, bna, bnb, bng, bes, bgs, hbn⟩ := id hB'
      refine ⟨_, rfl, _, _, _, _, _, rfl, hbn.ob, T.cNet.cl, T.cNet.n_nodes, fz_at ndNet (i := 2) rfl rfl, _, rfl, _, _, _, _, _, rfl, hbn.ob, T.cNet.cl, T.cNet.n_edges, fz_at ndNet (i := 3) rfl rfl, _, rfl, _, _, _, _, _, rfl, hbn.ob, T.cNet.cl, T.cNet.n_ends, fz_at ndNet (i := 4) rfl rfl, by show 4 ≤ sizeLine; decide, fun t ht => ⟨by show 2 ≤ sizeLine; decide, fun r hr => ?_⟩⟩
      have et := Ex.new (o := HO.tup [.str "stays", .int B'.nd, .ref bna, .ref bnb]) ht
      have er := Ex.new (o := HO.tup [.bl false, .ref t]) hr
      have etr := et.trans er
      refine k _ false (.stays B') _ (e15.trans (e6.trans etr)) ?_ ⟨rfl, ⟨g3, hE⟩, hFw, fun ha => ?_⟩ ⟨hbn.ok, by omega, by omega, by rw [g1, h1], by rw [g2, h2]⟩
      · refine Is.mk upd_same (.cons (Is.bl false) (.cons (Is.mk (er _ _ upd_same) (.cons (Is.str _) (.cons (Is.int _) (.cons ?_ (.cons ?_ .nil))))) .nil))
        · exact Is.mk (etr _ _ hbn.ea) (hbn.el.mono (Tk.of etr))
        · exact isInts (etr _ _ hbn.nb)
      · obtain ⟨y, hy, hNy, r⟩ := hR c hc1 ha
        obtain ⟨e', he', hp'⟩ := (single_acc (lt := M.lt) hc1.2 hc1.2).mpr rfl
        have h6 := nf_of hF r (hp'.mono fun _ _ _ z => (t4 _).mpr z)
        have hAy : Acc A y := ⟨e', (a6 e').mpr ((t5 e').mpr (List.mem_singleton.mp he')), h6.mono fun _ _ _ z => (a5 _).mpr z⟩
        exact hno y (by rw [b1, h1]; exact hy) ((b4 y (by rw [h1]; exact hy)).mpr ⟨hNy, hAy⟩)
    · obtain ⟨sa, spl, rfl, _, _⟩ := Is.conf_iff.mp hst
      refine iteD (fun z => nomatch z) fun _ => ?_
      refine nxT ?_
      have hrN : 0 ≤ stc.1 ∧ stc.1 < N.st := by rw [← b1]; exact hr1
      obtain ⟨hNs, hAs⟩ := (b4 stc hrN).mp hacc
      refine ⟨_, rfl, _, rfl, _, rfl, m, tq, .ref sa, M, T0, stc, rfl, hM.mono e15, hT0.mono (e3.trans e35), hst, t1, t2, by omega, hplT', ⟨hrN.1, by rw [t3]; omega⟩, by rw [t3]; omega, by omega, fun ks' ix' ps' tm' hF' => ?_, fun x t nv rv wv tv rows way H6 e6 hx ht hrv hwv hpo hr300 hr2' hwl => ?_⟩
      · obtain ⟨e', he', hp'⟩ := hAs
        exact ⟨e', (a6 e').mp he', nf_move hMok hplT hF hF' (hp'.mono fun _ _ _ z => (a5 _).mp z)⟩
      · refine ⟨x, _, _, _, rfl, rfl, SqT.of hx, rfl, t, _, rfl, SqT.of ht, rfl, _, _, rfl, _, _, rfl, _, _, rfl, _, _, rfl, rfl, ?_⟩
        refine ⟨_, rfl, _, rfl, _, rfl, by show 4 ≤ sizeLine; decide, fun u hu => ⟨by show 2 ≤ sizeLine; decide, fun r hr => ?_⟩⟩
        have eu := Ex.new (o := HO.tup [.str "came", .ref sa, rv, wv]) hu
        have er := Ex.new (o := HO.tup [.bl true, .ref u]) hr
        have eur := eu.trans er
        refine k _ true (.came stc rows way) _ (e15.trans (e6.trans eur)) ?_ ⟨rfl, ⟨hrN, fun l hl => ?_, hNs⟩, (PaperOk.congr t4 fun e => (t5 e).trans List.mem_singleton.symm).mp hpo⟩ ⟨by omega, fun r hr => by have := hr2' r hr; omega, by omega⟩
        · refine Is.mk upd_same (.cons (Is.bl true) (.cons (Is.mk (er _ _ upd_same) (.cons (Is.str _) (.cons (hst.mono (Tk.of (e6.trans eur))) (.cons (hrv.mono (Tk.of eur)) (.cons (hwv.mono (Tk.of eur)) .nil))))) .nil))
        · have := hr2 l hl
          rw [b2] at this
          exact this
end
end Zp
set_option maxRecDepth 100000
set_option maxHeartbeats 0
namespace Zp
open PySem L2 Zs Evl Pr
section
variable {P : Program} {w : World} {K : PySem.W.Frag} {mg : Str → Option Value} {base : Heap}
def sp_Step_init (T : Txt K mg) : Sp := fun vs H Q _ => ∃ (p dx la : Addr) (s : StepD), vs = [.ref p, .int s.state, .int s.letter, .int s.goal, .ref la, .int s.weight] ∧ H p = some (.ins T.cStep.C dx []) ∧ H la = some (.tup (s.laid.map V.int)) ∧
  ∀ H', Off p H H' → StepIs T.cStep.C H' p s dx la → Q .non H'
theorem ok_Step_init (T : Txt K mg) : FnOk P w K mg base CX0 1 T.cStep.init.f T.cStep.init.fd ["self", "state", "letter", "goal", "laid", "weight"] (sp_Step_init T) := by
  obtain ⟨dvs, FD⟩ := T.cStep.init.F
  refine FD.ok sc_Step_init (fun vs H Q E h => ?_) (fun cdv A outer s H vs Q E hr h => ?_)
  · obtain ⟨p, dx, la, s, rfl, _⟩ := h
    rfl
  · obtain ⟨p, dx, la, st, rfl, hp, hla, k⟩ := h
    have hu := hu_of hr
    have hnd := sc_Step_init.nd
    refine ⟨_, (pss_cons (ps_fld (L2.pv 0) (L2.pv 1) rfl)
    (pss_cons (ps_fld (L2.pv 0) (L2.pv 2) rfl)
    (pss_cons (ps_fld (L2.pv 0) (L2.pv 3) rfl)
    (pss_cons (ps_fld (L2.pv 0) (pe_callTy call_tuple_of (by rfl) T.b.tuple (by decide +kernel) (pa_cons (L2.pv 4) pa_nil)) rfl)
    (pss_one (ps_fld (L2.pv 0) (L2.pv 5) rfl)))))), ?_⟩
    rw [fz_nil (ns := nsStep)] at hp
    have nlp : la ≠ p := ne_of hla hp (by intro z; cases z)
    refine q_fld (v := .int st.state) (fun Q z => ⟨_, rfl, z⟩) (fun Q z => ⟨_, rfl, z⟩) hp T.cStep.cl T.cStep.n_state ndStep rfl (by decide) fun H1 o1 hp1 => ?_
    refine q_fld (v := .int st.letter) (fun Q z => ⟨_, rfl, z⟩) (fun Q z => ⟨_, rfl, z⟩) hp1 T.cStep.cl T.cStep.n_letter ndStep rfl (by decide) fun H2 o2 hp2 => ?_
    refine q_fld (v := .int st.goal) (fun Q z => ⟨_, rfl, z⟩) (fun Q z => ⟨_, rfl, z⟩) hp2 T.cStep.cl T.cStep.n_goal ndStep rfl (by decide) fun H3 o3 hp3 => ?_
    have hla3 := o3 _ _ (o2 _ _ (o1 _ _ hla nlp) nlp) nlp
    refine q_fld (v := .ref la) (fun Q z => ⟨_, rfl, la, _, rfl, .inr ⟨SqT.of hla3, z⟩⟩) (fun Q z => ⟨_, rfl, z⟩) hp3 T.cStep.cl T.cStep.n_laid ndStep rfl (by decide) fun H4 o4 hp4 => ?_
    refine st_fld (v := .int st.weight) (fun Q z => ⟨_, rfl, z⟩) (fun Q z => ⟨_, rfl, z⟩) hp4 T.cStep.cl T.cStep.n_weight ndStep rfl (by decide) fun H5 o5 hp5 => ?_
    exact k H5 ((o1.trans (o2.trans o3)).trans (o4.trans o5)) ⟨hp5, o5 _ _ (o4 _ _ hla3 nlp) nlp⟩
def sp_fits_machine (T : Txt K mg) : Sp := fun vs H Q _ => ∃ (v : V) (st lt : Int) (s : StepD), vs = [v, .int st, .int lt] ∧ StepAt T.cStep.C H v s ∧ (0 ≤ s.state ∧ s.state < st) ∧ (0 ≤ s.letter ∧ s.letter < lt) ∧ (0 ≤ s.goal ∧ s.goal < st) ∧ s.laid.length ≤ 2 ∧ (∀ a ∈ s.laid, 0 ≤ a ∧ a < lt) ∧ 0 ≤ s.weight ∧
  ∀ H', Ex H H' → Q (.bl true) H'
theorem ok_fits_machine (T : Txt K mg) : FnOk P w K mg base CX0 1 T.f.fits_machine.f T.f.fits_machine.fd ["step", "states", "letters"] (sp_fits_machine T) := by
  refine T.f.fits_machine.F.ok sc_fits_machine (fun vs H Q E h => ?_) (fun cdv A outer s H vs Q E hr h => ?_)
  · obtain ⟨v, st, lt, s, rfl, _⟩ := h
    rfl
  · obtain ⟨v, st, lt, s, rfl, ⟨p, dx, la, rfl, hs⟩, ⟨a1, a2⟩, ⟨b1, b2⟩, ⟨c1, c2⟩, d1, d2, d3, k⟩ := h
    have hu := hu_of hr
    have hnd := sc_fits_machine.nd
    refine ⟨_, (pss_cons (ps_if (PW.pt (pw_or (pt_not (pt_chain op_le op_lt (pe_int) (pe_fldK (K := K) rfl (L2.pv 0) rfl) (L2.pv 1))) (pw_or (pt_not (pt_chain op_le op_lt (pe_int) (pe_fldK (K := K) rfl (L2.pv 0) rfl) (L2.pv 1))) (pw_or1 (pt_not (pt_chain op_le op_lt (pe_int) (pe_fldK (K := K) rfl (L2.pv 0) rfl) (L2.pv 2))))))) (pss_one (ps_ret (pe_bl))) pss_nil)
    (pss_cons (ps_if (PW.pt (pw_or (pt_cmpR op_gt (pe_callB call_len_seq (by rfl) T.b.len PySem.boot_len (pa_cons (pe_fldK (K := K) rfl (L2.pv 0) rfl) pa_nil)) (pe_int) (nomark _)) (pw_or1 (pt_cmpR op_lt (pe_fldK (K := K) rfl (L2.pv 0) rfl) (pe_int) (nomark _))))) (pss_one (ps_ret (pe_bl))) pss_nil)
    (pss_one (ps_ret (pe_callB (cr_all rfl) (by rfl) T.b.all (by decide +kernel) (pa_cons (pe_lc (own := [("letter", 3)]) (g := (gName 3)) (tt := tYes) rfl hnd (pi_tup (pe_fldK (K := K) rfl (L2.pv 0) rfl)) (blkOk_by (own := [("letter", 3)]) (N := nm_fits_machine) (sc := defScope s_fits_machine) (by decide +kernel)) (fun _ _ _ _ _ => (pg_name (i := 3) hnd rfl (by first | exact Or.inl rfl | exact Or.inr rfl))) (fun _ _ _ _ _ => pts_nil) (fun _ _ _ _ _ => (pe_chain op_le op_lt (pe_int) (L2.pv 3) (L2.pv 2)))) pa_nil)))))), ?_⟩
    refine ⟨_, rfl, _, _, _, _, _, rfl, hs.ob, T.cStep.cl, T.cStep.n_state, fz_at ndStep (i := 0) rfl rfl, _, _, rfl, rfl, _, rfl, iteD (fun _ => ?_) fun z => absurd a1 z⟩
    refine ⟨_, rfl, _, _, rfl, rfl, _, rfl, iteN (fun _ => ?_) fun z => absurd a2 z⟩
    refine ⟨_, rfl, _, _, _, _, _, rfl, hs.ob, T.cStep.cl, T.cStep.n_goal, fz_at ndStep (i := 2) rfl rfl, _, _, rfl, rfl, _, rfl, iteD (fun _ => ?_) fun z => absurd c1 z⟩
    refine ⟨_, rfl, _, _, rfl, rfl, _, rfl, iteN (fun _ => ?_) fun z => absurd c2 z⟩
    refine ⟨_, rfl, _, _, _, _, _, rfl, hs.ob, T.cStep.cl, T.cStep.n_letter, fz_at ndStep (i := 1) rfl rfl, _, _, rfl, rfl, _, rfl, iteD (fun _ => ?_) fun z => absurd b1 z⟩
    refine ⟨_, rfl, _, _, rfl, rfl, _, rfl, iteN (fun _ => ?_) fun z => absurd b2 z⟩
    refine nxT ?_
    refine ⟨_, rfl, _, _, _, _, _, rfl, hs.ob, T.cStep.cl, T.cStep.n_laid, fz_at ndStep (i := 3) rfl rfl, la, _, rfl, .inr (SqT.of hs.la), _, _, rfl, rfl, _, rfl, iteD (fun z => ?_) fun _ => ?_⟩
    · rw [List.length_map] at z
      omega
    refine ⟨_, rfl, _, _, _, _, _, rfl, hs.ob, T.cStep.cl, T.cStep.n_weight, fz_at ndStep (i := 4) rfl rfl, _, _, rfl, rfl, _, rfl, iteD (fun z => ?_) fun _ => ?_⟩
    · omega
    refine nxT ?_
    refine ⟨_, rfl, _, _, _, _, _, rfl, hs.ob, T.cStep.cl, T.cStep.n_laid, fz_at ndStep (i := 3) rfl rfl, la, rfl, ⟨_, SqT.of hs.la⟩, fun D hD => ?_⟩
    refine lcR (walk_tup (xs := s.laid.map V.int)) hD (by rw [List.length_map]; omega) (fun H' e => SqT.of (e _ _ hs.la)) (fun i acc _ => Bls (fun _ b => b = true ↔ True) i acc) (fun _ _ _ _ _ _ z => z) .nil ?_ ?_
    · rintro i acc x H1 H2 B B' hi hl e1 hD1 r ⟨rfl, hx⟩ kB _
      obtain ⟨n, hn, rfl⟩ := ints_get hx
      have hr' := d2 n (List.mem_of_getElem? hn)
      refine ⟨rfl, ⟨_, rfl, _, _, rfl, rfl, _, rfl, iteD (fun _ => ⟨_, rfl, _, _, rfl, rfl, ?_⟩) fun z => absurd hr'.1 z⟩⟩
      exact kB _ _ (Ex.refl _) (r.snoc ⟨fun _ => trivial, fun _ => decide_eq_true hr'.2⟩)
    · rintro acc H1 e1 hD1 _ r
      obtain ⟨bs, rfl, hbs⟩ := r.all
      refine ⟨D, bs, rfl, SqL.of hD1, ?_⟩
      rw [hbs.mpr fun _ _ => trivial]
      exact k _ e1
def sp_Machine_init (T : Txt K mg) : Sp := fun vs H Q _ => ∃ (p dx l : Addr) (M : Mach) (xs : List V), vs = [.ref p, .int M.st, .int M.lt, .ref l] ∧ H p = some (.ins T.cMachine.C dx []) ∧ H l = some (.lst xs) ∧ xs.length = M.steps.length ∧ (∀ (i : Nat) (v : V) (s : StepD), xs[i]? = some v → M.steps[i]? = some s → StepAt T.cStep.C H v s) ∧ MOk M ∧ M.steps.length ≤ 10 ∧
  ∀ H', Off p H H' → MachAt T.cMachine.C T.cStep.C H' p M → Q .non H'
theorem ok_Machine_init (T : Txt K mg) : FnOk P w K mg base CX0 2 T.cMachine.init.f T.cMachine.init.fd ["self", "states", "letters", "steps"] (sp_Machine_init T) := by
  refine T.cMachine.init.F.ok sc_Machine_init (fun vs H Q E h => ?_) (fun cdv A outer s H vs Q E hr h => ?_)
  · obtain ⟨p, dx, l, M, xs, rfl, _⟩ := h
    rfl
  · obtain ⟨p, dx, l, M, xs, rfl, hp, hl, hlen, hst, hok, hsz, k⟩ := h
    have hu := hu_of hr
    have hnd := sc_Machine_init.nd
    refine ⟨_, (pss_cons (ps_if (PW.pt (pw_or (pt_cmpR op_lt (L2.pv 1) (pe_int) (nomark _)) (pw_or (pt_cmpR op_lt (L2.pv 2) (pe_int) (nomark _)) (pw_or1 (pt_not (pt_val (pe_callB (cr_all rfl) (by rfl) T.b.all (by decide +kernel) (pa_cons (pe_lc (own := [("step", 4)]) (g := (gName 4)) (tt := tYes) rfl hnd (pi_listK (K := K) rfl (L2.pv 3)) (blkOk_by (own := [("step", 4)]) (N := nm_Machine_init) (sc := defScope s_Machine_init) (by decide +kernel)) (fun _ _ _ _ _ => (pg_name (i := 4) hnd rfl (by first | exact Or.inl rfl | exact Or.inr rfl))) (fun _ _ _ _ _ => pts_nil) (fun _ _ _ _ _ => (pe_call (ok_fits_machine T) (hr.mono (by decide)) (by rfl) T.f.g_fits_machine T.f.fits_machine.F.kp T.f.fits_machine.b .nil pass0 (pa_cons (L2.pv 4) (pa_cons (L2.pv 1) (pa_cons (L2.pv 2) pa_nil)))))) pa_nil)))))))) (pss_one (ps_never)) pss_nil)
    (pss_cons (ps_fld (L2.pv 0) (L2.pv 1) rfl)
    (pss_cons (ps_fld (L2.pv 0) (L2.pv 2) rfl)
    (pss_one (ps_fld (L2.pv 0) (pe_callTy call_tuple_of (by rfl) T.b.tuple (by decide +kernel) (pa_cons (L2.pv 3) pa_nil)) rfl))))), ?_⟩
    refine ⟨_, rfl, _, _, rfl, rfl, _, rfl, iteD (fun z => absurd hok.st (by omega)) fun _ => ?_⟩
    refine ⟨_, rfl, _, _, rfl, rfl, _, rfl, iteD (fun z => absurd hok.lt (by omega)) fun _ => ?_⟩
    refine ⟨_, rfl, l, rfl, ⟨_, SqL.of hl⟩, fun D hD => ?_⟩
    refine lcR (walk_list (xs := xs)) hD (by omega) (fun H' e => SqL.of (e _ _ hl)) (fun i acc _ => Bls (fun _ b => b = true ↔ True) i acc) (fun _ _ _ _ _ _ z => z) .nil ?_ ?_
    · rintro i acc x H1 H2 B B' hi hl' e1 hD1 r ⟨rfl, hx⟩ kB _
      obtain ⟨s', hs'⟩ : ∃ s', M.steps[i]? = some s' := ⟨_, List.getElem?_eq_getElem (by omega)⟩
      have hsa := (hst i x s' hx hs').mono e1
      obtain ⟨r1, r2, r3, r4, r5, r6⟩ := hok.stp s' (List.mem_of_getElem? hs')
      refine ⟨rfl, ⟨_, rfl, _, rfl, _, rfl, x, M.st, M.lt, s', rfl, hsa, r1, r2, r3, r4, r5, r6, fun H4 e4 => kB _ _ e4 (r.snoc ⟨fun _ => trivial, fun _ => rfl⟩)⟩⟩
    · rintro acc H1 e1 hD1 _ r
      obtain ⟨bs, rfl, hbs⟩ := r.all
      refine ⟨D, bs, rfl, SqL.of hD1, _, rfl, ?_⟩
      rw [hbs.mpr fun _ _ => trivial]
      refine iteFn ?_
      have hp1 := e1 _ _ hp
      rw [fz_nil (ns := nsMachine)] at hp1
      refine q_fld (v := .int M.st) (fun Q z => ⟨_, rfl, z⟩) (fun Q z => ⟨_, rfl, z⟩) hp1 T.cMachine.cl T.cMachine.n_states ndMachine rfl (by decide) fun H2 o2 hp2 => ?_
      refine q_fld (v := .int M.lt) (fun Q z => ⟨_, rfl, z⟩) (fun Q z => ⟨_, rfl, z⟩) hp2 T.cMachine.cl T.cMachine.n_letters ndMachine rfl (by decide) fun H3 o3 hp3 => ?_
      have nlp : l ≠ p := ne_of hl hp (by intro z; cases z)
      have hl3 := o3 _ _ (o2 _ _ (e1 _ _ hl) nlp) nlp
      refine ⟨_, rfl, l, _, rfl, .inl ⟨SqL.of hl3, fun t ht => ?_⟩⟩
      have et := Ex.new (o := HO.tup xs) ht
      refine ⟨_, rfl, p, _, _, _, rfl, et _ _ hp3, T.cMachine.cl, T.cMachine.n_steps, fz_len (by decide), fld_put ndMachine rfl fun H4 o4 hp4 => ?_⟩
      have oAll : Off p H H4 := ((Off.of e1).trans (o2.trans o3)).trans ((Off.of et).trans o4)
      have ntp : t ≠ p := (ne_of_none hp3 ht).symm
      refine k H4 oAll ⟨dx, t, xs, hp4, o4 _ _ upd_same ntp, hlen, fun i v s' h1 h2 => ?_, hok, hsz⟩
      obtain ⟨sp, sdx, la, rfl, hs⟩ := hst i v s' h1 h2
      exact ⟨sp, sdx, la, rfl, oAll _ _ hs.ob (ne_of hs.ob hp (by intro z; injection z with _ _ h3; cases h3)), oAll _ _ hs.la (ne_of hs.la hp (by intro z; cases z))⟩
end
end Zp
set_option maxRecDepth 100000
set_option maxHeartbeats 0
namespace Zp
open PySem L2 Zs Evl Pr
theorem int_at {xs : List Int} {j : Nat} (h : j < xs.length) : (xs.map V.int)[j]? = some (.int (xs.getD j 0)) := by
  rw [List.getElem?_map, List.getElem?_eq_getElem h]
  simp [List.getD, h]
section
variable {P : Program} {w : World} {K : PySem.W.Frag} {mg : Str → Option Value} {base : Heap}
def sp_l_numbers (T : Txt K mg) : Sp := fun vs H Q _ => ∃ (sc : Addr) (xs : List Int) (cnt : Nat), vs = [.ref sc, .int (cnt : Int)] ∧ SqL K H sc (xs.map V.int) ∧ cnt ≤ 1000 ∧
  ∀ (r : Addr) (ns : List Int) H', Ex H H' → H' r = some (.lst (ns.map V.int)) → ns.length = cnt → (∀ n ∈ ns, 0 ≤ n ∧ n < 1000000) → Q (.ref r) H'
theorem ok_l_numbers (T : Txt K mg) : FnOk P w K mg base CX0 1 T.f.l_numbers.f T.f.l_numbers.fd ["_law_script", "_law_count"] (sp_l_numbers T) := by
  refine T.f.l_numbers.F.ok sc_l_numbers (fun vs H Q E h => ?_) (fun cdv A outer s H vs Q E hr h => ?_)
  · obtain ⟨sc, xs, cnt, rfl, _⟩ := h
    rfl
  · obtain ⟨sc, xs, cnt, rfl, hsc, hcnt, k⟩ := h
    have hu := hu_of hr
    have hnd := sc_l_numbers.nd
    refine ⟨_, (pss_cons (ps_set (i := 2) hnd rfl (by first | exact Or.inl rfl | exact Or.inr rfl) (pe_int))
    (pss_cons (ps_if (pt_cmpR op_gt (pe_callB call_len_seq (by rfl) T.b.len PySem.boot_len (pa_cons (L2.pv 0) pa_nil)) (pe_int) (nomark _)) (pss_one (ps_set (i := 2) hnd rfl (by first | exact Or.inl rfl | exact Or.inr rfl) (pe_ix (ix_listK (K := K) rfl) (L2.pv 0) (pe_int) (fun _ _ => rfl)))) pss_nil)
    (pss_cons (ps_set (i := 3) hnd rfl (by first | exact Or.inl rfl | exact Or.inr rfl) (pe_cmpR op_ge (L2.pv 2) (pe_op op_pow (pe_int) (pe_int)) (nomark _)))
    (pss_cons (ps_set (i := 4) hnd rfl (by first | exact Or.inl rfl | exact Or.inr rfl) (pe_lst pa_nil))
    (pss_cons (ps_for PassesOwn.never rfl (pi_range1 (by rfl) T.b.range (pa_cons (L2.pv 1) pa_nil)) (pg_name (i := 5) hnd rfl (by first | exact Or.inl rfl | exact Or.inr rfl))
      (pss_one (ps_if (PW.pt (pw_and (pt_val (L2.pv 3)) (pw_and1 (pt_cmpR op_gt (L2.pv 2) (pe_int) (nomark _))))) (pss_cons (ps_expr (pe_bm PySem.F.plainAttrs_list PySem.F.slot_list_append PySem.F.type_list_append mt_append (L2.pv 4) (pa_cons (pe_op op_mod (L2.pv 2) (pe_int)) pa_nil)))
    (pss_one (ps_set (i := 2) hnd rfl (by first | exact Or.inl rfl | exact Or.inr rfl) (pe_op op_fdiv (L2.pv 2) (pe_int))))) (pss_cons (ps_set (i := 6) hnd rfl (by first | exact Or.inl rfl | exact Or.inr rfl) (pe_int))
    (pss_cons (ps_if (pt_cmpR op_gt (pe_callB call_len_seq (by rfl) T.b.len PySem.boot_len (pa_cons (L2.pv 0) pa_nil)) (pe_int) (nomark _)) (pss_one (ps_set (i := 6) hnd rfl (by first | exact Or.inl rfl | exact Or.inr rfl) (pe_op op_add (pe_ix (ix_listK (K := K) rfl) (L2.pv 0) (pe_op op_mod (L2.pv 5) (pe_callB call_len_seq (by rfl) T.b.len PySem.boot_len (pa_cons (L2.pv 0) pa_nil))) (fun _ _ => rfl)) (pe_op op_mul (pe_int) (L2.pv 5))))) pss_nil)
    (pss_one (ps_expr (pe_bm PySem.F.plainAttrs_list PySem.F.slot_list_append PySem.F.type_list_append mt_append (L2.pv 4) (pa_cons (pe_op op_mod (pe_op op_mod (pe_op op_mul (pe_op op_mod (pe_op op_mul (L2.pv 6) (pe_int)) (pe_int)) (pe_int)) (pe_int)) (pe_int)) pa_nil)))))))))
    (pss_one (ps_ret (L2.pv 4)))))))), ?_⟩
    have hsl : (xs.map V.int).length = xs.length := List.length_map ..
    refine ⟨_, rfl, sc, _, rfl, .inl (hsc), _, _, rfl, rfl, _, rfl, iteD (fun h1 => ⟨_, rfl, sc, _, _, _, rfl, rfl, hsc, atI_int (Int.le_refl 0) (int_at (j := 0) (by omega)), ?_⟩) fun h1 => nxT ?_⟩
    all_goals
      refine ⟨_, rfl, _, _, rfl, rfl, ⟨by decide, by decide, by decide⟩, _, _, rfl, rfl, ?_⟩
      refine ⟨Nat.zero_le _, fun d hd => ?_⟩
      have ed := Ex.new (o := HO.lst []) hd
      refine ⟨_, rfl, (cnt : Int), rfl, by omega, by omega, for_range (lo := 0) (n := (cnt : Int).toNat)
        (fun i σ' H' => ∃ (ns : List Int) (rest : Int) (bd : Bool) (v5 v6 : Option V), σ' = [some (.ref sc), some (.int (cnt : Int)), some (.int rest), some (.bl bd), some (.ref d), v5, v6] ∧ Ex H H' ∧ H' d = some (.lst (ns.map V.int)) ∧ ns.length = i ∧ ∀ n ∈ ns, 0 ≤ n ∧ n < 1000000) ?_ ?_ ?_⟩
      · exact ⟨[], _, _, none, none, rfl, ed, upd_same, rfl, fun n h => nomatch h⟩
      · rintro i σ' H' hi ⟨ns, rest, bd, v5, v6, rfl, e, hd', hnl, hnr⟩
        have hsc' := ex_l e hsc
        have hml : (ns.map V.int).length = ns.length := List.length_map ..
        have fin : ∀ (n rest' : Int) (bd' : Bool) (v5' v6' : Option V), 0 ≤ n ∧ n < 1000000 → ∃ (ns' : List Int) (rest : Int) (bd : Bool) (v5 v6 : Option V), ([some (.ref sc), some (.int (cnt : Int)), some (.int rest'), some (.bl bd'), some (.ref d), v5', v6'] : L2.St) = [some (.ref sc), some (.int (cnt : Int)), some (.int rest), some (.bl bd), some (.ref d), v5, v6] ∧ Ex H (upd H' d (.lst (ns.map V.int ++ [.int n]))) ∧ (upd H' d (.lst (ns.map V.int ++ [.int n]))) d = some (.lst (ns'.map V.int)) ∧ ns'.length = i + 1 ∧ ∀ n ∈ ns', 0 ≤ n ∧ n < 1000000 := fun n rest' bd' v5' v6' hn => by
          refine ⟨ns ++ [n], rest', bd', v5', v6', rfl, Ex.mut e hd, by rw [upd_same, List.map_append]; rfl, by rw [List.length_append, hnl]; rfl, fun y hy => ?_⟩
          rcases List.mem_append.mp hy with z | z
          · exact hnr y z
          · rw [List.mem_singleton.mp z]; exact hn
        refine ⟨_, rfl, bd, rfl, ?_⟩
        rcases bd with _ | _
        · refine iteF ?_
          refine ⟨_, rfl, sc, _, rfl, .inl (hsc'), _, _, rfl, rfl, _, rfl, iteD (fun h2 => ?_) fun h2 => nxT ?_⟩
          · have hlp : (0 : Int) < ((xs.map V.int).length : Int) := h2
            have hm1 := Int.emod_nonneg (0 + (i : Int)) (Int.ne_of_gt hlp)
            have hm2 := Int.emod_lt_of_pos (0 + (i : Int)) hlp
            refine ⟨_, rfl, _, rfl, _, rfl, sc, _, rfl, .inl (hsc'), _, _, rfl, rfl, hlp, sc, _, _, _, rfl, rfl, hsc', atI_int hm1 (int_at (by omega)), _, rfl, _, _, rfl, rfl, .inl ⟨by decide, by decide⟩, _, _, rfl, rfl, ?_⟩
            refine ⟨_, rfl, .inl ⟨rfl, _, SqL.of hd'⟩, _, rfl, _, _, rfl, rfl, .inr ⟨by decide, by decide⟩, _, _, rfl, rfl, by show (0 : Int) < _; decide, _, _, rfl, rfl, .inr ⟨by decide, by decide⟩, _, _, rfl, rfl, by show (0 : Int) < _; decide, _, _, rfl, rfl, by show (0 : Int) < _; decide, d, _, _, rfl, rfl, hd', lineLt (by omega), fin _ _ _ _ _ ⟨Int.emod_nonneg _ (by decide), Int.emod_lt_of_pos _ (by decide)⟩⟩
          · refine ⟨_, rfl, .inl ⟨rfl, _, SqL.of hd'⟩, _, rfl, _, _, rfl, rfl, .inr ⟨by decide, by decide⟩, _, _, rfl, rfl, by show (0 : Int) < _; decide, _, _, rfl, rfl, .inr ⟨by decide, by decide⟩, _, _, rfl, rfl, by show (0 : Int) < _; decide, _, _, rfl, rfl, by show (0 : Int) < _; decide, d, _, _, rfl, rfl, hd', lineLt (by omega), fin _ _ _ _ _ ⟨Int.emod_nonneg _ (by decide), Int.emod_lt_of_pos _ (by decide)⟩⟩
        · refine ⟨_, rfl, _, _, rfl, rfl, _, rfl, iteD (fun h => ?_) fun h => ?_⟩
          · refine ⟨_, rfl, .inl ⟨rfl, _, SqL.of hd'⟩, _, rfl, _, _, rfl, rfl, by show (0 : Int) < _; decide, d, _, _, rfl, rfl, hd', lineLt (by omega), ?_⟩
            refine ⟨_, rfl, _, _, rfl, rfl, ⟨by decide, by decide⟩, ?_⟩
            exact fin _ _ true _ _ ⟨Int.emod_nonneg _ (by decide), Int.emod_lt_of_pos _ (by decide)⟩
          · skip
            refine ⟨_, rfl, sc, _, rfl, .inl (hsc'), _, _, rfl, rfl, _, rfl, iteD (fun h2 => ?_) fun h2 => nxT ?_⟩
            · have hlp : (0 : Int) < ((xs.map V.int).length : Int) := h2
              have hm1 := Int.emod_nonneg (0 + (i : Int)) (Int.ne_of_gt hlp)
              have hm2 := Int.emod_lt_of_pos (0 + (i : Int)) hlp
              refine ⟨_, rfl, _, rfl, _, rfl, sc, _, rfl, .inl (hsc'), _, _, rfl, rfl, hlp, sc, _, _, _, rfl, rfl, hsc', atI_int hm1 (int_at (by omega)), _, rfl, _, _, rfl, rfl, .inl ⟨by decide, by decide⟩, _, _, rfl, rfl, ?_⟩
              refine ⟨_, rfl, .inl ⟨rfl, _, SqL.of hd'⟩, _, rfl, _, _, rfl, rfl, .inr ⟨by decide, by decide⟩, _, _, rfl, rfl, by show (0 : Int) < _; decide, _, _, rfl, rfl, .inr ⟨by decide, by decide⟩, _, _, rfl, rfl, by show (0 : Int) < _; decide, _, _, rfl, rfl, by show (0 : Int) < _; decide, d, _, _, rfl, rfl, hd', lineLt (by omega), fin _ _ _ _ _ ⟨Int.emod_nonneg _ (by decide), Int.emod_lt_of_pos _ (by decide)⟩⟩
            · refine ⟨_, rfl, .inl ⟨rfl, _, SqL.of hd'⟩, _, rfl, _, _, rfl, rfl, .inr ⟨by decide, by decide⟩, _, _, rfl, rfl, by show (0 : Int) < _; decide, _, _, rfl, rfl, .inr ⟨by decide, by decide⟩, _, _, rfl, rfl, by show (0 : Int) < _; decide, _, _, rfl, rfl, by show (0 : Int) < _; decide, d, _, _, rfl, rfl, hd', lineLt (by omega), fin _ _ _ _ _ ⟨Int.emod_nonneg _ (by decide), Int.emod_lt_of_pos _ (by decide)⟩⟩
      · rintro σ' H' ⟨ns, rest, bd, v5, v6, rfl, e, hd', hnl, hnr⟩
        exact ⟨_, rfl, k d ns H' e hd' (by omega) hnr⟩
end
end Zp
set_option maxRecDepth 100000
set_option maxHeartbeats 0
namespace Zp
open PySem L2 Zs Evl Pr
def stD (s : StepD) : PD := .t [.i s.state, .i s.letter, .i s.goal, iD s.laid, .i s.weight]
structure SOk (st lt : Int) (s : StepD) : Prop where
  state : 0 ≤ s.state ∧ s.state < st
  letter : 0 ≤ s.letter ∧ s.letter < lt
  goal : 0 ≤ s.goal ∧ s.goal < st
  two : s.laid.length ≤ 2
  laid : ∀ a ∈ s.laid, 0 ≤ a ∧ a < lt
  weight : 0 ≤ s.weight ∧ s.weight ≤ 5
theorem size_at (n : Int) : ∃ z : Nat, z ≤ 2 ∧ ([V.int 0, V.int 0, V.int 1, V.int 2, V.int 2] : List V)[(n % 5).toNat]? = some (.int (z : Int)) := by
  have h1 := Int.emod_nonneg n (by decide : (5 : Int) ≠ 0)
  have h2 := Int.emod_lt_of_pos n (by decide : (0 : Int) < 5)
  have : (n % 5).toNat = 0 ∨ (n % 5).toNat = 1 ∨ (n % 5).toNat = 2 ∨ (n % 5).toNat = 3 ∨ (n % 5).toNat = 4 := by omega
  rcases this with h | h | h | h | h <;> rw [h]
  · exact ⟨0, by decide, rfl⟩
  · exact ⟨0, by decide, rfl⟩
  · exact ⟨1, by decide, rfl⟩
  · exact ⟨2, by decide, rfl⟩
  · exact ⟨2, by decide, rfl⟩
section
variable {P : Program} {w : World} {K : PySem.W.Frag} {mg : Str → Option Value} {base : Heap}
def sp_l_rows (T : Txt K mg) : Sp := fun vs H Q _ => ∃ (nl : Addr) (ns : List Int) (pl cnt : Nat) (st lt : Int), vs = [.ref nl, .int (pl : Int), .int st, .int lt, .int (cnt : Int)] ∧ H nl = some (.lst (ns.map V.int)) ∧ pl + cnt ≤ ns.length ∧ cnt ≤ 100 ∧ (∀ n ∈ ns, 0 ≤ n) ∧ (1 ≤ st ∧ st ≤ 1000) ∧ (1 ≤ lt ∧ lt ≤ 1000) ∧
  ∀ (r : Addr) (xs : List V) (rows : List StepD) H', Ex H H' → H' r = some (.lst xs) → IsL H' xs (rows.map stD) → rows.length = cnt → (∀ s ∈ rows, SOk st lt s) → Q (.ref r) H'
theorem ok_l_rows (T : Txt K mg) : FnOk P w K mg base CX0 1 T.f.l_rows.f T.f.l_rows.fd ["_law_numbers_here", "_law_place", "_law_states", "_law_letters", "_law_count"] (sp_l_rows T) := by
  refine T.f.l_rows.F.ok sc_l_rows (fun vs H Q E h => ?_) (fun cdv A outer s H vs Q E hr h => ?_)
  · obtain ⟨nl, ns, pl, cnt, st, lt, rfl, _⟩ := h
    rfl
  · obtain ⟨nl, ns, pl, cnt, st, lt, rfl, hnl, hlen, hcnt, hpos, hst, hlt, k⟩ := h
    have hu := hu_of hr
    have hnd := sc_l_rows.nd
    refine ⟨_, (pss_cons (ps_set (i := 5) hnd rfl (by first | exact Or.inl rfl | exact Or.inr rfl) (pe_lst pa_nil))
    (pss_cons (ps_for PassesOwn.never rfl (pi_range1 (by rfl) T.b.range (pa_cons (L2.pv 4) pa_nil)) (pg_name (i := 6) hnd rfl (by first | exact Or.inl rfl | exact Or.inr rfl))
      (pss_cons (ps_set (i := 7) hnd rfl (by first | exact Or.inl rfl | exact Or.inr rfl) (pe_ix (ix_listK (K := K) rfl) (L2.pv 0) (pe_op op_add (L2.pv 1) (L2.pv 6)) (fun _ _ => rfl)))
    (pss_cons (ps_set (i := 8) hnd rfl (by first | exact Or.inl rfl | exact Or.inr rfl) (pe_ix (ix_listK (K := K) rfl) (pe_lst (pa_cons (pe_int) (pa_cons (pe_int) (pa_cons (pe_int) (pa_cons (pe_int) (pa_cons (pe_int) pa_nil)))))) (pe_op op_mod (L2.pv 7) (pe_int)) (fun _ _ => rfl)))
    (pss_cons (ps_set (i := 7) hnd rfl (by first | exact Or.inl rfl | exact Or.inr rfl) (pe_op op_fdiv (L2.pv 7) (pe_int)))
    (pss_cons (ps_set (i := 9) hnd rfl (by first | exact Or.inl rfl | exact Or.inr rfl) (pe_lst pa_nil))
    (pss_cons (ps_for PassesOwn.never rfl (pi_range1 (by rfl) T.b.range (pa_cons (L2.pv 8) pa_nil)) (pg_name (i := 10) hnd rfl (by first | exact Or.inl rfl | exact Or.inr rfl))
      (pss_cons (ps_expr (pe_bm PySem.F.plainAttrs_list PySem.F.slot_list_append PySem.F.type_list_append mt_append (L2.pv 9) (pa_cons (pe_op op_mod (L2.pv 7) (L2.pv 3)) pa_nil)))
    (pss_one (ps_set (i := 7) hnd rfl (by first | exact Or.inl rfl | exact Or.inr rfl) (pe_op op_fdiv (L2.pv 7) (L2.pv 3))))))
    (pss_cons (ps_set (i := 11) hnd rfl (by first | exact Or.inl rfl | exact Or.inr rfl) (pe_op op_mod (L2.pv 7) (L2.pv 2)))
    (pss_cons (ps_set (i := 7) hnd rfl (by first | exact Or.inl rfl | exact Or.inr rfl) (pe_op op_fdiv (L2.pv 7) (L2.pv 2)))
    (pss_cons (ps_set (i := 12) hnd rfl (by first | exact Or.inl rfl | exact Or.inr rfl) (pe_op op_mod (L2.pv 7) (L2.pv 3)))
    (pss_cons (ps_set (i := 7) hnd rfl (by first | exact Or.inl rfl | exact Or.inr rfl) (pe_op op_fdiv (L2.pv 7) (L2.pv 3)))
    (pss_cons (ps_set (i := 13) hnd rfl (by first | exact Or.inl rfl | exact Or.inr rfl) (pe_op op_mod (L2.pv 7) (L2.pv 2)))
    (pss_one (ps_expr (pe_bm PySem.F.plainAttrs_list PySem.F.slot_list_append PySem.F.type_list_append mt_append (L2.pv 5) (pa_cons (pe_tup (pa_cons (L2.pv 11) (pa_cons (L2.pv 12) (pa_cons (L2.pv 13) (pa_cons (pe_callTy call_tuple_of (by rfl) T.b.tuple (by decide +kernel) (pa_cons (L2.pv 9) pa_nil)) (pa_cons (pe_op op_mod (pe_op op_fdiv (L2.pv 7) (L2.pv 2)) (pe_int)) pa_nil)))))) pa_nil)))))))))))))))
    (pss_one (ps_ret (L2.pv 5))))), ?_⟩
    refine ⟨Nat.zero_le _, fun d hd => ?_⟩
    have ed := Ex.new (o := HO.lst []) hd
    refine ⟨_, rfl, (cnt : Int), rfl, by omega, by omega, for_range (lo := 0) (n := (cnt : Int).toNat)
      (fun i σ' H' => ∃ (rows : List StepD) (xs : List V) (v6 v7 v8 v9 v10 v11 v12 v13 : Option V), σ' = [some (.ref nl), some (.int (pl : Int)), some (.int st), some (.int lt), some (.int (cnt : Int)), some (.ref d), v6, v7, v8, v9, v10, v11, v12, v13] ∧ Ex H H' ∧ H' d = some (.lst xs) ∧ IsL H' xs (rows.map stD) ∧ rows.length = i ∧ ∀ s ∈ rows, SOk st lt s) ?_ ?_ ?_⟩
    · exact ⟨[], [], none, none, none, none, none, none, none, none, rfl, ed, upd_same, .nil, rfl, fun n h => nomatch h⟩
    · rintro i σ' H' hi ⟨rows, xs, v6, v7, v8, v9, v10, v11, v12, v13, rfl, e, hd', hxs, hrl, hrs⟩
      have hxn := hxs.len
      rw [List.length_map] at hxn
      obtain ⟨sz, hsz, hszat⟩ := size_at (ns.getD ((pl : Int) + (0 + (i : Int))).toNat 0)
      have hdv : (0 : Int) < st ∧ st < 1073741824 := ⟨by omega, by omega⟩
      have hdl : (0 : Int) < lt ∧ lt < 1073741824 := ⟨by omega, by omega⟩
      refine ⟨_, rfl, _, rfl, _, rfl, _, _, rfl, rfl, nl, _, _, _, rfl, rfl, SqL.of (e _ _ hnl), atI_int (by omega) (int_at (by omega)), ?_⟩
      refine ⟨by show 5 ≤ sizeLine; decide, fun q hq => ?_⟩
      have eq := Ex.new (o := HO.lst [.int 0, .int 0, .int 1, .int 2, .int 2]) hq
      refine ⟨_, rfl, _, _, rfl, rfl, by show (0 : Int) < _; decide, q, _, _, _, rfl, rfl, SqL.of upd_same, atI_int (Int.emod_nonneg _ (by decide)) hszat, ?_⟩
      generalize upd H' q (.lst [.int 0, .int 0, .int 1, .int 2, .int 2]) = H2 at eq
      refine ⟨_, rfl, _, _, rfl, rfl, ⟨by decide, by decide⟩, ?_⟩
      refine ⟨Nat.zero_le _, fun ld hld => ?_⟩
      refine ⟨_, rfl, (sz : Int), rfl, by omega, by omega, for_range (lo := 0) (n := (sz : Int).toNat)
        (fun j σ3 H3 => ∃ (laid : List Int) (number : Int) (v10 : Option V), σ3 = [some (.ref nl), some (.int (pl : Int)), some (.int st), some (.int lt), some (.int (cnt : Int)), some (.ref d), some (.int (0 + (i : Int))), some (.int number), some (.int (sz : Int)), some (.ref ld), v10, v11, v12, v13] ∧ Ex H2 H3 ∧ H3 ld = some (.lst (laid.map V.int)) ∧ laid.length = j ∧ ∀ a ∈ laid, 0 ≤ a ∧ a < lt) ?_ ?_ ?_⟩
      · exact ⟨[], _, v10, rfl, Ex.new hld, upd_same, rfl, fun n h => nomatch h⟩
      · rintro j σ3 H3 hj ⟨laid, number, v10, rfl, e3, hl3, hll, hlr⟩
        have hml : (laid.map V.int).length = laid.length := List.length_map ..
        refine ⟨_, rfl, .inl ⟨rfl, _, SqL.of hl3⟩, _, rfl, _, rfl, _, _, rfl, rfl, hdl.1, ld, _, _, rfl, rfl, hl3, lineLt (by omega), ?_⟩
        refine ⟨_, rfl, _, rfl, _, _, rfl, rfl, hdl, ?_⟩
        refine ⟨laid ++ [number % lt], _, _, rfl, Ex.mut e3 hld, by rw [upd_same, List.map_append]; rfl, by rw [List.length_append, hll]; rfl, fun y hy => ?_⟩
        rcases List.mem_append.mp hy with z | z
        · exact hlr y z
        · rw [List.mem_singleton.mp z]; exact ⟨Int.emod_nonneg _ (by omega), Int.emod_lt_of_pos _ hdl.1⟩
      · rintro σ3 H3 ⟨laid, number, v10, rfl, e3, hl3, hll, hlr⟩
        refine ⟨_, rfl, _, rfl, _, _, rfl, rfl, hdv.1, ?_⟩
        refine ⟨_, rfl, _, rfl, _, _, rfl, rfl, hdv, ?_⟩
        refine ⟨_, rfl, _, rfl, _, _, rfl, rfl, hdl.1, ?_⟩
        refine ⟨_, rfl, _, rfl, _, _, rfl, rfl, hdl, ?_⟩
        refine ⟨_, rfl, _, rfl, _, _, rfl, rfl, hdv.1, ?_⟩
        have e03 := eq.trans e3
        refine ⟨_, rfl, .inl ⟨rfl, _, SqL.of (e03 _ _ hd')⟩, _, rfl, _, rfl, _, rfl, _, rfl, ld, _, rfl, .inl ⟨SqL.of hl3, fun t ht => ?_⟩⟩
        have et := Ex.new (o := HO.tup (laid.map V.int)) ht
        refine ⟨_, rfl, _, rfl, _, _, rfl, rfl, hdv, _, _, rfl, rfl, by show (0 : Int) < _; decide, by show 5 ≤ sizeLine; decide, fun u hu => ?_⟩
        have e05 := e03.trans (et.trans (Ex.new (o := HO.tup [.int (number % st), .int (number / st % lt), .int (number / st / lt % st), .ref t, .int (number / st / lt / st % 6)]) hu))
        have hu0 := isInts (Ex.new (o := HO.tup [.int (number % st), .int (number / st % lt), .int (number / st / lt % st), .ref t, .int (number / st / lt / st % 6)]) hu _ _ (upd_same (H := H3) (a := t) (o := HO.tup (laid.map V.int))))
        refine ⟨d, _, _, rfl, rfl, e05 _ _ hd', lineLt (by omega), ?_⟩
        have tk : Tk (upd (upd H3 t (.tup (laid.map V.int))) u (.tup [.int (number % st), .int (number / st % lt), .int (number / st / lt % st), .ref t, .int (number / st / lt / st % 6)])) _ := Tk.wr (e05 _ _ hd') (o' := .lst (xs ++ [.ref u])) fun _ q => nomatch q
        refine ⟨rows ++ [⟨number % st, number / st % lt, number / st / lt % st, laid, number / st / lt / st % 6⟩], _, _, _, _, _, _, _, _, _, rfl, Ex.mut (e.trans e05) hd, upd_same, ?_, by rw [List.length_append, hrl]; rfl, fun y hy => ?_⟩
        · rw [List.map_append]
          refine (hxs.mono ((Tk.of e05).trans tk)).app (.cons ?_ .nil)
          exact (Is.mk upd_same (.cons (Is.int _) (.cons (Is.int _) (.cons (Is.int _) (.cons hu0 (.cons (Is.int _) .nil)))))).mono tk
        · rcases List.mem_append.mp hy with z | z
          · exact hrs y z
          · rw [List.mem_singleton.mp z]
            refine ⟨⟨Int.emod_nonneg _ (by omega), Int.emod_lt_of_pos _ hdv.1⟩, ⟨Int.emod_nonneg _ (by omega), Int.emod_lt_of_pos _ hdl.1⟩, ⟨Int.emod_nonneg _ (by omega), Int.emod_lt_of_pos _ hdv.1⟩, by show laid.length ≤ 2; omega, hlr, Int.emod_nonneg _ (by decide), ?_⟩
            have := Int.emod_lt_of_pos (number / st / lt / st) (by decide : (0 : Int) < 6)
            show number / st / lt / st % 6 ≤ 5
            omega
    · rintro σ' H' ⟨rows, xs, v6, v7, v8, v9, v10, v11, v12, v13, rfl, e, hd', hxs, hrl, hrs⟩
      exact ⟨_, rfl, k d xs rows H' e hd' hxs (by omega) hrs⟩
end
end Zp
set_option maxRecDepth 100000
set_option maxHeartbeats 0
namespace Zp
open PySem L2 Zs Evl Pr
theorem int_atP {xs : List Int} {P : Int → Prop} {j : Nat} (h : j < xs.length) (hp : ∀ n ∈ xs, P n) : ∃ n, (xs.map V.int)[j]? = some (.int n) ∧ P n :=
  ⟨xs[j], by rw [List.getElem?_map, List.getElem?_eq_getElem h]; rfl, hp _ (List.getElem_mem h)⟩
theorem StepAt.off {C D : Addr} {H H' : Hp} {v : V} {s : StepD} {l : List V} (o : Off D H H') (hD : H D = some (.lst l)) : StepAt C H v s → StepAt C H' v s := fun ⟨p, dx, la, h, h2⟩ =>
  ⟨p, dx, la, h, o _ _ h2.ob (ne_of h2.ob hD (by intro z; cases z)), o _ _ h2.la (ne_of h2.la hD (by intro z; cases z))⟩
theorem Is.step {H : Hp} {v : V} {s : StepD} (h : Is H v (stD s)) : ∃ t la, v = .ref t ∧ H t = some (.tup [.int s.state, .int s.letter, .int s.goal, .ref la, .int s.weight]) ∧ H la = some (.tup (s.laid.map V.int)) := by
  obtain ⟨t, vs, rfl, ht, hl⟩ := Is.t_iff.mp h
  obtain ⟨y1, r1, rfl, hy1, hr1⟩ := IsL.cons_iff.mp hl
  obtain ⟨y2, r2, rfl, hy2, hr2⟩ := IsL.cons_iff.mp hr1
  obtain ⟨y3, r3, rfl, hy3, hr3⟩ := IsL.cons_iff.mp hr2
  obtain ⟨y4, r4, rfl, hy4, hr4⟩ := IsL.cons_iff.mp hr3
  obtain ⟨y5, r5, rfl, hy5, hr5⟩ := IsL.cons_iff.mp hr4
  cases IsL.nil_iff.mp hr5
  cases Is.i_iff.mp hy1
  cases Is.i_iff.mp hy2
  cases Is.i_iff.mp hy3
  cases Is.i_iff.mp hy5
  obtain ⟨la, rfl, hla⟩ := Is.ints_iff.mp hy4
  exact ⟨t, la, rfl, ht, hla⟩
section
variable {P : Program} {w : World} {K : PySem.W.Frag} {mg : Str → Option Value} {base : Heap}
def sp_l_machine (T : Txt K mg) : Sp := fun vs H Q _ => ∃ (nl : Addr) (ns : List Int), vs = [.ref nl, .int 0] ∧ H nl = some (.lst (ns.map V.int)) ∧ 12 ≤ ns.length ∧ (∀ n ∈ ns, 0 ≤ n) ∧
  ∀ (r rl : Addr) (xs : List V) (rows : List StepD) (st lt : Int) H', Ex H H' → H' r = some (.lst [.int st, .int lt, .ref rl]) → H' rl = some (.lst xs) → IsL H' xs (rows.map stD) → rows.length ≤ 10 → (1 ≤ st ∧ st ≤ 4) → (1 ≤ lt ∧ lt ≤ 3) → (∀ s ∈ rows, SOk st lt s) → Q (.ref r) H'
theorem ok_l_machine (T : Txt K mg) : FnOk P w K mg base CX0 2 T.f.l_machine.f T.f.l_machine.fd ["_law_numbers_here", "_law_place"] (sp_l_machine T) := by
  refine T.f.l_machine.F.ok sc_l_machine (fun vs H Q E h => ?_) (fun cdv A outer s H vs Q E hr h => ?_)
  · obtain ⟨nl, ns, rfl, _⟩ := h
    rfl
  · obtain ⟨nl, ns, rfl, hnl, hlen, hpos, k⟩ := h
    have hu := hu_of hr
    have hnd := sc_l_machine.nd
    refine ⟨_, (pss_cons (ps_set (i := 2) hnd rfl (by first | exact Or.inl rfl | exact Or.inr rfl) (pe_op op_add (pe_op op_mod (pe_ix (ix_listK (K := K) rfl) (L2.pv 0) (L2.pv 1) (fun _ _ => rfl)) (pe_int)) (pe_int)))
    (pss_cons (ps_set (i := 3) hnd rfl (by first | exact Or.inl rfl | exact Or.inr rfl) (pe_op op_add (pe_op op_mod (pe_op op_fdiv (pe_ix (ix_listK (K := K) rfl) (L2.pv 0) (L2.pv 1) (fun _ _ => rfl)) (pe_int)) (pe_int)) (pe_int)))
    (pss_one (ps_ret (pe_lst (pa_cons (L2.pv 2) (pa_cons (L2.pv 3) (pa_cons (pe_call (ok_l_rows T) (hr.mono (by decide)) (by rfl) T.f.g_l_rows T.f.l_rows.F.kp T.f.l_rows.b .nil pass0 (pa_cons (L2.pv 0) (pa_cons (pe_op op_add (L2.pv 1) (pe_int)) (pa_cons (L2.pv 2) (pa_cons (L2.pv 3) (pa_cons (pe_op op_mod (pe_op op_fdiv (pe_ix (ix_listK (K := K) rfl) (L2.pv 0) (L2.pv 1) (fun _ _ => rfl)) (pe_int)) (pe_int)) pa_nil)))))) pa_nil)))))))), ?_⟩
    obtain ⟨n, hn, hn0⟩ := int_atP (j := (0 : Int).toNat) (xs := ns) (by show 0 < _; omega) hpos
    have hm1 := Int.emod_nonneg n (by decide : (4 : Int) ≠ 0)
    have hm2 := Int.emod_lt_of_pos n (by decide : (0 : Int) < 4)
    have hl1 := Int.emod_nonneg (n / 4) (by decide : (3 : Int) ≠ 0)
    have hl2 := Int.emod_lt_of_pos (n / 4) (by decide : (0 : Int) < 3)
    have hc1 := Int.emod_nonneg (n / 12) (by decide : (11 : Int) ≠ 0)
    have hc2 := Int.emod_lt_of_pos (n / 12) (by decide : (0 : Int) < 11)
    refine ⟨_, rfl, _, rfl, nl, _, _, _, rfl, rfl, SqL.of hnl, atI_int (Int.le_refl 0) hn, _, _, rfl, rfl, by show (0 : Int) < _; decide, _, _, rfl, rfl, ?_⟩
    refine ⟨_, rfl, _, rfl, nl, _, _, _, rfl, rfl, SqL.of hnl, atI_int (Int.le_refl 0) hn, _, _, rfl, rfl, ⟨by decide, by decide⟩, _, _, rfl, rfl, by show (0 : Int) < _; decide, _, _, rfl, rfl, ?_⟩
    refine ⟨_, rfl, _, rfl, _, rfl, _, rfl, _, _, rfl, rfl, _, rfl, _, rfl, _, rfl, _, rfl, nl, _, _, _, rfl, rfl, SqL.of hnl, atI_int (Int.le_refl 0) hn, _, _, rfl, rfl, ⟨by decide, by decide⟩, _, _, rfl, rfl, by show (0 : Int) < _; decide, ?_⟩
    refine ⟨nl, ns, 1, (n / 12 % 11).toNat, n % 4 + 1, n / 4 % 3 + 1, by rw [Int.toNat_of_nonneg hc1]; rfl, hnl, by omega, by omega, hpos, ⟨by omega, by omega⟩, ⟨by omega, by omega⟩, fun rl xs rows H' e hrl hxs hrn hrs => ?_⟩
    refine ⟨by show 3 ≤ sizeLine; decide, fun r hr => ?_⟩
    have er := Ex.new (o := HO.lst [.int (n % 4 + 1), .int (n / 4 % 3 + 1), .ref rl]) hr
    exact k r rl xs rows _ _ _ (e.trans er) upd_same (er _ _ hrl) (hxs.mono (Tk.of er)) (by omega) ⟨by omega, by omega⟩ ⟨by omega, by omega⟩ hrs
theorem make_step (T : Txt K mg) {H : Hp} {R : Addr → Hp → Prop} {E : XK} {la : Addr} {s : StepD} (hla : H la = some (.tup (s.laid.map V.int)))
    (k : ∀ (x dx : Addr) (H' : Hp), Ex H H' → StepIs T.cStep.C H' x s dx la → R x H') :
    ∀ x dx, H x = none → H dx = none → dx ≠ x → sp_Step_init T (.ref x :: ([.int s.state, .int s.letter, .int s.goal, .ref la, .int s.weight] ++ [])) (upd (upd H dx (.own x)) x (.ins T.cStep.C dx [])) (fun v H2 => v = .non ∧ R x H2) E := by
  intro x dx hx hdx hne
  have e := ex_made (o := HO.ins T.cStep.C dx []) (o' := HO.own x) hx hdx
  exact ⟨x, dx, la, s, rfl, upd_same, e _ _ hla, fun H' o hs => ⟨rfl, k x dx H' (o.ex e hx) hs⟩⟩
theorem make_machine (T : Txt K mg) {H : Hp} {R : Addr → Hp → Prop} {E : XK} {l : Addr} {M : Mach} {xs : List V} (hl : H l = some (.lst xs)) (hlen : xs.length = M.steps.length)
    (hst : ∀ (i : Nat) (v : V) (s : StepD), xs[i]? = some v → M.steps[i]? = some s → StepAt T.cStep.C H v s) (hok : MOk M) (hsz : M.steps.length ≤ 10)
    (k : ∀ (x : Addr) (H' : Hp), Ex H H' → MachAt T.cMachine.C T.cStep.C H' x M → R x H') :
    ∀ x dx, H x = none → H dx = none → dx ≠ x → sp_Machine_init T (.ref x :: ([.int M.st, .int M.lt, .ref l] ++ [])) (upd (upd H dx (.own x)) x (.ins T.cMachine.C dx [])) (fun v H2 => v = .non ∧ R x H2) E := by
  intro x dx hx hdx hne
  have e := ex_made (o := HO.ins T.cMachine.C dx []) (o' := HO.own x) hx hdx
  exact ⟨x, dx, l, M, xs, rfl, upd_same, e _ _ hl, hlen, fun i v s h1 h2 => (hst i v s h1 h2).mono e, hok, hsz, fun H' o hm => ⟨rfl, k x H' (o.ex e hx) hm⟩⟩
theorem mok_of {st lt : Int} {rows : List StepD} (h1 : 1 ≤ st) (h2 : 1 ≤ lt) (h : ∀ s ∈ rows, SOk st lt s) : MOk ⟨st, lt, rows⟩ :=
  ⟨h1, h2, fun s hs => (h s hs).weight.2, fun s hs => ⟨(h s hs).state, (h s hs).letter, (h s hs).goal, (h s hs).two, (h s hs).laid, (h s hs).weight.1⟩⟩
def sp_l_made (T : Txt K mg) : Sp := fun vs H Q _ => ∃ (pa rl : Addr) (xs : List V) (rows : List StepD) (st lt : Int), vs = [.ref pa] ∧ H pa = some (.lst [.int st, .int lt, .ref rl]) ∧ H rl = some (.lst xs) ∧ IsL H xs (rows.map stD) ∧ rows.length ≤ 10 ∧ 1 ≤ st ∧ 1 ≤ lt ∧ (∀ s ∈ rows, SOk st lt s) ∧
  ∀ (m : Addr) H', Ex H H' → MachAt T.cMachine.C T.cStep.C H' m ⟨st, lt, rows⟩ → Q (.ref m) H'
theorem ok_l_made (T : Txt K mg) : FnOk P w K mg base CX0 4 T.f.l_made.f T.f.l_made.fd ["_law_parts"] (sp_l_made T) := by
  refine T.f.l_made.F.ok sc_l_made (fun vs H Q E h => ?_) (fun cdv A outer s H vs Q E hr h => ?_)
  · obtain ⟨pa, rl, xs, rows, st, lt, rfl, _⟩ := h
    rfl
  · obtain ⟨pa, rl, xs, rows, st, lt, rfl, hpa, hrl, hxs, hrn, h1, h2, hrs, k⟩ := h
    have hu := hu_of hr
    have hnd := sc_l_made.nd
    refine ⟨_, (pss_one (ps_ret (pe_make T.cMachine.made (ok_Machine_init T) (hr.mono (by decide)) (by rfl) T.cMachine.mg T.cMachine.init.b .nil pass0 (pa_cons (pe_ix (ix_listK (K := K) rfl) (L2.pv 0) (pe_int) (fun _ _ => rfl)) (pa_cons (pe_ix (ix_listK (K := K) rfl) (L2.pv 0) (pe_int) (fun _ _ => rfl)) (pa_cons (pe_lc (own := [("_law_row", 1)]) (g := (gName 1)) (tt := tYes) rfl hnd (pi_listK (K := K) rfl (pe_ix (ix_listK (K := K) rfl) (L2.pv 0) (pe_int) (fun _ _ => rfl))) (blkOk_by (own := [("_law_row", 1)]) (N := nm_l_made) (sc := defScope s_l_made) (by decide +kernel)) (fun _ _ _ _ _ => (pg_name (i := 1) hnd rfl (by first | exact Or.inl rfl | exact Or.inr rfl))) (fun _ _ _ _ _ => pts_nil) (fun _ _ _ _ _ => (pe_make T.cStep.made (ok_Step_init T) (hr.mono (by decide)) (by rfl) T.cStep.mg T.cStep.init.b .nil pass0 (pa_cons (pe_ix (ix_tupK (K := K) rfl) (L2.pv 1) (pe_int) (fun _ _ => rfl)) (pa_cons (pe_ix (ix_tupK (K := K) rfl) (L2.pv 1) (pe_int) (fun _ _ => rfl)) (pa_cons (pe_ix (ix_tupK (K := K) rfl) (L2.pv 1) (pe_int) (fun _ _ => rfl)) (pa_cons (pe_ix (ix_tupK (K := K) rfl) (L2.pv 1) (pe_int) (fun _ _ => rfl)) (pa_cons (pe_ix (ix_tupK (K := K) rfl) (L2.pv 1) (pe_int) (fun _ _ => rfl)) pa_nil)))))))) pa_nil)))))), ?_⟩
    have hxn := hxs.len
    rw [List.length_map] at hxn
    refine ⟨_, rfl, pa, _, _, _, rfl, rfl, SqL.of hpa, rfl, _, rfl, pa, _, _, _, rfl, rfl, SqL.of hpa, rfl, _, rfl, pa, _, _, _, rfl, rfl, SqL.of hpa, rfl, rl, rfl, ⟨_, SqL.of hrl⟩, fun D hD => ?_⟩
    refine lcR (walk_list (xs := xs)) hD (by omega) (fun H' e => SqL.of (e _ _ hrl)) (fun i acc H' => acc.length = i ∧ ∀ (j : Nat) (v : V) (s : StepD), acc[j]? = some v → rows[j]? = some s → StepAt T.cStep.C H' v s) (fun i acc H H' o ⟨l, hl⟩ z => ⟨z.1, fun j v s a b => (z.2 j v s a b).off o hl⟩) ⟨rfl, fun j v s a => by simp at a⟩ ?_ ?_
    · rintro i acc x H1 H2 B B' hi hl' e1 hD1 ⟨ra, rb⟩ ⟨rfl, hx⟩ kB _
      obtain ⟨d0, hd0, hx0⟩ := (hxs.mono (Tk.of e1)).get hx
      obtain ⟨s, hs, rfl⟩ := tup_get hd0
      obtain ⟨t, la, rfl, ht, hla⟩ := hx0.step
      refine ⟨rfl, ⟨_, rfl, t, _, _, _, rfl, rfl, SqT.of ht, rfl, _, rfl, t, _, _, _, rfl, rfl, SqT.of ht, rfl, _, rfl, t, _, _, _, rfl, rfl, SqT.of ht, rfl, _, rfl, t, _, _, _, rfl, rfl, SqT.of ht, rfl, _, rfl, t, _, _, _, rfl, rfl, SqT.of ht, rfl, ?_⟩⟩
      refine make_step T (s := s) hla fun x dx H3 e3 hs3 => ?_
      refine kB _ _ e3 ⟨by rw [List.length_append, ra]; rfl, fun j v s' a b => ?_⟩
      by_cases hj : j < acc.length
      · rw [List.getElem?_append_left hj] at a
        exact (rb j v s' a b).mono e3
      · rw [List.getElem?_append_right (by omega)] at a
        have hj2 : j = i := by
          have := (List.getElem?_eq_some_iff.mp a).1
          simp at this
          omega
        subst hj2
        rw [show j - acc.length = 0 by omega] at a
        cases a
        rw [hs] at b
        cases b
        exact ⟨x, dx, la, rfl, hs3⟩
    · rintro acc H1 e1 hD1 _ ⟨ra, rb⟩
      refine make_machine T (M := ⟨st, lt, rows⟩) hD1 (by show acc.length = rows.length; omega) rb (mok_of h1 h2 hrs) hrn fun x H2 e2 hM => ?_
      exact k x H2 (e1.trans e2) hM
end
end Zp
set_option maxRecDepth 100000
set_option maxHeartbeats 0
namespace Zp
open PySem L2 Zs Evl Pr
section
variable {P : Program} {w : World} {K : PySem.W.Frag} {mg : Str → Option Value} {base : Heap}
def sp_l_configuration (T : Txt K mg) : Sp := fun vs H Q _ => ∃ (n st lt : Int), vs = [.int n, .int st, .int lt, .int 4] ∧ (1 ≤ st ∧ st ≤ 1000) ∧ (1 ≤ lt ∧ lt ≤ 1000) ∧
  ∀ (v : V) (c : Conf) H', Ex H H' → Is H' v (cD c) → (0 ≤ c.1 ∧ c.1 < st) → (∀ l ∈ c.2, 0 ≤ l ∧ l < lt) → c.2.length ≤ 4 → Q v H'
theorem ok_l_configuration (T : Txt K mg) : FnOk P w K mg base CX0 1 T.f.l_configuration.f T.f.l_configuration.fd ["_law_number", "_law_states", "_law_letters", "_law_most"] (sp_l_configuration T) := by
  refine T.f.l_configuration.F.ok sc_l_configuration (fun vs H Q E h => ?_) (fun cdv A outer s H vs Q E hr h => ?_)
  · obtain ⟨n, st, lt, rfl, _⟩ := h
    rfl
  · obtain ⟨n, st, lt, rfl, hst, hlt, k⟩ := h
    have hu := hu_of hr
    have hnd := sc_l_configuration.nd
    refine ⟨_, (pss_cons (ps_set (i := 4) hnd rfl (by first | exact Or.inl rfl | exact Or.inr rfl) (pe_lst pa_nil))
    (pss_cons (ps_set (i := 5) hnd rfl (by first | exact Or.inl rfl | exact Or.inr rfl) (pe_op op_fdiv (pe_op op_fdiv (L2.pv 0) (pe_int)) (L2.pv 1)))
    (pss_cons (ps_for PassesOwn.never rfl (pi_range1 (by rfl) T.b.range (pa_cons (pe_op op_mod (pe_op op_mod (L2.pv 0) (pe_int)) (pe_op op_add (L2.pv 3) (pe_int))) pa_nil)) (pg_name (i := 6) hnd rfl (by first | exact Or.inl rfl | exact Or.inr rfl))
      (pss_cons (ps_expr (pe_bm PySem.F.plainAttrs_list PySem.F.slot_list_append PySem.F.type_list_append mt_append (L2.pv 4) (pa_cons (pe_op op_mod (L2.pv 5) (L2.pv 2)) pa_nil)))
    (pss_one (ps_set (i := 5) hnd rfl (by first | exact Or.inl rfl | exact Or.inr rfl) (pe_op op_add (pe_op op_fdiv (L2.pv 5) (L2.pv 2)) (pe_op op_mul (pe_int) (L2.pv 6)))))))
    (pss_one (ps_ret (pe_tup (pa_cons (pe_op op_mod (pe_op op_fdiv (L2.pv 0) (pe_int)) (L2.pv 1)) (pa_cons (pe_callTy call_tuple_of (by rfl) T.b.tuple (by decide +kernel) (pa_cons (L2.pv 4) pa_nil)) pa_nil)))))))), ?_⟩
    have hdv : (0 : Int) < st ∧ st < 1073741824 := ⟨by omega, by omega⟩
    have hdl : (0 : Int) < lt ∧ lt < 1073741824 := ⟨by omega, by omega⟩
    have hc1 := Int.emod_nonneg (n % 8) (by decide : (4 + 1 : Int) ≠ 0)
    have hc2 := Int.emod_lt_of_pos (n % 8) (by decide : (0 : Int) < 4 + 1)
    refine ⟨Nat.zero_le _, fun d hd => ?_⟩
    have ed := Ex.new (o := HO.lst []) hd
    refine ⟨_, rfl, _, _, rfl, rfl, ⟨by decide, by decide⟩, _, rfl, _, _, rfl, rfl, hdv, ?_⟩
    refine ⟨_, rfl, _, _, rfl, rfl, by show (0 : Int) < _; decide, _, rfl, _, _, rfl, rfl, _, _, rfl, rfl, by show (0 : Int) < _; decide, n % 8 % (4 + 1), rfl, by omega, by omega, for_range (lo := 0) (n := (n % 8 % (4 + 1)).toNat)
      (fun i σ' H' => ∃ (pile : List Int) (rest : Int) (v6 : Option V), σ' = [some (.int n), some (.int st), some (.int lt), some (.int 4), some (.ref d), some (.int rest), v6] ∧ Ex H H' ∧ H' d = some (.lst (pile.map V.int)) ∧ pile.length = i ∧ ∀ l ∈ pile, 0 ≤ l ∧ l < lt) ?_ ?_ ?_⟩
    · exact ⟨[], _, none, rfl, ed, upd_same, rfl, fun n h => nomatch h⟩
    · rintro i σ' H' hi ⟨pile, rest, v6, rfl, e, hd', hpl, hpr⟩
      have hml : (pile.map V.int).length = pile.length := List.length_map ..
      refine ⟨_, rfl, .inl ⟨rfl, _, SqL.of hd'⟩, _, rfl, _, rfl, _, _, rfl, rfl, hdl.1, d, _, _, rfl, rfl, hd', lineLt (by omega), ?_⟩
      refine ⟨_, rfl, _, rfl, _, _, rfl, rfl, hdl, _, rfl, _, _, rfl, rfl, .inl ⟨by decide, by decide⟩, _, _, rfl, rfl, ?_⟩
      refine ⟨pile ++ [rest % lt], _, _, rfl, Ex.mut e hd, by rw [upd_same, List.map_append]; rfl, by rw [List.length_append, hpl]; rfl, fun y hy => ?_⟩
      rcases List.mem_append.mp hy with z | z
      · exact hpr y z
      · rw [List.mem_singleton.mp z]; exact ⟨Int.emod_nonneg _ (by omega), Int.emod_lt_of_pos _ hdl.1⟩
    · rintro σ' H' ⟨pile, rest, v6, rfl, e, hd', hpl, hpr⟩
      refine ⟨_, rfl, _, _, rfl, rfl, ⟨by decide, by decide⟩, _, rfl, _, _, rfl, rfl, hdv.1, _, rfl, d, _, rfl, .inl ⟨SqL.of hd', fun t ht => ?_⟩⟩
      have et := Ex.new (o := HO.tup (pile.map V.int)) ht
      refine ⟨by show 2 ≤ sizeLine; decide, fun r hr => ?_⟩
      have er := Ex.new (o := HO.tup [.int (n / 8 % st), .ref t]) hr
      exact k (.ref r) (n / 8 % st, pile) _ (e.trans (et.trans er)) (Is.conf_iff.mpr ⟨r, t, rfl, upd_same, er _ _ upd_same⟩) ⟨Int.emod_nonneg _ (by omega), Int.emod_lt_of_pos _ hdv.1⟩ hpr (by show pile.length ≤ 4; omega)
end
end Zp
set_option maxRecDepth 100000
set_option maxHeartbeats 0
namespace Zp
open PySem L2 Zs Evl Pr
def pows : List Int := [1, 3, 9, 27, 81, 243, 729]
theorem pow_at {i : Nat} (h : i < 7) : ∃ p : Int, (0 < p ∧ p < 1073741824) ∧ (pows.map V.int)[i]? = some (.int p) := by
  have : i = 0 ∨ i = 1 ∨ i = 2 ∨ i = 3 ∨ i = 4 ∨ i = 5 ∨ i = 6 := by omega
  rcases this with rfl | rfl | rfl | rfl | rfl | rfl | rfl <;> exact ⟨_, ⟨by decide, by decide⟩, rfl⟩
section
variable {P : Program} {w : World} {K : PySem.W.Frag} {mg : Str → Option Value} {base : Heap}
def sp_l_net (T : Txt K mg) : Sp := fun vs H Q _ => ∃ (nl : Addr) (ns : List Int) (st lt : Int), vs = [.ref nl, .int 14, .int st, .int lt] ∧ H nl = some (.lst (ns.map V.int)) ∧ 25 ≤ ns.length ∧ (∀ n ∈ ns, 0 ≤ n) ∧ (1 ≤ st ∧ st ≤ 4) ∧ (1 ≤ lt ∧ lt ≤ 3) ∧
  ∀ (r el nl' : Addr) (N : NetD) (es : List V) H', Ex H H' → H' r = some (.lst [.int N.nd, .ref el, .ref nl']) → H' el = some (.lst es) → IsL H' es (N.ed.map eD) → H' nl' = some (.lst (N.en.map V.int)) → NetOk N → N.st = st → N.lt = lt → N.nd ≤ 7 → N.ed.length ≤ 8 → N.en.length ≤ 7 → (∀ e ∈ N.ed, st ≤ e.2.2) → Q (.ref r) H'
theorem ok_l_net (T : Txt K mg) : FnOk P w K mg base CX0 1 T.f.l_net.f T.f.l_net.fd ["_law_numbers_here", "_law_place", "_law_states", "_law_letters"] (sp_l_net T) := by
  refine T.f.l_net.F.ok sc_l_net (fun vs H Q E h => ?_) (fun cdv A outer s H vs Q E hr h => ?_)
  · obtain ⟨nl, ns, st, lt, rfl, _⟩ := h
    rfl
  · obtain ⟨nl, ns, st, lt, rfl, hnl, hlen, hpos, hst, hlt, k⟩ := h
    have hu := hu_of hr
    have hnd := sc_l_net.nd
    refine ⟨_, (pss_cons (ps_set (i := 4) hnd rfl (by first | exact Or.inl rfl | exact Or.inr rfl) (pe_op op_mod (pe_ix (ix_listK (K := K) rfl) (L2.pv 0) (L2.pv 1) (fun _ _ => rfl)) (pe_int)))
    (pss_cons (ps_set (i := 5) hnd rfl (by first | exact Or.inl rfl | exact Or.inr rfl) (pe_op op_add (L2.pv 2) (L2.pv 4)))
    (pss_cons (ps_set (i := 6) hnd rfl (by first | exact Or.inl rfl | exact Or.inr rfl) (pe_lst pa_nil))
    (pss_cons (ps_for PassesOwn.never rfl (pi_range1 (by rfl) T.b.range (pa_cons (pe_op op_mul (pe_op op_mod (pe_op op_fdiv (pe_ix (ix_listK (K := K) rfl) (L2.pv 0) (L2.pv 1) (fun _ _ => rfl)) (pe_int)) (pe_int)) (pe_callTy call_int1 (by rfl) T.b.int (by decide +kernel) (pa_cons (pe_cmpR op_gt (L2.pv 4) (pe_int) (nomark _)) pa_nil))) pa_nil)) (pg_name (i := 7) hnd rfl (by first | exact Or.inl rfl | exact Or.inr rfl))
      (pss_cons (ps_set (i := 8) hnd rfl (by first | exact Or.inl rfl | exact Or.inr rfl) (pe_ix (ix_listK (K := K) rfl) (L2.pv 0) (pe_op op_add (pe_op op_add (L2.pv 1) (pe_int)) (L2.pv 7)) (fun _ _ => rfl)))
    (pss_one (ps_expr (pe_bm PySem.F.plainAttrs_list PySem.F.slot_list_append PySem.F.type_list_append mt_append (L2.pv 6) (pa_cons (pe_tup (pa_cons (pe_op op_mod (L2.pv 8) (L2.pv 5)) (pa_cons (pe_op op_mod (pe_op op_fdiv (L2.pv 8) (L2.pv 5)) (L2.pv 3)) (pa_cons (pe_op op_add (L2.pv 2) (pe_op op_mod (pe_op op_fdiv (pe_op op_fdiv (L2.pv 8) (L2.pv 5)) (L2.pv 3)) (L2.pv 4))) pa_nil)))) pa_nil))))))
    (pss_cons (ps_setLc (i := 9) (own := [("_law_k", 7)]) (g := (gName 7)) (tt := _) rfl hnd rfl rfl (sw_true rfl rfl rfl (by decide +kernel)) (pi_range1 (by rfl) T.b.range (pa_cons (L2.pv 5) pa_nil)) (blkOk_by (own := [("_law_k", 7)]) (N := nm_l_net) (sc := defScope s_l_net) (by decide +kernel)) (fun _ _ _ _ _ => (pg_name (i := 7) hnd rfl (by first | exact Or.inl rfl | exact Or.inr rfl))) (fun _ _ _ _ _ => pts_one (pt_cmpR op_eq (pe_op op_mod (pe_op op_fdiv (pe_ix (ix_listK (K := K) rfl) (L2.pv 0) (pe_op op_add (L2.pv 1) (pe_int)) (fun _ _ => rfl)) (pe_ix (ix_listK (K := K) rfl) (pe_lst (pa_cons (pe_int) (pa_cons (pe_int) (pa_cons (pe_int) (pa_cons (pe_int) (pa_cons (pe_int) (pa_cons (pe_int) (pa_cons (pe_int) pa_nil)))))))) (L2.pv 7) (fun _ _ => rfl))) (pe_int)) (pe_int) (nomark _))) (fun _ _ _ _ _ => (L2.pv 7)))
    (pss_one (ps_ret (pe_lst (pa_cons (L2.pv 5) (pa_cons (L2.pv 6) (pa_cons (L2.pv 9) pa_nil))))))))))), ?_⟩
    obtain ⟨n, hn, hn0⟩ := int_atP (j := (14 : Int).toNat) (xs := ns) (by show 14 < _; omega) hpos
    have h14 : (0 : Int) ≤ 14 := by decide
    have hx1 := Int.emod_nonneg n (by decide : (4 : Int) ≠ 0)
    have hx2 := Int.emod_lt_of_pos n (by decide : (0 : Int) < 4)
    have hq1 := Int.emod_nonneg (n / 4) (by decide : (9 : Int) ≠ 0)
    have hq2 := Int.emod_lt_of_pos (n / 4) (by decide : (0 : Int) < 9)
    refine ⟨_, rfl, _, rfl, nl, _, _, _, rfl, rfl, SqL.of hnl, atI_int h14 hn, _, _, rfl, rfl, by show (0 : Int) < _; decide, ?_⟩
    refine ⟨_, rfl, _, rfl, _, _, rfl, rfl, ?_⟩
    have hdn : (0 : Int) < st + (n % 4) ∧ st + (n % 4) < 1073741824 := ⟨by omega, by omega⟩
    have hdl : (0 : Int) < lt ∧ lt < 1073741824 := ⟨by omega, by omega⟩
    refine ⟨Nat.zero_le _, fun d hd => ?_⟩
    have ed := Ex.new (o := HO.lst []) hd
    refine ⟨_, rfl, _, rfl, nl, _, _, _, rfl, rfl, SqL.of (ed _ _ hnl), atI_int h14 hn, _, _, rfl, rfl, ⟨by decide, by decide⟩, _, _, rfl, rfl, by show (0 : Int) < _; decide, _, rfl, _, _, rfl, rfl, .inr ⟨_, rfl, ?_⟩⟩
    have hprod : ∃ pr : Nat, n / 4 % 9 * (if decide (0 < n % 4) = true then (1 : Int) else 0) = (pr : Int) ∧ pr ≤ 8 ∧ (0 < pr → 0 < n % 4) := by
      by_cases z : 0 < n % 4
      · rw [decide_eq_true z, if_pos rfl, Int.mul_one]
        exact ⟨(n / 4 % 9).toNat, by omega, by omega, fun _ => z⟩
      · rw [decide_eq_false z, if_neg (by decide), Int.mul_zero]
        exact ⟨0, rfl, by omega, fun h => absurd h (by decide)⟩
    obtain ⟨pr, hpr, hp8, hpx⟩ := hprod
    refine ⟨_, _, rfl, rfl, .inl ⟨by omega, by omega⟩, n / 4 % 9 * (if decide (0 < n % 4) = true then (1 : Int) else 0), rfl, by rw [hpr]; omega, by rw [hpr]; omega, ?_⟩
    rw [hpr]
    refine for_range (lo := 0) (n := (pr : Int).toNat)
      (fun i σ' H' => ∃ (edl : List Edge) (xs : List V) (v7 v8 : Option V), σ' = [some (.ref nl), some (.int 14), some (.int st), some (.int lt), some (.int (n % 4)), some (.int (st + (n % 4))), some (.ref d), v7, v8, none] ∧ Ex H H' ∧ H' d = some (.lst xs) ∧ IsL H' xs (edl.map eD) ∧ edl.length = i ∧ ∀ e ∈ edl, (0 ≤ e.1 ∧ e.1 < st + (n % 4)) ∧ (0 ≤ e.2.1 ∧ e.2.1 < lt) ∧ st ≤ e.2.2 ∧ e.2.2 < st + (n % 4)) ?_ ?_ ?_
    · exact ⟨[], [], none, none, rfl, ed, upd_same, .nil, rfl, fun n h => nomatch h⟩
    · rintro i σ' H' hi ⟨edl, xs, v7, v8, rfl, e, hd', hxs, hel, her⟩
      have hxn := hxs.len
      rw [List.length_map] at hxn
      have hex : (0 : Int) < (n % 4) ∧ (n % 4) < 1073741824 := ⟨hpx (by omega), by omega⟩
      obtain ⟨y, hy, hy0⟩ := int_atP (j := ((14 : Int) + 1 + (0 + (i : Int))).toNat) (xs := ns) (by omega) hpos
      refine ⟨_, rfl, _, rfl, _, _, rfl, rfl, _, rfl, _, _, rfl, rfl, nl, _, _, _, rfl, rfl, SqL.of (e _ _ hnl), atI_int (by omega) hy, ?_⟩
      refine ⟨_, rfl, .inl ⟨rfl, _, SqL.of hd'⟩, _, rfl, _, rfl, _, _, rfl, rfl, hdn.1, _, rfl, _, rfl, _, _, rfl, rfl, hdn, _, rfl, _, _, rfl, rfl, hdl.1, _, rfl, _, rfl, _, rfl, _, _, rfl, rfl, hdn, _, rfl, _, _, rfl, rfl, hdl, _, rfl, _, _, rfl, rfl, hex.1, _, _, rfl, rfl, ?_⟩
      refine ⟨by show 3 ≤ sizeLine; decide, fun u hu => ?_⟩
      have eu := Ex.new (o := HO.tup [.int (y % (st + (n % 4))), .int (y / (st + (n % 4)) % lt), .int (st + y / (st + (n % 4)) / lt % (n % 4))]) hu
      have e2 := e.trans eu
      have hd2 := eu _ _ hd'
      have tk := Tk.wr (o' := .lst (xs ++ [V.ref u])) hd2 fun _ q => nomatch q
      refine ⟨d, _, _, rfl, rfl, hd2, lineLt (by omega), ?_⟩
      refine ⟨edl ++ [(y % (st + (n % 4)), y / (st + (n % 4)) % lt, st + y / (st + (n % 4)) / lt % (n % 4))], _, _, _, rfl, Ex.mut e2 hd, upd_same, ?_, by rw [List.length_append, hel]; rfl, fun z hz => ?_⟩
      · rw [List.map_append]
        exact (hxs.mono ((Tk.of eu).trans tk)).app (.cons ((isEdge (e := (y % (st + (n % 4)), y / (st + (n % 4)) % lt, st + y / (st + (n % 4)) / lt % (n % 4))) upd_same).mono tk) .nil)
      · rcases List.mem_append.mp hz with q | q
        · exact her z q
        · rw [List.mem_singleton.mp q]
          have a1 := Int.emod_nonneg (y / (st + (n % 4)) / lt) (by omega : (n % 4) ≠ 0)
          have a2 := Int.emod_lt_of_pos (y / (st + (n % 4)) / lt) hex.1
          refine ⟨⟨Int.emod_nonneg _ (by omega), Int.emod_lt_of_pos _ hdn.1⟩, ⟨Int.emod_nonneg _ (by omega), Int.emod_lt_of_pos _ hdl.1⟩, ?_, ?_⟩
          · show st ≤ st + y / (st + (n % 4)) / lt % (n % 4)
            omega
          · show st + y / (st + (n % 4)) / lt % (n % 4) < st + (n % 4)
            omega
    · rintro σ' H' ⟨edl, xs, v7, v8, rfl, e, hd', hxs, hel, her⟩
      obtain ⟨y, hy, hy0⟩ := int_atP (j := ((14 : Int) + 10).toNat) (xs := ns) (by show 24 < _; omega) hpos
      refine ⟨_, rfl, st + (n % 4), rfl, by omega, by omega, fun D hD => ?_⟩
      refine lcR (walk_range (lo := 0) (n := (st + (n % 4)).toNat)) hD (by omega) (fun _ _ => trivial) (fun i acc H' => ∃ en : List Int, acc = en.map V.int ∧ ∀ z ∈ en, 0 ≤ z ∧ z < st + (n % 4)) (fun _ _ _ _ _ _ z => z) ⟨[], rfl, fun n h => nomatch h⟩ ?_ ?_
      · rintro i acc x H1 H2 B B' hi hl' e1 hD1 ⟨en, rfl, hen⟩ ⟨rfl, hx⟩ kB kN
        have hx' : x = .int (i : Int) := hx.trans (congrArg V.int (Int.zero_add _))
        subst hx'
        obtain ⟨p, hp, hpa⟩ := pow_at (i := i) (by omega)
        refine ⟨rfl, ⟨_, rfl, _, rfl, _, _, rfl, rfl, nl, _, _, _, rfl, rfl, SqL.of (e1 _ _ (e _ _ hnl)), atI_int (by decide) hy, by show 7 ≤ sizeLine; decide, fun q hq => ?_⟩⟩
        have eq := Ex.new (o := HO.lst (pows.map V.int)) hq
        refine ⟨_, rfl, q, _, _, _, rfl, rfl, SqL.of upd_same, atI_int (by omega) hpa, _, _, rfl, rfl, hp, _, _, rfl, rfl, by show (0 : Int) < _; decide, rfl, _, rfl, iteD (fun _ => ?_) fun _ => ?_⟩
        · refine ⟨_, rfl, kB _ _ eq ⟨en ++ [(i : Int)], by rw [List.map_append]; rfl, fun z hz => ?_⟩⟩
          rcases List.mem_append.mp hz with u | u
          · exact hen z u
          · rw [List.mem_singleton.mp u]; omega
        · exact kN _ eq ⟨en, rfl, hen⟩
      · rintro acc H1 e1 hD1 hal ⟨en, rfl, hen⟩
        rw [List.length_map] at hal
        have e2 := e.trans e1
        refine ⟨_, rfl, _, rfl, _, rfl, by show 3 ≤ sizeLine; decide, fun r hr => ?_⟩
        have er := Ex.new (o := HO.lst [.int (st + (n % 4)), .ref d, .ref D]) hr
        have e1r := e1.trans er
        exact k r d D ⟨st, lt, st + (n % 4), edl, en⟩ xs _ (e.trans e1r) upd_same (e1r _ _ hd') (hxs.mono (Tk.of e1r)) (er _ _ hD1) ⟨hst.1, hlt.1, by show st ≤ st + (n % 4); omega, fun z hz => by
          obtain ⟨z1, z2, z3, z4⟩ := her z hz
          exact ⟨z1, z2, by omega, z4⟩, hen⟩ rfl rfl (by show st + (n % 4) ≤ 7; omega) (by show edl.length ≤ 8; omega) (by show en.length ≤ 7; omega) fun z hz => (her z hz).2.2.1
def sp_l_net_made (T : Txt K mg) : Sp := fun vs H Q _ => ∃ (pa qa rl el nl : Addr) (N : NetD) (es : List V), vs = [.ref pa, .ref qa] ∧ H pa = some (.lst [.int N.st, .int N.lt, .ref rl]) ∧ H qa = some (.lst [.int N.nd, .ref el, .ref nl]) ∧ H el = some (.lst es) ∧ IsL H es (N.ed.map eD) ∧ H nl = some (.lst (N.en.map V.int)) ∧ NetOk N ∧ N.ed.length < 4000 ∧ N.en.length < 4000 ∧
  ∀ (x : Addr) (N' : NetD) H', Ex H H' → NetAt T.cNet.C H' x N' → N'.st = N.st → N'.lt = N.lt → N'.nd = N.nd → (∀ e, e ∈ N'.ed ↔ e ∈ N.ed) → (∀ e, e ∈ N'.en ↔ e ∈ N.en) → N'.ed.length ≤ N.ed.length → N'.en.length ≤ N.en.length → Q (.ref x) H'
theorem ok_l_net_made (T : Txt K mg) : FnOk P w K mg base CX0 4 T.f.l_net_made.f T.f.l_net_made.fd ["_law_parts", "_law_net_here"] (sp_l_net_made T) := by
  refine T.f.l_net_made.F.ok sc_l_net_made (fun vs H Q E h => ?_) (fun cdv A outer s H vs Q E hr h => ?_)
  · obtain ⟨pa, qa, rl, el, nl, N, es, rfl, _⟩ := h
    rfl
  · obtain ⟨pa, qa, rl, el, nl, N, es, rfl, hpa, hqa, hel, hes, hnl, hok, h1, h2, k⟩ := h
    have hu := hu_of hr
    have hnd := sc_l_net_made.nd
    refine ⟨_, (pss_one (ps_ret (pe_make T.cNet.made (ok_Net_init T) (hr.mono (by decide)) (by rfl) T.cNet.mg T.cNet.init.b .nil pass0 (pa_cons (pe_ix (ix_listK (K := K) rfl) (L2.pv 0) (pe_int) (fun _ _ => rfl)) (pa_cons (pe_ix (ix_listK (K := K) rfl) (L2.pv 0) (pe_int) (fun _ _ => rfl)) (pa_cons (pe_ix (ix_listK (K := K) rfl) (L2.pv 1) (pe_int) (fun _ _ => rfl)) (pa_cons (pe_callTy call_list_of (by rfl) T.b.list (by decide +kernel) (pa_cons (pe_ix (ix_listK (K := K) rfl) (L2.pv 1) (pe_int) (fun _ _ => rfl)) pa_nil)) (pa_cons (pe_callTy call_list_of (by rfl) T.b.list (by decide +kernel) (pa_cons (pe_ix (ix_listK (K := K) rfl) (L2.pv 1) (pe_int) (fun _ _ => rfl)) pa_nil)) pa_nil)))))))), ?_⟩
    refine ⟨_, rfl, pa, _, _, _, rfl, rfl, SqL.of hpa, rfl, _, rfl, pa, _, _, _, rfl, rfl, SqL.of hpa, rfl, _, rfl, qa, _, _, _, rfl, rfl, SqL.of hqa, rfl, ?_⟩
    refine ⟨_, rfl, qa, _, _, _, rfl, rfl, SqL.of hqa, rfl, el, _, rfl, .inl (SqL.of hel), fun l1 hl1 => ?_⟩
    have e1 := Ex.new (o := HO.lst es) hl1
    refine ⟨_, rfl, qa, _, _, _, rfl, rfl, SqL.of (e1 _ _ hqa), rfl, nl, _, rfl, .inl (SqL.of (e1 _ _ hnl)), fun l2 hl2 => ?_⟩
    have e2 := Ex.new (o := HO.lst (N.en.map V.int)) hl2
    refine make_net T (N := N) (.inl (e2 _ _ upd_same)) (hes.mono (Tk.of (e1.trans e2))) (.inl upd_same) hok h1 h2 fun x N' H' e3 _ hN a1 a2 a3 a4 a5 a6 a7 => ?_
    exact k x N' H' ((e1.trans e2).trans e3) hN a1 a2 a3 a4 a5 a6 a7
end
end Zp
set_option maxRecDepth 100000
set_option maxHeartbeats 0
namespace Zp
open PySem L2 Zs Evl Pr
theorem path_snoc_iff {E : ES} {n l x : Int} {u : List Int} : Path E n (u ++ [l]) x ↔ ∃ m, Path E n u m ∧ E m l x := by
  constructor
  · intro h
    obtain ⟨m, h1, h2⟩ := Path.split h
    obtain ⟨y, h3, h4⟩ := Path.uncons h2
    cases h4.nil_eq
    exact ⟨m, h1, h3⟩
  · rintro ⟨m, h1, h2⟩
    exact h1.snoc h2
section
variable {P : Program} {w : World} {K : PySem.W.Frag} {mg : Str → Option Value} {base : Heap}
def sp_l_accepts (T : Txt K mg) : Sp := fun vs H Q _ => ∃ (a ta tb : Addr) (v : V) (nd : V) (N : NetD) (c : Conf) (es : List V), vs = [.ref a, v] ∧ H a = some (.lst [nd, .ref ta, .ref tb]) ∧ H ta = some (.tup es) ∧ IsL H es (N.ed.map eD) ∧ H tb = some (.tup (N.en.map V.int)) ∧ Is H v (cD c) ∧ N.ed.length ≤ 4000 ∧
  ∀ (b : Bool) H', Ex H H' → (b = true ↔ Acc N c) → Q (.bl b) H'
theorem ok_l_accepts (T : Txt K mg) : FnOk P w K mg base CX0 1 T.f.l_accepts.f T.f.l_accepts.fd ["_law_net_here", "_law_configuration_here"] (sp_l_accepts T) := by
  refine T.f.l_accepts.F.ok sc_l_accepts (fun vs H Q E h => ?_) (fun cdv A outer s H vs Q E hr h => ?_)
  · obtain ⟨a, ta, tb, v, nd, N, c, es, rfl, _⟩ := h
    rfl
  · obtain ⟨a, ta, tb, v, nd, N, c, es, rfl, ha, hta, hes, htb, hv, hlen, k⟩ := h
    obtain ⟨ca, pl, rfl, hca, hpl⟩ := Is.conf_iff.mp hv
    have hu := hu_of hr
    have hnd := sc_l_accepts.nd
    refine ⟨_, (pss_cons (ps_set (i := 2) hnd rfl (by first | exact Or.inl rfl | exact Or.inr rfl) (pe_lst (pa_cons (pe_ix (ix_tupK (K := K) rfl) (L2.pv 1) (pe_int) (fun _ _ => rfl)) pa_nil)))
    (pss_cons (ps_for PassesOwn.never rfl (pi_tup (pe_ix (ix_tupK (K := K) rfl) (L2.pv 1) (pe_int) (fun _ _ => rfl))) (pg_name (i := 3) hnd rfl (by first | exact Or.inl rfl | exact Or.inr rfl))
      (pss_one (ps_set (i := 2) hnd rfl (by first | exact Or.inl rfl | exact Or.inr rfl) (pe_lc (own := [("_law_edge", 4)]) (g := (gName 4)) (tt := _) rfl hnd (pi_tup (pe_ix (ix_listK (K := K) rfl) (L2.pv 0) (pe_int) (fun _ _ => rfl))) (blkOk_by (own := [("_law_edge", 4)]) (N := nm_l_accepts) (sc := defScope s_l_accepts) (by decide +kernel)) (fun _ _ _ _ _ => (pg_name (i := 4) hnd rfl (by first | exact Or.inl rfl | exact Or.inr rfl))) (fun _ _ _ _ _ => pts_one (PW.pt (pw_and (pt_cmpR (op_in_seqK (K := K) rfl) (pe_ix (ix_tupK (K := K) rfl) (L2.pv 4) (pe_int) (fun _ _ => rfl)) (L2.pv 2) (by with_unfolding_all rfl)) (pw_and1 (pt_cmpR op_eq (pe_ix (ix_tupK (K := K) rfl) (L2.pv 4) (pe_int) (fun _ _ => rfl)) (L2.pv 3) (nomark _)))))) (fun _ _ _ _ _ => (pe_ix (ix_tupK (K := K) rfl) (L2.pv 4) (pe_int) (fun _ _ => rfl)))))))
    (pss_one (ps_ret (pe_cmpR op_gt (pe_callB call_len_seq (by rfl) T.b.len PySem.boot_len (pa_cons (pe_lc (own := [("_law_node", 5)]) (g := (gName 5)) (tt := _) rfl hnd (pi_listK (K := K) rfl (L2.pv 2)) (blkOk_by (own := [("_law_node", 5)]) (N := nm_l_accepts) (sc := defScope s_l_accepts) (by decide +kernel)) (fun _ _ _ _ _ => (pg_name (i := 5) hnd rfl (by first | exact Or.inl rfl | exact Or.inr rfl))) (fun _ _ _ _ _ => pts_one (pt_cmpR (op_in_seqK (K := K) rfl) (L2.pv 5) (pe_ix (ix_listK (K := K) rfl) (L2.pv 0) (pe_int) (fun _ _ => rfl)) (by with_unfolding_all rfl))) (fun _ _ _ _ _ => (L2.pv 5))) pa_nil)) (pe_int) (nomark _)))))), ?_⟩
    have hesn := hes.len
    rw [List.length_map] at hesn
    refine ⟨_, rfl, ca, _, _, _, rfl, rfl, SqT.of hca, rfl, by show 1 ≤ sizeLine; decide, fun d hd => ?_⟩
    have ed0 := Ex.new (o := HO.lst [.int c.1]) hd
    refine ⟨_, rfl, ca, _, _, _, rfl, rfl, SqT.of (ed0 _ _ hca), rfl, pl, rfl, ⟨_, SqT.of (ed0 _ _ hpl)⟩, for_tup (K := K) (a := pl) (xs := c.2.map V.int)
      (fun i σ' H' => ∃ (q : Addr) (ks : List Int) (v3 : Option V), σ' = [some (.ref a), some (.ref ca), some (.ref q), v3, none, none] ∧ Ex H H' ∧ H' q = some (.lst (ks.map V.int)) ∧ ks.length ≤ 4000 ∧ ∀ x, x ∈ ks ↔ Path (mem N.ed) c.1 (c.2.take i) x) ?_ ?_ ?_ ?_⟩
    · refine ⟨d, [c.1], none, rfl, ed0, upd_same, by show 1 ≤ 4000; decide, fun x => ?_⟩
      rw [List.mem_singleton]
      exact ⟨fun z => z ▸ .nil _, fun z => z.nil_eq.symm⟩
    · rintro i σ' H' _ ⟨_, _, _, rfl, e, _⟩
      exact SqT.of (e _ _ hpl)
    · rintro i x σ' H' hx ⟨q, ks, v3, rfl, e, hq, hkl, hks⟩
      obtain ⟨l, hl, rfl⟩ := ints_get hx
      refine ⟨_, rfl, a, _, _, _, rfl, rfl, SqL.of (e _ _ ha), rfl, ta, rfl, ⟨_, SqT.of (e _ _ hta)⟩, fun D hD => ?_⟩
      refine lcR (walk_tup (xs := es)) hD (by omega) (fun H2 e2 => SqT.of (e2 _ _ (e _ _ hta))) (fun j acc _ => ∃ ms : List Int, acc = ms.map V.int ∧ ∀ x, x ∈ ms ↔ ∃ n, n ∈ ks ∧ (n, l, x) ∈ N.ed.take j) (fun _ _ _ _ _ _ z => z) ⟨[], rfl, fun x => by simp⟩ ?_ ?_
      · rintro j acc y H1 H2 B B' hj hl' e1 hD1 ⟨ms, rfl, hms⟩ ⟨rfl, hy⟩ kB kN
        obtain ⟨d0, hd0, hy0⟩ := (hes.mono (Tk.of (e.trans e1))).get hy
        obtain ⟨⟨n, l', g⟩, hed, rfl⟩ := tup_get hd0
        obtain ⟨t, rfl, ht⟩ := Is.edge_iff.mp hy0
        have htk : N.ed.take (j + 1) = N.ed.take j ++ [(n, l', g)] := by rw [List.take_add_one, hed]; rfl
        have skip : ¬ (n ∈ ks ∧ l' = l) → ∃ ms' : List Int, ms.map V.int = ms'.map V.int ∧ ∀ x, x ∈ ms' ↔ ∃ n, n ∈ ks ∧ (n, l, x) ∈ N.ed.take (j + 1) := fun hno => by
          refine ⟨ms, rfl, fun x => (hms x).trans ?_⟩
          rw [htk]
          constructor
          · rintro ⟨m, h1, h2⟩
            exact ⟨m, h1, List.mem_append_left _ h2⟩
          · rintro ⟨m, h1, h2⟩
            rcases List.mem_append.mp h2 with z | z
            · exact ⟨m, h1, z⟩
            · have := List.mem_singleton.mp z
              injection this with z1 z2
              injection z2 with z2 z3
              exact (hno ⟨z1 ▸ h1, z2.symm⟩).elim
        refine ⟨rfl, ⟨_, rfl, t, _, _, _, rfl, rfl, SqT.of ht, rfl, _, rfl, q, _, rfl, .inl (SqL.of (e1 _ _ hq)), rfl, flat_ints _, _, rfl, ?_⟩⟩
        show (if inV (.int n) (ks.map V.int) = true then _ else _)
        rw [inV_ints]
        refine iteD (fun h1 => ?_) fun h1 => kN _ (Ex.refl _) (skip fun z => h1 z.1)
        refine ⟨_, rfl, t, _, _, _, rfl, rfl, SqT.of ht, rfl, _, rfl, rfl, _, rfl, iteD (fun h2 => ?_) fun h2 => kN _ (Ex.refl _) (skip fun z => h2 (by rw [z.2]))⟩
        refine ⟨_, rfl, t, _, _, _, rfl, rfl, SqT.of ht, rfl, kB _ _ (Ex.refl _) ⟨ms ++ [g], by rw [List.map_append]; rfl, fun x => ?_⟩⟩
        have h2' : l' = l := by injection h2
        rw [List.mem_append, hms, htk, List.mem_singleton]
        constructor
        · rintro (⟨m, h3, h4⟩ | rfl)
          · exact ⟨m, h3, List.mem_append_left _ h4⟩
          · exact ⟨n, h1, List.mem_append_right _ (by rw [h2']; exact List.mem_singleton.mpr rfl)⟩
        · rintro ⟨m, h3, h4⟩
          rcases List.mem_append.mp h4 with z | z
          · exact .inl ⟨m, h3, z⟩
          · have := List.mem_singleton.mp z
            injection this with z1 z2
            injection z2 with z2 z3
            exact .inr z3
      · rintro acc H1 e1 hD1 hal ⟨ms, rfl, hms⟩
        rw [List.length_map] at hal
        refine ⟨D, ms, _, rfl, e.trans e1, hD1, by omega, fun x => (hms x).trans ?_⟩
        rw [hesn, List.take_length, List.take_add_one, hl]
        show _ ↔ Path (mem N.ed) c.1 (c.2.take i ++ [l]) x
        rw [path_snoc_iff]
        exact ⟨fun ⟨n, h1, h2⟩ => ⟨n, (hks n).mp h1, h2⟩, fun ⟨n, h1, h2⟩ => ⟨n, (hks n).mpr h1, h2⟩⟩
    · rintro σ' H' ⟨q, ks, v3, rfl, e, hq, hkl, hks⟩
      rw [List.length_map, List.take_length] at hks
      have hml : (ks.map V.int).length = ks.length := List.length_map ..
      refine ⟨_, rfl, q, rfl, ⟨_, SqL.of hq⟩, fun D hD => ?_⟩
      refine lcR (walk_list (xs := ks.map V.int)) hD (by omega) (fun H2 e2 => SqL.of (e2 _ _ hq)) (fun j acc _ => ∃ ms : List Int, acc = ms.map V.int ∧ ∀ x, x ∈ ms ↔ x ∈ ks.take j ∧ x ∈ N.en) (fun _ _ _ _ _ _ z => z) ⟨[], rfl, fun x => by simp⟩ ?_ ?_
      · rintro j acc y H1 H2 B B' hj hl' e1 hD1 ⟨ms, rfl, hms⟩ ⟨rfl, hy⟩ kB kN
        obtain ⟨n, hn, rfl⟩ := ints_get hy
        have htk : ks.take (j + 1) = ks.take j ++ [n] := by rw [List.take_add_one, hn]; rfl
        have e2 := e.trans e1
        refine ⟨rfl, ⟨_, rfl, _, rfl, a, _, _, _, rfl, rfl, SqL.of (e2 _ _ ha), rfl, tb, _, rfl, .inr (SqT.of (e2 _ _ htb)), rfl, flat_ints _, _, rfl, ?_⟩⟩
        show (if inV (.int n) (N.en.map V.int) = true then _ else _)
        rw [inV_ints]
        refine iteD (fun h1 => ?_) fun h1 => kN _ (Ex.refl _) ⟨ms, rfl, fun x => ?_⟩
        · refine ⟨_, rfl, kB _ _ (Ex.refl _) ⟨ms ++ [n], by rw [List.map_append]; rfl, fun x => ?_⟩⟩
          rw [List.mem_append, hms, htk, List.mem_append, List.mem_singleton]
          constructor
          · rintro (⟨h3, h4⟩ | rfl)
            · exact ⟨.inl h3, h4⟩
            · exact ⟨.inr rfl, h1⟩
          · rintro ⟨h3 | h3, h4⟩
            · exact .inl ⟨h3, h4⟩
            · exact .inr h3
        · rw [hms, htk, List.mem_append, List.mem_singleton]
          constructor
          · rintro ⟨h3, h4⟩
            exact ⟨.inl h3, h4⟩
          · rintro ⟨h3 | rfl, h4⟩
            · exact ⟨h3, h4⟩
            · exact (h1 h4).elim
      · rintro acc H1 e1 hD1 hal ⟨ms, rfl, hms⟩
        rw [hml, List.take_length] at hms
        refine ⟨D, _, rfl, .inl (SqL.of hD1), _, _, rfl, rfl, k _ _ (e.trans e1) ?_⟩
        rw [List.length_map, decide_eq_true_iff]
        constructor
        · intro h
          obtain ⟨x, hx⟩ : ∃ x, x ∈ ms := by
            cases ms with
            | nil => exact absurd h (by simp)
            | cons x r => exact ⟨x, List.mem_cons_self⟩
          obtain ⟨h1, h2⟩ := (hms x).mp hx
          exact ⟨x, h2, (hks x).mp h1⟩
        · rintro ⟨x, h1, h2⟩
          have hx := (hms x).mpr ⟨(hks x).mpr h2, h1⟩
          have := List.length_pos_of_mem hx
          omega
end
end Zp
set_option maxRecDepth 100000
set_option maxHeartbeats 0
namespace Zp
open PySem L2 Zs Evl Pr
/-! ### what the verdicts say -/
theorem takes_reach {M : Mach} {N : NetD} {c : Conf} {pp : Paper} (hM : MOk M) (hst : N.st = M.st) (hc : c.1 < M.st) (h : TakesD M N c true pp) : Reach M N c := by
  cases pp with
  | stays B => exact (nomatch h.1)
  | came b rows way => exact paper_reach hM (by rw [← hst]; exact h.2.1.1) hc h.2.1.2.2 h.2.2
theorem takes_not {M : Mach} {N : NetD} {c : Conf} {pp : Paper} (hM : MOk M) (h : TakesD M N c false pp) : ¬ Reach M N c := by
  cases pp with
  | stays B => exact fun r => h.2.2.2 (ext_reach hM h.2.2.1 h.2.1.2 r)
  | came b rows way => exact (nomatch h.1)
theorem takes_same {M : Mach} {N : NetD} {c : Conf} {pp qq : Paper} {a b : Bool} (hM : MOk M) (hst : N.st = M.st) (hc : c.1 < M.st) (h1 : TakesD M N c a pp) (h2 : TakesD M N c b qq) : a = b := by
  cases a <;> cases b
  · rfl
  · exact (takes_not hM h1 (takes_reach hM hst hc h2)).elim
  · exact (takes_not hM h2 (takes_reach hM hst hc h1)).elim
  · rfl
theorem takes_came_iff {M : Mach} {N : NetD} {c d : Conf} {b0 : Conf} {rows : List (Int × List Item)} {way : List Item} {bd : Bool} {pd : Paper} (hM : MOk M) (hst : N.st = M.st) (hc : c.1 < M.st) (hd : d.1 < M.st) (h : TakesD M N c true (.came b0 rows way)) (hp : TakesD M N d bd pd) : TakesD M N d bd (.came b0 rows way) ↔ d = c := by
  constructor
  · intro h2
    exact (paper_one hM (by rw [← hst]; exact h.2.1.1) hc hd h.2.2 h2.2.2).symm
  · rintro rfl
    rw [takes_same hM hst hc hp h]
    exact h
theorem takes_stays_iff {M : Mach} {N B : NetD} {c d : Conf} (h : TakesD M N c false (.stays B)) : TakesD M N d false (.stays B) ↔ ¬ Acc B d := ⟨fun z => z.2.2.2, fun z => ⟨rfl, h.2.1, h.2.2.1, z⟩⟩
/-! ### configurations as data -/
def ciD (ns : List Int) : List PyData := ns.map .int
def confP (c : Conf) : PyData := .tuple [.int c.1, .tuple (ciD c.2)]
theorem eqvAll_ints : ∀ (ns ms : List Int), PyData.eqvAll (ciD ns) (ciD ms) = decide (ns = ms)
  | [], [] => by simp [ciD, PyData.eqvAll]
  | [], m :: ms => by simp [ciD, PyData.eqvAll]
  | n :: ns, [] => by simp [ciD, PyData.eqvAll]
  | n :: ns, m :: ms => by
    have ih := eqvAll_ints ns ms
    unfold ciD at ih ⊢
    rw [List.map_cons, List.map_cons, PyData.eqvAll, ih]
    simp only [PyData.eqv]
    rw [Bool.eq_iff_iff]
    simp
theorem eqv_conf (c d : Conf) : PyData.eqv (confP c) (confP d) = decide (c = d) := by
  obtain ⟨a, p⟩ := c
  obtain ⟨b, q⟩ := d
  unfold confP
  simp only [PyData.eqv, PyData.eqvAll, eqvAll_ints]
  rw [Bool.eq_iff_iff]
  simp
section
variable {P : Program} {w : World} {K : PySem.W.Frag} {mg : Str → Option Value} {base : Heap}
theorem dp_ints {H : Hp} : ∀ ns : List Int, DpAll K H (ns.map V.int) (ciD ns)
  | [] => .nil
  | n :: ns => .cons (.int n) (dp_ints ns)
theorem dp_conf {H : Hp} {v : V} {c : Conf} (h : Is H v (cD c)) : Dp K H v (confP c) := by
  obtain ⟨ca, pl, rfl, hca, hpl⟩ := Is.conf_iff.mp h
  exact .tup (SqT.of hca) (.cons (.int _) (.cons (.tup (SqT.of hpl) (dp_ints _)) .nil))
theorem lay_ints : ∀ ns : List Int, PyData.canLayAll0 (ciD ns) = true ∧ PyData.depthAll (ciD ns) ≤ 1
  | [] => by simp [ciD, PyData.canLayAll0, PyData.depthAll]
  | n :: ns => by
    have ih := lay_ints ns
    unfold ciD at ih ⊢
    simp only [List.map_cons, PyData.canLayAll0, PyData.depthAll, PyData.canLay0, PyData.depth, ih.1, Bool.and_self, true_and]
    have := ih.2
    omega
theorem shaped_conf {c : Conf} : SeqAt.shaped (confP c) = true := by
  obtain ⟨h1, h2⟩ := lay_ints c.2
  have h3 : PyData.depth (confP c) ≤ 64 := by
    simp only [confP, PyData.depth, PyData.depthAll]
    omega
  have h4 : PyData.canLay0 (confP c) = true := by simp [confP, PyData.canLay0, PyData.canLayAll0, h1]
  unfold SeqAt.shaped
  rw [h4, decide_eq_true h3]
  rfl
def sp_law (T : Txt K mg) : Sp := fun vs H Q _ => ∃ (sc : Addr) (xs : List Int), vs = [.ref sc] ∧ SqL K H sc (xs.map V.int) ∧ ∀ H', Q (.bl true) H'
theorem ok_law (T : Txt K mg) : FnOk P w K mg base CX0 7 T.f.law.f T.f.law.fd ["_law_script"] (sp_law T) := by
  refine T.f.law.F.ok sc_law (fun vs H Q E h => ?_) (fun cdv A outer s H vs Q E hr h => ?_)
  · obtain ⟨sc, xs, rfl, _⟩ := h
    rfl
  · obtain ⟨sc, xs, rfl, hsc, k⟩ := h
    have hu := hu_of hr
    have hnd := sc_law.nd
    refine ⟨_, (pss_cons (ps_set (i := 1) hnd rfl (by first | exact Or.inl rfl | exact Or.inr rfl) (pe_call (ok_l_numbers T) (hr.mono (by decide)) (by rfl) T.f.g_l_numbers T.f.l_numbers.F.kp T.f.l_numbers.b .nil pass0 (pa_cons (L2.pv 0) (pa_cons (pe_int) pa_nil))))
    (pss_cons (ps_set (i := 2) hnd rfl (by first | exact Or.inl rfl | exact Or.inr rfl) (pe_call (ok_l_machine T) (hr.mono (by decide)) (by rfl) T.f.g_l_machine T.f.l_machine.F.kp T.f.l_machine.b .nil pass0 (pa_cons (L2.pv 1) (pa_cons (pe_int) pa_nil))))
    (pss_cons (ps_set (i := 3) hnd rfl (by first | exact Or.inl rfl | exact Or.inr rfl) (pe_call (ok_l_made T) (hr.mono (by decide)) (by rfl) T.f.g_l_made T.f.l_made.F.kp T.f.l_made.b .nil pass0 (pa_cons (L2.pv 2) pa_nil)))
    (pss_cons (ps_set (i := 4) hnd rfl (by first | exact Or.inl rfl | exact Or.inr rfl) (pe_call (ok_l_net_made T) (hr.mono (by decide)) (by rfl) T.f.g_l_net_made T.f.l_net_made.F.kp T.f.l_net_made.b .nil pass0 (pa_cons (L2.pv 2) (pa_cons (pe_call (ok_l_net T) (hr.mono (by decide)) (by rfl) T.f.g_l_net T.f.l_net.F.kp T.f.l_net.b .nil pass0 (pa_cons (L2.pv 1) (pa_cons (pe_int) (pa_cons (pe_ix (ix_listK (K := K) rfl) (L2.pv 2) (pe_int) (fun _ _ => rfl)) (pa_cons (pe_ix (ix_listK (K := K) rfl) (L2.pv 2) (pe_int) (fun _ _ => rfl)) pa_nil))))) pa_nil))))
    (pss_cons (ps_set (i := 5) hnd rfl (by first | exact Or.inl rfl | exact Or.inr rfl) (pe_call (ok_l_configuration T) (hr.mono (by decide)) (by rfl) T.f.g_l_configuration T.f.l_configuration.F.kp T.f.l_configuration.b .nil pass0 (pa_cons (pe_ix (ix_listK (K := K) rfl) (L2.pv 1) (pe_int) (fun _ _ => rfl)) (pa_cons (pe_ix (ix_listK (K := K) rfl) (L2.pv 2) (pe_int) (fun _ _ => rfl)) (pa_cons (pe_ix (ix_listK (K := K) rfl) (L2.pv 2) (pe_int) (fun _ _ => rfl)) (pa_cons (pe_int) pa_nil))))))
    (pss_cons (ps_set (i := 6) hnd rfl (by first | exact Or.inl rfl | exact Or.inr rfl) (pe_call (ok_l_configuration T) (hr.mono (by decide)) (by rfl) T.f.g_l_configuration T.f.l_configuration.F.kp T.f.l_configuration.b .nil pass0 (pa_cons (pe_ix (ix_listK (K := K) rfl) (L2.pv 1) (pe_int) (fun _ _ => rfl)) (pa_cons (pe_ix (ix_listK (K := K) rfl) (L2.pv 2) (pe_int) (fun _ _ => rfl)) (pa_cons (pe_ix (ix_listK (K := K) rfl) (L2.pv 2) (pe_int) (fun _ _ => rfl)) (pa_cons (pe_int) pa_nil))))))
    (pss_cons (ps_set (i := 7) hnd rfl (by first | exact Or.inl rfl | exact Or.inr rfl) (pe_call (ok_came T) (hr.mono (by decide)) (by rfl) T.f.g_came T.f.came.F.kp T.f.came.b .nil pass0 (pa_cons (L2.pv 3) (pa_cons (L2.pv 4) (pa_cons (L2.pv 5) pa_nil)))))
    (pss_cons (ps_if (pt_cmpR op_notBl (pe_call (ok_takes_came T) (hr.mono (by decide)) (by rfl) T.f.g_takes_came T.f.takes_came.F.kp T.f.takes_came.b .nil pass0 (pa_cons (L2.pv 3) (pa_cons (L2.pv 4) (pa_cons (L2.pv 5) (pa_cons (pe_ix (ix_tupK (K := K) rfl) (L2.pv 7) (pe_int) (fun _ _ => rfl)) (pa_cons (pe_ix (ix_tupK (K := K) rfl) (L2.pv 7) (pe_int) (fun _ _ => rfl)) pa_nil)))))) (pe_bl) (nomark _)) (pss_one (ps_ret (pe_bl))) pss_nil)
    (pss_cons (ps_if (pt_cmpR op_notBl (pe_call (ok_takes_came T) (hr.mono (by decide)) (by rfl) T.f.g_takes_came T.f.takes_came.F.kp T.f.takes_came.b .nil pass0 (pa_cons (L2.pv 3) (pa_cons (L2.pv 4) (pa_cons (L2.pv 5) (pa_cons (pe_not (pe_ix (ix_tupK (K := K) rfl) (L2.pv 7) (pe_int) (fun _ _ => rfl))) (pa_cons (pe_ix (ix_tupK (K := K) rfl) (L2.pv 7) (pe_int) (fun _ _ => rfl)) pa_nil)))))) (pe_bl) (nomark _)) (pss_one (ps_ret (pe_bl))) pss_nil)
    (pss_cons (ps_set (i := 8) hnd rfl (by first | exact Or.inl rfl | exact Or.inr rfl) (pe_ix (ix_tupK (K := K) rfl) (pe_call (ok_came T) (hr.mono (by decide)) (by rfl) T.f.g_came T.f.came.F.kp T.f.came.b .nil pass0 (pa_cons (L2.pv 3) (pa_cons (L2.pv 4) (pa_cons (L2.pv 6) pa_nil)))) (pe_int) (fun _ _ => rfl)))
    (pss_cons (ps_if (pt_cmpR op_notBl (pe_call (ok_takes_came T) (hr.mono (by decide)) (by rfl) T.f.g_takes_came T.f.takes_came.F.kp T.f.takes_came.b .nil pass0 (pa_cons (L2.pv 3) (pa_cons (L2.pv 4) (pa_cons (L2.pv 6) (pa_cons (pe_not (L2.pv 8)) (pa_cons (pe_ix (ix_tupK (K := K) rfl) (L2.pv 7) (pe_int) (fun _ _ => rfl)) pa_nil)))))) (pe_bl) (nomark _)) (pss_one (ps_ret (pe_bl))) pss_nil)
    (pss_cons (ps_if (pt_val (pe_ix (ix_tupK (K := K) rfl) (L2.pv 7) (pe_int) (fun _ _ => rfl))) (pss_one (ps_ret (pe_cmpR op_eq (pe_call (ok_takes_came T) (hr.mono (by decide)) (by rfl) T.f.g_takes_came T.f.takes_came.F.kp T.f.takes_came.b .nil pass0 (pa_cons (L2.pv 3) (pa_cons (L2.pv 4) (pa_cons (L2.pv 6) (pa_cons (L2.pv 8) (pa_cons (pe_ix (ix_tupK (K := K) rfl) (L2.pv 7) (pe_int) (fun _ _ => rfl)) pa_nil)))))) (pe_cmpR (op_eqD hr.units) (L2.pv 6) (L2.pv 5) (nomark _)) (nomark _)))) pss_nil)
    (pss_cons (ps_set (i := 9) hnd rfl (by first | exact Or.inl rfl | exact Or.inr rfl) (pe_lst (pa_cons (pe_ix (ix_tupK (K := K) rfl) (pe_ix (ix_tupK (K := K) rfl) (L2.pv 7) (pe_int) (fun _ _ => rfl)) (pe_int) (fun _ _ => rfl)) (pa_cons (pe_ix (ix_tupK (K := K) rfl) (pe_ix (ix_tupK (K := K) rfl) (L2.pv 7) (pe_int) (fun _ _ => rfl)) (pe_int) (fun _ _ => rfl)) (pa_cons (pe_ix (ix_tupK (K := K) rfl) (pe_ix (ix_tupK (K := K) rfl) (L2.pv 7) (pe_int) (fun _ _ => rfl)) (pe_int) (fun _ _ => rfl)) pa_nil)))))
    (pss_one (ps_ret (pe_cmpR op_eq (pe_call (ok_takes_came T) (hr.mono (by decide)) (by rfl) T.f.g_takes_came T.f.takes_came.F.kp T.f.takes_came.b .nil pass0 (pa_cons (L2.pv 3) (pa_cons (L2.pv 4) (pa_cons (L2.pv 6) (pa_cons (pe_bl) (pa_cons (pe_ix (ix_tupK (K := K) rfl) (L2.pv 7) (pe_int) (fun _ _ => rfl)) pa_nil)))))) (pe_not (pe_call (ok_l_accepts T) (hr.mono (by decide)) (by rfl) T.f.g_l_accepts T.f.l_accepts.F.kp T.f.l_accepts.b .nil pass0 (pa_cons (L2.pv 9) (pa_cons (L2.pv 6) pa_nil)))) (nomark _))))))))))))))))), ?_⟩
    refine ⟨_, rfl, sc, xs, 26, rfl, hsc, by decide, fun nl ns H1 e1 hnl hnn hnr => ?_⟩
    have hpos : ∀ n ∈ ns, 0 ≤ n := fun n hn => (hnr n hn).1
    refine ⟨_, rfl, nl, ns, rfl, hnl, by omega, hpos, fun pa rl rxs rows st lt H2 e2 hpa hrl hrxs hrn hst hlt hrs => ?_⟩
    refine ⟨_, rfl, pa, rl, rxs, rows, st, lt, rfl, hpa, hrl, hrxs, hrn, hst.1, hlt.1, hrs, fun m H3 e3 hM => ?_⟩
    have hMok : MOk ⟨st, lt, rows⟩ := by obtain ⟨_, _, _, h⟩ := hM; exact h.ok
    have hpa3 := e3 _ _ hpa
    have hnl3 := e3 _ _ (e2 _ _ hnl)
    refine ⟨_, rfl, _, rfl, _, rfl, pa, _, _, _, rfl, rfl, SqL.of hpa3, rfl, _, rfl, pa, _, _, _, rfl, rfl, SqL.of hpa3, rfl, ?_⟩
    refine ⟨nl, ns, st, lt, rfl, hnl3, by omega, hpos, hst, hlt, fun r el nel N0 es H4 e4 hr hel hes hnel hok hN1 hN2 hN3 hN4 hN5 hN6 => ?_⟩
    obtain ⟨st0, lt0, nd0, ed0, en0⟩ := N0
    simp only at hN1 hN2 hN3 hN4 hN5 hN6 hr hes hnel
    subst hN1 hN2
    refine ⟨pa, r, rl, el, nel, ⟨st0, lt0, nd0, ed0, en0⟩, es, rfl, e4 _ _ hpa3, hr, hel, hes, hnel, hok, by show ed0.length < 4000; omega, by show en0.length < 4000; omega, fun x N H5 e5 hN b1 b2 b3 b4 b5 b6 b7 => ?_⟩
    simp only at b1 b2 b3 b4 b5 b6 b7
    have hplain : ∀ e ∈ N.ed, N.st ≤ e.2.2 := fun e he => by rw [b1]; exact hN6 e ((b4 e).mp he)
    have e35 := e4.trans e5
    have hpa5 := e35 _ _ hpa3
    have hnl5 := e35 _ _ hnl3
    obtain ⟨n12, h12, _⟩ := int_atP (j := (12 : Int).toNat) (xs := ns) (by show 12 < _; omega) hpos
    obtain ⟨n25, h25, _⟩ := int_atP (j := (25 : Int).toNat) (xs := ns) (by show 25 < _; omega) hpos
    refine ⟨_, rfl, nl, _, _, _, rfl, rfl, SqL.of hnl5, atI_int (by decide) h12, _, rfl, pa, _, _, _, rfl, rfl, SqL.of hpa5, rfl, _, rfl, pa, _, _, _, rfl, rfl, SqL.of hpa5, rfl, ?_⟩
    refine ⟨n12, st0, lt0, rfl, ⟨hst.1, by omega⟩, ⟨hlt.1, by omega⟩, fun v1 c1 H6 e6 hv1 r1 q1 l1 => ?_⟩
    have hpa6 := e6 _ _ hpa5
    have hnl6 := e6 _ _ hnl5
    refine ⟨_, rfl, nl, _, _, _, rfl, rfl, SqL.of hnl6, atI_int (by decide) h25, _, rfl, pa, _, _, _, rfl, rfl, SqL.of hpa6, rfl, _, rfl, pa, _, _, _, rfl, rfl, SqL.of hpa6, rfl, ?_⟩
    refine ⟨n25, st0, lt0, rfl, ⟨hst.1, by omega⟩, ⟨hlt.1, by omega⟩, fun v2 c2 H7 e7 hv2 r2 q2 l2 => ?_⟩
    have hM7 := hM.mono (e35.trans (e6.trans e7))
    have hN7 := hN.mono (e6.trans e7)
    have hv17 := hv1.mono (Tk.of e7)
    generalize hMM : (⟨st0, lt0, rows⟩ : Mach) = M at hMok hM7
    have hMst : M.st = st0 := by rw [← hMM]
    have hMlt : M.lt = lt0 := by rw [← hMM]
    have g1 : N.st = M.st := by rw [b1, hMst]
    have g2 : N.lt = M.lt := by rw [b2, hMlt]
    rw [← hMst] at r1 r2
    rw [← hMlt] at q1 q2
    -- found = came(machine, net, one)
    refine ⟨_, rfl, _, rfl, _, rfl, m, x, v1, M, N, c1, rfl, hM7, hN7, hv17, g1, g2, hplain, r1, q1, l1, by omega, by omega, by omega, by omega, by omega, fun vf bf pf H8 e8 hvf hT hfit => ?_⟩
    have hM8 := hM7.mono e8
    have hN8 := hN7.mono e8
    have hv18 := hv17.mono (Tk.of e8)
    have hv28 := hv2.mono (Tk.of e8)
    obtain ⟨t, tvs, rfl, ht, htl⟩ := Is.t_iff.mp hvf
    obtain ⟨y1, z1, rfl, hy1, hz1⟩ := IsL.cons_iff.mp htl
    obtain ⟨vp, z2, rfl, hvp, hz2⟩ := IsL.cons_iff.mp hz1
    cases IsL.nil_iff.mp hz2
    cases Is.b_iff.mp hy1
    -- takes_came(.., one, found[0], found[1]) is not True
    refine ⟨_, rfl, _, rfl, _, rfl, _, rfl, t, _, _, _, rfl, rfl, SqT.of ht, rfl, _, rfl, t, _, _, _, rfl, rfl, SqT.of ht, rfl, ?_⟩
    refine ⟨m, x, v1, vp, bf, M, N, c1, pf, rfl, hM8, hN8, g1, g2, hplain, hv18, r1, q1, by omega, hvp, hfit, fun b H9 e9 hb => ?_⟩
    obtain rfl : b = true := hb.mpr hT
    refine ⟨true, true, rfl, rfl, _, rfl, iteFn ?_⟩
    have ht9 := e9 _ _ ht
    have hvp9 := hvp.mono (Tk.of e9)
    -- takes_came(.., one, not found[0], found[1]) is not False
    refine ⟨_, rfl, _, rfl, _, rfl, _, rfl, t, _, _, _, rfl, rfl, SqT.of ht9, rfl, bf, rfl, _, rfl, t, _, _, _, rfl, rfl, SqT.of ht9, rfl, ?_⟩
    refine ⟨m, x, v1, vp, !bf, M, N, c1, pf, rfl, hM8.mono e9, hN8.mono e9, g1, g2, hplain, hv18.mono (Tk.of e9), r1, q1, by omega, hvp9, hfit, fun b H10 e10 hb => ?_⟩
    have hbf : b = false := by
      cases b with
      | false => rfl
      | true =>
        have := takes_same hMok g1 r1.2 hT (hb.mp rfl)
        cases bf <;> cases this
    subst hbf
    refine ⟨false, false, rfl, rfl, _, rfl, iteFn ?_⟩
    have e810 := e9.trans e10
    have hM10 := hM8.mono e810
    have hN10 := hN8.mono e810
    have hv210 := hv28.mono (Tk.of e810)
    -- due = came(machine, net, two)[0]
    refine ⟨_, rfl, _, rfl, _, rfl, m, x, v2, M, N, c2, rfl, hM10, hN10, hv210, g1, g2, hplain, r2, q2, l2, by omega, by omega, by omega, by omega, by omega, fun vd bd pd H11 e11 hvd hTd hfd => ?_⟩
    obtain ⟨t2, tws, rfl, ht2, htl2⟩ := Is.t_iff.mp hvd
    obtain ⟨y2, z2, rfl, hy2, hz2⟩ := IsL.cons_iff.mp htl2
    cases Is.b_iff.mp hy2
    obtain ⟨vp2, z3, rfl, _, hz3⟩ := IsL.cons_iff.mp hz2
    cases IsL.nil_iff.mp hz3
    refine ⟨t2, _, _, _, rfl, rfl, SqT.of ht2, rfl, ?_⟩
    have e811 := e810.trans e11
    have hM11 := hM10.mono e11
    have hN11 := hN10.mono e11
    have hv211 := hv210.mono (Tk.of e11)
    have ht11 := e811 _ _ ht
    have hvp11 := hvp.mono (Tk.of e811)
    -- takes_came(.., two, not due, found[1]) is not False
    refine ⟨_, rfl, _, rfl, _, rfl, _, rfl, bd, rfl, _, rfl, t, _, _, _, rfl, rfl, SqT.of ht11, rfl, ?_⟩
    refine ⟨m, x, v2, vp, !bd, M, N, c2, pf, rfl, hM11, hN11, g1, g2, hplain, hv211, r2, q2, by omega, hvp11, hfit, fun b H12 e12 hb => ?_⟩
    have hbf : b = false := by
      cases b with
      | false => rfl
      | true =>
        have := takes_same hMok g1 r2.2 hTd (hb.mp rfl)
        cases bd <;> cases this
    subst hbf
    refine ⟨false, false, rfl, rfl, _, rfl, iteFn ?_⟩
    have ht12 := e12 _ _ ht11
    have hM12 := hM11.mono e12
    have hN12 := hN11.mono e12
    have hv212 := hv211.mono (Tk.of e12)
    have hvp12 := hvp11.mono (Tk.of e12)
    have hv112 := hv18.mono (Tk.of (e811.trans e12))
    -- if found[0]
    refine ⟨_, rfl, t, _, _, _, rfl, rfl, SqT.of ht12, rfl, _, rfl, ?_⟩
    cases bf with
    | true =>
      refine iteT ?_
      cases pf with
      | stays B => exact (nomatch hT.1)
      | came b0 prows way =>
        refine ⟨_, rfl, _, rfl, _, rfl, _, rfl, _, rfl, t, _, _, _, rfl, rfl, SqT.of ht12, rfl, ?_⟩
        refine ⟨m, x, v2, vp, bd, M, N, c2, .came b0 prows way, rfl, hM12, hN12, g1, g2, hplain, hv212, r2, q2, by omega, hvp12, hfit, fun b H13 e13 hb => ?_⟩
        refine ⟨_, rfl, _, rfl, confP c2, confP c1, dp_conf (hv212.mono (Tk.of e13)), dp_conf (hv112.mono (Tk.of e13)), shaped_conf, shaped_conf, rfl, ?_⟩
        have hbb : b = decide (c2 = c1) := by
          rw [Bool.eq_iff_iff, hb, decide_eq_true_iff]
          exact takes_came_iff hMok g1 r1.2 r2.2 hT hTd
        have hfin : decide (V.bl b = V.bl (PyData.eqv (confP c2) (confP c1))) = true := by
          rw [eqv_conf, hbb, decide_eq_true_iff]
        rw [hfin]
        exact k _
    | false =>
      refine iteFn ?_
      cases pf with
      | came b0 prows way => exact (nomatch hT.1)
      | stays B =>
        obtain ⟨tp, ps, rfl, htp, hpl⟩ := Is.t_iff.mp hvp12
        obtain ⟨w1, s1, rfl, hw1, hs1⟩ := IsL.cons_iff.mp hpl
        obtain ⟨w2, s2, rfl, hw2, hs2⟩ := IsL.cons_iff.mp hs1
        obtain ⟨w3, s3, rfl, hw3, hs3⟩ := IsL.cons_iff.mp hs2
        obtain ⟨w4, s4, rfl, hw4, hs4⟩ := IsL.cons_iff.mp hs3
        cases IsL.nil_iff.mp hs4
        obtain ⟨ta, tes, rfl, hta, htes⟩ := Is.t_iff.mp hw3
        obtain ⟨tb, rfl, htb⟩ := Is.ints_iff.mp hw4
        refine ⟨_, rfl, t, _, _, _, rfl, rfl, SqT.of ht12, rfl, tp, _, _, _, rfl, rfl, SqT.of htp, rfl, _, rfl, t, _, _, _, rfl, rfl, SqT.of ht12, rfl, tp, _, _, _, rfl, rfl, SqT.of htp, rfl, _, rfl, t, _, _, _, rfl, rfl, SqT.of ht12, rfl, tp, _, _, _, rfl, rfl, SqT.of htp, rfl, by show 3 ≤ sizeLine; decide, fun q hq => ?_⟩
        have eq := Ex.new (o := HO.lst [w2, .ref ta, .ref tb]) hq
        refine ⟨_, rfl, _, rfl, _, rfl, _, rfl, t, _, _, _, rfl, rfl, SqT.of (eq _ _ ht12), rfl, ?_⟩
        refine ⟨m, x, v2, .ref tp, false, M, N, c2, .stays B, rfl, hM12.mono eq, hN12.mono eq, g1, g2, hplain, hv212.mono (Tk.of eq), r2, q2, by omega, hvp12.mono (Tk.of eq), hfit, fun b H13 e13 hb => ?_⟩
        have eq13 := eq.trans e13
        refine ⟨_, rfl, _, rfl, q, ta, tb, v2, w2, B, c2, tes, rfl, e13 _ _ upd_same, eq13 _ _ hta, htes.mono (Tk.of eq13), eq13 _ _ htb, hv212.mono (Tk.of eq13), by have := hfit.2.1; omega, fun b2 H14 e14 hb2 => ⟨b2, rfl, rfl, ?_⟩⟩
        have hbb : b = !b2 := by
          rw [Bool.eq_iff_iff, hb, takes_stays_iff hT, ← hb2]
          cases b2 <;> simp
        have hfin : decide (V.bl b = V.bl (!b2)) = true := by rw [hbb, decide_eq_true_iff]
        rw [hfin]
        exact k _
end
end Zp
set_option maxRecDepth 100000
set_option maxHeartbeats 0
namespace Zh
open PySem PySem.Spec PyProof.Rows L2 Zp
theorem law_binds {K : PySem.W.Frag} {f : Addr} {fd : FuncData} (F : Fun K "law" "law" s_law f fd) (s : Shared) (u : Value) : BindsTo s fd ⟨[u], []⟩ [("_law_script", u)] := by
  obtain ⟨⟨oc, od, kV, doc, pm, an, cdv, ct, osl, rfl, lk, hcd⟩, _⟩ := F
  exact .of_eq rfl
theorem facts {P : Program} {w : World} {K : PySem.W.Frag} {h : Heap} {mg : Str → Option Value} {f : Addr} (X : K.In h) (G : h.Ns mainGlobals mg) (hfa : mg ("law" : Str) = some (.ref f)) (c : obX K = valX) :
    ∃ (fd : FuncData) (sp : Sp), (∀ (s : Shared) (u : Value), BindsTo s fd ⟨[u], []⟩ [("_law_script", u)]) ∧
      (∀ (H : Hp) (a : Addr) (ns : List Int), SqL K H a (ns.map V.int) → sp [.ref a] H (fun v _ => v = .bl true) fun _ _ _ => False) ∧
      ∀ base : Heap, K.In base → base.Ns mainGlobals mg → FnOk P w K mg base CX0 7 f fd ["_law_script"] sp := by
  obtain ⟨T, hT⟩ := txt_of X G c
  have e := hfa.symm.trans T.f.g_law
  cases e
  exact ⟨T.f.law.fd, sp_law T, law_binds T.f.law.F, fun H a ns hS => ⟨a, ns, rfl, hS, fun _ => rfl⟩, fun base _ _ => ok_law T⟩
end Zh
open PySem PySem.W PySem.Calls PyProof.Rows
theorem PySem.Challenge.cw_pilereach_k92_whole_came_is_judged_holds : PySem.Challenge.rw_pilereach_k92_whole_came_is_judged.Holds := by
  w_on; o_law
  refine HandSHeadRun.head_any (r := OpenLaw.row PySem.Challenge.rw_pilereach_k92_whole_came_is_judged) (q := Zh.qv) (H := Zh.hk) (ob := Zh.ob) (M := 6000) (loose := Zh.names) (d := HandSHeadRun.topDef (OpenLaw.row PySem.Challenge.rw_pilereach_k92_whole_came_is_judged).prog 68) (kwd := []) Zh.ob_eq
    (by kernel_rfl) (fun s => by kernel_rfl) Zh.run (by kernel_rfl) (by kernel_rfl) (by kernel_rfl) (by rfl) (by first | assumption | decide +kernel) (by decide +kernel) ⟨rfl, rfl, rfl, rfl, rfl, by decide +kernel⟩ ?hw ?hc
  case hw => w_witness2
  case hc =>
    refine L2.walk_ofE (l := PySem.Challenge.rw_pilereach_k92_whole_came_is_judged) (n := 63) (k := 7) (x := "_law_script") (CX := L2.CX0) rfl (by decide) (by kernel_rfl) ⟨rfl, by decide, by decide⟩ ?F (fun _ _ _ _ z => z)
    intro w mg fa h Y G hmg0
    obtain ⟨K, KX, c⟩ := Y
    have hmg : mg ("law" : PySem.Str) = some (.ref fa) := by
      have e : (HandSHeadRun.topDef (OpenLaw.row PySem.Challenge.rw_pilereach_k92_whole_came_is_judged).prog 68).name = ("law" : PySem.Str) := by kernel_rfl
      rw [← e]
      exact hmg0
    obtain ⟨fd, sp, hb, hsp, hF⟩ := Zh.facts (P := (PySem.Challenge.rw_pilereach_k92_whole_came_is_judged).prog) (w := w) KX G hmg c
    exact ⟨K, fd, sp, KX, hb, fun H a ns _ _ hS => hsp H a ns hS, hF⟩
