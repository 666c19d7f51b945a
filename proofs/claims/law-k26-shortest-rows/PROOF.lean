import PyProof.Rows.All
import Wide.All
import OpenK.AllK
import Wide.FinOn
import PySem.Challenge.RW_stylefall_k26_whole_shortest_rows
import HandS.TupSets
import HandS.SetFor
import KE.SortData
import HandS.ForMost
import HandS.Evl
import HandS.Deep
import HandS.TupAny
import HandS.IsInst
import HandS.Flow
import HandS.Zip
import HandS.Star
import HandS.Walk
import HandS.Exc
import HandS.WordsExc
import HandS.ExcOwn
import HandS.ExcInit
import HandS.Defaults
import HandS.Call
import HandS.Text
import HandS.Codes
import PyProof.EnumMake
import PyProof.Draws
import KE.GoesMore
import HandS.WordsDict
import HandS.DictComp
import HandS.More
import HandS.SetBool
import HandS.SetKeys
import HandS.Style
import HandS.ExcField
import HandS.TryMany
import PyProof.SeqIndex
import PyProof.P3In
import PyProof.AttrMissHeap
import KE.SortKeyHeap
import KE.KDictKeyed
import KE.KeyNested
import KE.KDictDisplayH
import HandS.Lambda
import HandS.Nested
import HandS.SortKw
import KE.KSortKey
import KE.SortKeyed
import HandS.Wide
import HandS.DictTup
import PyProof.ReprRoads
import PyProof.CallFns
import HandS.ListItems
import PyProof.ReprLen
import PyProof.StrLawsRepr
import HandS.CallSlots
import HandS.TupMul
import KE.KLam
import HandS.EndTab
import KE.KStateDown
import HandS.Head0
import HandS.Head1
import HandS.Head2
import HandS.HeadHook1
import HandS.HeadHook2
import HandS.HeadHook3
import HandS.HeadHook4
set_option Elab.async false
set_option linter.all false
set_option maxRecDepth 100000
set_option maxHeartbeats 2000000
/-! KSetA: the tables of small sets (masks 7, 15, 31): every slot is met, one is put in, all are laid anew. -/
namespace K26
open PySem L2

/-- the masks that come here -/
def MOk (m : Nat) : Prop := m = 7 ∨ m = 15 ∨ m = 31
theorem orb15 : ((List.range 16).all fun i => (List.range 16).all fun j => (List.range 16).any fun k => lcgI 15 i k == j) = true := by decide +kernel
theorem orb {m : Nat} (hm : MOk m) {i j : Nat} (hi : i ≤ m) (hj : j ≤ m) : ∃ k, k ≤ m ∧ lcgI m i k = j := by
  rcases hm with rfl | rfl | rfl
  · exact lcgI_all (.inl rfl) hi hj
  · have h1 := List.all_eq_true.mp orb15 i (List.mem_range.mpr (by omega))
    have h2 := List.all_eq_true.mp h1 j (List.mem_range.mpr (by omega))
    obtain ⟨k, hk, e⟩ := List.any_eq_true.mp h2
    have := List.mem_range.mp hk
    exact ⟨k, by omega, beq_iff_eq.mp e⟩
  · exact lcgI_all (.inr (.inl rfl)) hi hj
theorem met_run {m : Nat} (hm : MOk m) (h : Int) {j : Nat} (hj : j ≤ m) : ∃ n, n ≤ m + 12 ∧ runI m (SetTable.bits h) n = j := by
  obtain ⟨k, hk, e⟩ := orb hm (runI_le m (SetTable.bits h) 12) hj
  refine ⟨12 + k, by omega, ?_⟩
  rw [runI_tail (bits_lt h), e]
theorem met_way {m : Nat} (hm : MOk m) (h : Int) {j : Nat} (hj : j ≤ m) : ∃ k, k < 10 * SetTable.turns m ∧ way m h k = j := by
  obtain ⟨n, hn, e⟩ := met_run hm h hj
  obtain ⟨k, hk, e2⟩ := run_nth m (SetTable.bits h) n
  have hw : way m h k = j := by
    show (nth m (runAt m (SetTable.bits h % (m + 1)) (SetTable.bits h)) k).j = j
    rw [e2]
    exact e
  have ht : SetTable.turns m = m + 15 := rfl
  exact ⟨k, by omega, hw⟩
theorem way_in (m : Nat) (h : Int) (k : Nat) : way m h k ≤ m := by
  have hi : SetTable.bits h % (m + 1) ≤ m := Nat.le_of_lt_succ (Nat.mod_lt _ (Nat.succ_pos _))
  have r := runEnd_bd hi
  have q : (runAt m (SetTable.bits h % (m + 1)) (SetTable.bits h)).j + (runAt m (SetTable.bits h % (m + 1)) (SetTable.bits h)).more ≤ m := by
    show SetTable.bits h % (m + 1) + (SetTable.runEnd m (SetTable.bits h % (m + 1)) - SetTable.bits h % (m + 1)) ≤ m
    omega
  have z := nth_in k _ q
  exact Nat.le_trans (Nat.le_add_right _ _) z

/-- a table from whose hashes all slots are found -/
structure TabR (t : SetTable) (hs : List Int) : Prop where
  up : Ris t.place.toList
  nod : t.dummies = #[]
  num : t.place.size = hs.length
  msk : MOk t.mask
  low : ∀ x ∈ t.place.toList, x ≤ t.mask
  fnd : ∀ (i : Nat) (h : Int) (j : Nat), hs[i]? = some h → t.place.toList[i]? = some j → ∃ k, way t.mask h k = j ∧ ∀ q, q < k → way t.mask h q ∈ t.place.toList
theorem MOk.odd {m : Nat} (h : MOk m) : m % 2 = 1 := by
  rcases h with rfl | rfl | rfl <;> rfl
/-- the first empty place on the way of a hash -/
theorem TabR.gap {t : SetTable} {hs : List Int} (T : TabR t hs) (hl : hs.length ≤ t.mask) (h : Int) :
    ∃ k, k < 10 * SetTable.turns t.mask ∧ way t.mask h k ∉ t.place.toList ∧ ∀ q, q < k → way t.mask h q ∈ t.place.toList := by
  have hn : t.place.toList.length < t.mask + 1 := by
    have := T.num
    rw [Array.length_toList]
    omega
  obtain ⟨j, hj, no⟩ := st_missing t.place.toList (t.mask + 1) hn
  obtain ⟨n, h1, h2⟩ := met_way T.msk h (Nat.le_of_lt_succ hj)
  obtain ⟨k, a, b, c⟩ := st_least (p := fun n => way t.mask h n ∉ t.place.toList) n (by rw [h2]; exact no)
  exact ⟨k, Nat.lt_of_le_of_lt a h1, b, fun q hq => Classical.byContradiction fun z => c q hq z⟩
theorem TabR.ahead {t : SetTable} {hs : List Int} (T : TabR t hs) {h : Int} {k i j : Nat} (hk : way t.mask h k ∉ t.place.toList) (hi : hs[i]? = some h) (hj : t.place.toList[i]? = some j) :
    ∃ q, q < k ∧ way t.mask h q = j := by
  obtain ⟨q, e, a⟩ := T.fnd i h j hi hj
  refine ⟨q, Nat.lt_of_not_le fun z => ?_, e⟩
  rcases Nat.eq_or_lt_of_le z with y | y
  · rw [y, e] at hk
    exact hk (List.mem_of_getElem? hj)
  · exact hk (a k y)
/-- one is put at the gap -/
theorem TabR.put {t : SetTable} {hs : List Int} (T : TabR t hs) {h : Int} {k : Nat} (hk : way t.mask h k ∉ t.place.toList) (ha : ∀ q, q < k → way t.mask h q ∈ t.place.toList) {j p : Nat} (hj : j = way t.mask h k) (hp : p = SetTable.below t.place j) :
    (t.put j).2 = p ∧ p ≤ hs.length ∧ TabR (t.put j).1 (hs.take p ++ h :: hs.drop p) ∧ (t.put j).1.mask = t.mask ∧ (t.put j).1.led = t.led ∧ (t.put j).1.fill = hs.length + 1 := by
  obtain ⟨c1, _, _⟩ := below_cut T.up j
  rw [← hp] at c1
  have n1 := T.num
  have n2 : t.place.toList.length = hs.length := by rw [Array.length_toList]; exact n1
  have pl : (t.put j).1.place.toList = t.place.toList.take p ++ j :: t.place.toList.drop p := by
    rw [hp]
    exact put_place t j
  have le1 : p ≤ t.place.toList.length := by rw [n2]; omega
  have le2 : p ≤ hs.length := by omega
  have no : t.place[SetTable.below t.place j]? ≠ some j := fun e => by
    rw [← hj] at hk
    exact hk (List.mem_of_getElem? (by rw [Array.getElem?_toList]; exact e))
  have sz : (t.put j).1.place.size = hs.length + 1 := by
    rw [← Array.length_toList, pl, len_ins _ le1, n2]
  have mono : ∀ x, x ∈ t.place.toList → x ∈ (t.put j).1.place.toList := fun x hx => by
    rw [pl]
    exact mem_ins.2 (.inr hx)
  refine ⟨hp.symm, le2, ⟨ris_insert T.up no, put_dm T.nod j, ?_, T.msk, fun x hx => ?_, fun i g y e1 e2 => ?_⟩, rfl, rfl, ?_⟩
  · rw [len_ins _ le2]
    exact sz
  · rw [pl] at hx
    rcases mem_ins.1 hx with z | z
    · rw [z, hj]
      exact way_in _ _ _
    · exact T.low x z
  · rw [tins_get hs le2] at e1
    rw [pl, tins_get _ le1] at e2
    show ∃ k, way t.mask g k = y ∧ ∀ q, q < k → way t.mask g q ∈ (t.put j).1.place.toList
    by_cases c : i < p
    · rw [if_pos c] at e1 e2
      obtain ⟨n, a, b⟩ := T.fnd i g y e1 e2
      exact ⟨n, a, fun q hq => mono _ (b q hq)⟩
    · rw [if_neg c] at e1 e2
      by_cases d : i = p
      · rw [if_pos d] at e1 e2
        obtain rfl : h = g := Option.some.inj e1
        obtain rfl : j = y := Option.some.inj e2
        exact ⟨k, hj.symm, fun q hq => mono _ (ha q hq)⟩
      · rw [if_neg d] at e1 e2
        obtain ⟨n, a, b⟩ := T.fnd (i - 1) g y e1 e2
        exact ⟨n, a, fun q hq => mono _ (b q hq)⟩
  · show (t.put j).1.place.size + (t.put j).1.dummies.size = hs.length + 1
    rw [sz, put_dm T.nod j]
    rfl

/-! ### laid anew -/
theorem free_gap {m : Nat} (hm : MOk m) (owner : Array (Option Nat)) (h : Int) {j : Nat} (hj : j ≤ m) (hf : oAt owner j = none) :
    ∃ k, SetTable.layClean.free m owner (SetTable.turns m) (SetTable.bits h % (m + 1)) (SetTable.bits h) = some (way m h k) ∧ oAt owner (way m h k) = none ∧ ∀ q, q < k → oAt owner (way m h q) ≠ none := by
  obtain ⟨n, hn, e⟩ := met_run hm h hj
  have at_n : way m h (off m (SetTable.bits h % (m + 1)) (SetTable.bits h) n) = j := by
    show (nth m (runAt m (SetTable.bits h % (m + 1)) (SetTable.bits h)) _).j = j
    rw [nth_off, itL_run]
    exact e
  obtain ⟨k, a, b, c⟩ := st_least (p := fun k => oAt owner (way m h k) = none) (off m (SetTable.bits h % (m + 1)) (SetTable.bits h) n) (by rw [at_n]; exact hf)
  have ht : SetTable.turns m = m + 15 := rfl
  refine ⟨k, free_spec m owner (SetTable.turns m) n _ _ k (by omega) a (fun q hq => ?_) ?_, b, c⟩
  · have z := c q hq
    show (oAt owner (way m h q)).isNone = false
    cases y : oAt owner (way m h q) with
    | none => exact absurd y z
    | some _ => rfl
  · show (oAt owner (way m h k)).isNone = true
    rw [b]
    rfl
theorem own_more {m : Nat} (hm : MOk m) {done : List Int} {owner : Array (Option Nat)} (W : Own m done owner) (hl : done.length ≤ m) (h : Int) :
    ∃ j, SetTable.layClean.free m owner (SetTable.turns m) (SetTable.bits h % (m + 1)) (SetTable.bits h) = some j ∧ Own m (done ++ [h]) (owner.setIfInBounds j (some done.length)) := by
  obtain ⟨ps, n1, n2⟩ := W.ps
  obtain ⟨j0, a0, b0⟩ := st_missing ps (m + 1) (by omega)
  have hj0 : j0 ≤ m := Nat.le_of_lt_succ a0
  have f0 : oAt owner j0 = none := Classical.byContradiction fun z => b0 (n2 j0 hj0 z)
  obtain ⟨k, e1, e2, e3⟩ := free_gap hm owner h hj0 f0
  have lt : way m h k < owner.size := by
    have := way_in m h k
    have := W.sz
    omega
  have here := oAt_set_self (some done.length) lt
  have there : ∀ i, i ≠ way m h k → oAt (owner.setIfInBounds (way m h k) (some done.length)) i = oAt owner i := fun i hi => oAt_set_ne _ hi
  have more : ∀ i, oAt owner i ≠ none → oAt (owner.setIfInBounds (way m h k) (some done.length)) i ≠ none := fun i hi => by
    by_cases c : i = way m h k
    · rw [c, here]
      intro z
      cases z
    · rw [there i c]
      exact hi
  refine ⟨way m h k, e1, by rw [Array.size_setIfInBounds]; exact W.sz, fun j q hj e => ?_, fun q hq => ?_, ⟨way m h k :: ps, by simp [n1], fun j hj e => ?_⟩⟩
  · by_cases c : j = way m h k
    · rw [c, here] at e
      refine ⟨h, k, ?_, c.symm, fun x hx => more _ (e3 x hx)⟩
      rw [← Option.some.inj e]
      simp
    · rw [there j c] at e
      obtain ⟨g, n, a, b, d⟩ := W.at_ j q hj e
      refine ⟨g, n, ?_, b, fun x hx => more _ (d x hx)⟩
      rw [List.getElem?_append_left (List.getElem?_eq_some_iff.mp a).1]
      exact a
  · rw [List.length_append, List.length_singleton] at hq
    by_cases c : q < done.length
    · obtain ⟨j, hj, e⟩ := W.all q c
      refine ⟨j, hj, ?_⟩
      rw [there j fun z => by rw [z, e2] at e; cases e]
      exact e
    · obtain rfl : q = done.length := by omega
      exact ⟨_, way_in m h k, here⟩
  · by_cases c : j = way m h k
    · rw [c]
      exact List.mem_cons_self
    · rw [there j c] at e
      exact List.mem_cons_of_mem _ (n2 j hj e)
theorem fold_own {m : Nat} (hm : MOk m) : ∀ (rest done : List Int) (owner : Array (Option Nat)), Own m done owner → done.length + rest.length ≤ m →
    ∃ ow, rest.foldl (stepF m) (some (owner, done.length)) = some (ow, (done ++ rest).length) ∧ Own m (done ++ rest) ow := by
  intro rest
  induction rest with
  | nil =>
    intro done owner W _
    refine ⟨owner, ?_, ?_⟩
    · rw [List.append_nil]
      rfl
    · rw [List.append_nil]
      exact W
  | cons h rest ih =>
    intro done owner W hl
    rw [List.length_cons] at hl
    obtain ⟨j, e, W2⟩ := own_more hm W (by omega) h
    obtain ⟨ow, f, W3⟩ := ih (done ++ [h]) _ W2 (by simp; omega)
    have e2 : done ++ [h] ++ rest = done ++ h :: rest := by simp
    have e3 : (done ++ [h]).length = done.length + 1 := by simp
    rw [e2] at W3 f
    rw [e3] at f
    refine ⟨ow, ?_, W3⟩
    rw [List.foldl_cons, stepF_some e]
    exact f
theorem clean_own {m : Nat} (hm : MOk m) {hs : Array Int} (hn : hs.size ≤ m) : ∃ ow, SetTable.layClean m hs = some ow ∧ Own m hs.toList ow := by
  have hz : hs.toList.length = hs.size := Array.length_toList
  obtain ⟨ow, f, W⟩ := fold_own hm hs.toList [] _ (Own.init m) (by simp only [List.length_nil]; omega)
  rw [List.nil_append] at W f
  refine ⟨ow, ?_, W⟩
  rw [layClean_eq, show (some (Array.replicate (m + 1) none, 0) : Option (Array (Option Nat) × Nat)) = some (Array.replicate (m + 1) none, ([] : List Int).length) from rfl, f]
  rfl
/-- all hashes laid in a new table -/
theorem laid_tab {M fi mo : Nat} {led pl : Bool} {hs : Array Int} (hM : MOk M) (hn : hs.size ≤ M) :
    ∃ t order, SetTable.laid M fi mo led pl hs = some (t, order) ∧ order.toList.Perm (List.range hs.size) ∧ TabR t (order.toList.map fun i => hs.getD i 0) ∧ t.mask = M ∧ t.led = led ∧ t.plain = pl := by
  obtain ⟨ow, e, W⟩ := clean_own hM hn
  have el : SetTable.laid M fi mo led pl hs = some ({ mask := M, place := ((liveOf M ow).map (·.1)).toArray, dummies := #[], finger := fi, led := led, moves := mo, plain := pl }, ((liveOf M ow).map (·.2)).toArray) := by
    show (SetTable.layClean M hs).bind (fun owner => some _) = _
    rw [e]
    rfl
  have rl := ris_live (fun j => ow.getD j none) (List.range (M + 1)) (by
    unfold Ris
    first | exact List.pairwise_lt_range | exact List.pairwise_lt_range _)
  have r1 : Ris ((liveOf M ow).map (·.1)) := rl.1
  have r2 : ∀ x ∈ (liveOf M ow).map (·.1), x ∈ List.range (M + 1) := rl.2
  have lv : ∀ j k, (j, k) ∈ liveOf M ow ↔ j ≤ M ∧ oAt ow j = some k := fun j k => mem_live W.sz
  have hz : hs.toList.length = hs.size := Array.length_toList
  have many : (liveOf M ow).length = hs.size := by
    obtain ⟨ps, p1, p2⟩ := W.ps
    have a : ((liveOf M ow).map (·.1)).length ≤ ps.length := by
      refine nat_nodup_len _ ps (List.Pairwise.imp (fun h => Nat.ne_of_lt h) r1) fun x hx => ?_
      obtain ⟨q, hq, eq⟩ := List.mem_map.mp hx
      have z := (lv q.1 q.2).1 hq
      rw [← eq]
      exact p2 _ z.1 (by rw [z.2]; intro y; cases y)
    have b : (List.range hs.size).length ≤ ((liveOf M ow).map (·.2)).length := by
      refine nat_nodup_len _ _ List.nodup_range fun k hk => ?_
      have hk2 := List.mem_range.mp hk
      obtain ⟨j, b1, b2⟩ := W.all k (by omega)
      exact List.mem_map.mpr ⟨(j, k), (lv j k).2 ⟨b1, b2⟩, rfl⟩
    rw [List.length_map] at a b
    rw [List.length_range] at b
    omega
  refine ⟨_, _, el, ?_, ⟨r1, rfl, ?_, hM, fun x hx => ?_, fun i h j h1 h2 => ?_⟩, rfl, rfl, rfl⟩
  · refine perm_range hs.size _ ?_ fun k hk => ?_
    · show ((liveOf M ow).map (·.2)).length = hs.size
      rw [List.length_map, many]
    · obtain ⟨j, b1, b2⟩ := W.all k (by omega)
      show k ∈ (liveOf M ow).map (·.2)
      exact List.mem_map.mpr ⟨(j, k), (lv j k).2 ⟨b1, b2⟩, rfl⟩
  · simp
  · exact Nat.le_of_lt_succ (List.mem_range.mp (r2 x hx))
  · have g1 : (((liveOf M ow).map (·.2)).map fun i => hs.getD i 0)[i]? = some h := h1
    have g2 : ((liveOf M ow).map (·.1))[i]? = some j := h2
    rw [List.getElem?_map, List.getElem?_map] at g1
    rw [List.getElem?_map] at g2
    cases hq : (liveOf M ow)[i]? with
    | none =>
      rw [hq] at g2
      cases g2
    | some q =>
      rw [hq] at g1 g2
      have ej : q.1 = j := Option.some.inj g2
      have eh : hs.getD q.2 0 = h := Option.some.inj g1
      have z := (lv q.1 q.2).1 (List.mem_of_getElem? hq)
      obtain ⟨g, n, a1, a2, a3⟩ := W.at_ q.1 q.2 z.1 z.2
      have eg : g = h := by
        rw [← eh, Array.getD_eq_getD_getElem?, ← Array.getElem?_toList, a1]
        rfl
      subst eg
      refine ⟨n, by rw [← ej]; exact a2, fun x hx => ?_⟩
      show way M g x ∈ (liveOf M ow).map (·.1)
      cases y : oAt ow (way M g x) with
      | none => exact absurd y (a3 x hx)
      | some k2 => exact List.mem_map.mpr ⟨(way M g x, k2), (lv _ _).2 ⟨way_in _ _ _, y⟩, rfl⟩
end K26
set_option Elab.async false
set_option linter.all false
set_option maxRecDepth 100000
set_option maxHeartbeats 4000000
/-! KSetB: sets of tuples of texts: searched, one added, laid anew. -/
namespace K26
open PySem PySem.Spec PyProof.Rows L2

abbrev hsh (P : Program) (w : World) (k : List Str) : Int := tupleKeyHash (strKind P w) k
/-- at a: the tuple of the texts k -/
abbrev IsP (P : Program) (w : World) (h : Heap) (k : List Str) (a : Addr) : Prop := IsTupleKey (strKind P w) h k a
abbrev PL := List (Addr × List Str)

section
variable {P : Program} {w : World} {A : Around} {E : Value → Shared → Prop} {s : Shared}
theorem its_str {k : List Str} {vs : List Value} (h : ItemsAre (strKind P w) k vs) : ∀ v ∈ vs, ∃ x t, v = Value.str x t := by
  induction h with
  | nil => intro v hv; cases hv
  | @cons k0 v' ks vs h1 _ ih =>
    intro v hv
    rcases List.mem_cons.mp hv with e | hv
    · obtain ⟨t, e2⟩ := Value.isStrOf_shape h1
      exact ⟨k0, t, e.trans e2⟩
    · exact ih v hv
theorem cls_str (n : Nat) (x : Str) (t : Tok) : ofAClassStatement n (.str x t) = pure false := by
  cases n <;> rfl
theorem hbv_str (n : Nat) (x : Str) (t : Tok) : hashByValue n (.str x t) = pure false := by
  cases n <;> rfl
theorem cls_tup {k : List Str} {b : Addr} {Q : Bool → Shared → Prop} (hk : IsP P w s.heap k b) (h : Q false s) : wpAny (model P w) A (ofAClassStatement 8 (.ref b)) Q E s := by
  have hT := hk.typeIs
  obtain ⟨o, items, n, ho, _, hd, hi⟩ := hk
  unfold ofAClassStatement
  refine wpAny_bind (wpAny_typeOf hT ?_)
  dsimp only
  have e : (("tuple" : String) == "tuple") = true := by decide
  simp only [e, if_true, Bool.not_true, Bool.false_eq_true, if_false]
  refine wpAny_bind (wpAny_pure ?_)
  simp only [Bool.not_true, Bool.false_eq_true, if_false]
  show wpAny _ _ (seqItems? (.ref b) >>= _) _ _ s
  refine wpAny_bind (wpAny_seqItems ho hd ?_)
  dsimp only
  refine wpAny_bind ?_
  show wpAny _ _ (forIn items _ _) _ _ s
  rw [← Array.forIn_toList]
  refine wpAny_forIn_list _ (fun rest r s' => r.1 = none ∧ s' = s ∧ ∀ v ∈ rest, ∃ x t, v = Value.str x t) _ ?_ ?_ _ _ ⟨rfl, rfl, its_str hi⟩
  · rintro v rest r s' ⟨hr, rfl, hall⟩
    obtain ⟨x, t, rfl⟩ := hall v List.mem_cons_self
    rw [cls_str]
    refine wpAny_bind (wpAny_pure ?_)
    simp only [Bool.false_eq_true, if_false]
    exact wpAny_pure ⟨rfl, rfl, fun u hu => hall u (List.mem_cons_of_mem _ hu)⟩
  · rintro ⟨r1, r2⟩ s' ⟨hr, rfl, _⟩
    simp only at hr
    subst hr
    exact wpAny_pure h
/-- whether its hash goes by value: some answer -/
theorem hbv_tup {k : List Str} {b : Addr} {Q : Bool → Shared → Prop} (hk : IsP P w s.heap k b) (h : ∀ c, Q c s) : wpAny (model P w) A (hashByValue 8 (.ref b)) Q E s := by
  have hT := hk.typeIs
  obtain ⟨o, items, n, ho, _, hd, hi⟩ := hk
  unfold hashByValue
  refine wpAny_bind (wpAny_specialOf hT F.slot_tuple_hash.lookup ?_)
  show wpAny _ _ (seqItems? (.ref b) >>= _) _ _ s
  refine wpAny_bind (wpAny_seqItems ho hd ?_)
  refine wpAny_bind ?_
  show wpAny _ _ (forIn items _ _) _ _ s
  rw [← Array.forIn_toList]
  refine wpAny_forIn_list _ (fun rest r s' => (r.1 = none ∨ r.1 = some false) ∧ s' = s ∧ ∀ v ∈ rest, ∃ x t, v = Value.str x t) _ ?_ ?_ _ _ ⟨.inl rfl, rfl, its_str hi⟩
  · rintro v rest r s' ⟨hr, rfl, hall⟩
    obtain ⟨x, t, rfl⟩ := hall v List.mem_cons_self
    rw [hbv_str]
    refine wpAny_bind (wpAny_pure ?_)
    simp only [Bool.not_false, if_true]
    exact wpAny_pure (wpAny_pure (h false))
  · rintro ⟨r1, r2⟩ s' ⟨hr, rfl, _⟩
    simp only at hr
    rcases hr with hr | hr
    · subst hr
      exact wpAny_pure (h true)
    · subst hr
      exact wpAny_pure (h false)
/-- a search among such tuples is seen by nobody -/
theorem unseen_tup {k : List Str} {b : Addr} {Q : Bool → Shared → Prop} (hk : IsP P w s.heap k b) {ys : List Value} (hy : ∀ y ∈ ys, ∃ k' c, y = Value.ref c ∧ IsP P w s.heap k' c) (h : Q false s) :
    wpAny (model P w) A (searchCouldBeSeen (.ref b) ys) Q E s := by
  unfold searchCouldBeSeen
  refine wpAny_bind ?_
  refine wpAny_forIn_list _ (fun rest r s' => r.1 = none ∧ s' = s ∧ ∀ y ∈ rest, ∃ k' c, y = Value.ref c ∧ IsP P w s.heap k' c) _ ?_ ?_ _ _ ⟨rfl, rfl, hy⟩
  · rintro v rest r s' ⟨hr, rfl, hall⟩
    obtain ⟨k', c, rfl, hc⟩ := hall v List.mem_cons_self
    have on : ∀ y ∈ rest, ∃ k' c, y = Value.ref c ∧ IsP P w s'.heap k' c := fun u hu => hall u (List.mem_cons_of_mem _ hu)
    dsimp only
    by_cases hv : (b == c || (carriedByValue (.ref b) && carriedByValue (.ref c))) = true
    · refine wp_if_pos hv ?_
      exact wpAny_pure ⟨rfl, rfl, on⟩
    · refine wp_if_neg hv ?_
      refine wpAny_bind (wpAny_eqIsQuiet_tuple hk ?_)
      simp only [Bool.not_true, Bool.false_eq_true, if_false]
      refine wpAny_bind (wpAny_eqIsQuiet_tuple hc ?_)
      simp only [Bool.not_true, Bool.false_eq_true, if_false]
      refine wpAny_bind (cls_tup hk ?_)
      simp only [Bool.false_eq_true, if_false]
      refine wpAny_bind (cls_tup hc ?_)
      simp only [Bool.false_eq_true, if_false]
      exact wpAny_pure ⟨rfl, rfl, on⟩
  · rintro ⟨r1, r2⟩ s' ⟨hr, rfl, _⟩
    simp only at hr
    subst hr
    exact wpAny_pure h

/-! ### the set -/
def rws (P : Program) (w : World) (L : PL) : List (Int × Value) := L.map fun p => (hsh P w p.2, Value.ref p.1)
/-- the set at a: its tuples, in the table's order -/
structure SetP (P : Program) (w : World) (h : Heap) (a : Addr) (L : PL) (es : Array (Int × Value)) (ep : Nat) (t : SetTable) : Prop where
  ob : ∃ o, h.get? a = some o ∧ o.ExactSet ∧ o.data = .set es ep t
  rows : es.toList = rws P w L
  tab : TabR t (L.map fun p => hsh P w p.2)
  nd : (L.map (·.2)).Nodup
  tup : ∀ p ∈ L, IsP P w h p.2 p.1
  led : w.params.followText "set-order" = true ∨ t.led = true
  room : L.length * 5 < t.mask * 3
variable {a : Addr} {L : PL} {es : Array (Int × Value)} {ep : Nat} {t : SetTable}
theorem SetP.size {h : Heap} (R : SetP P w h a L es ep t) : es.size = L.length := by
  have z := congrArg List.length R.rows
  unfold rws at z
  rw [Array.length_toList, List.length_map] at z
  exact z
theorem MOk.le {m : Nat} (h : MOk m) : 7 ≤ m ∧ m ≤ 31 := by
  rcases h with rfl | rfl | rfl <;> omega
theorem fits_of {n : Nat} (h1 : t.place.size = n) (h2 : t.dummies = #[]) (h3 : n ≤ t.mask) : t.fits n = true := by
  unfold SetTable.fits SetTable.fill
  rw [h2, Bool.and_eq_true, beq_iff_eq, decide_eq_true_eq]
  show t.place.size = n ∧ t.place.size + 0 ≤ t.mask
  omega
theorem SetP.fits {h : Heap} (R : SetP P w h a L es ep t) : t.fits es.size = true := by
  have h1 := R.tab.num
  rw [List.length_map] at h1
  have h2 := R.size
  have h3 := R.room
  exact fits_of (by omega) R.tab.nod (by omega)
theorem SetP.at_ {h : Heap} (R : SetP P w h a L es ep t) {i : Nat} {p : Addr × List Str} (e : L[i]? = some p) : es[i]? = some (hsh P w p.2, Value.ref p.1) := by
  rw [← Array.getElem?_toList, R.rows]
  unfold rws
  rw [List.getElem?_map, e]
  rfl
theorem SetP.stays {h : Heap} (R : SetP P w h a L es ep t) : ¬ t.gaveWay = true := by
  unfold SetTable.gaveWay
  rw [R.tab.msk.odd]
  decide

/-- the rest of a search, behind a candidate -/
def afterMet (a : Addr) (x : Value) (h : Int) (adding : Bool) (fuel : Nat) (es : Array (Int × Value)) (t : SetTable) (j i : Nat) (next : SetTable.Probe) : Sem SetFound := searchRest a x h adding fuel es t j i next
theorem nth_dummy {m : Nat} : ∀ (n : Nat) (p : SetTable.Probe), p.dummy = none → (nth m p n).dummy = none := by
  intro n
  induction n with
  | zero => intro p h; exact h
  | succ n ih =>
    intro p h
    refine ih (adv m p) ?_
    unfold adv
    split <;> exact h
abbrev pr0 (t : SetTable) (h : Int) : SetTable.Probe := runAt t.mask (SetTable.bits h % (t.mask + 1)) (SetTable.bits h)
/-- the search, from the c-th place of the way on; K: the first empty one -/
theorem seek (R : SetP P w s.heap a L es ep t) {x : Addr} {k : List Str} (hx : IsP P w s.heap k x) (hu : A.units < cLine) {g : Int} (hg : g = hsh P w k) {K : Nat} (hKf : K < 10 * SetTable.turns t.mask)
    (hK : way t.mask g K ∉ t.place.toList) (hKb : ∀ c, c < K → way t.mask g c ∈ t.place.toList) {Q : SetFound → Shared → Prop}
    (hin : k ∈ L.map (·.2) → Q (.there none) s) (hout : k ∉ L.map (·.2) → Q (.free (way t.mask g K) false) s) :
    ∀ (f c : Nat) (stand : Option SetTable.Probe), stand.getD (t.probeStart g) = nth t.mask (pr0 t g) c → c ≤ K → K - c < f →
      (∀ (i : Nat) p, L[i]? = some p → p.2 = k → ∃ c', c ≤ c' ∧ c' < K ∧ t.place.toList[i]? = some (way t.mask g c')) →
      wpAny (model P w) A (setSearchFrom a (.ref x) g true f stand) Q E s := by
  intro f
  induction f with
  | zero => intro c stand _ _ z; exact absurd z (Nat.not_lt_zero _)
  | succ f ih =>
    intro c stand hst hc hf hre
    obtain ⟨o, ho, hex, hd⟩ := R.ob
    rw [setSearchFrom_succ]
    refine wpAny_bind (wpAny_setState_of ho hd R.fits ?_)
    dsimp only
    refine wp_if_neg R.stays ?_
    try refine wpAny_bind (wpAny_pure ?_)
    have shift : ∀ q, nth t.mask (nth t.mask (pr0 t g) c) q = nth t.mask (pr0 t g) (c + q) := fun q => (nth_add t.mask c _ q).symm
    have shj : ∀ q, (nth t.mask (nth t.mask (pr0 t g) c) q).j = way t.mask g (c + q) := fun q => congrArg SetTable.Probe.j (shift q)
    have ck : c + (K - c) = K := by omega
    have spec := go_spec t R.tab.up R.tab.nod (fun i => (es[i]?.map (·.1)).getD 0) g (10 * SetTable.turns t.mask) (K - c) _ (nth_dummy c (pr0 t g) rfl) (by omega)
      (fun q hq => by rw [shj]; exact hKb (c + q) (by omega)) (by rw [shj, ck]; exact hK)
    have hat : ∀ (i : Nat) p, L[i]? = some p → (es[i]?.map (·.1)).getD 0 = hsh P w p.2 := fun i p hp => by
      rw [R.at_ hp]
      rfl
    rcases spec with ⟨q, i, hq, hi, hh, hno, hpr⟩ | ⟨hno, hpr⟩
    · have go : t.probe (fun i => (es[i]?.map (·.1)).getD 0) g (stand.getD (t.probeStart g)) = some (.candidate (way t.mask g (c + q)) i (nth t.mask (pr0 t g) (c + (q + 1)))) := by
        rw [hst, ← shj, ← shift]
        exact hpr
      rw [go]
      dsimp only
      rw [shj] at hi
      have il : i < L.length := by
        have h1 := (List.getElem?_eq_some_iff.mp hi).1
        have h2 := R.tab.num
        rw [List.length_map] at h2
        rw [Array.length_toList] at h1
        omega
      obtain ⟨p, hp⟩ : ∃ p, L[i]? = some p := ⟨_, List.getElem?_eq_getElem il⟩
      have pm : p ∈ L := List.mem_of_getElem? hp
      have rest : wpAny (model P w) A (searchRest a (.ref x) g true f es t (way t.mask g (c + q)) i (nth t.mask (pr0 t g) (c + (q + 1)))) Q E s := by
        unfold searchRest
        rw [R.at_ hp]
        dsimp only
        refine wpAny_bind (wpAny_holding (wpAny_eqBool_tuple hu (R.tup p pm) hx ?_))
        refine wpAny_bind (wpAny_setState_of ho hd R.fits ?_)
        dsimp only
        by_cases hkk : p.2 = k
        · refine wp_if_pos (by simp [hkk]) ?_
          exact wpAny_pure (hin (List.mem_map.mpr ⟨p, pm, hkk⟩))
        · refine wp_if_neg (by simp [hkk]) ?_
          try refine wpAny_bind (wpAny_pure ?_)
          rw [sameMem]
          dsimp only
          have sl : t.slot (way t.mask g (c + q)) = .live i := slot_live R.tab.up hi
          simp only [if_true, sl, R.at_ hp]
          refine wpAny_bind (wpAny_isSame_ref_self (wpAny_bind (wpAny_pure ?_)))
          simp only [if_true]
          refine wp_if_neg (by simp [hkk]) ?_
          refine ih (c + (q + 1)) _ rfl (by omega) (by omega) fun i0 p0 h0 hk0 => ?_
          obtain ⟨c', a1, a2, a3⟩ := hre i0 p0 h0 hk0
          refine ⟨c', ?_, a2, a3⟩
          rcases Nat.lt_trichotomy c' (c + q) with y | y | y
          · exfalso
            refine hno (c' - c) i0 (by omega) (by rw [shj, show c + (c' - c) = c' by omega]; exact a3) ?_
            show (es[i0]?.map (·.1)).getD 0 = g
            rw [hat i0 p0 h0, hk0, hg]
          · exfalso
            rw [y] at a3
            have s0 := slot_live R.tab.up a3
            rw [sl] at s0
            injection s0 with s0
            rw [← s0, hp] at h0
            exact hkk (by rw [Option.some.inj h0, hk0])
          · omega
      by_cases hl : t.led = true
      · refine wp_if_neg (by simp [hl]) ?_
        try refine wpAny_bind (wpAny_pure ?_)
        exact rest
      · refine wp_if_pos (by simp [hl]) ?_
        refine wpAny_bind (unseen_tup hx (fun y hy => ?_) ?_)
        · obtain ⟨e, he, ee⟩ := List.mem_map.mp hy
          have he1 : e ∈ es.toList := by
            have z : e ∈ es ∧ e.1 = g := by simpa using he
            simpa using z.1
          rw [R.rows] at he1
          obtain ⟨p2, hp2, e2⟩ := List.mem_map.mp he1
          exact ⟨p2.2, p2.1, by rw [← ee, ← e2], R.tup p2 hp2⟩
        · refine wp_if_neg (by decide) ?_
          try refine wpAny_bind (wpAny_pure ?_)
          exact rest
    · have go : t.probe (fun i => (es[i]?.map (·.1)).getD 0) g (stand.getD (t.probeStart g)) = some (.empty (way t.mask g K) none) := by
        have e2 : way t.mask g K = (nth t.mask (nth t.mask (pr0 t g) c) (K - c)).j := by rw [shj, ck]
        rw [hst, e2]
        exact hpr
      rw [go]
      dsimp only
      refine wpAny_pure (hout fun hm => ?_)
      obtain ⟨p0, h0, hk0⟩ := List.mem_map.mp hm
      obtain ⟨i0, hi0, e0⟩ := List.getElem_of_mem h0
      have h00 : L[i0]? = some p0 := by rw [List.getElem?_eq_getElem hi0, e0]
      obtain ⟨c', a1, a2, a3⟩ := hre i0 p0 h00 hk0
      refine hno (c' - c) i0 (by omega) (by rw [shj, show c + (c' - c) = c' by omega]; exact a3) ?_
      show (es[i0]?.map (·.1)).getD 0 = g
      rw [hat i0 p0 h00, hk0, hg]
/-- the search as adding asks for it -/
theorem seek_add (R : SetP P w s.heap a L es ep t) {x : Addr} {k : List Str} (hx : IsP P w s.heap k x) (hu : A.units < cLine) {Q : SetFound → Shared → Prop}
    (hin : k ∈ L.map (·.2) → Q (.there none) s)
    (hout : ∀ K, k ∉ L.map (·.2) → way t.mask (hsh P w k) K ∉ t.place.toList → (∀ c, c < K → way t.mask (hsh P w k) c ∈ t.place.toList) → Q (.free (way t.mask (hsh P w k) K) false) s) :
    wpAny (model P w) A (setSearch a (.ref x) (hsh P w k) true) Q E s := by
  have hroom := R.room
  have ml := R.tab.msk.le
  obtain ⟨K, hKf, hK, hKb⟩ := R.tab.gap (by rw [List.length_map]; omega) (hsh P w k)
  have ht : SetTable.turns t.mask = t.mask + 15 := rfl
  unfold setSearch
  refine seek R hx hu rfl hKf hK hKb hin (fun hn => hout K hn hK hKb) 100000 0 none rfl (Nat.zero_le _) (by omega) fun i p hp hk => ?_
  have hi : (L.map fun p => hsh P w p.2)[i]? = some (hsh P w k) := by
    rw [List.getElem?_map, hp, ← hk]
    rfl
  have il : i < t.place.toList.length := by
    have h1 := (List.getElem?_eq_some_iff.mp hp).1
    have h2 := R.tab.num
    rw [List.length_map] at h2
    rw [Array.length_toList]
    omega
  have hj := List.getElem?_eq_getElem il
  obtain ⟨c, hc, e⟩ := R.tab.ahead hK hi hj
  exact ⟨c, Nat.zero_le _, hc, by rw [hj, e]⟩

/-! ### laid anew, added -/
theorem isP_same {h h' : Heap} {k : List Str} {a b : Addr} {o : Obj} {es : Array (Int × Value)} {ep : Nat} {t : SetTable} (hb : IsP P w h k b) (ho : h.get? a = some o) (hd : o.data = .set es ep t) (hs : Heap.SameBut a h h') : IsP P w h' k b := by
  obtain ⟨o', items, n, ho', hc, hd', hi⟩ := hb
  have ne : b ≠ a := fun z => by
    rw [z, ho] at ho'
    obtain rfl : o = o' := Option.some.inj ho'
    rw [hd] at hd'
    cases hd'
  exact ⟨o', items, n, (hs.2 b ne).trans ho', hc, hd', hi⟩
theorem isP_keep {h h' : Heap} {k : List Str} {b : Addr} (x : IsP P w h k b) (hk : ∀ c o, h.get? c = some o → h'.get? c = some o) : IsP P w h' k b := by
  obtain ⟨o, items, n, ho, r⟩ := x
  exact ⟨o, items, n, hk b o ho, r⟩
theorem SetP.keep {h h' : Heap} (R : SetP P w h a L es ep t) (ha : ∀ o, h.get? a = some o → h'.get? a = some o) (ht : ∀ p ∈ L, IsP P w h' p.2 p.1) : SetP P w h' a L es ep t := by
  obtain ⟨o, ho, r⟩ := R.ob
  exact ⟨⟨o, ha o ho, r⟩, R.rows, R.tab, R.nd, ht, R.led, R.room⟩
/-- the entries in another order -/
theorem reorder {P : Program} {w : World} (L : PL) (es : Array (Int × Value)) (order : Array Nat) (hr : es.toList = rws P w L) (hp : order.toList.Perm (List.range L.length)) :
    ∃ L2 : PL, (order.filterMap (es[·]?)).toList = rws P w L2 ∧ L2.Perm L ∧ (L2.map fun p => hsh P w p.2) = order.toList.map fun i => (es.map (·.1)).getD i 0 := by
  have ent : ∀ i (h : i < L.length), es[i]? = some (hsh P w (L[i]).2, Value.ref (L[i]).1) := fun i h => by
    rw [← Array.getElem?_toList, hr]
    unfold rws
    rw [List.getElem?_map, List.getElem?_eq_getElem h]
    rfl
  have key : ∀ l : List Nat, (∀ i ∈ l, i < L.length) → l.filterMap (fun i => es[i]?) = rws P w (l.filterMap fun i => L[i]?) ∧ ((l.filterMap fun i => L[i]?).map fun p => hsh P w p.2) = l.map fun i => (es.map (·.1)).getD i 0 := by
    intro l
    induction l with
    | nil => intro _; exact ⟨rfl, rfl⟩
    | cons i l ih =>
      intro hl
      have hi := hl i List.mem_cons_self
      obtain ⟨e1, e2⟩ := ih fun j hj => hl j (List.mem_cons_of_mem _ hj)
      have e3 : (es.map (·.1))[i]? = some (hsh P w (L[i]).2) := by
        rw [Array.getElem?_map, ent i hi]
        rfl
      refine ⟨?_, ?_⟩
      · rw [List.filterMap_cons_some (ent i hi), e1, List.filterMap_cons_some (List.getElem?_eq_getElem hi)]
        rfl
      · rw [List.filterMap_cons_some (List.getElem?_eq_getElem hi), List.map_cons, List.map_cons, e2, Array.getD_eq_getD_getElem?, e3]
        rfl
  have all : (List.range L.length).filterMap (fun i => L[i]?) = L := by
    have z : ∀ n, n ≤ L.length → (List.range n).filterMap (fun i => L[i]?) = L.take n := by
      intro n
      induction n with
      | zero => intro _; simp
      | succ n ih =>
        intro hn
        have lt : n < L.length := hn
        rw [List.range_succ, List.filterMap_append, ih (Nat.le_of_lt lt), List.take_succ, List.getElem?_eq_getElem lt, List.filterMap_cons_some (List.getElem?_eq_getElem lt)]
        rfl
    rw [z L.length (Nat.le_refl _), List.take_length]
  obtain ⟨e1, e2⟩ := key order.toList fun i hi => List.mem_range.mp (hp.mem_iff.mp hi)
  refine ⟨order.toList.filterMap fun i => L[i]?, by rw [Array.toList_filterMap]; exact e1, ?_, e2⟩
  have z := hp.filterMap fun i => L[i]?
  rw [all] at z
  exact z
theorem rws_len {P : Program} {w : World} {l : List (Int × Value)} {L : PL} (h : l = rws P w L) : l.length = L.length := by
  rw [h]
  unfold rws
  rw [List.length_map]
/-- what a relaying leaves -/
theorem relay {o : Obj} (ho : s.heap.get? a = some o) (hex : o.ExactSet) (hd : o.data = .set es ep t) (hrows : es.toList = rws P w L) (hsz : t.place.size = es.size) (hdm : t.dummies = #[]) (hfl : es.size ≤ t.mask)
    (nd : (L.map (·.2)).Nodup) (tup : ∀ p ∈ L, IsP P w s.heap p.2 p.1) (ld : w.params.followText "set-order" = true ∨ t.led = true) {wanted M : Nat}
    (hw : SetTable.sizeAbove wanted = M + 1) (hM : MOk M) (hn : L.length * 5 < M * 3) {Q : Unit → Shared → Prop}
    (hQ : ∀ h' L' es' ep' t', Heap.SameBut a s.heap h' → SetP P w h' a L' es' ep' t' → t'.mask = M → L'.Perm L → Q () { s with heap := h' }) : wpAny (model P w) A (setRelay a wanted) Q E s := by
  have sl : es.size = L.length := by
    rw [← Array.length_toList, hrows]
    exact rws_len rfl
  have ml := hM.le
  obtain ⟨t', order, e, hp, T, em, el, _⟩ := laid_tab (M := M) (fi := t.finger) (mo := t.movedTo M) (led := t.led) (pl := t.plain) (hs := es.map (·.1)) hM (by rw [Array.size_map]; omega)
  rw [Array.size_map, sl] at hp
  obtain ⟨L2, r1, r2, r3⟩ := reorder L es order hrows hp
  rw [← r3] at T
  have s2 : (order.filterMap (es[·]?)).size = es.size := by
    rw [← Array.length_toList, rws_len r1, r2.length_eq, sl]
  have e' : t.relaid (es.map (·.1)) wanted = some (t', order) := by
    show SetTable.laid (SetTable.sizeAbove wanted - 1) t.finger (t.movedTo (SetTable.sizeAbove wanted - 1)) t.led t.plain (es.map (·.1)) = _
    rw [hw]
    exact e
  rw [setRelay_eq]
  refine wpAny_bind (wpAny_setState_of ho hd (fits_of hsz hdm hfl) ?_)
  dsimp only
  refine wp_if_neg (by rw [hw, sizeLine_eq]; omega) ?_
  try refine wpAny_bind (wpAny_pure ?_)
  rw [e']
  dsimp only
  refine wpAny_bind ?_
  refine wp_if_neg (by rw [s2]; simp) ?_
  try refine wpAny_bind (wpAny_pure ?_)
  refine wpAny_pure ?_
  dsimp only
  refine wpAny_storeSet_of ho hd ?_ (by rw [s2, sl, sizeLine_eq]; omega)
  have sb : Heap.SameBut a s.heap (s.heap.update a (Obj.putSet (order.filterMap (es[·]?)) t')) := Heap.SameBut.update ..
  refine hQ _ L2 (order.filterMap (es[·]?)) (ep + 1) t' sb ⟨⟨_, store_at ho hd, ⟨hex.1, hex.2.1, hex.2.2⟩, rfl⟩, r1, T, (r2.map (·.2)).nodup_iff.mpr nd, fun p hpm => isP_same (tup p (r2.mem_iff.mp hpm)) ho hd sb, by rw [el]; exact ld, by rw [r2.length_eq, em]; exact hn⟩ em r2
theorem size20 : SetTable.sizeAbove (SetTable.grown 5) = 31 + 1 := by decide +kernel
/-- one more; where the table is the smallest it may grow -/
theorem add_one (R : SetP P w s.heap a L es ep t) {x : Addr} {k : List Str} (hx : IsP P w s.heap k x) (hu : A.units < cLine) (hr : t.mask = 7 ∨ (L.length + 1) * 5 < t.mask * 3) {Q : Bool → Shared → Prop}
    (hQ : ∀ b h' L' es' ep' t', Heap.SameBut a s.heap h' → SetP P w h' a L' es' ep' t' → (t'.mask = t.mask ∨ (t.mask = 7 ∧ t'.mask = 31)) → (k ∈ L.map (·.2) → L' = L ∧ ep' = ep) → (k ∉ L.map (·.2) → L'.Perm ((x, k) :: L)) → Q b { s with heap := h' }) :
    wpAny (model P w) A (setAddHashed a (.ref x) (hsh P w k)) Q E s := by
  obtain ⟨o, ho, hex, hd⟩ := R.ob
  have sl := R.size
  have room := R.room
  have ml := R.tab.msk.le
  unfold setAddHashed
  refine wpAny_holding ?_
  rw [show (100000 : Nat) = 99999 + 1 from rfl, setAddHashedIn_succ]
  refine wpAny_bind (wpAny_setState_of ho hd R.fits ?_)
  dsimp only
  refine wp_if_neg (by simp [byScan, Value.scannable]) ?_
  try refine wpAny_bind (wpAny_pure ?_)
  refine wpAny_bind (seek_add R hx hu (fun hm => ?_) fun K hm hK hb => ?_)
  · dsimp only
    exact wpAny_pure (hQ false s.heap L es ep t (Heap.SameBut.refl a s.heap) R (.inl rfl) (fun _ => ⟨rfl, rfl⟩) fun z => absurd hm z)
  · dsimp only
    refine wpAny_bind (wpAny_setState_of ho hd R.fits ?_)
    dsimp only
    obtain ⟨p, hp⟩ : ∃ p, p = SetTable.below t.place (way t.mask (hsh P w k) K) := ⟨_, rfl⟩
    obtain ⟨q1, q2, q3, q4, q5, q6⟩ := R.tab.put hK hb rfl hp
    rw [List.length_map] at q2 q6
    generalize hpt : t.put (way t.mask (hsh P w k) K) = pt at q1 q3 q4 q5 q6 ⊢
    obtain ⟨t1, p1⟩ := pt
    dsimp only at q1 q3 q4 q5 q6 ⊢
    subst q1
    clear hp
    have pm : (L.take p1 ++ (x, k) :: L.drop p1).Perm ((x, k) :: L) := put_perm L p1 (x, k)
    have hin : (SetTable.insertAt es p1 (hsh P w k, Value.ref x)).toList = rws P w (L.take p1 ++ (x, k) :: L.drop p1) := by
      rw [SetTable.toList_insertAt, R.rows]
      unfold rws
      rw [List.map_append, List.map_cons, List.map_take, List.map_drop]
    have hhs : (L.take p1 ++ (x, k) :: L.drop p1).map (fun p => hsh P w p.2) = (L.map fun p => hsh P w p.2).take p1 ++ hsh P w k :: (L.map fun p => hsh P w p.2).drop p1 := by
      rw [List.map_append, List.map_cons, List.map_take, List.map_drop]
    rw [← hhs] at q3
    have hlen : (L.take p1 ++ (x, k) :: L.drop p1).length = L.length + 1 := pm.length_eq
    have nd1 : ((L.take p1 ++ (x, k) :: L.drop p1).map (·.2)).Nodup := by
      refine (pm.map (·.2)).nodup_iff.mpr ?_
      rw [List.map_cons]
      exact List.nodup_cons.mpr ⟨hm, R.nd⟩
    have hes : (SetTable.insertAt es p1 (hsh P w k, Value.ref x)).size = L.length + 1 := by
      rw [← Array.length_toList, rws_len hin, hlen]
    generalize SetTable.insertAt es p1 (hsh P w k, Value.ref x) = es1 at hin hes ⊢
    generalize L.take p1 ++ (x, k) :: L.drop p1 = L1 at pm hlen q3 nd1 hin
    -- whatever the hash's kind: the table but for its flag
    have rest : ∀ t2 : SetTable, t2.place = t1.place → t2.dummies = t1.dummies → t2.mask = t1.mask → t2.led = t1.led → wpAny (model P w) A (do
        storeSet a es1 t2
        if !false && t2.tooFull then setRelay a (SetTable.grown (es.size + 1))
        return true) Q E s := by
      intro t2 u1 u2 u3 u4
      have T2 : TabR t2 (L1.map fun p => hsh P w p.2) := by
        obtain ⟨b1, b2, b3, b4, b5, b6⟩ := q3
        exact ⟨by rw [u1]; exact b1, by rw [u2]; exact b2, by rw [u1]; exact b3, by rw [u3]; exact b4, by rw [u1, u3]; exact b5, by rw [u1, u3]; exact b6⟩
      have f2 : t2.fill = L.length + 1 := by
        rw [← q6]
        unfold SetTable.fill
        rw [u1, u2]
      refine wpAny_bind (wpAny_storeSet_of ho hd ?_ (by rw [hes, sizeLine_eq]; omega))
      have sb : Heap.SameBut a s.heap (s.heap.update a (Obj.putSet es1 t2)) := Heap.SameBut.update ..
      have ho1 := store_at (es' := es1) (t' := t2) ho hd
      generalize s.heap.update a (Obj.putSet es1 t2) = h1 at sb ho1 ⊢
      have tup1 : ∀ p ∈ L1, IsP P w h1 p.2 p.1 := fun p hp => by
        rcases List.mem_cons.mp (pm.mem_iff.mp hp) with e | hp
        · rw [e]
          exact isP_same hx ho hd sb
        · exact isP_same (R.tup p hp) ho hd sb
      have ld1 : w.params.followText "set-order" = true ∨ t2.led = true := by
        rw [u4, q5]
        exact R.led
      by_cases hf : t2.tooFull = true
      · have full : (L.length + 1) * 5 ≥ t2.mask * 3 := by
          have z := hf
          unfold SetTable.tooFull at z
          rw [decide_eq_true_eq, f2] at z
          exact z
        rw [u3, q4] at full
        have m7 : t.mask = 7 := by
          rcases hr with e | e
          · exact e
          · omega
        rw [m7] at full room
        have l4 : L.length = 4 := by omega
        have s1 : t2.place.size = es1.size := by
          have z := T2.num
          rw [List.length_map, hlen] at z
          omega
        have go : wpAny (model P w) A (setRelay a (SetTable.grown (es.size + 1))) (fun _ s' => wpAny (model P w) A (pure true) Q E s') E { s with heap := h1 } := by
          rw [sl, l4]
          refine relay (s := { s with heap := h1 }) ho1 ⟨hex.1, hex.2.1, hex.2.2⟩ rfl hin s1 T2.nod (by rw [hes, u3, q4, m7]; omega) nd1 tup1 ld1 size20 (.inr (.inr rfl)) (by rw [hlen]; omega) fun h2 L2 es2 ep2 t3 sb2 R2 e2 pm2 => ?_
          exact wpAny_pure (hQ true h2 L2 es2 ep2 t3 (sb.trans sb2) R2 (.inr ⟨m7, e2⟩) (fun z => absurd z hm) fun _ => pm2.trans pm)
        first
          | (refine wpAny_bind ?_; refine wp_if_pos (by simp [hf]) ?_; exact go)
          | (refine wp_if_pos (by simp [hf]) ?_; refine wpAny_bind ?_; exact go)
      · have free : (L.length + 1) * 5 < t2.mask * 3 := by
          have z := hf
          unfold SetTable.tooFull at z
          rw [decide_eq_true_eq, f2] at z
          omega
        first
          | refine wp_if_neg (by simp [hf]) ?_
          | (refine wpAny_bind ?_; refine wp_if_neg (by simp [hf]) ?_; refine wpAny_pure ?_)
        exact wpAny_pure (hQ true h1 L1 es1 (ep + 1) t2 sb ⟨⟨_, ho1, ⟨hex.1, hex.2.1, hex.2.2⟩, rfl⟩, hin, T2, nd1, tup1, ld1, by rw [hlen]; exact free⟩ (.inl (by rw [u3, q4])) (fun z => absurd z hm) fun _ => pm)
    by_cases hpl : t1.plain = true
    · first
        | (refine wpAny_bind ?_; refine wp_if_pos hpl ?_; refine hbv_tup hx fun c => ?_)
        | refine wp_if_pos hpl (wpAny_bind (hbv_tup hx fun c => ?_))
      cases c with
      | true => exact rest t1 rfl rfl rfl rfl
      | false => exact rest { t1 with plain := false } rfl rfl rfl rfl
    · first
        | (refine wpAny_bind ?_; refine wp_if_neg hpl ?_; refine wpAny_pure ?_)
        | refine wp_if_neg hpl (wpAny_bind (wpAny_pure ?_))
      exact rest t1 rfl rfl rfl rfl
end
end K26
set_option Elab.async false
set_option linter.all false
set_option maxRecDepth 100000
set_option maxHeartbeats 4000000
/-! KSetC: sets of tuples of texts: walked, merged. -/
namespace K26
open PySem PySem.Spec PyProof.Rows L2
section
variable {P : Program} {w : World} {A : Around} {E : Value → Shared → Prop} {s : Shared} {a : Addr} {L : PL} {es : Array (Int × Value)} {ep : Nat} {t : SetTable}
/-- a walk gives the entries in some order -/
theorem walk_any {Q : Array (Int × Value) → Shared → Prop} (R : SetP P w s.heap a L es ep t) (h : ∀ ws d, ws.toList.Perm es.toList → Q ws { s with drawn := d }) : wpAny (model P w) A (setWalk a) Q E s := by
  obtain ⟨o, ho, hex, hd⟩ := R.ob
  unfold setWalk
  refine wpAny_bind (wpAny_setState_of ho hd R.fits ?_)
  dsimp only
  refine wpAny_bind (wpAny_byText ?_)
  by_cases hb : w.params.followText "set-order" = true
  · refine wp_if_pos hb ?_
    exact wpAny_bind (wpAny_askSetting (wpAny_pure (h _ s.drawn (pick_perm _ es))))
  · refine wp_if_neg hb ?_
    try refine wpAny_bind (wpAny_pure ?_)
    have hl : t.led = true := R.led.resolve_left hb
    by_cases hdr : (!t.plain && decide (es.size > 1)) = true
    · refine wp_if_pos hdr ?_
      refine wpAny_bind (drawOrder_at _ _ _ _ (by rw [Array.length_toList]; exact Nat.le_refl _) fun ys d hp => wpAny_pure (h _ d ?_))
      exact hp
    · refine wp_if_neg hdr ?_
      try refine wpAny_bind (wpAny_pure ?_)
      refine wpAny_bind (wpAny_of_eq (a := ()) ?_ ?_)
      · show (if (!t.led && decide (es.size > 1)) = true then unsupported "set:maker-not-led" else pure ()) = pure ()
        rw [hl]
        rfl
      · exact wpAny_pure (h es s.drawn (List.Perm.refl _))
/-- its members' == may be seen -/
theorem quiet_not {Q : Bool → Shared → Prop} {more : List Addr} (R : SetP P w s.heap a L es ep t) (hn : L ≠ []) (h : Q false s) : wpAny (model P w) A (setsQuiet (a :: more)) Q E s := by
  obtain ⟨o, ho, hex, hd⟩ := R.ob
  obtain ⟨p, L', e⟩ : ∃ p L', L = p :: L' := by
    cases L with
    | nil => exact absurd rfl hn
    | cons p L' => exact ⟨p, L', rfl⟩
  have hr := R.rows
  rw [e] at hr
  have hT : s.TypeIs (.ref p.1) "tuple" := (R.tup p (by rw [e]; exact List.mem_cons_self)).typeIs
  unfold setsQuiet
  refine wpAny_bind ?_
  rw [List.forIn_cons]
  refine wpAny_bind ?_
  refine wpAny_bind (m := setEntries a) ?_
  unfold setEntries
  refine wpAny_bind (wpAny_setState_of ho hd R.fits (wpAny_pure ?_))
  refine wpAny_bind ?_
  rw [← Array.forIn_toList, hr]
  show wpAny _ _ (forIn ((hsh P w p.2, Value.ref p.1) :: rws P w L') _ _) _ _ _
  rw [List.forIn_cons]
  refine wpAny_bind ?_
  dsimp only
  refine wpAny_bind (wpAny_specialOf hT F.slot_tuple_eq.lookup ?_)
  refine wp_if_pos (by decide) ?_
  refine wpAny_pure (wpAny_pure (wpAny_pure (wpAny_pure ?_)))
  exact wpAny_pure h
theorem walk_unseen {Q : Array (Int × Value) → Shared → Prop} {more : List Addr} {f : Option Addr} (R : SetP P w s.heap a L es ep t) (h : ∀ ws d, ws.toList.Perm es.toList → Q ws { s with drawn := d }) : wpAny (model P w) A (setWalkUnseen a more f) Q E s := by
  obtain ⟨o, ho, hex, hd⟩ := R.ob
  unfold setWalkUnseen
  refine wpAny_bind (wpAny_setState_of ho hd R.fits ?_)
  dsimp only
  refine wpAny_bind (wpAny_byText ?_)
  by_cases hc : (w.params.followText "set-order" || (t.led && t.plain) || decide (es.size ≤ 1)) = true
  · refine wp_if_pos hc ?_
    first | exact walk_any R h | exact wpAny_bind (m := setWalk a) (walk_any R fun ws d hp => wpAny_pure (h ws d hp))
  · refine wp_if_neg hc ?_
    try refine wpAny_bind (wpAny_pure ?_)
    have hn : L ≠ [] := fun z => by
      have z2 := R.size
      rw [z] at z2
      have z3 : es.size = 0 := z2
      rw [z3] at hc
      simp at hc
    refine wpAny_bind (quiet_not R hn ?_)
    refine wp_if_pos (by decide) ?_
    first | exact walk_any R h | exact wpAny_bind (m := setWalk a) (walk_any R fun ws d hp => wpAny_pure (h ws d hp))
end

/-- the model's words, opened -/
theorem setMerge_eq (s o : Addr) (each : Sem Unit) : setMerge s o each = (do
    if s == o then return
    let (eo, epoch, to) ← setState o
    if eo.isEmpty then return
    setRoomFor s eo.size
    let (_, _, ts) ← setState s
    match ts.road to with
    | .slotForSlot => storeSet s eo { to with finger := ts.finger, led := ts.led && to.led, moves := ts.moves, plain := ts.plain && to.plain }
    | .clean =>
      let (es, t) ← (do
        let some (t, order) := SetTable.laid ts.mask ts.finger ts.moves (led := ts.led && to.led) (plain := ts.plain && to.plain) (eo.map (·.1)) | unsupported "internal:set-table-without-room"
        let es' := order.filterMap (eo[·]?)
        if es'.size != eo.size then unsupported "internal:set-table-lost-an-element"
        pure (es', t) : Sem (Array (Int × Value) × SetTable))
      storeSet s es t
    | .oneByOne =>
      for (h, x) in ← setWalkUnseen o [s] (some s) do
        let _ ← holding [x] (setAddHashed s x h)
        each
        if (← setState o).2.1 != epoch then unsupported "set.changed-during-merge") := by rfl

section
variable {P : Program} {w : World} {A : Around} {E : Value → Shared → Prop} {s : Shared}
theorem above_small : ∀ n, n ≤ 12 → 5 ≤ n → ∃ M, SetTable.sizeAbove (n * 2) = M + 1 ∧ MOk M ∧ n * 5 < M * 3 ∧ 15 ≤ M := by
  intro n h1 h2
  have : n = 5 ∨ n = 6 ∨ n = 7 ∨ n = 8 ∨ n = 9 ∨ n = 10 ∨ n = 11 ∨ n = 12 := by omega
  rcases this with rfl | rfl | rfl | rfl | rfl | rfl | rfl | rfl
  · exact ⟨15, by decide +kernel, .inr (.inl rfl), by omega, by omega⟩
  · exact ⟨15, by decide +kernel, .inr (.inl rfl), by omega, by omega⟩
  · exact ⟨15, by decide +kernel, .inr (.inl rfl), by omega, by omega⟩
  · exact ⟨31, by decide +kernel, .inr (.inr rfl), by omega, by omega⟩
  · exact ⟨31, by decide +kernel, .inr (.inr rfl), by omega, by omega⟩
  · exact ⟨31, by decide +kernel, .inr (.inr rfl), by omega, by omega⟩
  · exact ⟨31, by decide +kernel, .inr (.inr rfl), by omega, by omega⟩
  · exact ⟨31, by decide +kernel, .inr (.inr rfl), by omega, by omega⟩
/-- room for so many more -/
theorem room_for {r : Addr} {Lr : PL} {es : Array (Int × Value)} {ep : Nat} {t : SetTable} (R : SetP P w s.heap r Lr es ep t) {n : Nat} (hn : Lr.length + n ≤ 12) {Q : Unit → Shared → Prop}
    (hQ : ∀ h' L' es' ep' t', Heap.SameBut r s.heap h' → SetP P w h' r L' es' ep' t' → L'.Perm Lr → (Lr.length + n) * 5 < t'.mask * 3 → Q () { s with heap := h' }) : wpAny (model P w) A (setRoomFor r n) Q E s := by
  obtain ⟨o, ho, hex, hd⟩ := R.ob
  have ml := R.tab.msk.le
  have hroom := R.room
  have nm := R.tab.num
  rw [List.length_map] at nm
  have fl : t.fill = Lr.length := by
    show t.place.size + t.dummies.size = Lr.length
    rw [nm, R.tab.nod]
    rfl
  unfold setRoomFor
  refine wpAny_bind (wpAny_setState_of ho hd R.fits ?_)
  dsimp only
  unfold SetTable.roomFor
  rw [fl, nm]
  by_cases hc : (Lr.length + n) * 5 ≥ t.mask * 3
  · rw [if_pos hc]
    dsimp only
    obtain ⟨M, m1, m2, m3, m4⟩ := above_small (Lr.length + n) hn (by omega)
    refine relay ho hex hd R.rows (by rw [nm, R.size]) R.tab.nod (by rw [R.size]; omega) R.nd R.tup R.led m1 m2 (by omega) fun h' L' es' ep' t' sb R' em pm => ?_
    exact hQ h' L' es' ep' t' sb R' pm (by rw [em]; exact m3)
  · rw [if_neg hc]
    dsimp only
    exact wpAny_pure (hQ s.heap Lr es ep t (Heap.SameBut.refl r s.heap) R (List.Perm.refl _) (by omega))
/-- merged into an empty one -/
theorem merge_empty {r o : Addr} {er eo : Array (Int × Value)} {epr epo : Nat} {tr to : SetTable} {Lo : PL} {each : Sem Unit} (hro : r ≠ o) (Rr : SetP P w s.heap r [] er epr tr) (Ro : SetP P w s.heap o Lo eo epo to) (hn : Lo.length ≤ 12) {Q : Unit → Shared → Prop}
    (hQ : ∀ h' L' es' ep' t', Heap.SameBut r s.heap h' → SetP P w h' r L' es' ep' t' → L'.Perm Lo → Q () { s with heap := h' }) : wpAny (model P w) A (setMerge r o each) Q E s := by
  obtain ⟨oo, hoo, hexo, hdo⟩ := Ro.ob
  rw [setMerge_eq]
  refine wp_if_neg (by simp [hro]) ?_
  try refine wpAny_bind (wpAny_pure ?_)
  refine wpAny_bind (wpAny_setState_of hoo hdo Ro.fits ?_)
  dsimp only
  have so := Ro.size
  by_cases hz : eo.isEmpty = true
  · refine wp_if_pos hz ?_
    have e0 : Lo = [] := by
      have z : eo.size = 0 := by simpa using hz
      exact List.length_eq_zero_iff.mp (by omega)
    subst e0
    exact wpAny_pure (hQ s.heap [] er epr tr (Heap.SameBut.refl r s.heap) Rr (List.Perm.refl _))
  · refine wp_if_neg hz ?_
    try refine wpAny_bind (wpAny_pure ?_)
    refine wpAny_bind (room_for Rr (n := eo.size) (by rw [so]; show 0 + Lo.length ≤ 12; omega) fun h1 L1 e1 p1 t1 sb1 R1 pm1 room1 => ?_)
    obtain rfl : L1 = [] := List.Perm.eq_nil pm1
    obtain ⟨o1, ho1, hex1, hd1⟩ := R1.ob
    refine wpAny_bind (wpAny_setState_of (s := { s with heap := h1 }) ho1 hd1 R1.fits ?_)
    dsimp only
    have n1 : t1.place.size = 0 := by
      have z := R1.tab.num
      exact z
    have f1 : t1.fill = 0 := by
      show t1.place.size + t1.dummies.size = 0
      rw [n1, R1.tab.nod]
      rfl
    have room2 : Lo.length * 5 < t1.mask * 3 := by
      have z : (0 + eo.size) * 5 < t1.mask * 3 := room1
      omega
    have tup1 : ∀ p ∈ Lo, IsP P w h1 p.2 p.1 := fun p hp => by
      obtain ⟨orr, hor, _, hdr⟩ := Rr.ob
      exact isP_same (Ro.tup p hp) hor hdr sb1
    have led1 : ∀ b1 b2 : Bool, (w.params.followText "set-order" = true ∨ b1 = true) → (w.params.followText "set-order" = true ∨ b2 = true) → (w.params.followText "set-order" = true ∨ (b1 && b2) = true) := fun b1 b2 z1 z2 => by
      rcases z1 with z1 | z1
      · exact .inl z1
      · rcases z2 with z2 | z2
        · exact .inl z2
        · exact .inr (by rw [z1, z2]; rfl)
    have fin : ∀ (es' : Array (Int × Value)) (t' : SetTable) (L' : PL), es'.toList = rws P w L' → TabR t' (L'.map fun p => hsh P w p.2) → L'.Perm Lo → t'.led = (t1.led && to.led) → L'.length * 5 < t'.mask * 3 → wpAny (model P w) A (storeSet r es' t') Q E { s with heap := h1 } := by
      intro es' t' L' a1 a2 a3 a4 a5
      have sz : es'.size = Lo.length := by rw [← Array.length_toList, rws_len a1, a3.length_eq]
      refine wpAny_storeSet_of (s := { s with heap := h1 }) ho1 hd1 ?_ (by rw [sz, sizeLine_eq]; omega)
      have sb : Heap.SameBut r h1 (h1.update r (Obj.putSet es' t')) := Heap.SameBut.update ..
      refine hQ _ L' es' (p1 + 1) t' (sb1.trans sb) ⟨⟨_, store_at ho1 hd1, ⟨hex1.1, hex1.2.1, hex1.2.2⟩, rfl⟩, a1, a2, (a3.map (·.2)).nodup_iff.mpr Ro.nd, fun p hp => isP_same (tup1 p (a3.mem_iff.mp hp)) ho1 hd1 sb, by rw [a4]; exact led1 _ _ R1.led Ro.led, a5⟩ a3
    unfold SetTable.road
    rw [f1]
    rw [if_neg (by decide)]
    by_cases hm : (t1.mask == to.mask && to.dummies.isEmpty) = true
    · rw [if_pos hm]
      dsimp only
      have T := Ro.tab
      have em : t1.mask = to.mask := by
        rw [Bool.and_eq_true] at hm
        exact beq_iff_eq.mp hm.1
      exact fin eo _ Lo Ro.rows ⟨T.up, T.nod, T.num, T.msk, T.low, T.fnd⟩ (List.Perm.refl _) rfl Ro.room
    · rw [if_neg hm]
      dsimp only
      have ml1 := R1.tab.msk.le
      obtain ⟨t', order, e, hp, T, em, el, _⟩ := laid_tab (M := t1.mask) (fi := t1.finger) (mo := t1.moves) (led := t1.led && to.led) (pl := t1.plain && to.plain) (hs := eo.map (·.1)) R1.tab.msk (by rw [Array.size_map]; omega)
      rw [Array.size_map, so] at hp
      obtain ⟨L2, r1, r2, r3⟩ := reorder Lo eo order Ro.rows hp
      rw [← r3] at T
      have s2 : (order.filterMap (eo[·]?)).size = eo.size := by rw [← Array.length_toList, rws_len r1, r2.length_eq, so]
      rw [e]
      dsimp only
      refine wpAny_bind ?_
      refine wp_if_neg (by rw [s2]; simp) ?_
      try refine wpAny_bind (wpAny_pure ?_)
      refine wpAny_pure ?_
      dsimp only
      exact fin _ _ L2 r1 T r2 el (by rw [r2.length_eq, em]; exact room2)
/-- the entries of a permuted walk -/
theorem perm_rows {P : Program} {w : World} {L : PL} {l : List (Int × Value)} (h : l.Perm (rws P w L)) : ∀ e ∈ l, ∃ p ∈ L, e = (hsh P w p.2, Value.ref p.1) := fun e he => by
  obtain ⟨p, hp, ep⟩ := List.mem_map.mp (h.mem_iff.mp he)
  exact ⟨p, hp, ep.symm⟩
/-- merged into one that isn't empty: one by one -/
theorem merge_more {r o : Addr} {er eo : Array (Int × Value)} {epr epo : Nat} {tr to : SetTable} {Lr Lo : PL} (hro : r ≠ o) (hne : Lr ≠ []) (Rr : SetP P w s.heap r Lr er epr tr) (Ro : SetP P w s.heap o Lo eo epo to) (hn : Lr.length + Lo.length ≤ 12) (hu : A.units < cLine) {id : String} {Q : Unit → Shared → Prop}
    (hQ : ∀ h' d L' es' ep' t', Heap.SameBut r s.heap h' → SetP P w h' r L' es' ep' t' → (∀ p ∈ L', p ∈ Lr ∨ p ∈ Lo) → (∀ p, p ∈ Lr ∨ p ∈ Lo → p.2 ∈ L'.map (·.2)) → Q () { s with heap := h', drawn := d }) :
    wpAny (model P w) A (setMerge r o (Builtin.Frozenset.unchanged id o epo)) Q E s := by
  obtain ⟨oo, hoo, hexo, hdo⟩ := Ro.ob
  rw [setMerge_eq]
  refine wp_if_neg (by simp [hro]) ?_
  try refine wpAny_bind (wpAny_pure ?_)
  refine wpAny_bind (wpAny_setState_of hoo hdo Ro.fits ?_)
  dsimp only
  have so := Ro.size
  by_cases hz : eo.isEmpty = true
  · refine wp_if_pos hz ?_
    have e0 : Lo = [] := by
      have z : eo.size = 0 := by simpa using hz
      exact List.length_eq_zero_iff.mp (by omega)
    subst e0
    refine wpAny_pure ?_
    have k := hQ s.heap s.drawn Lr er epr tr (Heap.SameBut.refl r s.heap) Rr (fun p hp => .inl hp) fun p hp => ?_
    · exact k
    · rcases hp with hp | hp
      · exact List.mem_map.mpr ⟨p, hp, rfl⟩
      · cases hp
  · refine wp_if_neg hz ?_
    try refine wpAny_bind (wpAny_pure ?_)
    refine wpAny_bind (room_for Rr (n := eo.size) (by omega) fun h1 L1 e1 p1 t1 sb1 R1 pm1 room1 => ?_)
    obtain ⟨o1, ho1, hex1, hd1⟩ := R1.ob
    refine wpAny_bind (wpAny_setState_of (s := { s with heap := h1 }) ho1 hd1 R1.fits ?_)
    dsimp only
    have l1 : L1.length = Lr.length := pm1.length_eq
    have lp : 0 < Lr.length := List.length_pos_iff.mpr hne
    have f1 : t1.fill ≠ 0 := by
      have n1 := R1.tab.num
      rw [List.length_map] at n1
      show t1.place.size + t1.dummies.size ≠ 0
      omega
    unfold SetTable.road
    rw [if_pos (by simpa using f1)]
    dsimp only
    have Ro1 : SetP P w h1 o Lo eo epo to := Ro.keep (fun u e => (sb1.2 o (Ne.symm hro)).trans e) fun p hp => by
      obtain ⟨orr, hor, _, hdr⟩ := Rr.ob
      exact isP_same (Ro.tup p hp) hor hdr sb1
    refine wpAny_bind (walk_unseen (s := { s with heap := h1 }) Ro1 fun ws d hp => ?_)
    rw [Ro.rows] at hp
    have hw := perm_rows hp
    show wpAny _ _ (forIn ws _ _ >>= _) _ _ _
    refine wpAny_bind ?_
    rw [← Array.forIn_toList]
    have lw : ws.toList.length = Lo.length := by rw [hp.length_eq]; exact rws_len rfl
    refine wpAny_forIn_list _ (fun rest r' s' => ∃ h' L' es' ep' t' done, s' = { s with heap := h', drawn := d } ∧ Heap.SameBut r s.heap h' ∧ SetP P w h' r L' es' ep' t' ∧ ws.toList = done ++ rest ∧ (L'.length + rest.length) * 5 < t'.mask * 3 ∧
        (∀ p ∈ L', p ∈ Lr ∨ p ∈ Lo) ∧ (∀ p ∈ Lr, p.2 ∈ L'.map (·.2)) ∧ ∀ e ∈ done, ∃ p ∈ Lo, e = (hsh P w p.2, Value.ref p.1) ∧ p.2 ∈ L'.map (·.2)) _ ?_ ?_ _ _
        ⟨h1, L1, e1, p1, t1, [], rfl, sb1, R1, rfl, by rw [lw]; omega, fun p hp => .inl (pm1.mem_iff.mp hp), fun p hp => List.mem_map.mpr ⟨p, pm1.mem_iff.mpr hp, rfl⟩, fun e he => nomatch he⟩
    · rintro e rest r' s' ⟨h', L', es', ep', t', done, rfl, sb, R', ew, room', g1, g2, g3⟩
      obtain ⟨p, hpm, rfl⟩ := hw e (by rw [ew]; exact List.mem_append_right _ List.mem_cons_self)
      dsimp only
      rw [List.length_cons] at room'
      have hx : IsP P w h' p.2 p.1 := by
        obtain ⟨orr, hor, _, hdr⟩ := Rr.ob
        exact isP_same (Ro.tup p hpm) hor hdr sb
      refine wpAny_bind (wpAny_holding (add_one (s := { s with heap := h', drawn := d }) R' hx hu (.inr (by omega)) fun b h2 L2 es2 ep2 t2 sb2 R2 em c1 c2 => ?_))
      have sb3 : Heap.SameBut r s.heap h2 := sb.trans sb2
      have Ro2 : SetP P w h2 o Lo eo epo to := Ro.keep (fun u e => (sb3.2 o (Ne.symm hro)).trans e) fun q hq => by
        obtain ⟨orr, hor, _, hdr⟩ := Rr.ob
        exact isP_same (Ro.tup q hq) hor hdr sb3
      obtain ⟨o2, ho2, _, hd2⟩ := Ro2.ob
      refine wpAny_bind ?_
      unfold Builtin.Frozenset.unchanged
      refine wpAny_bind (m := setEpoch o) ?_
      unfold setEpoch
      refine wpAny_bind (wpAny_setState_of (s := { s with heap := h2, drawn := d }) ho2 hd2 Ro2.fits (wpAny_pure ?_))
      refine wp_if_neg (by simp) ?_
      refine wpAny_pure ?_
      refine wpAny_bind (wpAny_setState_of (s := { s with heap := h2, drawn := d }) ho2 hd2 Ro2.fits ?_)
      dsimp only
      refine wp_if_neg (by simp) ?_
      try refine wpAny_bind (wpAny_pure ?_)
      have same_or : (p.2 ∈ L'.map (·.2) ∧ L2 = L') ∨ (p.2 ∉ L'.map (·.2) ∧ L2.Perm ((p.1, p.2) :: L')) := by
        rcases Classical.em (p.2 ∈ L'.map (·.2)) with z | z
        · exact .inl ⟨z, (c1 z).1⟩
        · exact .inr ⟨z, c2 z⟩
      have mk : ∀ x, x ∈ L'.map (·.2) → x ∈ L2.map (·.2) := fun x hx => by
        rcases same_or with ⟨_, z⟩ | ⟨_, z⟩
        · rw [z]
          exact hx
        · rw [(z.map (·.2)).mem_iff, List.map_cons]
          exact List.mem_cons_of_mem _ hx
      have pin : p.2 ∈ L2.map (·.2) := by
        rcases same_or with ⟨y, z⟩ | ⟨_, z⟩
        · rw [z]
          exact y
        · rw [(z.map (·.2)).mem_iff, List.map_cons]
          exact List.mem_cons_self
      have len2 : L2.length ≤ L'.length + 1 := by
        rcases same_or with ⟨_, z⟩ | ⟨_, z⟩
        · rw [z]
          omega
        · rw [z.length_eq, List.length_cons]
          omega
      have mg : t'.mask ≤ t2.mask := by
        rcases em with z | z
        · omega
        · omega
      refine wpAny_pure ⟨h2, L2, es2, ep2, t2, done ++ [(hsh P w p.2, Value.ref p.1)], rfl, sb3, R2, by rw [ew]; simp, by omega, fun q hq => ?_, fun q hq => mk _ (g2 q hq), fun e he => ?_⟩
      · rcases same_or with ⟨_, z⟩ | ⟨_, z⟩
        · rw [z] at hq
          exact g1 q hq
        · rcases List.mem_cons.mp (z.mem_iff.mp hq) with y | y
          · rw [y]
            exact .inr hpm
          · exact g1 q y
      · rcases List.mem_append.mp he with y | y
        · obtain ⟨q, hq, e1, e2⟩ := g3 e y
          exact ⟨q, hq, e1, mk _ e2⟩
        · exact ⟨p, hpm, List.mem_singleton.mp y, pin⟩
    · rintro r' s' ⟨h', L', es', ep', t', done, rfl, sb, R', ew, room', g1, g2, g3⟩
      rw [List.append_nil] at ew
      refine wpAny_pure (hQ h' d L' es' ep' t' sb R' g1 fun p hpL => ?_)
      rcases hpL with hpL | hpL
      · exact g2 p hpL
      · have z : (hsh P w p.2, Value.ref p.1) ∈ ws.toList := hp.mem_iff.mpr (List.mem_map.mpr ⟨p, hpL, rfl⟩)
        rw [ew] at z
        obtain ⟨q, hq, e1, e2⟩ := g3 _ z
        have eq1 : q.1 = p.1 := by
          injection e1 with _ y
          injection y with y
          exact y.symm
        have k1 := Ro.tup p hpL
        have k2 := Ro.tup q hq
        rw [eq1] at k2
        rw [k1.inj k2]
        exact e2
end
end K26
set_option Elab.async false
set_option linter.all false
set_option maxRecDepth 100000
set_option maxHeartbeats 4000000
/-! KSetD: the union of two sets of tuples of texts. -/
namespace K26
open PySem PySem.Spec PyProof.Rows L2
theorem entry_or : entryFor table "set.__or__" = some Builtin.«frozenset.__or__» :=
  entryFor_alias (id' := "frozenset.__or__") (by kernel_rfl) rfl (by decide +kernel) (by kernel_rfl)
theorem or_eq (a b : Addr) : Builtin.«frozenset.__or__» ⟨[.ref a, .ref b], []⟩ = (do
    if !(← Builtin.Frozenset.isAnySet (.ref a) <&&> Builtin.Frozenset.isAnySet (.ref b)) then
      rule "frozenset.__or__.declined"
      return ← ret .notImplemented
    ret (← (do
      let result ← Builtin.Frozenset.copyOf a
      if Value.ref b != .ref a then holding [result] (Builtin.Frozenset.updateFrom "frozenset.__or__" (← Builtin.Frozenset.addrOf result) (.ref b))
      return result : Sem Value))) := by rfl
section
variable {P : Program} {w : World} {A : Around} {E : Value → Shared → Prop} {s : Shared}
theorem anyset {a : Addr} {Q : Bool → Shared → Prop} (hT : s.TypeIs (.ref a) "set") (h : Q true s) : wpAny (model P w) A (Builtin.Frozenset.isAnySet (.ref a)) Q E s := by
  unfold Builtin.Frozenset.isAnySet orM
  refine wpAny_bind (wpAny_isInstance (b := true) hT sub_set_self ?_)
  exact wpAny_pure h
/-- a copy: a new set -/
theorem copy_at {a : Addr} {L : PL} {es : Array (Int × Value)} {ep : Nat} {t : SetTable} (R : SetP P w s.heap a L es ep t) (hn : L.length ≤ 12) {Q : Value → Shared → Prop}
    (hQ : ∀ h' L' es' ep' t', (∀ b o, s.heap.get? b = some o → h'.get? b = some o) → SetP P w h' s.heap.objs.size L' es' ep' t' → L'.Perm L → Q (.ref s.heap.objs.size) { s with heap := h' }) : wpAny (model P w) A (Builtin.Frozenset.copyOf a) Q E s := by
  obtain ⟨o, ho, hex, hd⟩ := R.ob
  have hT : s.TypeIs (.ref a) "set" := ⟨o, ho, hex.1⟩
  unfold Builtin.Frozenset.copyOf Builtin.Frozenset.baseOf
  refine wpAny_bind (wpAny_bind (wpAny_isInstance (b := true) hT sub_set_self ?_))
  refine wpAny_pure ?_
  rw [if_pos rfl]
  refine wpAny_bind (m := newSet (.type "set")) ?_
  unfold newSet
  refine wpAny_bind (wpAny_byText ?_)
  dsimp only
  refine wpAny_newObj_type ?_
  refine wpAny_bind (m := Builtin.Frozenset.addrOf _) (wpAny_pure ?_)
  have hS : (s.heap.push { cls := .type "set", data := .set #[] 0 (.fresh 0 0 (!w.params.followText "set-order")) }).get? s.heap.objs.size = some { cls := .type "set", data := .set #[] 0 (.fresh 0 0 (!w.params.followText "set-order")) } := Heap.get?_push_size _ rfl
  have kp : ∀ b o, s.heap.get? b = some o → (s.heap.push { cls := .type "set", data := .set #[] 0 (.fresh 0 0 (!w.params.followText "set-order")) }).get? b = some o := fun b o e => Heap.get?_push_of_some _ e
  have hne : s.heap.objs.size ≠ a := Nat.ne_of_gt (Heap.lt_size ho)
  have R0 : SetP P w (s.heap.push { cls := .type "set", data := .set #[] 0 (.fresh 0 0 (!w.params.followText "set-order")) }) s.heap.objs.size [] #[] 0 (.fresh 0 0 (!w.params.followText "set-order")) := by
    refine ⟨⟨_, hS, ⟨rfl, rfl, rfl⟩, rfl⟩, rfl, ⟨List.Pairwise.nil, rfl, rfl, .inl rfl, fun x hx => (by cases hx), fun i h j hi => (by simp at hi)⟩, List.nodup_nil, fun p hp => (by cases hp), ?_, ?_⟩
    · show _ ∨ (!w.params.followText "set-order") = true
      cases w.params.followText "set-order"
      · exact .inr rfl
      · exact .inl rfl
    · show 0 * 5 < 7 * 3
      decide
  refine wpAny_bind (merge_empty (s := { s with heap := s.heap.push { cls := .type "set", data := .set #[] 0 (.fresh 0 0 (!w.params.followText "set-order")) } }) hne R0 (R.keep (kp a) fun p hp => isP_keep (R.tup p hp) kp) hn fun h' L' es' ep' t' sb R' pm => ?_)
  refine wpAny_pure (hQ h' L' es' ep' t' (fun b u e => ?_) R' pm)
  exact (sb.2 b (Nat.ne_of_lt (Heap.lt_size e))).trans (kp b u e)
/-- a | b -/
theorem union_at {a b : Addr} {La Lb : PL} {ea eb : Array (Int × Value)} {pa pb : Nat} {ta tb : SetTable} (hab : b ≠ a) (Ra : SetP P w s.heap a La ea pa ta) (Rb : SetP P w s.heap b Lb eb pb tb) (hn : La.length + Lb.length ≤ 12) (hu : A.units < cLine) {Q : Value → Shared → Prop}
    (hQ : ∀ h' d L' es' ep' t', (∀ c o, s.heap.get? c = some o → h'.get? c = some o) → SetP P w h' s.heap.objs.size L' es' ep' t' → (∀ p ∈ L', p ∈ La ∨ p ∈ Lb) → (∀ p, p ∈ La ∨ p ∈ Lb → p.2 ∈ L'.map (·.2)) → Q (.ref s.heap.objs.size) { s with heap := h', drawn := d }) :
    wpAny (model P w) A (do
      let result ← Builtin.Frozenset.copyOf a
      if Value.ref b != .ref a then holding [result] (Builtin.Frozenset.updateFrom "frozenset.__or__" (← Builtin.Frozenset.addrOf result) (.ref b))
      return result : Sem Value) Q E s := by
  obtain ⟨ob, hob, hexb, hdb⟩ := Rb.ob
  refine wpAny_bind (copy_at Ra (by omega) fun h1 L1 e1 p1 t1 k1 R1 pm1 => ?_)
  refine wp_if_pos (by simp [hab]) ?_
  refine wpAny_bind (m := Builtin.Frozenset.addrOf _) (wpAny_pure ?_)
  refine wpAny_bind (wpAny_holding ?_)
  unfold Builtin.Frozenset.updateFrom
  refine wpAny_bind (anyset (s := { s with heap := h1 }) ⟨ob, k1 b ob hob, hexb.1⟩ ?_)
  refine wp_if_pos rfl ?_
  refine wpAny_bind (m := Builtin.Frozenset.addrOf _) (wpAny_pure ?_)
  have Rb1 : SetP P w h1 b Lb eb pb tb := Rb.keep (k1 b) fun p hp => isP_keep (Rb.tup p hp) k1
  have hne : s.heap.objs.size ≠ b := Nat.ne_of_gt (Heap.lt_size hob)
  have fin : ∀ h' d L' es' ep' t', Heap.SameBut s.heap.objs.size h1 h' → SetP P w h' s.heap.objs.size L' es' ep' t' → (∀ p ∈ L', p ∈ L1 ∨ p ∈ Lb) → (∀ p, p ∈ L1 ∨ p ∈ Lb → p.2 ∈ L'.map (·.2)) → Q (.ref s.heap.objs.size) { s with heap := h', drawn := d } := by
    intro h' d L' es' ep' t' sb R' c1 c2
    refine hQ h' d L' es' ep' t' (fun c u e => (sb.2 c (Nat.ne_of_lt (Heap.lt_size e))).trans (k1 c u e)) R' (fun p hp => ?_) fun p hp => ?_
    · rcases c1 p hp with z | z
      · exact .inl (pm1.mem_iff.mp z)
      · exact .inr z
    · refine c2 p ?_
      rcases hp with z | z
      · exact .inl (pm1.mem_iff.mpr z)
      · exact .inr z
  have go : wpAny (model P w) A (Builtin.Frozenset.merge "frozenset.__or__" s.heap.objs.size b) (fun _ s' => wpAny (model P w) A (pure (Value.ref s.heap.objs.size)) Q E s') E { s with heap := h1 } := by
    unfold Builtin.Frozenset.merge
    refine wpAny_bind (m := setEpoch b) ?_
    unfold setEpoch
    refine wpAny_bind (wpAny_setState_of (s := { s with heap := h1 }) (k1 b ob hob) hdb Rb.fits (wpAny_pure ?_))
    by_cases hz : L1 = []
    · subst hz
      have eLa : La = [] := List.Perm.nil_eq pm1 |>.symm
      refine merge_empty (s := { s with heap := h1 }) hne R1 Rb1 (by omega) fun h' L' es' ep' t' sb R' pm => wpAny_pure ?_
      have k := fin h' s.drawn L' es' ep' t' sb R' (fun p hp => .inr (pm.mem_iff.mp hp)) fun p hp => ?_
      · exact k
      · rcases hp with z | z
        · cases z
        · exact List.mem_map.mpr ⟨p, pm.mem_iff.mpr z, rfl⟩
    · refine merge_more (s := { s with heap := h1 }) hne hz R1 Rb1 (by rw [pm1.length_eq]; exact hn) hu fun h' d L' es' ep' t' sb R' c1 c2 => wpAny_pure ?_
      exact fin h' d L' es' ep' t' sb R' c1 c2
  first
    | exact go
    | exact wpAny_bind (wpAny_mono go (fun _ _ z => wpAny_pure z) fun _ _ z => z)
theorem op_or {a b : Addr} {La Lb : PL} {ea eb : Array (Int × Value)} {pa pb : Nat} {ta tb : SetTable} (hab : b ≠ a) (Ra : SetP P w s.heap a La ea pa ta) (Rb : SetP P w s.heap b Lb eb pb tb) (hn : La.length + Lb.length ≤ 12) (hu : A.units + 3 < cLine) {Q : Value → Shared → Prop}
    (hQ : ∀ h' d L' es' ep' t', (∀ c o, s.heap.get? c = some o → h'.get? c = some o) → SetP P w h' s.heap.objs.size L' es' ep' t' → (∀ p ∈ L', p ∈ La ∨ p ∈ Lb) → (∀ p, p ∈ La ∨ p ∈ Lb → p.2 ∈ L'.map (·.2)) → Q (.ref s.heap.objs.size) { s with heap := h', drawn := d }) :
    wpAny (model P w) A (binaryOp .BitOr (.ref a) (.ref b)) Q E s := by
  obtain ⟨oa, hoa, hexa, hda⟩ := id Ra.ob
  obtain ⟨ob, hob, hexb, hdb⟩ := id Rb.ob
  have hTa : s.TypeIs (.ref a) "set" := ⟨oa, hoa, hexa.1⟩
  have hTb : s.TypeIs (.ref b) "set" := ⟨ob, hob, hexb.1⟩
  refine wpAny_binaryOp_same (T := "set") (op := .BitOr) hTa hTb F.fills_set_or F.slot_set_or (wpAny_call_entry F.slot_set_or hTa entry_or ?_ (F.args_set_or_2 _ _))
  rw [or_eq]
  refine wpAny_bind ?_
  unfold andM
  refine wpAny_bind (anyset hTa ?_)
  dsimp only
  refine anyset hTb ?_
  refine wp_if_neg (by decide) ?_
  try refine wpAny_bind (wpAny_pure ?_)
  refine wpAny_bind (union_at hab Ra Rb hn (by first | exact Nat.lt_of_le_of_lt (Nat.le_add_right _ 3) hu | (show A.units + 1 < cLine; omega) | (show A.units + 2 < cLine; omega)) fun h' d L' es' ep' t' k R' c1 c2 => ?_)
  exact wpAny_pure ⟨_, rfl, ⟨fun z => (by cases z), hQ h' d L' es' ep' t' k R' c1 c2⟩⟩
end
end K26
set_option Elab.async false
set_option linter.all false
set_option maxRecDepth 100000
set_option maxHeartbeats 4000000
/-! KSetE: set(xs) of a list, of a tuple of tuples of texts. -/
namespace K26
open PySem PySem.Spec PyProof.Rows L2
/-- what has come into the set from the first i items -/
structure From (ks : PL) (i : Nat) (L : PL) : Prop where
  sub : ∀ p ∈ L, p ∈ ks.take i
  all : ∀ p ∈ ks.take i, p.2 ∈ L.map (·.2)
  len : L.length ≤ i
theorem From.step {ks L L' : PL} {i : Nat} {x : Addr × List Str} (g : From ks i L) (h : ks[i]? = some x) (c1 : x.2 ∈ L.map (·.2) → L' = L) (c2 : x.2 ∉ L.map (·.2) → L'.Perm (x :: L)) : From ks (i + 1) L' := by
  have e : ks.take (i + 1) = ks.take i ++ [x] := by
    rw [List.take_succ, h]
    rfl
  rcases Classical.em (x.2 ∈ L.map (·.2)) with c | c
  · rw [c1 c]
    refine ⟨fun p hp => by rw [e]; exact List.mem_append_left _ (g.sub p hp), fun p hp => ?_, Nat.le_succ_of_le g.len⟩
    rw [e] at hp
    rcases List.mem_append.mp hp with z | z
    · exact g.all p z
    · rw [List.mem_singleton.mp z]
      exact c
  · have pm := c2 c
    refine ⟨fun p hp => ?_, fun p hp => ?_, by rw [pm.length_eq, List.length_cons]; exact Nat.succ_le_succ g.len⟩
    · rw [e]
      rcases List.mem_cons.mp (pm.mem_iff.mp hp) with z | z
      · rw [z]
        exact List.mem_append_right _ (List.mem_singleton.mpr rfl)
      · exact List.mem_append_left _ (g.sub p z)
    · rw [(pm.map (·.2)).mem_iff, List.map_cons]
      rw [e] at hp
      rcases List.mem_append.mp hp with z | z
      · exact List.mem_cons_of_mem _ (g.all p z)
      · rw [List.mem_singleton.mp z]
        exact List.mem_cons_self
section
variable {P : Program} {w : World} {A : Around} {E : Value → Shared → Prop} {s : Shared}
abbrev obS (w : World) : Obj := { cls := .type "set", dict := none, data := .set #[] 0 (.fresh 0 0 (!w.params.followText "set-order")) }
theorem set_fresh {h : Heap} {a : Addr} (ho : h.get? a = some { cls := .type "set", dict := none, data := .set #[] 0 (.fresh 0 0 (!w.params.followText "set-order")) }) : SetP P w h a [] #[] 0 (.fresh 0 0 (!w.params.followText "set-order")) := by
  refine ⟨⟨_, ho, ⟨rfl, rfl, rfl⟩, rfl⟩, rfl, ⟨List.Pairwise.nil, rfl, rfl, .inl rfl, fun x hx => (by cases hx), fun i h j hi => (by simp at hi)⟩, List.nodup_nil, fun p hp => (by cases hp), ?_, ?_⟩
  · show _ ∨ (!w.params.followText "set-order") = true
    cases w.params.followText "set-order"
    · exact .inr rfl
    · exact .inl rfl
  · show 0 * 5 < 7 * 3
    decide
/-- the loop behind set(xs); the table's mask is 7 or 31 -/
theorem fill_loop {I : Addr} {fp wr : List Addr} {G : Array GenState → Array GenState → Prop} {n : Nat} {Pv : Nat → Value → Prop} {St : Nat → Shared → Prop} {R : Result → Shared → Prop}
    (W : WalksS P w A.in1 I fp wr G n Pv St) (S : Addr) (hSf : S ∉ fp) (ks : PL) (hn : n = ks.length) (hfew : ks.length ≤ 16) (hval : ∀ i v, Pv i v → ∃ p, ks[i]? = some p ∧ v = .ref p.1)
    (h0 : Heap) (hk : ∀ p ∈ ks, IsP P w h0 p.2 p.1) (hS0 : h0.get? S = none) (hw0 : ∀ b ∈ wr, h0.get? b = none) (hu : A.in1.units < cLine) :
    ∀ (k i : Nat) (s : Shared), n - i = k → i ≤ n → St i s → (∀ b o, h0.get? b = some o → s.heap.get? b = some o) → (∃ L es ep t, SetP P w s.heap S L es ep t ∧ From ks i L ∧ (t.mask = 7 ∨ t.mask = 31)) →
      (∀ s' L es ep t, Moved (S :: wr) G s s' → SetP P w s'.heap S L es ep t → From ks n L → (∀ b o, h0.get? b = some o → s'.heap.get? b = some o) → R (.ok (.ret .none)) s') →
      codeAny (model P w) A (.builtin "set.update.loop" ⟨[.ref S, .ref I], []⟩) R s := by
  have hSw : S ∉ wr := fun h => hSf (W.sub _ h)
  have up : ∀ b ∈ wr, b ∈ S :: wr := fun b hb => List.mem_cons_of_mem _ hb
  have keepM : ∀ {s s' : Shared}, Moved wr G s s' → (∀ b o, h0.get? b = some o → s.heap.get? b = some o) → ∀ b o, h0.get? b = some o → s'.heap.get? b = some o := fun hm hkp b o e =>
    hm.heap b o (fun hb => by rw [hw0 b hb] at e; cases e) (hkp b o e)
  intro k
  induction k with
  | zero =>
    intro i s hk' hi hst hkp ⟨L, es, ep, t, hS, g, _⟩ hR
    obtain rfl : i = n := by omega
    refine codeAny_builtin F.entry_set_update_loop ?_
    rw [Around.under_plainId F.plain_set_update_loop _]
    show wpAny _ A.in1 (pyNext (.ref I) >>= _) _ _ s
    refine wpAny_bind (W.done s _ _ hst fun s' hm => ?_)
    show wpAny _ A.in1 (ret Value.none) _ _ s'
    have hkp' := keepM hm hkp
    exact wpAny_pure (hR s' L es ep t (hm.mono up) (hS.keep (fun o e => hm.heap S o hSw e) fun p hp => isP_keep (hk p (List.mem_of_mem_take (g.sub p hp))) hkp') g hkp')
  | succ k ih =>
    intro i s hk' hi hst hkp ⟨L, es, ep, t, hS, g, hm0⟩ hR
    have lt : i < n := by omega
    refine codeAny_builtin F.entry_set_update_loop ?_
    rw [Around.under_plainId F.plain_set_update_loop _]
    show wpAny _ A.in1 (pyNext (.ref I) >>= _) _ _ s
    refine wpAny_bind (W.item i s _ _ lt hst fun v s' hP hst' hm => ?_)
    obtain ⟨p, hp, rfl⟩ := hval i v hP
    have hkp' := keepM hm hkp
    have hS' : SetP P w s'.heap S L es ep t := hS.keep (fun o e => hm.heap S o hSw e) fun q hq => isP_keep (hk q (List.mem_of_mem_take (g.sub q hq))) hkp'
    have hx : IsP P w s'.heap p.2 p.1 := isP_keep (hk p (List.mem_of_getElem? hp)) hkp'
    show wpAny _ A.in1 (holding [Value.ref p.1] (setAdd S (.ref p.1)) >>= _) _ _ s'
    refine wpAny_bind (wpAny_holding ?_)
    unfold setAdd
    refine wpAny_holding ?_
    refine wpAny_bind (wpAny_pyHash_tuple hu hx ?_)
    have gl := g.len
    refine add_one (s := { s' with toks := s'.toks + (p.2.length + 1) }) hS' hx hu (by rcases hm0 with z | z <;> omega) fun b h' L' es' ep' t' hsb hS2 em c1 c2 => ?_
    have g' : From ks (i + 1) L' := g.step hp (fun z => (c1 z).1) c2
    have hkp2 : ∀ b o, h0.get? b = some o → h'.get? b = some o := fun b o e => (hsb.2 b (fun z => by rw [z, hS0] at e; cases e)).trans (hkp' b o e)
    refine wpAny_pure ⟨plainId_quiet F.plain_set_update_loop _, ih (i + 1) _ (by omega) lt (W.frame _ s' _ _ hst' (Nat.le_add_right _ _) fun b hb o e => ?_) hkp2 ⟨L', es', ep', t', hS2, g', by rcases em with z | ⟨_, z⟩ <;> omega⟩ fun s'' L2 es2 ep2 t2 hm'' hS'' g'' hkp'' => ?_⟩
    · rw [hsb.2 b (fun h : b = S => hSf (by rw [← h]; exact hb))]
      exact e
    · refine hR s'' L2 es2 ep2 t2 (Moved.trans W.gtrans ((hm.mono up).then_heap (Nat.le_add_right _ _) fun b o hb e => ?_) hm'') hS'' g'' hkp''
      rw [hsb.2 b (fun h : b = S => hb (by rw [h]; exact List.mem_cons_self))]
      exact e

/-- set(v), by what its __init__ leaves -/
theorem set_call {v : Value} {Q : Value → Shared → Prop} (hct : checkBuiltinCall "type.__call__" ⟨[.type "set", v], []⟩ = pure ())
    (h : wpAny (model P w) A.in1.in1 (Builtin.«set.__init__» ⟨[.ref s.heap.objs.size, v], []⟩) (fun f s' => f = .done (.ret .none) ∧ Q (.ref s.heap.objs.size) s') E { s with heap := s.heap.push (obS w) }) :
    wpAny (model P w) A (call (.type "set") [v]) Q E s := by
  obtain ⟨c, tl, hmro⟩ := F.called_set.mro
  have hmade := F.called_set.made
  have hsub := F.called_set.sub
  refine wpAny_call (codeAny_of_tree ?_)
  show wpAny _ _ (callAny (.type "set") _) _ _ _
  refine wpAny_pure ⟨Code.quiet_builtin _ (by decide +kernel), codeAny_builtin F.entry_type_call ?_⟩
  rw [Around.under_plain (weight_type_call_type "set" [v] []) rfl]
  have h1 := F.called_set.notType
  have h2 := F.called_set.canCreate
  repeat (any_goals (first | assumption | wp_step))
  refine codeAny_mono (code_set_led1 v (E := E) (Q₁ := fun obj s₁ => obj = .ref s.heap.objs.size ∧ s₁ = { s with heap := s.heap.push (obS w) }) ⟨rfl, rfl⟩) fun r s₁ hr => ?_
  cases r with
  | error e => exact hr
  | ok fl =>
    cases fl with
    | ret obj =>
      obtain ⟨rfl, rfl⟩ := hr
      have hS : (s.heap.push (obS w)).get? s.heap.objs.size = some (obS w) := Heap.get?_push_size _ rfl
      have hT : Shared.TypeIs { s with heap := s.heap.push (obS w) } (.ref s.heap.objs.size) "set" := ⟨_, hS, rfl⟩
      have hli := F.called_set.init.lookup
      have hbi := F.called_set.init.bind (.ref s.heap.objs.size)
      repeat (any_goals (first | assumption | wp_step))
      refine codeAny_mono (codeAny_call_builtin (R := wants (fun r s₂ => r = .none ∧ Q (.ref s.heap.objs.size) s₂) E) F.called_set.init.plain F.entry_set_init (check_set_init_1 hT ?_)) fun r₂ s₂ hr₂ => ?_
      · refine wpAny_mono h (fun f s' hf => ?_) fun _ _ z => z
        obtain ⟨rfl, q⟩ := hf
        exact ⟨rfl, q⟩
      · cases r₂ with
        | error e => exact hr₂
        | ok fl₂ =>
          cases fl₂ with
          | ret r =>
            obtain ⟨rfl, q⟩ := hr₂
            repeat (any_goals (first | assumption | wp_step))
          | _ => exact hr₂.elim
    | _ => exact hr.elim

theorem init_list {S l : Addr} {items : Array Value} {Q : PySem.Fin → Shared → Prop} (hS : s.heap.get? S = some (obS w)) (hl : s.heap.IsList l items)
    (h : wpAny (model P w) A (runValue (.builtin "set.update.loop" ⟨[.ref S, .ref s.heap.objs.size], []⟩)) (fun _ s' => Q (.done (.ret .none)) s') E { s with heap := s.heap.push { cls := .type "list_iterator", data := .fields #[.ref l, .int 0 0] } }) :
    wpAny (model P w) A (Builtin.«set.__init__» ⟨[.ref S, .ref l], []⟩) Q E s := by
  have hT : s.TypeIs (.ref S) "set" := ⟨_, hS, rfl⟩
  obtain ⟨ol, hol, hcl, nl, hdl⟩ := id hl
  have hTl : s.TypeIs (.ref l) "list" := ⟨ol, hol, hcl⟩
  unfold Builtin.«set.__init__» noKeywords
  dsimp only
  refine wpAny_bind (wpAny_pure ?_)
  refine wpAny_bind ?_
  unfold typeNameOfCut shownTypeOf
  refine wpAny_bind (wpAny_bind (wpAny_typeOf hT ?_))
  refine wp_if_neg (by decide) ?_
  refine wpAny_pure ?_
  refine wpAny_of_eq (a := "set") (by first | rfl | kernel_rfl) ?_
  refine wpAny_bind (wpAny_of_eq (a := ()) (by rfl) ?_)
  refine wpAny_bind (m := Builtin.Frozenset.addrOf _) (wpAny_pure ?_)
  refine wpAny_bind (m := setUsed S) ?_
  unfold setUsed
  refine wpAny_bind (wpAny_setState_of hS rfl rfl ?_)
  refine wpAny_pure ?_
  refine wp_if_neg (show ¬ (false = true) from Bool.false_ne_true) ?_
  refine wpAny_bind ?_
  unfold Builtin.Frozenset.updateFrom Builtin.Frozenset.isAnySet orM
  refine wpAny_bind ?_
  refine wpAny_bind (wpAny_isInstance (b := false) hTl F.sub_list_set ?_)
  refine wpAny_isInstance (b := false) hTl F.sub_list_frozenset ?_
  refine wp_if_neg (by decide) ?_
  try refine wpAny_bind (wpAny_pure ?_)
  refine wpAny_bind (wpAny_typeOf hTl ?_)
  refine wp_if_neg (by decide) ?_
  try refine wpAny_bind (wpAny_pure ?_)
  refine wpAny_bind (wpAny_pyIter_list hl ?_)
  refine wpAny_bind (wpAny_mono h (fun _ s' q => wpAny_pure (wpAny_pure q)) fun _ _ z => z)
theorem set_of_list {l : Addr} {items : Array Value} (ks : PL) {Q : Value → Shared → Prop} (hh : A.handled = none) (hl : s.heap.IsList l items) (hit : items.toList = ks.map fun p => Value.ref p.1)
    (hk : ∀ p ∈ ks, IsP P w s.heap p.2 p.1) (hfew : ks.length ≤ 16) (hu : A.units + 3 < cLine)
    (h : ∀ (h' : Heap) (tk : Nat) L es ep t, SetP P w h' s.heap.objs.size L es ep t → From ks ks.length L → (∀ b o, s.heap.get? b = some o → h'.get? b = some o) → Q (.ref s.heap.objs.size) { s with heap := h', toks := tk }) :
    wpAny (model P w) A (call (.type "set") [.ref l]) Q E s := by
  have hisz : items.size = ks.length := by
    have q := congrArg List.length hit
    rw [Array.length_toList, List.length_map] at q
    exact q
  have hlS : l < s.heap.objs.size := by
    obtain ⟨_, hol, _⟩ := id hl
    exact Heap.lt_size hol
  refine set_call (F.typeCall_set_1 (.ref l)) ?_
  have hS : (s.heap.push (obS w)).get? s.heap.objs.size = some (obS w) := Heap.get?_push_size _ rfl
  have hl1 : (s.heap.push (obS w)).IsList l items := hl.push _
  refine init_list (s := { s with heap := s.heap.push (obS w) }) hS hl1 (wpAny_runValue ?_)
  have hh3 : A.in1.in1.in1.handled = none := by simp [hh]
  have hz1 : (s.heap.push (obS w)).objs.size = s.heap.objs.size + 1 := Heap.size_push ..
  have hneI : l ≠ (s.heap.push (obS w)).objs.size := by
    rw [hz1]
    exact Nat.ne_of_lt (Nat.lt_succ_of_lt hlS)
  have hSf : s.heap.objs.size ∉ [(s.heap.push (obS w)).objs.size, l] := by
    rw [hz1]
    simp only [List.mem_cons, List.mem_singleton, List.not_mem_nil, or_false, not_or]
    exact ⟨Nat.ne_of_lt (Nat.lt_succ_self _), Nat.ne_of_gt hlS⟩
  have hval : ∀ (i : Nat) (v : Value), items[i]? = some v → ∃ p, ks[i]? = some p ∧ v = .ref p.1 := fun i v hv => by
    have q : items.toList[i]? = some v := by rw [Array.getElem?_toList]; exact hv
    rw [hit, List.getElem?_map] at q
    obtain ⟨p, hp, e⟩ := Option.map_eq_some_iff.mp q
    exact ⟨p, hp, e.symm⟩
  have none_of : ∀ b, s.heap.objs.size ≤ b → s.heap.get? b = none := fun b hb => Heap.get?_none_of_le hb
  refine fill_loop ((Walks.list hh3 _ l hneI items).toS) s.heap.objs.size
    hSf ks hisz hfew hval s.heap hk (none_of _ (Nat.le_refl _)) (fun b hb => none_of b (by
      rw [List.mem_singleton.mp hb, hz1]
      exact Nat.le_succ _)) hu (items.size - 0) 0 _ (by omega) (Nat.zero_le _)
    ⟨⟨_, Heap.get?_push_size _ rfl, rfl, rfl⟩, (hl1.push _)⟩ (fun b o e => Heap.get?_push_of_some _ (Heap.get?_push_of_some _ e)) ?hS0 ?hR
  case hS0 =>
    exact ⟨[], #[], 0, _, set_fresh (Heap.get?_push_of_some _ hS), ⟨fun p hp => (by cases hp), fun p hp => (by simp at hp), Nat.le_refl _⟩, .inl rfl⟩
  case hR =>
    intro s' L es ep t hm hS' g' hkp
    obtain ⟨h', g2, d', tk', os'⟩ := s'
    obtain rfl : g2 = s.gens := hm.gens
    obtain rfl : d' = s.drawn := hm.drawn
    obtain rfl : os' = s.os := hm.os
    rw [hisz] at g'
    exact ⟨rfl, h h' tk' L es ep t hS' g' hkp⟩

theorem init_tuple {S l : Addr} {items : Array Value} {Q : PySem.Fin → Shared → Prop} (hS : s.heap.get? S = some (obS w)) (hl : s.heap.IsTuple l items)
    (h : wpAny (model P w) A (runValue (.builtin "set.update.loop" ⟨[.ref S, .ref s.heap.objs.size], []⟩)) (fun _ s' => Q (.done (.ret .none)) s') E { s with heap := s.heap.push { cls := .type "tuple_iterator", data := .fields #[.ref l, .int 0 0] } }) :
    wpAny (model P w) A (Builtin.«set.__init__» ⟨[.ref S, .ref l], []⟩) Q E s := by
  have hT : s.TypeIs (.ref S) "set" := ⟨_, hS, rfl⟩
  obtain ⟨ol, hol, hcl, nl, hdl⟩ := id hl
  have hTl : s.TypeIs (.ref l) "tuple" := ⟨ol, hol, hcl⟩
  unfold Builtin.«set.__init__» noKeywords
  dsimp only
  refine wpAny_bind (wpAny_pure ?_)
  refine wpAny_bind ?_
  unfold typeNameOfCut shownTypeOf
  refine wpAny_bind (wpAny_bind (wpAny_typeOf hT ?_))
  refine wp_if_neg (by decide) ?_
  refine wpAny_pure ?_
  refine wpAny_of_eq (a := "set") (by first | rfl | kernel_rfl) ?_
  refine wpAny_bind (wpAny_of_eq (a := ()) (by rfl) ?_)
  refine wpAny_bind (m := Builtin.Frozenset.addrOf _) (wpAny_pure ?_)
  refine wpAny_bind (m := setUsed S) ?_
  unfold setUsed
  refine wpAny_bind (wpAny_setState_of hS rfl rfl ?_)
  refine wpAny_pure ?_
  refine wp_if_neg (show ¬ (false = true) from Bool.false_ne_true) ?_
  refine wpAny_bind ?_
  unfold Builtin.Frozenset.updateFrom Builtin.Frozenset.isAnySet orM
  refine wpAny_bind ?_
  refine wpAny_bind (wpAny_isInstance (b := false) hTl F.sub_tuple_set ?_)
  refine wpAny_isInstance (b := false) hTl F.sub_tuple_frozenset ?_
  refine wp_if_neg (by decide) ?_
  try refine wpAny_bind (wpAny_pure ?_)
  refine wpAny_bind (wpAny_typeOf hTl ?_)
  refine wp_if_neg (by decide) ?_
  try refine wpAny_bind (wpAny_pure ?_)
  refine wpAny_bind (wpAny_pyIter_tuple hl ?_)
  refine wpAny_bind (wpAny_mono h (fun _ s' q => wpAny_pure (wpAny_pure q)) fun _ _ z => z)
theorem set_of_tuple {l : Addr} {items : Array Value} (ks : PL) {Q : Value → Shared → Prop} (hh : A.handled = none) (hl : s.heap.IsTuple l items) (hit : items.toList = ks.map fun p => Value.ref p.1)
    (hk : ∀ p ∈ ks, IsP P w s.heap p.2 p.1) (hfew : ks.length ≤ 16) (hu : A.units + 3 < cLine)
    (h : ∀ (h' : Heap) (tk : Nat) L es ep t, SetP P w h' s.heap.objs.size L es ep t → From ks ks.length L → (∀ b o, s.heap.get? b = some o → h'.get? b = some o) → Q (.ref s.heap.objs.size) { s with heap := h', toks := tk }) :
    wpAny (model P w) A (call (.type "set") [.ref l]) Q E s := by
  have hisz : items.size = ks.length := by
    have q := congrArg List.length hit
    rw [Array.length_toList, List.length_map] at q
    exact q
  have hlS : l < s.heap.objs.size := by
    obtain ⟨_, hol, _⟩ := id hl
    exact Heap.lt_size hol
  refine set_call (F.typeCall_set_1 (.ref l)) ?_
  have hS : (s.heap.push (obS w)).get? s.heap.objs.size = some (obS w) := Heap.get?_push_size _ rfl
  have hl1 : (s.heap.push (obS w)).IsTuple l items := hl.push _
  refine init_tuple (s := { s with heap := s.heap.push (obS w) }) hS hl1 (wpAny_runValue ?_)
  have hh3 : A.in1.in1.in1.handled = none := by simp [hh]
  have hz1 : (s.heap.push (obS w)).objs.size = s.heap.objs.size + 1 := Heap.size_push ..
  have hneI : l ≠ (s.heap.push (obS w)).objs.size := by
    rw [hz1]
    exact Nat.ne_of_lt (Nat.lt_succ_of_lt hlS)
  have hSf : s.heap.objs.size ∉ [(s.heap.push (obS w)).objs.size, l] := by
    rw [hz1]
    simp only [List.mem_cons, List.mem_singleton, List.not_mem_nil, or_false, not_or]
    exact ⟨Nat.ne_of_lt (Nat.lt_succ_self _), Nat.ne_of_gt hlS⟩
  have hval : ∀ (i : Nat) (v : Value), items[i]? = some v → ∃ p, ks[i]? = some p ∧ v = .ref p.1 := fun i v hv => by
    have q : items.toList[i]? = some v := by rw [Array.getElem?_toList]; exact hv
    rw [hit, List.getElem?_map] at q
    obtain ⟨p, hp, e⟩ := Option.map_eq_some_iff.mp q
    exact ⟨p, hp, e.symm⟩
  have none_of : ∀ b, s.heap.objs.size ≤ b → s.heap.get? b = none := fun b hb => Heap.get?_none_of_le hb
  refine fill_loop ((Walks.tuple hh3 _ l hneI items).toS) s.heap.objs.size
    hSf ks hisz hfew hval s.heap hk (none_of _ (Nat.le_refl _)) (fun b hb => none_of b (by
      rw [List.mem_singleton.mp hb, hz1]
      exact Nat.le_succ _)) hu (items.size - 0) 0 _ (by omega) (Nat.zero_le _)
    ⟨⟨_, Heap.get?_push_size _ rfl, rfl, rfl⟩, (hl1.push _)⟩ (fun b o e => Heap.get?_push_of_some _ (Heap.get?_push_of_some _ e)) ?hS0 ?hR
  case hS0 =>
    exact ⟨[], #[], 0, _, set_fresh (Heap.get?_push_of_some _ hS), ⟨fun p hp => (by cases hp), fun p hp => (by simp at hp), Nat.le_refl _⟩, .inl rfl⟩
  case hR =>
    intro s' L es ep t hm hS' g' hkp
    obtain ⟨h', g2, d', tk', os'⟩ := s'
    obtain rfl : g2 = s.gens := hm.gens
    obtain rfl : d' = s.drawn := hm.drawn
    obtain rfl : os' = s.os := hm.os
    rw [hisz] at g'
    exact ⟨rfl, h h' tk' L es ep t hS' g' hkp⟩
end
end K26
set_option Elab.async false
set_option linter.all false
set_option maxRecDepth 100000
set_option maxHeartbeats 4000000
/-! KSetF: sorted(set) of tuples of texts; set(xs), a | b, sorted(set) over the layer. -/
namespace K26
open PySem PySem.Spec PyProof.Rows L2 PySem.W
/-- a key as data -/
def encK (k : List Str) : PyData := .tuple (k.map PyData.str)
theorem alike_strs : ∀ xs ys : List Str, alikeAll (xs.map PyData.str) (ys.map PyData.str) = true
  | [], _ => by simp [alikeAll]
  | _ :: _, [] => by simp [alikeAll]
  | x :: xs, y :: ys => by simp [alikeAll, alike, alike_strs xs ys]
theorem encK_alike (a b : List Str) : alike (encK a) (encK b) = true := by simp [encK, alike, alike_strs]
theorem depth_strs : ∀ xs : List Str, PyData.depthAll (xs.map PyData.str) = 0
  | [] => by simp [PyData.depthAll]
  | x :: xs => by simp [PyData.depthAll, PyData.depth, depth_strs xs]
theorem encK_depth (k : List Str) : (encK k).depth = 1 := by simp [encK, PyData.depth, depth_strs]
section
variable {P : Program} {w : World} {A : Around} {E : Value → Shared → Prop} {s : Shared}
theorem reads_items {h : Heap} : ∀ {k : List Str} {vs : List Value}, ItemsAre (strKind P w) k vs → ∃ as, ReadsAll h vs (k.map PyData.str) as
  | _, _, .nil => ⟨_, ReadsAll.nil⟩
  | _, _, .cons (k := k0) h1 h2 => by
    obtain ⟨t, rfl⟩ := Value.isStrOf_shape h1
    obtain ⟨as, r⟩ := reads_items (h := h) h2
    exact ⟨_, ReadsAll.cons (Reads.str k0 t) r⟩
theorem isP_reads {h : Heap} {k : List Str} {a : Addr} (x : IsP P w h k a) : ∃ as, Reads h (.ref a) (encK k) as := by
  obtain ⟨o, items, n, ho, hc, hd, hi⟩ := x
  obtain ⟨as, r⟩ := reads_items (h := h) hi
  exact ⟨_, Reads.tuple ho hc hd r⟩
theorem isP_lst {h : Heap} {k : List Str} {a l : Addr} {o : Obj} (x : IsP P w h k a) (ho : h.get? l = some o) (hc : o.cls = .type "list") : ∃ as, Reads h (.ref a) (encK k) as ∧ l ∉ as := by
  obtain ⟨o', items, n, ho', hc', hd, hi⟩ := x
  have ne : l ≠ a := fun z => by
    rw [z, ho'] at ho
    obtain rfl : o' = o := Option.some.inj ho
    rw [hc'] at hc
    injection hc with hc
    exact absurd hc (by decide)
  have rl : ∀ {k : List Str} {vs : List Value}, ItemsAre (strKind P w) k vs → ReadsAll h vs (k.map PyData.str) [] := by
    intro k vs hi
    induction hi with
    | nil => exact ReadsAll.nil
    | @cons k0 v ks vs h1 _ ih =>
      obtain ⟨t, rfl⟩ := Value.isStrOf_shape h1
      exact ReadsAll.cons (Reads.str k0 t) ih
  exact ⟨_, Reads.tuple ho' hc' hd (rl hi), by simpa using ne⟩
theorem each_refs : ∀ (L : PL), EachIs (fun (v : Value) (p : Addr × List Str) => v = .ref p.1) (L.map fun p => Value.ref p.1) L
  | [] => .nil
  | p :: L => .cons rfl (each_refs L)
theorem refs_each : ∀ {vs : List Value} {L : PL}, EachIs (fun (v : Value) (p : Addr × List Str) => v = .ref p.1) vs L → vs = L.map fun p => Value.ref p.1
  | _, _, .nil => rfl
  | _, _, .cons h t => by
    rw [List.map_cons, ← refs_each t, h]
abbrev leP : (Addr × List Str) → (Addr × List Str) → Bool := dataLe false fun p => encK p.2
theorem sorted_at {a : Addr} {L : PL} {es : Array (Int × Value)} {ep : Nat} {t : SetTable} {Q : Value → Shared → Prop} (R : SetP P w s.heap a L es ep t) (hh : A.handled = none) (hne : ∀ p ∈ L, p.2 ≠ []) (hu : A.units + 64 < cLine)
    (hQ : ∀ s' p (out : List Value) (c : Nat) (L' : PL), (∀ b o, s.heap.get? b = some o → s'.heap.get? b = some o) → s'.gens = s.gens → s'.os = s.os → s.heap.objs.size ≤ p →
      s'.heap.get? p = some (seqObj "list" out.toArray c) → out = L'.map (fun q => Value.ref q.1) → L'.Perm L → L'.Pairwise (fun q r => leP q r = true) → Q (.ref p) s') :
    wpAny (model P w) A (call (.builtin "sorted") [.ref a]) Q E s := by
  obtain ⟨o, ho, hex, hd⟩ := R.ob
  have hsz := R.size
  have room := R.room
  have ml := R.tab.msk.le
  refine Calls.call_function_entry kind_sorted plain_sorted entry_sorted (args_sorted1 _) ?_
  unfold Builtin.«sorted»
  refine wpAny_bind (m := checkCount "sorted" 1 1 _) (wpAny_pure ?_)
  refine wpAny_bind (collect_set (A := A.in1) hh ⟨o, ho, hex.1, hd⟩ R.fits (by unfold scanBound; omega) R.tab.up R.led fun s1 vs k1 hz g1 o1 pm => ?_)
  have hes : es.toList.map (·.2) = L.map fun q => Value.ref q.1 := by
    rw [R.rows]
    unfold rws
    rw [List.map_map]
    rfl
  rw [hes] at pm
  -- the order in which they came
  have come : ∀ vs : List Value, (∀ v ∈ vs, ∃ q ∈ L, v = Value.ref q.1) → ∃ L1 : PL, vs = L1.map (fun q => Value.ref q.1) ∧ ∀ q ∈ L1, q ∈ L := by
    intro vs
    induction vs with
    | nil => intro _; exact ⟨[], rfl, fun q hq => (by cases hq)⟩
    | cons v vs ih =>
      intro hv
      obtain ⟨q, hq, e⟩ := hv v List.mem_cons_self
      obtain ⟨L1, e1, h1⟩ := ih fun u hu => hv u (List.mem_cons_of_mem _ hu)
      refine ⟨q :: L1, by rw [List.map_cons, e, e1], fun r hr => ?_⟩
      rcases List.mem_cons.mp hr with z | z
      · rw [z]
        exact hq
      · exact h1 r z
  obtain ⟨L1, e1, in1⟩ := come vs fun v hv => by
    obtain ⟨q, hq, e⟩ := List.mem_map.mp (pm.mem_iff.mp hv)
    exact ⟨q, hq, e.symm⟩
  have one : ∀ q ∈ L, ∀ r ∈ L, q.1 = r.1 → q = r := fun q hq r hr e => by
    have a1 := R.tup q hq
    have a2 := R.tup r hr
    rw [e] at a1
    exact Prod.ext e (a1.inj a2)
  have nL : L.Nodup := nodup_of_map R.nd
  have p1 : L1.Perm L := by
    rw [e1] at pm
    have nref : (L.map fun q => Value.ref q.1).Nodup := by
      refine List.pairwise_map.mpr (List.Pairwise.imp_of_mem (fun {q r} hq hr hne e => ?_) nL)
      injection e with e
      exact hne (one q hq r hr e)
    have n1 : L1.Nodup := nodup_of_map (pm.nodup_iff.mpr nref)
    refine (List.perm_ext_iff_of_nodup n1 nL).mpr fun q => ⟨in1 q, fun hq => ?_⟩
    have hm : Value.ref q.1 ∈ L1.map (fun q => Value.ref q.1) := pm.mem_iff.mpr (List.mem_map.mpr ⟨q, hq, rfl⟩)
    obtain ⟨r, hr, e⟩ := List.mem_map.mp hm
    injection e with e
    rw [← one r (in1 r hr) q hq e]
    exact hr
  have ll : L1.length = L.length := p1.length_eq
  have vl : vs.length = L1.length := by rw [e1, List.length_map]
  refine wpAny_bind (wpAny_newList ?_ (by rw [vl, sizeLine_eq]; omega))
  have hoL : (s1.heap.push (seqObj "list" vs.toArray 0)).get? s1.heap.objs.size = some (seqObj "list" vs.toArray 0) := Heap.get?_push_size _ rfl
  have tk : ∀ q ∈ L1, IsP P w (s1.heap.push (seqObj "list" vs.toArray 0)) q.2 q.1 := fun q hq => isP_keep (R.tup q (in1 q hq)) fun b u e => Heap.get?_push_of_some _ (k1 b u e)
  have er : EachIs (fun (v : Value) (p : Addr × List Str) => ∃ as, Reads (s1.heap.push (seqObj "list" vs.toArray 0)) v (encK p.2) as ∧ s1.heap.objs.size ∉ as) vs L1 := by
    rw [e1]
    have key : ∀ M : PL, (∀ q ∈ M, q ∈ L1) → EachIs (fun (v : Value) (p : Addr × List Str) => ∃ as, Reads (s1.heap.push (seqObj "list" vs.toArray 0)) v (encK p.2) as ∧ s1.heap.objs.size ∉ as) (M.map fun q => Value.ref q.1) M := by
      intro M
      induction M with
      | nil => intro _; exact .nil
      | cons q M ih => intro hM; exact .cons (isP_lst (tk q (hM q List.mem_cons_self)) hoL rfl) (ih fun r hr => hM r (List.mem_cons_of_mem _ hr))
    have z := key L1 fun q hq => hq
    rw [e1] at z
    exact z
  refine wpAny_bind (wpAny_holding (list_sort_data (s := { s1 with heap := s1.heap.push (seqObj "list" vs.toArray 0) }) (bs := L1) (enc := fun p => encK p.2) (R := fun (v : Value) (p : Addr × List Str) => v = .ref p.1) hoL (by rw [e1]; exact each_refs L1) er
    (AllAlike.of fun b b' => encK_alike _ _) (Or.inl fun d hd => ?_) (by rw [sizeLine_eq]; omega) (fun b hb => ?_) fun out hl he => ?_))
  · obtain ⟨q, hq, e⟩ := List.mem_map.mp hd
    have z := hne q (in1 q hq)
    rw [← e]
    unfold encK
    cases hk : q.2 with
    | nil => exact absurd hk z
    | cons x r => exact ⟨_, _, rfl⟩
  · rw [encK_depth]
    show A.in1.units + 1 + 1 < cLine
    have : A.in1.units = A.units + 1 := by first | rfl | simp
    omega
  obtain ⟨c, hc⟩ := sortedHeap_at (vs := vs) (out := out.toArray) hoL
  refine wpAny_pure ⟨_, rfl, hQ _ s1.heap.objs.size out c (L1.mergeSort leP) (fun b u e => ?_) g1 o1 hz hc (refs_each he) ((List.mergeSort_perm L1 leP).trans p1) (sort_pairwise (sortLe_total _ _ _) L1)⟩
  have q := k1 b u e
  have hlt := Heap.lt_size q
  show (sortedHeap (s1.heap.push (seqObj "list" vs.toArray 0)) s1.heap.objs.size vs out.toArray).get? b = some u
  rw [sortedHeap_old (Nat.ne_of_lt hlt) (by rw [size_push']; exact Nat.lt_succ_of_lt hlt)]
  exact Heap.get?_push_of_some _ q
end
/-! ### over the layer -/
/-- the set at a, its tuples apart -/
def SetH (P : Program) (w : World) (h : Heap) (a : Addr) (L : PL) : Prop := ∃ (es : Array (Int × Value)) (ep : Nat) (t : SetTable), (∃ o, h.get? a = some o ∧ o.ExactSet ∧ o.data = .set es ep t) ∧ es.toList = rws P w L ∧ TabR t (L.map fun p => hsh P w p.2) ∧ (L.map (·.2)).Nodup ∧
    (w.params.followText "set-order" = true ∨ t.led = true) ∧ L.length * 5 < t.mask * 3
def SetO (P : Program) (w : World) (a : Addr) (L : PL) : HO := .ext fun h => SetH P w h a L
theorem SetP.seth {P : Program} {w : World} {h : Heap} {a : Addr} {L : PL} {es : Array (Int × Value)} {ep : Nat} {t : SetTable} (R : SetP P w h a L es ep t) : SetH P w h a L :=
  ⟨es, ep, t, R.ob, R.rows, R.tab, R.nd, R.led, R.room⟩
theorem SetH.setp {P : Program} {w : World} {h : Heap} {a : Addr} {L : PL} (R : SetH P w h a L) (ht : ∀ p ∈ L, IsP P w h p.2 p.1) : ∃ es ep t, SetP P w h a L es ep t := by
  obtain ⟨es, ep, t, h1, h2, h3, h4, h5, h6⟩ := R
  exact ⟨es, ep, t, h1, h2, h3, h4, ht, h5, h6⟩
theorem setO_ok {P : Program} {w : World} {H : Hp} {h : Heap} {a : Addr} {L : PL} (R : SetH P w h a L) : ObjOk P w H h a (SetO P w a L) := by
  obtain ⟨es, ep, t, ⟨o, ho, r⟩, q⟩ := id R
  refine ⟨R, ⟨o, ho⟩, fun h1 h2 p k => ?_⟩
  obtain ⟨es', ep', t', ⟨o', ho', r'⟩, q'⟩ := p
  exact ⟨es', ep', t', ⟨o', k o' ho', r'⟩, q'⟩
theorem str_items {P : Program} {w : World} : ∀ {k : List Str} {us : List Value}, Vals (k.map V.str) us → ItemsAre (strKind P w) k us
  | [], _, .nil => .nil
  | n :: k, _, .cons r t => by
    obtain ⟨tk, rfl⟩ := r
    exact .cons (strKind_is P w n tk) (str_items t)
theorem pl_refs : ∀ {ks : PL} {us : List Value}, Vals (ks.map fun p => V.ref p.1) us → us = ks.map fun p => Value.ref p.1
  | [], _, .nil => rfl
  | p :: ks, _, .cons r t => by
    cases r
    rw [pl_refs t]
    rfl
theorem refs_pl : ∀ (ks : PL), Vals (ks.map fun p => V.ref p.1) (ks.map fun p => Value.ref p.1)
  | [] => .nil
  | p :: ks => .cons rfl (refs_pl ks)
section
variable {X : Cx}
theorem inv_isP {pins : List (Addr × Obj)} {σ : L2.St} {H : Hp} {s : Shared} {b : Addr} {k : List Str} (I : Inv X pins σ H s) (h : SqT X.K H b (k.map V.str)) : IsP X.prog X.w s.heap k b := by
  obtain ⟨its, r, ⟨o, ho, hc, n, hd⟩, _⟩ := I.tuple h
  exact ⟨o, its.toArray, n, ho, hc, hd, by simpa using str_items r⟩
/-- set(xs), xs a list or a tuple of tuples of texts -/
def rSetOf (K : PySem.W.Frag) (P : Program) (w : World) : List V → Hp → VK → Prop := fun xs H Q => ∃ (l : Addr) (ks : PL), xs = [V.ref l] ∧ (SqL K H l (ks.map fun p => V.ref p.1) ∨ SqT K H l (ks.map fun p => V.ref p.1)) ∧ (∀ p ∈ ks, SqT K H p.1 (p.2.map V.str)) ∧ ks.length ≤ 16 ∧
  ∀ a L, H a = none → (L.map (·.2)).Nodup → (∀ p ∈ L, p ∈ ks) → (∀ p ∈ ks, p.2 ∈ L.map (·.2)) → L.length ≤ ks.length → Q (.ref a) (upd H a (SetO P w a L))
theorem cr_setOf (hc : X.calm = true) (hu : X.A.units + 64 < cLine) : CallR X (.type "set") (rSetOf X.K X.prog X.w) := by
  intro pins s σ H xs us Q I r h
  obtain ⟨l, ks, rfl, hl, hk, hf, q⟩ := h
  rw [Vals.ref1 r]
  have hn : H s.heap.objs.size = none := I.hok.fresh (Nat.le_refl _)
  have fin : ∀ (h' : Heap) (tk : Nat) L es ep t, SetP X.prog X.w h' s.heap.objs.size L es ep t → From ks ks.length L → (∀ b o, s.heap.get? b = some o → h'.get? b = some o) → EP X pins σ Q (.ref s.heap.objs.size) { s with heap := h', toks := tk } := by
    intro h' tk L es ep t R g k
    refine ⟨.ref s.heap.objs.size, upd H s.heap.objs.size (SetO X.prog X.w s.heap.objs.size L), I.laid (t' := tk) k (Nat.le_refl _) (setO_ok R.seth), rfl, q _ L hn R.nd (fun p hp => ?_) (fun p hp => ?_) g.len⟩
    · exact List.mem_of_mem_take (g.sub p hp)
    · exact g.all p (by rw [List.take_length]; exact hp)
  rcases hl with hl | hl
  · obtain ⟨its, rv, pl, hz⟩ := I.list hl
    exact set_of_list (P := X.prog) (w := X.w) ks (I.ok.hd hc) pl.isList (by simpa using pl_refs rv) (fun p hp => inv_isP I (hk p hp)) hf (by omega) fin
  · obtain ⟨its, rv, ⟨o, ho, hoc, n, hod⟩, hz⟩ := I.tuple hl
    exact set_of_tuple (P := X.prog) (w := X.w) ks (I.ok.hd hc) ⟨o, ho, hoc, n, hod⟩ (by simpa using pl_refs rv) (fun p hp => inv_isP I (hk p hp)) hf (by omega) fin
/-- a | b -/
def rOrS (K : PySem.W.Frag) (P : Program) (w : World) : R2 := fun x y H Q => ∃ (a b : Addr) (La Lb : PL), x = .ref a ∧ y = .ref b ∧ H a = some (SetO P w a La) ∧ H b = some (SetO P w b Lb) ∧ b ≠ a ∧ (∀ p ∈ La, SqT K H p.1 (p.2.map V.str)) ∧ (∀ p ∈ Lb, SqT K H p.1 (p.2.map V.str)) ∧ La.length + Lb.length ≤ 12 ∧
  ∀ c L, H c = none → (L.map (·.2)).Nodup → (∀ p ∈ L, p ∈ La ∨ p ∈ Lb) → (∀ p, p ∈ La ∨ p ∈ Lb → p.2 ∈ L.map (·.2)) → Q (.ref c) (upd H c (SetO P w c L))
theorem op_orS (hu : X.A.units + 64 < cLine) : OpR X (binaryOp .BitOr) (rOrS X.K X.prog X.w) := by
  intro pins s σ H x y v u Q I rx ry h
  obtain ⟨a, b, La, Lb, rfl, rfl, ha, hb, hab, ta, tb, hn, q⟩ := h
  cases rx
  cases ry
  obtain ⟨ea, pa, sa, Ra⟩ := SetH.setp (show SetH X.prog X.w s.heap a La from (I.hok a _ ha).1) fun p hp => inv_isP I (ta p hp)
  obtain ⟨eb, pb, sb, Rb⟩ := SetH.setp (show SetH X.prog X.w s.heap b Lb from (I.hok b _ hb).1) fun p hp => inv_isP I (tb p hp)
  have hf : H s.heap.objs.size = none := I.hok.fresh (Nat.le_refl _)
  refine op_or hab Ra Rb hn (by omega) fun h' d L es ep t k R c1 c2 => ?_
  have J : Inv X pins σ (upd H s.heap.objs.size (SetO X.prog X.w s.heap.objs.size L)) { s with heap := h', gens := s.gens, drawn := d, toks := s.toks } :=
    I.call (ch := []) (Un.laid k (Nat.le_refl _) hf) (I.hok.laid k (Nat.le_refl _) (setO_ok R.seth)) I.bare (fun _ z => nomatch z)
  exact ⟨.ref _, _, J, rfl, q _ L hf R.nd c1 c2⟩
/-- sorted(set): a new list -/
def rSrtS (K : PySem.W.Frag) (P : Program) (w : World) : List V → Hp → VK → Prop := fun vs H Q => ∃ (a : Addr) (L : PL), vs = [V.ref a] ∧ H a = some (SetO P w a L) ∧ (∀ p ∈ L, SqT K H p.1 (p.2.map V.str) ∧ p.2 ≠ []) ∧
  ∀ (L' : PL) (p : Addr), L'.Perm L → (L'.map (·.2)).Nodup → L'.Pairwise (fun q r => leP q r = true) → H p = none → Q (.ref p) (upd H p (.lst (L'.map fun q => V.ref q.1)))
theorem cr_srtS (hc : X.calm = true) (hu : X.A.units + 64 < cLine) : CallR X (.builtin "sorted") (rSrtS X.K X.prog X.w) := by
  intro pins s σ H vs us Q I r h
  obtain ⟨a, L, rfl, ha, hk, q⟩ := h
  obtain ⟨es, ep, t, R⟩ := SetH.setp (show SetH X.prog X.w s.heap a L from (I.hok a _ ha).1) fun p hp => inv_isP I (hk p hp).1
  rw [Vals.ref1 r]
  have ml := R.tab.msk.le
  have room := R.room
  refine sorted_at R (I.ok.hd hc) (fun p hp => (hk p hp).2) hu fun s' p out c L' k g o hp hg hout pm pw => ?_
  have hlen : (L'.map fun q => V.ref q.1).length ≤ sizeLine := by
    rw [List.length_map, pm.length_eq, sizeLine_eq]
    omega
  have hn : H p = none := I.hok.fresh hp
  have hv : Vals (L'.map fun q => V.ref q.1) out := by
    rw [hout]
    exact refs_pl L'
  have J : Inv X pins σ (upd H p (.lst (L'.map fun q => V.ref q.1))) { s with heap := s'.heap, gens := s'.gens, drawn := s'.drawn, toks := s'.toks } :=
    I.call (ch := []) (Un.laid k hp hn) (I.hok.laid k hp ⟨hlen, out, c, hv, hg⟩) (by rw [g]; exact I.bare) (fun _ z => nomatch z)
  have e : s' = { s with heap := s'.heap, gens := s'.gens, drawn := s'.drawn, toks := s'.toks } := by
    cases s'
    cases s
    cases o
    rfl
  rw [e]
  exact ⟨.ref p, _, J, rfl, q L' p pm ((pm.map (·.2)).nodup_iff.mpr R.nd) pw hn⟩
end
end K26
set_option Elab.async false
set_option linter.all false
set_option maxRecDepth 100000
set_option maxHeartbeats 2000000
/-! KD: readings that give data (tuples of texts, nested), whatever the objects are. -/
namespace L2
open PySem
section
variable {K : PySem.W.Frag} {H H' : Hp}
theorem DpAll.len : ∀ {vs : List V} {ds : List PyData}, DpAll K H vs ds → vs.length = ds.length
  | _, _, .nil => rfl
  | _, _, .cons _ t => congrArg (· + 1) (DpAll.len t)
theorem DpAll.at_ : ∀ {vs : List V} {ds : List PyData} {i : Nat} {v : V}, DpAll K H vs ds → vs[i]? = some v → ∃ d, ds[i]? = some d ∧ Dp K H v d
  | _, _, _, _, .nil, e => by simp at e
  | _, _, 0, _, .cons h _, e => by
    simp at e
    subst e
    exact ⟨_, rfl, h⟩
  | _, _, i + 1, _, .cons _ t, e => DpAll.at_ (i := i) t (by simpa using e)
theorem DpAll.of_ : ∀ {vs : List V} {ds : List PyData} {i : Nat} {d : PyData}, DpAll K H vs ds → ds[i]? = some d → ∃ v, vs[i]? = some v ∧ Dp K H v d
  | _, _, _, _, .nil, e => by simp at e
  | _, _, 0, _, .cons h _, e => by
    simp at e
    subst e
    exact ⟨_, rfl, h⟩
  | _, _, i + 1, _, .cons _ t, e => DpAll.of_ (i := i) t (by simpa using e)
theorem DpAll.app : ∀ {vs ws : List V} {ds es : List PyData}, DpAll K H vs ds → DpAll K H ws es → DpAll K H (vs ++ ws) (ds ++ es)
  | _, _, _, _, .nil, h => h
  | _, _, _, _, .cons a t, h => .cons a (DpAll.app t h)
theorem DpAll.take_ : ∀ {vs : List V} {ds : List PyData} (n : Nat), DpAll K H vs ds → DpAll K H (vs.take n) (ds.take n)
  | _, _, 0, _ => .nil
  | _, _, _ + 1, .nil => .nil
  | _, _, n + 1, .cons a t => .cons a (DpAll.take_ n t)
theorem DpAll.drop_ : ∀ {vs : List V} {ds : List PyData} (n : Nat), DpAll K H vs ds → DpAll K H (vs.drop n) (ds.drop n)
  | _, _, 0, h => h
  | _, _, _ + 1, .nil => .nil
  | _, _, n + 1, .cons _ t => DpAll.drop_ n t
theorem DpAll.rev : ∀ {vs : List V} {ds : List PyData}, DpAll K H vs ds → DpAll K H vs.reverse ds.reverse
  | _, _, .nil => .nil
  | _, _, .cons a t => by
    rw [List.reverse_cons, List.reverse_cons]
    exact DpAll.app (DpAll.rev t) (.cons a .nil)
theorem DpAll.bools : ∀ {vs : List V} {bs : List Bool}, DpAll K H vs (bs.map PyData.bool) → vs = bs.map V.bl
  | _, [], .nil => rfl
  | _, b :: bs, .cons h t => by
    cases h
    rw [DpAll.bools t]
    rfl
theorem DpAll.strs : ∀ {vs : List V} {xs : List Str}, DpAll K H vs (xs.map PyData.str) → vs = xs.map V.str
  | _, [], .nil => rfl
  | _, x :: xs, .cons h t => by
    cases h
    rw [DpAll.strs t]
    rfl
theorem DpAll.ints : ∀ {vs : List V} {ns : List Int}, DpAll K H vs (ns.map PyData.int) → vs = ns.map V.int
  | _, [], .nil => rfl
  | _, n :: ns, .cons h t => by
    cases h
    rw [DpAll.ints t]
    rfl
end
end L2

namespace K26
open PySem L2 Evl StX

/-! ### data stands while the heap grows -/
section
variable {K : PySem.W.Frag} {H H' : Hp}
mutual
theorem dp_ex (e : Ex H H') : ∀ (d : PyData) (v : V), Dp K H v d → Dp K H' v d
  | .none, _, h => by cases h; exact .non
  | .bool b, _, h => by cases h; exact .bl b
  | .int i, _, h => by cases h; exact .int i
  | .str x, _, h => by cases h; exact .str x
  | .list ds, _, h => by
    cases h with
    | lst h1 h2 => exact .lst (ex_l e h1) (dpAll_ex e ds _ h2)
  | .tuple ds, _, h => by
    cases h with
    | tup h1 h2 => exact .tup (ex_t e h1) (dpAll_ex e ds _ h2)
  | .dict _, _, h => by cases h
theorem dpAll_ex (e : Ex H H') : ∀ (ds : List PyData) (vs : List V), DpAll K H vs ds → DpAll K H' vs ds
  | [], _, h => by cases h; exact .nil
  | d :: ds, _, h => by
    cases h with
    | cons h1 h2 => exact .cons (dp_ex e d _ h1) (dpAll_ex e ds _ h2)
end
theorem dpAll_strs : ∀ (xs : List Str), DpAll K H (xs.map V.str) (xs.map PyData.str)
  | [] => .nil
  | x :: xs => .cons (.str x) (dpAll_strs xs)
theorem dp_str {v : V} {x : Str} (h : Dp K H v (.str x)) : v = .str x := by cases h; rfl
theorem dp_int {v : V} {i : Int} (h : Dp K H v (.int i)) : v = .int i := by cases h; rfl
theorem dp_bl {v : V} {b : Bool} (h : Dp K H v (.bool b)) : v = .bl b := by cases h; rfl
theorem dp_non {v : V} (h : Dp K H v .none) : v = .non := by cases h; rfl
theorem dp_tup {v : V} {ds : List PyData} (h : Dp K H v (.tuple ds)) : ∃ a xs, v = .ref a ∧ SqT K H a xs ∧ DpAll K H xs ds := by
  cases h with
  | tup h1 h2 => exact ⟨_, _, rfl, h1, h2⟩
theorem dp_lst {v : V} {ds : List PyData} (h : Dp K H v (.list ds)) : ∃ a xs, v = .ref a ∧ SqL K H a xs ∧ DpAll K H xs ds := by
  cases h with
  | lst h1 h2 => exact ⟨_, _, rfl, h1, h2⟩
end

/-! ### what a reading gives: a value of which R is true -/
/-- a word of values that stands while the heap grows -/
def Mono (R : V → Hp → Prop) : Prop := ∀ v H H', Ex H H' → R v H → R v H'
def EvP (te : TE) (σ : L2.St) (H : Hp) (R : V → Hp → Prop) : Prop := ∀ H1, Ex H H1 → ∀ Q : VK, (∀ v H2, Ex H1 H2 → R v H2 → Q v H2) → te σ H1 Q
abbrev isD (K : PySem.W.Frag) (d : PyData) : V → Hp → Prop := fun v H => Dp K H v d
abbrev EvD (K : PySem.W.Frag) (te : TE) (σ : L2.St) (H : Hp) (d : PyData) : Prop := EvP te σ H (isD K d)
/-- a new list of data -/
abbrev isL (K : PySem.W.Frag) (H : Hp) (ds : List PyData) : V → Hp → Prop := fun v H' => ∃ p xs, v = .ref p ∧ H p = none ∧ H' p = some (.lst xs) ∧ DpAll K H' xs ds
abbrev EvN (K : PySem.W.Frag) (te : TE) (σ : L2.St) (H : Hp) (ds : List PyData) : Prop := EvP te σ H (isL K H ds)
/-- arguments that give data -/
def EvDs (K : PySem.W.Frag) (ta : TA) (σ : L2.St) (H : Hp) (ds : List PyData) : Prop := ∀ H1, Ex H H1 → ∀ Q : List V → Hp → Prop, (∀ vs H2, Ex H1 H2 → DpAll K H2 vs ds → Q vs H2) → ta σ H1 Q
/-- an operation on values -/
def OpP (r : R2) (x y : V) (H : Hp) (R : V → Hp → Prop) : Prop := ∀ Q : VK, (∀ v H2, Ex H H2 → R v H2 → Q v H2) → r x y H Q
section
variable {K : PySem.W.Frag} {σ : L2.St} {H H' : Hp} {ta tb tc te : TE} {t u : TT} {x y z v : V} {r : R2} {R Ra Rb : V → Hp → Prop} {d e : PyData} {ds es : List PyData}
theorem isD_mono : Mono (isD K d) := fun v _ _ e h => dp_ex e d v h
theorem isL_mono : Mono (isL K H ds) := fun _ _ _ e ⟨p, xs, h1, h2, h3, h4⟩ => ⟨p, xs, h1, h2, e p _ h3, dpAll_ex e ds xs h4⟩
theorem EvP.up (e : Ex H H') (h : EvP te σ H R) : EvP te σ H' R := fun H1 a Q q => h H1 (e.trans a) Q q
theorem EvP.imp (h : EvP te σ H Ra) (i : ∀ v H1, Ex H H1 → Ra v H1 → R v H1) : EvP te σ H R := fun H1 a Q q => h H1 a Q fun v H2 e2 hr => q v H2 e2 (i v H2 (a.trans e2) hr)
theorem EvP.go (h : EvP te σ H R) {Q : VK} (q : ∀ v H1, Ex H H1 → R v H1 → Q v H1) : te σ H Q := h H (Ex.refl H) Q q
/-- a new list is data -/
theorem EvN.data (h : EvN K te σ H ds) : EvD K te σ H (.list ds) := h.imp fun _ _ _ ⟨_, _, h1, _, h3, h4⟩ => by
  rw [h1]
  exact .lst (sq_of h3) h4
theorem p_var {i : Nat} (h : σ[i]? = some (some v)) (m : Mono R) (hr : R v H) : EvP (tVar i) σ H R := fun H1 e _ q => ⟨v, h, q v H1 (Ex.refl H1) (m v H H1 e hr)⟩
theorem d_var {i : Nat} (h : σ[i]? = some (some v)) (hr : Dp K H v d) : EvD K (tVar i) σ H d := p_var h isD_mono hr
theorem p_c (m : Mono R) (hr : R v H) : EvP (tC v) σ H R := fun H1 e _ q => q v H1 (Ex.refl H1) (m v H H1 e hr)
theorem d_str {x : Str} : EvD K (tC (.str x)) σ H (.str x) := p_c isD_mono (.str x)
theorem d_int {i : Int} : EvD K (tC (.int i)) σ H (.int i) := p_c isD_mono (.int i)
theorem d_bl {b : Bool} : EvD K (tC (.bl b)) σ H (.bool b) := p_c isD_mono (.bl b)
theorem d_non : EvD K (tC .non) σ H .none := p_c isD_mono .non
theorem p_op (ma : Mono Ra) (ha : EvP ta σ H Ra) (hb : EvP tb σ H Rb) (hr : ∀ x y H1, Ex H H1 → Ra x H1 → Rb y H1 → OpP r x y H1 R) : EvP (tOp r ta tb) σ H R := fun H1 e Q q =>
  ha H1 e _ fun x H2 e2 a => hb H2 (e.trans e2) _ fun y H3 e3 b => hr x y H3 ((e.trans e2).trans e3) (ma x H2 H3 e3 a) b Q fun v H4 e4 w => q v H4 ((e2.trans e3).trans e4) w
/-- an operation that gives a value and leaves the heap -/
theorem op_at (h : ∀ Q : VK, Q z H → r x y H Q) (w : R z H) : OpP r x y H R := fun Q q => h Q (q z H (Ex.refl H) w)

/-! ### tests -/
theorem t_of {b : Bool} (h : EvD K te σ H (.bool b)) : EvT (tTest te) σ H b := fun H1 e _ q => h H1 e _ fun v H2 e2 w => by
  obtain rfl := dp_bl w
  exact ⟨b, rfl, q H2 e2⟩
theorem t_B {b : Bool} (h : EvD K te σ H (.bool b)) : EvT (tB te) σ H b := fun H1 e _ q => h H1 e _ fun v H2 e2 w => by
  obtain rfl := dp_bl w
  exact ⟨b, rfl, q H2 e2⟩
theorem d_andV {a b : Bool} (h1 : EvD K ta σ H (.bool a)) (h2 : a = true → EvD K tb σ H (.bool b)) : EvD K (tAndV ta tb) σ H (.bool (a && b)) := fun H1 e Q q => h1 H1 e _ fun v H2 e2 w => by
  obtain rfl := dp_bl w
  refine ⟨a, rfl, ?_⟩
  cases a with
  | true => exact h2 rfl H2 (e.trans e2) Q fun v H3 e3 w => q v H3 (e2.trans e3) w
  | false => exact q _ H2 e2 (.bl false)
theorem d_orV {a b : Bool} (h1 : EvD K ta σ H (.bool a)) (h2 : a = false → EvD K tb σ H (.bool b)) : EvD K (tOrV ta tb) σ H (.bool (a || b)) := fun H1 e Q q => h1 H1 e _ fun v H2 e2 w => by
  obtain rfl := dp_bl w
  refine ⟨a, rfl, ?_⟩
  cases a with
  | true => exact q _ H2 e2 (.bl true)
  | false => exact h2 rfl H2 (e.trans e2) Q fun v H3 e3 w => q v H3 (e2.trans e3) w
theorem p_if {b : Bool} (h : EvT t σ H b) (h1 : b = true → EvP ta σ H R) (h2 : b = false → EvP tb σ H R) : EvP (tIf t ta tb) σ H R := fun H1 e Q q => h H1 e _ fun H2 e2 => by
  cases b with
  | true => exact h1 rfl H2 (e.trans e2) Q fun v H3 e3 w => q v H3 (e2.trans e3) w
  | false => exact h2 rfl H2 (e.trans e2) Q fun v H3 e3 w => q v H3 (e2.trans e3) w

/-! ### arguments, tuples, lists -/
theorem ds_nil : EvDs K tNil σ H [] := fun H1 _ _ q => q [] H1 (Ex.refl H1) .nil
theorem ds_cons {tr : TA} (h : EvD K ta σ H d) (hr : EvDs K tr σ H ds) : EvDs K (tCons ta tr) σ H (d :: ds) := fun H1 e _ q =>
  h H1 e _ fun v H2 e2 w => hr H2 (e.trans e2) _ fun vs H3 e3 ws => q (v :: vs) H3 (e2.trans e3) (.cons (dp_ex e3 d v w) ws)
theorem d_tup {ta : TA} (h : EvDs K ta σ H ds) (hl : ds.length ≤ 100000) : EvD K (tTup ta) σ H (.tuple ds) := fun H1 e _ q =>
  h H1 e _ fun vs H2 e2 ws => ⟨sz_of (by rw [ws.len]; exact hl), fun p hp => q _ _ (e2.trans (Ex.new hp)) (.tup (st_of upd_same) (dpAll_ex (Ex.new hp) ds vs ws))⟩
theorem n_lst {ta : TA} (h : EvDs K ta σ H ds) (hl : ds.length ≤ 100000) : EvN K (tLst ta) σ H ds := fun H1 e _ q =>
  h H1 e _ fun vs H2 e2 ws => ⟨sz_of (by rw [ws.len]; exact hl), fun p hp => q _ _ (e2.trans (Ex.new hp)) ⟨p, vs, rfl, fresh_back e (fresh_back e2 hp), upd_same, dpAll_ex (Ex.new hp) ds vs ws⟩⟩
/-- (.., *t) -/
theorem ds_star {te : TE} {ta : TA} (h : EvD K te σ H (.tuple es)) (hr : EvDs K ta σ H ds) : EvDs K (tStar K te ta) σ H (es ++ ds) := fun H1 e _ q =>
  h H1 e _ fun v H2 e2 w => by
    obtain ⟨a, xs, rfl, hs, hx⟩ := dp_tup w
    exact ⟨a, xs, rfl, .inl hs, hr H2 (e.trans e2) _ fun vs H3 e3 ws => q (xs ++ vs) H3 (e2.trans e3) (DpAll.app (dpAll_ex e3 es xs hx) ws)⟩
/-- t[i] -/
theorem d_ixT {i : Int} (ha : EvD K ta σ H (.tuple ds)) (hi : EvD K tb σ H (.int i)) (h : atI ds i = some d) : EvD K (tOp (rIxT K) ta tb) σ H d :=
  p_op isD_mono ha hi fun x y H1 e1 a b => by
    obtain ⟨p, xs, rfl, hs, hx⟩ := dp_tup a
    obtain rfl := dp_int b
    obtain ⟨j, h1, h2⟩ := Option.bind_eq_some_iff.mp (show (ixN ds.length i).bind (fun j => ds[j]?) = some d from h)
    obtain ⟨v, h3, h4⟩ := hx.of_ h2
    refine op_at (z := v) (fun Q q => ⟨p, xs, i, v, rfl, rfl, hs, ?_, q⟩) h4
    show (ixN xs.length i).bind (fun j => xs[j]?) = some v
    rw [hx.len, h1]
    exact h3
theorem d_ixL {i : Int} (ha : EvD K ta σ H (.list ds)) (hi : EvD K tb σ H (.int i)) (h : atI ds i = some d) : EvD K (tOp (rIxL K) ta tb) σ H d :=
  p_op isD_mono ha hi fun x y H1 e1 a b => by
    obtain ⟨p, xs, rfl, hs, hx⟩ := dp_lst a
    obtain rfl := dp_int b
    obtain ⟨j, h1, h2⟩ := Option.bind_eq_some_iff.mp (show (ixN ds.length i).bind (fun j => ds[j]?) = some d from h)
    obtain ⟨v, h3, h4⟩ := hx.of_ h2
    refine op_at (z := v) (fun Q q => ⟨p, xs, i, v, rfl, rfl, hs, ?_, q⟩) h4
    show (ixN xs.length i).bind (fun j => xs[j]?) = some v
    rw [hx.len, h1]
    exact h3
/-- ==, != -/
theorem d_eq (ha : EvD K ta σ H d) (hb : EvD K tb σ H e) (h1 : SeqAt.shaped d = true) (h2 : SeqAt.shaped e = true) : EvD K (tOp (rEqD K) ta tb) σ H (.bool (PyData.eqv d e)) :=
  p_op isD_mono ha hb fun x y H1 e1 a b => op_at (z := .bl _) (fun Q q => ⟨d, e, a, b, h1, h2, q⟩) (.bl _)
theorem d_ne (ha : EvD K ta σ H d) (hb : EvD K tb σ H e) (h1 : SeqAt.shaped d = true) (h2 : SeqAt.shaped e = true) : EvD K (tOp (rNeD K) ta tb) σ H (.bool (!PyData.eqv d e)) :=
  p_op isD_mono ha hb fun x y H1 e1 a b => op_at (z := .bl _) (fun Q q => ⟨d, e, a, b, h1, h2, q⟩) (.bl _)
/-- t + u -/
theorem d_cat (ha : EvD K ta σ H (.tuple ds)) (hb : EvD K tb σ H (.tuple es)) (hl : ds.length + es.length ≤ 100000) : EvD K (tOp (rCatA K) ta tb) σ H (.tuple (ds ++ es)) :=
  p_op isD_mono ha hb fun x y H1 e1 a b => by
    obtain ⟨p, xs, rfl, hs, hx⟩ := dp_tup a
    obtain ⟨p', ys, rfl, hs', hy⟩ := dp_tup b
    have l1 := hx.len
    have l2 := hy.len
    refine fun Q q => ⟨p, p', xs, ys, rfl, rfl, hs, hs', sz_of (by omega), fun z => ?_, fun z1 z2 => ?_, fun _ _ c hc => ?_⟩
    · subst z
      cases hx
      exact q _ H1 (Ex.refl H1) (.tup hs' hy)
    · subst z2
      cases hy
      rw [List.append_nil] at q
      exact q _ H1 (Ex.refl H1) (.tup hs hx)
    · exact q _ _ (Ex.new hc) (.tup (st_of upd_same) (dpAll_ex (Ex.new hc) _ _ (hx.app hy)))
/-- in, not in of flat texts -/
theorem inV_strs (x : Str) : ∀ xs : List Str, inV (.str x) (xs.map V.str) = decide (x ∈ xs)
  | [] => by simp [inV]
  | y :: ys => by
    have ih := inV_strs x ys
    unfold inV at ih ⊢
    rw [List.map_cons, List.any_cons, ih]
    have e : eqV (.str y) (.str x) = decide (y = x) := by
      by_cases q : y = x
      · subst q
        simp [eqV]
      · simp [eqV, q]
    rw [e]
    by_cases h : y = x
    · subst h
      simp
    · have h' : ¬ x = y := fun z => h z.symm
      simp [h, h']
theorem flat_strs (xs : List Str) : (xs.map V.str).all flatV = true := by
  rw [List.all_map]
  exact List.all_eq_true.mpr fun _ _ => rfl
theorem d_inS {x : Str} {xs : List Str} {neg : Bool} (ha : EvD K ta σ H (.str x)) (hb : EvD K tb σ H (.tuple (xs.map PyData.str))) : EvD K (tOp (rIn K neg) ta tb) σ H (.bool (if neg then !decide (x ∈ xs) else decide (x ∈ xs))) :=
  p_op isD_mono ha hb fun u y H1 e1 a b => by
    obtain rfl := dp_str a
    obtain ⟨p, vs, rfl, hs, hx⟩ := dp_tup b
    obtain rfl := hx.strs
    refine op_at (z := .bl _) (fun Q q => ⟨p, xs.map V.str, rfl, .inr hs, rfl, flat_strs xs, ?_⟩) (.bl _)
    rw [inV_strs]
    exact q
theorem d_in1 {x : Str} {xs : List Str} (ha : EvD K ta σ H (.str x)) (hb : EvD K tb σ H (.tuple (xs.map PyData.str))) : EvD K (tOp (rIn K false) ta tb) σ H (.bool (decide (x ∈ xs))) := d_inS (neg := false) ha hb
theorem d_ni1 {x : Str} {xs : List Str} (ha : EvD K ta σ H (.str x)) (hb : EvD K tb σ H (.tuple (xs.map PyData.str))) : EvD K (tOp (rIn K true) ta tb) σ H (.bool (!decide (x ∈ xs))) := d_inS (neg := true) ha hb

/-! ### statements -/
variable {D : Ends} {tz tu tw : TS} {g : TG}
theorem s_setP {i : Nat} (h : EvP te σ H R) (k : ∀ v H1, Ex H H1 → R v H1 → tz D (σ.set i (some v)) H1) : tSeq (tAsg te (gName i)) tz D σ H := h H (Ex.refl H) _ k
theorem s_setP1 {i : Nat} (h : EvP te σ H R) (k : ∀ v H1, Ex H H1 → R v H1 → D.nx (σ.set i (some v)) H1) : tAsg te (gName i) D σ H := h H (Ex.refl H) _ k
theorem s_retP (h : EvP te σ H R) (k : ∀ v H1, Ex H H1 → R v H1 → D.rt v H1) : tRet te D σ H := h H (Ex.refl H) _ k

/-! ### calls of defs -/
/-- what a def hands back: data -/
def RetD (K : PySem.W.Frag) (d : PyData) (H : Hp) (Q : VK) : Prop := ∀ v H', Ex H H' → Dp K H' v d → Q v H'
def RetN (K : PySem.W.Frag) (ds : List PyData) (H : Hp) (Q : VK) : Prop := ∀ v H', Ex H H' → isL K H ds v H' → Q v H'
/-- the def's promise, by data: pre told of the arguments' data -/
def SpD (K : PySem.W.Frag) (f : List PyData → PyData → Prop) : Sp := fun vs H Q _ => ∃ ds d, DpAll K H vs ds ∧ f ds d ∧ RetD K d H Q
def SpN (K : PySem.W.Frag) (f : List PyData → List PyData → Prop) : Sp := fun vs H Q _ => ∃ ds d, DpAll K H vs ds ∧ f ds d ∧ RetN K d H Q
theorem d_call {ta : TA} {f : List PyData → PyData → Prop} {E : XK} (h : EvDs K ta σ H ds) (hf : f ds d) : EvD K (tCall (SpD K f) [] E ta) σ H d := fun H1 e Q q =>
  h H1 e _ fun vs H2 e2 ws => by
    show SpD K f (vs ++ []) H2 Q E
    rw [List.append_nil]
    exact ⟨ds, d, ws, hf, fun v H3 e3 w => q v H3 (e2.trans e3) w⟩
theorem n_call {ta : TA} {f : List PyData → List PyData → Prop} {E : XK} (h : EvDs K ta σ H ds) (hf : f ds es) : EvN K (tCall (SpN K f) [] E ta) σ H es := fun H1 e Q q =>
  h H1 e _ fun vs H2 e2 ws => by
    show SpN K f (vs ++ []) H2 Q E
    rw [List.append_nil]
    refine ⟨ds, es, ws, hf, fun v H3 e3 w => q v H3 (e2.trans e3) ?_⟩
    obtain ⟨p, xs, h1, h2, h3, h4⟩ := w
    exact ⟨p, xs, h1, fresh_back (e.trans e2) h2, h3, h4⟩

/-! ### built-ins -/
theorem d_all {bs : List Bool} (h : EvD K ta σ H (.list (bs.map PyData.bool))) : EvD K (tCB (rAll K) (tCons ta tNil)) σ H (.bool (bs.all id)) := fun H1 e Q q =>
  h H1 e _ fun v H2 e2 w => by
    obtain ⟨a, xs, rfl, hs, hx⟩ := dp_lst w
    obtain rfl := hx.bools
    exact ⟨a, bs, rfl, hs, q _ H2 e2 (.bl _)⟩
theorem d_any {bs : List Bool} (h : EvD K ta σ H (.list (bs.map PyData.bool))) : EvD K (tCB (rAny K) (tCons ta tNil)) σ H (.bool (bs.any id)) := fun H1 e Q q =>
  h H1 e _ fun v H2 e2 w => by
    obtain ⟨a, xs, rfl, hs, hx⟩ := dp_lst w
    obtain rfl := hx.bools
    exact ⟨a, bs, rfl, hs, q _ H2 e2 (.bl _)⟩
theorem d_sum {ns : List Int} (h : EvD K ta σ H (.list (ns.map PyData.int))) : EvD K (tCB (rSum K) (tCons ta tNil)) σ H (.int ns.sum) := fun H1 e Q q =>
  h H1 e _ fun v H2 e2 w => by
    obtain ⟨a, xs, rfl, hs, hx⟩ := dp_lst w
    obtain rfl := hx.ints
    exact ⟨a, ns, rfl, hs, q _ H2 e2 (.int _)⟩
/-- len -/
def rLenA (K : PySem.W.Frag) : List V → Hp → VK → Prop := fun xs H Q => ∃ x n, xs = [x] ∧ LenV K x H n ∧ Q (.int n) H
theorem d_lenT (h : EvD K ta σ H (.tuple ds)) : EvD K (tCB (rLenA K) (tCons ta tNil)) σ H (.int ds.length) := fun H1 e Q q =>
  h H1 e _ fun v H2 e2 w => by
    obtain ⟨a, xs, rfl, hs, hx⟩ := dp_tup w
    refine ⟨_, xs.length, rfl, .inr ⟨xs, hs, rfl⟩, ?_⟩
    rw [hx.len]
    exact q _ H2 e2 (.int _)
theorem d_lenL (h : EvD K ta σ H (.list ds)) : EvD K (tCB (rLenA K) (tCons ta tNil)) σ H (.int ds.length) := fun H1 e Q q =>
  h H1 e _ fun v H2 e2 w => by
    obtain ⟨a, xs, rfl, hs, hx⟩ := dp_lst w
    refine ⟨_, xs.length, rfl, .inl ⟨xs, hs, rfl⟩, ?_⟩
    rw [hx.len]
    exact q _ H2 e2 (.int _)
theorem d_lenS {x : Str} (h : EvD K ta σ H (.str x)) (hl : x.length ≤ 100000) : EvD K (tCB (rLenA K) (tCons ta tNil)) σ H (.int x.length) := fun H1 e Q q =>
  h H1 e _ fun v H2 e2 w => by
    obtain rfl := dp_str w
    exact ⟨_, x.length, rfl, ⟨sz_of hl, rfl⟩, q _ H2 e2 (.int _)⟩
/-- tuple(list) -/
def rTupL (K : PySem.W.Frag) : List V → Hp → VK → Prop := fun xs H Q => ∃ p ys, xs = [.ref p] ∧ ((SqL K H p ys ∧ ∀ l, H l = none → Q (.ref l) (upd H l (.tup ys))) ∨ (SqT K H p ys ∧ Q (.ref p) H))
theorem d_tupL (h : EvD K ta σ H (.list ds)) : EvD K (tCB (rTupL K) (tCons ta tNil)) σ H (.tuple ds) := fun H1 e Q q =>
  h H1 e _ fun v H2 e2 w => by
    obtain ⟨a, xs, rfl, hs, hx⟩ := dp_lst w
    exact ⟨a, xs, rfl, .inl ⟨hs, fun l hl => q _ _ (e2.trans (Ex.new hl)) (.tup (st_of upd_same) (dpAll_ex (Ex.new hl) ds xs hx))⟩⟩
/-- isinstance(x, T) -/
theorem d_isi {T : String} {b : Bool} (h : EvD K ta σ H d) (hT : ∀ v H1, Dp K H1 v d → ∃ n, TyX K H1 v (.type n) ∧ kitB n T = some b) : EvD K (tCB (rIsi K) (tCons ta (tCons (tC (.ty T)) tNil))) σ H (.bool b) := fun H1 e Q q =>
  h H1 e _ fun v H2 e2 w => by
    obtain ⟨n, h1, h2⟩ := hT v H2 w
    exact ⟨v, .ty T, .type n, .type T, b, rfl, .ty T, h1, kit_ty h2, q _ H2 e2 (.bl b)⟩
theorem ty_str {v : V} {x : Str} (h : Dp K H v (.str x)) : TyX K H v (.type "str") := by
  cases h
  exact .base (.str x)
theorem ty_non {v : V} (h : Dp K H v .none) : TyX K H v (.type "NoneType") := by
  cases h
  exact .base .non
theorem ty_tup {v : V} (h : Dp K H v (.tuple ds)) : TyX K H v (.type "tuple") := by
  obtain ⟨a, xs, rfl, hs, _⟩ := dp_tup h
  rcases hs with (hs | ⟨o, hs⟩) | ⟨o, its, n, hk, hc, _⟩
  · exact .base (.tup hs)
  · exact .fTuple hs
  · exact .kTuple hk hc
end
end K26
set_option Elab.async false
set_option linter.all false
set_option maxRecDepth 100000
set_option maxHeartbeats 2000000
/-! KD2: comprehensions over data. -/
namespace K26
open PySem L2 Evl RZ
mutual
/-- no list is within -/
def noL : PyData → Bool
  | .list _ => false
  | .dict _ => false
  | .tuple xs => noLs xs
  | _ => true
def noLs : List PyData → Bool
  | [] => true
  | x :: xs => noL x && noLs xs
end
section
variable {K : PySem.W.Frag} {H : Hp} {D : Addr} {o : HO} {acc : List V}
theorem sqT_upd {a : Addr} {xs : List V} (hD : H D = some (.lst acc)) (h : SqT K H a xs) : SqT K (upd H D o) a xs := by
  have ne : ∀ {u : HO}, H a = some u → (∀ ys, u ≠ .lst ys) → a ≠ D := fun {u} hu nu z => by
    rw [z, hD] at hu
    exact nu acc (Option.some.inj hu).symm
  rcases h with (h | ⟨ob, h⟩) | h
  · exact .inl (.inl (by rw [upd_ne (ne h fun ys z => by cases z)]; exact h))
  · exact .inl (.inr ⟨ob, by rw [upd_ne (ne h fun ys z => by cases z)]; exact h⟩)
  · exact .inr h
mutual
theorem dp_upd (hD : H D = some (.lst acc)) : ∀ (d : PyData) (v : V), noL d = true → Dp K H v d → Dp K (upd H D o) v d
  | .none, _, _, h => by cases h; exact .non
  | .bool b, _, _, h => by cases h; exact .bl b
  | .int i, _, _, h => by cases h; exact .int i
  | .str x, _, _, h => by cases h; exact .str x
  | .list ds, _, n, _ => by simp [noL] at n
  | .tuple ds, _, n, h => by
    cases h with
    | tup h1 h2 => exact .tup (sqT_upd hD h1) (dpAll_upd hD ds _ (by simpa [noL] using n) h2)
  | .dict _, _, _, h => by cases h
theorem dpAll_upd (hD : H D = some (.lst acc)) : ∀ (ds : List PyData) (vs : List V), noLs ds = true → DpAll K H vs ds → DpAll K (upd H D o) vs ds
  | [], _, _, h => by cases h; exact .nil
  | d :: ds, _, n, h => by
    have n2 : noL d = true ∧ noLs ds = true := by simpa [noLs] using n
    cases h with
    | cons h1 h2 => exact .cons (dp_upd hD d _ n2.1 h1) (dpAll_upd hD ds _ n2.2 h2)
end
theorem noLs_map {α : Type} {q : α → PyData} : ∀ {l : List α}, (∀ a, a ∈ l → noL (q a) = true) → noLs (l.map q) = true
  | [], _ => rfl
  | a :: l, h => by
    show (noL (q a) && noLs (l.map q)) = true
    rw [h a List.mem_cons_self, noLs_map fun b hb => h b (List.mem_cons_of_mem _ hb)]
    rfl
end
/-- what an iterable gives: the items l, each as R says -/
def WalkD (wi : TI) (σ : L2.St) (H : Hp) {α : Type} (l : List α) (R : α → V → Hp → Prop) : Prop := ∀ H1, Ex H H1 → ∀ Z : It → Hp → Prop,
  (∀ J H2 (G : Hp → Prop) (Y : Nat → Hp → V → Hp → Prop), Ex H1 H2 → Walk J l.length G Y → (∀ H3, Ex H2 H3 → G H3) → (∀ i H3 x H4 a, l[i]? = some a → Y i H3 x H4 → Ex H2 H3 → Ex H3 H4 ∧ R a x H4) → Z J H2) → wi σ H1 Z
section
variable {K : PySem.W.Frag} {σ : L2.St} {H H' : Hp} {tl te : TE} {ta : TA} {α : Type} {l : List α} {f : α → PyData} {R : α → V → Hp → Prop}
theorem w_tup (h : EvD K tl σ H (.tuple (l.map f))) : WalkD (iTup K tl) σ H l (fun a => isD K (f a)) := fun H1 e Z z =>
  h H1 e _ fun v H2 e2 w => by
    obtain ⟨a, xs, rfl, hs, hx⟩ := dp_tup w
    have hl : xs.length = l.length := by rw [hx.len, List.length_map]
    refine ⟨a, rfl, ⟨xs, hs⟩, z (Itt K a) H2 _ _ e2 (by rw [← hl]; exact walk_tup) (fun H3 e3 => ex_t e3 hs) fun i H3 x H4 b hb hy e3 => ?_⟩
    obtain ⟨rfl, hi⟩ := hy
    obtain ⟨d, hd, hv⟩ := hx.at_ hi
    rw [List.getElem?_map, hb] at hd
    cases hd
    exact ⟨Ex.refl _, dp_ex e3 _ _ hv⟩
theorem w_lst (h : EvD K tl σ H (.list (l.map f))) : WalkD (iList K tl) σ H l (fun a => isD K (f a)) := fun H1 e Z z =>
  h H1 e _ fun v H2 e2 w => by
    obtain ⟨a, xs, rfl, hs, hx⟩ := dp_lst w
    have hl : xs.length = l.length := by rw [hx.len, List.length_map]
    refine ⟨a, rfl, ⟨xs, hs⟩, z (Itl K a) H2 _ _ e2 (by rw [← hl]; exact walk_list) (fun H3 e3 => ex_l e3 hs) fun i H3 x H4 b hb hy e3 => ?_⟩
    obtain ⟨rfl, hi⟩ := hy
    obtain ⟨d, hd, hv⟩ := hx.at_ hi
    rw [List.getElem?_map, hb] at hd
    cases hd
    exact ⟨Ex.refl _, dp_ex e3 _ _ hv⟩
theorem w_rng {n : Nat} (h : EvDs K ta σ H [.int (n : Int)]) (hn : n ≤ 100000) : WalkD (iRng1 ta) σ H (List.range n) (fun i x _ => x = .int (i : Nat)) := fun H1 e Z z =>
  h H1 e _ fun vs H2 e2 w => by
    cases w with
    | cons w1 w2 =>
      cases w2
      obtain rfl := dp_int w1
      refine ⟨(n : Int), rfl, by omega, by omega, z (Itr 0 (n : Int).toNat) H2 _ _ e2 (by rw [List.length_range]; exact walk_range) (fun _ _ => trivial) fun i H3 x H4 b hb hy e3 => ?_⟩
      obtain ⟨rfl, rfl⟩ := hy
      have := (List.getElem?_eq_some_iff.mp hb)
      obtain ⟨h1, h2⟩ := this
      simp at h2
      subst h2
      exact ⟨Ex.refl _, by simp⟩
theorem w_str {z : Str} (h : EvD K te σ H (.str z)) : WalkD (iStr te) σ H z.cps.toList (fun c x _ => x = .str ⟨#[c]⟩) := fun H1 e Z zz =>
  h H1 e _ fun v H2 e2 w => by
    obtain rfl := dp_str w
    refine ⟨z, rfl, zz (Its z) H2 _ _ e2 (by rw [Array.length_toList]; exact walk_str) (fun _ _ => trivial) fun i H3 x H4 b hb hy e3 => ?_⟩
    obtain ⟨rfl, c, hc, rfl⟩ := hy
    rw [Array.getElem?_toList, hc] at hb
    cases hb
    exact ⟨Ex.refl _, rfl⟩
/-- zip of two tuples of one length -/
theorem w_zip {β : Type} {m : List β} {f2 : β → PyData} {t1 t2 : TE} (h1 : EvD K t1 σ H (.tuple (l.map f))) (h2 : EvD K t2 σ H (.tuple (m.map f2))) :
    WalkD (iZipA K (tCons t1 (tCons t2 tNil))) σ H (l.zip m) (fun p x H => ∃ T x1 x2, x = .ref T ∧ H T = some (.tup [x1, x2]) ∧ Dp K H x1 (f p.1) ∧ Dp K H x2 (f2 p.2)) := fun H1 e Z z =>
  h1 H1 e _ fun v H2 e2 w => h2 H2 (e.trans e2) _ fun v' H3 e3 w' => by
    obtain ⟨a, xs, rfl, hs, hx⟩ := dp_tup w
    obtain ⟨b, ys, rfl, hs', hy⟩ := dp_tup w'
    have hx := dpAll_ex e3 _ _ hx
    have hs := ex_t e3 hs
    have l1 : xs.length = l.length := by rw [hx.len, List.length_map]
    have l2 : ys.length = m.length := by rw [hy.len, List.length_map]
    have wk : Walk (ItzT K a b) (l.zip m).length (fun H => SqT K H a xs ∧ SqT K H b ys) (YPair (fun i => xs[i]?) (fun i => ys[i]?)) := by
      rw [List.length_zip, ← l1, ← l2]
      refine ⟨fun i _ hi q => ?_, fun _ q => ⟨xs, ys, q.1, q.2, by omega⟩, fun i H v H' _ q y => ?_⟩
      · have h1 : i < xs.length := by omega
        have h2 : i < ys.length := by omega
        exact ⟨xs, ys, xs[i], ys[i], q.1, q.2, by simp [h1], by simp [h2]⟩
      · obtain ⟨T, x, z, h1, h2, h3, h4, h5⟩ := y
        exact ⟨T, x, z, h1, h2, h3, h4 xs q.1, h5 ys q.2⟩
    refine ⟨a, b, xs, ys, rfl, .inr ⟨hs, hs', z (ItzT K a b) H3 _ _ (e2.trans e3) wk (fun H4 e4 => ⟨ex_t e4 hs, ex_t e4 hs'⟩) fun i H4 x H5 p hp hyy e4 => ?_⟩⟩
    obtain ⟨T, x1, x2, rfl, hT, rfl, hi1, hi2⟩ := hyy
    obtain ⟨d1, g1, k1⟩ := hx.at_ hi1
    obtain ⟨d2, g2, k2⟩ := hy.at_ hi2
    rw [List.getElem?_zip_eq_some] at hp
    rw [List.getElem?_map, hp.1] at g1
    rw [List.getElem?_map, hp.2] at g2
    cases g1
    cases g2
    have en : Ex H4 (upd H4 T (.tup [x1, x2])) := Ex.new hT
    exact ⟨en, T, x1, x2, rfl, upd_same, dp_ex (e4.trans en) _ _ k1, dp_ex (e4.trans en) _ _ k2⟩
/-- a target that only sets slots -/
def Sets (g : TG) (x : V) (σ : L2.St) (H : Hp) (σ2 : L2.St) : Prop := ∀ Q : L2.St → Hp → Prop, Q σ2 H → g x σ H Q
theorem g_name {i : Nat} {x : V} : Sets (gName i) x σ H (σ.set i (some x)) := fun _ q => q
theorem g_two {i j : Nat} {a : Addr} {x y : V} (h : SqT K H a [x, y]) : Sets (gTup K 2 (gCons (gName i) (gCons (gName j) gNil))) (.ref a) σ H ((σ.set i (some x)).set j (some y)) := fun _ q =>
  ⟨a, [x, y], rfl, h, rfl, x, [y], rfl, y, [], rfl, rfl, q⟩
theorem g_three {i j k : Nat} {a : Addr} {x y z : V} (h : SqT K H a [x, y, z]) : Sets (gTup K 3 (gCons (gName i) (gCons (gName j) (gCons (gName k) gNil)))) (.ref a) σ H (((σ.set i (some x)).set j (some y)).set k (some z)) := fun _ q =>
  ⟨a, [x, y, z], rfl, h, rfl, x, [y, z], rfl, y, [z], rfl, z, [], rfl, rfl, q⟩
/-- a list comprehension over data -/
theorem n_lc {wi : TI} {g : TG} {tt : TT} {vs : List Nat} (hw : WalkD wi σ H l R) (hl : l.length ≤ 50000) (p : α → Bool) (q : α → PyData) (nl : ∀ a, a ∈ l → noL (q a) = true)
    (turn : ∀ a, a ∈ l → ∀ x H1, Ex H H1 → R a x H1 → ∃ σ2, Sets g x (wipe σ vs) H1 σ2 ∧ wipe σ2 vs = wipe σ vs ∧ EvT tt σ2 H1 (p a) ∧ (p a = true → EvD K te σ2 H1 (q a))) :
    EvN K (tLc wi g tt te vs) σ H ((l.filter p).map q) := fun H1 e Q k =>
  hw H1 e _ fun J H2 G Y e2 W hG hY => fun D hD => by
    refine lc_it W (fun i H' => Ex H2 H' ∧ ∃ acc, H' D = some (.lst acc) ∧ DpAll K H' acc (((l.take i).filter p).map q)) ⟨Ex.new hD, [], upd_same, .nil⟩ (fun i H' _ z => hG H' z.1) (fun i x H3 H4 hi z hy => ?_) fun H' z => ?_
    · obtain ⟨e3, acc, ha, hd⟩ := z
      obtain ⟨a, hai⟩ : ∃ a, l[i]? = some a := ⟨_, List.getElem?_eq_getElem hi⟩
      obtain ⟨e4, hr⟩ := hY i H3 x H4 a hai hy e3
      obtain ⟨σ2, s1, s2, s3, s4⟩ := turn a (List.mem_of_getElem? hai) x H4 (((e.trans e2).trans e3).trans e4) hr
      have tk : l.take (i + 1) = l.take i ++ [a] := by
        rw [List.take_succ, hai]
        rfl
      refine s1 _ ⟨s2, s3 H4 (Ex.refl H4) _ fun H5 e5 => ?_⟩
      have la : acc.length ≤ i := by
        rw [hd.len, List.length_map]
        exact Nat.le_trans (List.length_filter_le _ _) (by rw [List.length_take]; omega)
      cases hp : p a with
      | true =>
        show te σ2 H5 _
        refine s4 hp H5 e5 _ fun y H6 e6 w => ⟨acc, e6 D _ (e5 D _ (e4 D _ ha)), sz_lt (by omega), ?_, acc ++ [y], upd_same, ?_⟩
        · refine Ex.mut ((e3.trans e4).trans (e5.trans e6)) hD
        · rw [tk, List.filter_append, List.map_append, List.filter_cons, if_pos hp]
          have hD6 := e6 D _ (e5 D _ (e4 D _ ha))
          refine DpAll.app (dpAll_upd hD6 _ _ (noLs_map fun b hb => nl b (List.mem_of_mem_take (List.mem_filter.mp hb).1)) (dpAll_ex ((e4.trans e5).trans e6) _ _ hd)) (.cons (dp_upd hD6 _ _ (nl a (List.mem_of_getElem? hai)) w) .nil)
      | false =>
        show _ ∧ _
        refine ⟨(e3.trans e4).trans e5, acc, e5 D _ (e4 D _ ha), ?_⟩
        rw [tk, List.filter_append, List.map_append, List.filter_cons, if_neg (by rw [hp]; decide)]
        simp only [List.filter_nil, List.map_nil, List.append_nil]
        exact dpAll_ex (e4.trans e5) _ _ hd
    · obtain ⟨e3, acc, ha, hd⟩ := z
      have hz : (l.take l.length) = l := List.take_length
      rw [hz] at hd
      exact k _ _ (e2.trans e3) ⟨D, acc, rfl, fresh_back e (fresh_back e2 hD), ha, hd⟩
end
end K26
set_option Elab.async false
set_option linter.all false
set_option maxRecDepth 100000
set_option maxHeartbeats 2000000
/-! KD3: more data readings: comparisons, ints, tests; promises by data. -/
namespace K26
open PySem L2 Evl RZ
section
variable {K : PySem.W.Frag} {σ : L2.St} {H H' : Hp} {ta tb tc te : TE} {t u : TT} {x y z v : V} {r r' : R2} {R Ra Rb : V → Hp → Prop} {d e : PyData} {ds es : List PyData}
abbrev rLt : R2 := rI0 fun i j => .bl (decide (i < j))
abbrev rLe : R2 := rI0 fun i j => .bl (decide (i ≤ j))
abbrev rGt : R2 := rI0 fun i j => .bl (decide (j < i))
abbrev rAdd : R2 := rI0 fun i j => .int (i + j)
abbrev rSub : R2 := rI0 fun i j => .int (i - j)
theorem op_I0 {g : Int → Int → V} {i j : Int} (w : R (g i j) H) : OpP (rI0 g) (.int i) (.int j) H R := op_at (fun Q q => ⟨i, j, rfl, rfl, q⟩) w
theorem d_int2 {g : Int → Int → V} {i j : Int} (ha : EvD K ta σ H (.int i)) (hb : EvD K tb σ H (.int j)) (w : ∀ H1, Dp K H1 (g i j) d) : EvD K (tOp (rI0 g) ta tb) σ H d :=
  p_op isD_mono ha hb fun x y H1 e1 a b => by
    obtain rfl := dp_int a
    obtain rfl := dp_int b
    exact op_I0 (w H1)
theorem d_lt {i j : Int} (ha : EvD K ta σ H (.int i)) (hb : EvD K tb σ H (.int j)) : EvD K (tOp rLt ta tb) σ H (.bool (decide (i < j))) := d_int2 ha hb fun _ => .bl _
theorem d_le {i j : Int} (ha : EvD K ta σ H (.int i)) (hb : EvD K tb σ H (.int j)) : EvD K (tOp rLe ta tb) σ H (.bool (decide (i ≤ j))) := d_int2 ha hb fun _ => .bl _
theorem d_gt {i j : Int} (ha : EvD K ta σ H (.int i)) (hb : EvD K tb σ H (.int j)) : EvD K (tOp rGt ta tb) σ H (.bool (decide (j < i))) := d_int2 ha hb fun _ => .bl _
theorem d_add {i j : Int} (ha : EvD K ta σ H (.int i)) (hb : EvD K tb σ H (.int j)) : EvD K (tOp rAdd ta tb) σ H (.int (i + j)) := d_int2 ha hb fun _ => .int _
theorem d_sub {i j : Int} (ha : EvD K ta σ H (.int i)) (hb : EvD K tb σ H (.int j)) : EvD K (tOp rSub ta tb) σ H (.int (i - j)) := d_int2 ha hb fun _ => .int _
/-- i <= j <= k -/
theorem d_chain {g g' : Int → Int → V} {i j k : Int} {a b : Bool} (ha : EvD K ta σ H (.int i)) (hb : EvD K tb σ H (.int j)) (hc : EvD K tc σ H (.int k)) (e1 : g i j = .bl a) (e2 : g' j k = .bl b) :
    EvD K (tChain (rI0 g) (rI0 g') ta tb tc) σ H (.bool (a && b)) := fun H1 e Q q => ha H1 e _ fun x H2 e2' w => hb H2 (e.trans e2') _ fun y H3 e3 w' => by
  obtain rfl := dp_int w
  obtain rfl := dp_int w'
  refine ⟨i, j, rfl, rfl, a, e1, ?_⟩
  cases a with
  | true =>
    refine hc H3 ((e.trans e2').trans e3) _ fun z H4 e4 w3 => ?_
    obtain rfl := dp_int w3
    refine ⟨j, k, rfl, rfl, ?_⟩
    rw [e2]
    exact q _ H4 ((e2'.trans e3).trans e4) (.bl _)
  | false => exact q _ H3 (e2'.trans e3) (.bl _)
/-- == of scalars -/
theorem d_eqS {a b : V} {k : Bool} (ha : EvP ta σ H (fun v _ => v = a)) (hb : EvP tb σ H (fun v _ => v = b)) (hs : scal a b = true) (hk : decide (a = b) = k) : EvD K (tOp rEq ta tb) σ H (.bool k) :=
  p_op (Ra := fun v _ => v = a) (fun _ _ _ _ h => h) ha hb fun x y H1 e1 h1 h2 => by
    subst h1 h2
    exact op_at (z := .bl (decide (x = y))) (fun Q q => ⟨hs, q⟩) (by rw [hk]; exact .bl k)
theorem d_neS {a b : V} {k : Bool} (ha : EvP ta σ H (fun v _ => v = a)) (hb : EvP tb σ H (fun v _ => v = b)) (hs : scal a b = true) (hk : (!decide (a = b)) = k) : EvD K (tOp rNe ta tb) σ H (.bool k) :=
  p_op (Ra := fun v _ => v = a) (fun _ _ _ _ h => h) ha hb fun x y H1 e1 h1 h2 => by
    subst h1 h2
    exact op_at (z := .bl (!decide (x = y))) (fun Q q => ⟨hs, q⟩) (by rw [hk]; exact .bl k)
theorem EvP.int {i : Int} (h : EvD K te σ H (.int i)) : EvP te σ H (fun v _ => v = .int i) := h.imp fun _ _ _ => dp_int
theorem EvP.str {i : Str} (h : EvD K te σ H (.str i)) : EvP te σ H (fun v _ => v = .str i) := h.imp fun _ _ _ => dp_str
theorem d_eqI {i j : Int} (ha : EvD K ta σ H (.int i)) (hb : EvD K tb σ H (.int j)) : EvD K (tOp rEq ta tb) σ H (.bool (decide (i = j))) := d_eqS ha.int hb.int rfl (by simp)
theorem d_neI {i j : Int} (ha : EvD K ta σ H (.int i)) (hb : EvD K tb σ H (.int j)) : EvD K (tOp rNe ta tb) σ H (.bool (!decide (i = j))) := d_neS ha.int hb.int rfl (by simp)
theorem d_eqT {i j : Str} (ha : EvD K ta σ H (.str i)) (hb : EvD K tb σ H (.str j)) : EvD K (tOp rEq ta tb) σ H (.bool (decide (i = j))) := d_eqS ha.str hb.str rfl (by simp)
theorem d_neT {i j : Str} (ha : EvD K ta σ H (.str i)) (hb : EvD K tb σ H (.str j)) : EvD K (tOp rNe ta tb) σ H (.bool (!decide (i = j))) := d_neS ha.str hb.str rfl (by simp)
/-- texts: <, one sign in -/
abbrev rLtS : R2 := fun x y H Q => ∃ i j, x = .str i ∧ y = .str j ∧ Q (.bl (decide (i.cps.toList < j.cps.toList))) H
abbrev rSg : R2 := fun x y H Q => ∃ (c : Nat) (z : Str), x = .str ⟨#[c]⟩ ∧ y = .str z ∧ Q (.bl (decide (c ∈ z.cps.toList))) H
theorem d_ltS {i j : Str} (ha : EvD K ta σ H (.str i)) (hb : EvD K tb σ H (.str j)) : EvD K (tOp rLtS ta tb) σ H (.bool (decide (i.cps.toList < j.cps.toList))) :=
  p_op isD_mono ha hb fun x y H1 e1 a b => by
    obtain rfl := dp_str a
    obtain rfl := dp_str b
    exact op_at (z := .bl _) (fun Q q => ⟨i, j, rfl, rfl, q⟩) (.bl _)
theorem d_sg {c : Nat} {z : Str} (ha : EvD K ta σ H (.str ⟨#[c]⟩)) (hb : EvD K tb σ H (.str z)) : EvD K (tOp rSg ta tb) σ H (.bool (decide (c ∈ z.cps.toList))) :=
  p_op isD_mono ha hb fun x y H1 e1 a b => by
    obtain rfl := dp_str a
    obtain rfl := dp_str b
    exact op_at (z := .bl _) (fun Q q => ⟨c, z, rfl, rfl, q⟩) (.bl _)
/-- s[i] -/
theorem d_ixS {w : Str} {i : Int} {c : Nat} (ha : EvD K ta σ H (.str w)) (hb : EvD K tb σ H (.int i)) (hl : w.length ≤ 100000) (h : atI w.cps.toList i = some c) : EvD K (tOp rIxS ta tb) σ H (.str ⟨#[c]⟩) :=
  p_op isD_mono ha hb fun x y H1 e1 a b => by
    obtain rfl := dp_str a
    obtain rfl := dp_int b
    exact op_at (z := .str ⟨#[c]⟩) (fun Q q => ⟨w, i, c, rfl, rfl, sz_of hl, h, q⟩) (.str _)
/-- s + t -/
theorem d_catS {a b : Str} {r : R2} (hr : ∀ H Q, Q (.str (a ++ b)) H → r (.str a) (.str b) H Q) (ha : EvD K ta σ H (.str a)) (hb : EvD K tb σ H (.str b)) : EvD K (tOp r ta tb) σ H (.str (a ++ b)) :=
  p_op isD_mono ha hb fun x y H1 e1 w1 w2 => by
    obtain rfl := dp_str w1
    obtain rfl := dp_str w2
    exact op_at (z := .str (a ++ b)) (fun Q q => hr _ Q q) (.str _)
theorem d_is {d d' : PyData} (h : EvD K te σ H d) (e : d = d') : EvD K te σ H d' := e ▸ h
theorem n_is {l l' : List PyData} (h : EvN K te σ H l) (e : l = l') : EvN K te σ H l' := e ▸ h
theorem et_yes : EvT tYes σ H true := fun H1 _ _ q => q H1 (Ex.refl H1)
end
/-! ### promises by data -/
theorem spD_len {K : PySem.W.Frag} {f : List PyData → PyData → Prop} {vs : List V} {H : Hp} {Q : VK} {E : XK} {n : Nat} (hf : ∀ ds d, f ds d → ds.length = n) (h : SpD K f vs H Q E) : vs.length = n := by
  obtain ⟨ds, d, h1, h2, _⟩ := h
  rw [h1.len]
  exact hf ds d h2
theorem spN_len {K : PySem.W.Frag} {f : List PyData → List PyData → Prop} {vs : List V} {H : Hp} {Q : VK} {E : XK} {n : Nat} (hf : ∀ ds d, f ds d → ds.length = n) (h : SpN K f vs H Q E) : vs.length = n := by
  obtain ⟨ds, d, h1, h2, _⟩ := h
  rw [h1.len]
  exact hf ds d h2
theorem dp1 {K : PySem.W.Frag} {H : Hp} {vs : List V} {a : PyData} (h : DpAll K H vs [a]) : ∃ u, vs = [u] ∧ Dp K H u a := by
  cases h with
  | cons h1 t => cases t; exact ⟨_, rfl, h1⟩
theorem dp2 {K : PySem.W.Frag} {H : Hp} {vs : List V} {a b : PyData} (h : DpAll K H vs [a, b]) : ∃ u v, vs = [u, v] ∧ Dp K H u a ∧ Dp K H v b := by
  cases h with
  | cons h1 t =>
    obtain ⟨v, rfl, h2⟩ := dp1 t
    exact ⟨_, v, rfl, h1, h2⟩
theorem dp3 {K : PySem.W.Frag} {H : Hp} {vs : List V} {a b c : PyData} (h : DpAll K H vs [a, b, c]) : ∃ u v w, vs = [u, v, w] ∧ Dp K H u a ∧ Dp K H v b ∧ Dp K H w c := by
  cases h with
  | cons h1 t =>
    obtain ⟨v, w, rfl, h2, h3⟩ := dp2 t
    exact ⟨_, v, w, rfl, h1, h2, h3⟩
end K26
set_option Elab.async false
set_option linter.all false
set_option maxRecDepth 100000
set_option maxHeartbeats 2000000
/-! KT: the program's defs as statements of its top, their names, what stands where. -/
namespace K26
open PySem PySem.Spec PyProof.Rows L2
def top (i : Nat) : Stmt := PySem.Challenge.pw_stylefall_k26_whole_shortest_rows.main.body.getD i (.Pass ⟨0, 0, 0, 0⟩)
def clsBody : Stmt → List Stmt
  | .ClassDef _ _ _ b _ _ _ _ _ _ _ => b
  | _ => []
def inCls (i j : Nat) : Stmt := (clsBody (top i)).getD j (.Pass ⟨0, 0, 0, 0⟩)
abbrev FnP (K : PySem.W.Frag) (x q : Str) (st : Stmt) (ds : List V) (f : Addr) (fd : FuncData) : Prop := FunD K x q (defArgs st) (defBody st) (defScope st) ds [] f fd
abbrev s_BadBook_init : Stmt := inCls 2 0
theorem sc_BadBook_init : FnScope ["self", "place"] ["self", "place"] (defScope s_BadBook_init) := ⟨rfl, rfl, rfl, by decide +kernel, rfl, by decide +kernel, by decide +kernel⟩
theorem bd_BadBook_init {K : PySem.W.Frag} {x q : Str} {f : Addr} {fd : FuncData} (F : FnP K x q s_BadBook_init [] f fd) : Binds K fd ["self", "place"] [] := F.bindsN fun _ _ _ _ _ _ us hl => match us, hl with | [_, _], _ => rfl
abbrev s_BadRow_init : Stmt := inCls 3 0
theorem sc_BadRow_init : FnScope ["self", "given"] ["self", "given"] (defScope s_BadRow_init) := ⟨rfl, rfl, rfl, by decide +kernel, rfl, by decide +kernel, by decide +kernel⟩
theorem bd_BadRow_init {K : PySem.W.Frag} {x q : Str} {f : Addr} {fd : FuncData} (F : FnP K x q s_BadRow_init [] f fd) : Binds K fd ["self", "given"] [] := F.bindsN fun _ _ _ _ _ _ us hl => match us, hl with | [_, _], _ => rfl
abbrev s_BadWishes_init : Stmt := inCls 4 0
theorem sc_BadWishes_init : FnScope ["self", "given"] ["self", "given"] (defScope s_BadWishes_init) := ⟨rfl, rfl, rfl, by decide +kernel, rfl, by decide +kernel, by decide +kernel⟩
theorem bd_BadWishes_init {K : PySem.W.Frag} {x q : Str} {f : Addr} {fd : FuncData} (F : FnP K x q s_BadWishes_init [] f fd) : Binds K fd ["self", "given"] [] := F.bindsN fun _ _ _ _ _ _ us hl => match us, hl with | [_, _], _ => rfl
abbrev s_TooMany_init : Stmt := inCls 5 0
theorem sc_TooMany_init : FnScope ["self", "most"] ["self", "most"] (defScope s_TooMany_init) := ⟨rfl, rfl, rfl, by decide +kernel, rfl, by decide +kernel, by decide +kernel⟩
theorem bd_TooMany_init {K : PySem.W.Frag} {x q : Str} {f : Addr} {fd : FuncData} (F : FnP K x q s_TooMany_init [] f fd) : Binds K fd ["self", "most"] [] := F.bindsN fun _ _ _ _ _ _ us hl => match us, hl with | [_, _], _ => rfl
abbrev s_is_of : Stmt := top 15
theorem sc_is_of : FnScope ["thing", "signs", "sign"] ["thing", "signs"] (defScope s_is_of) := ⟨rfl, rfl, rfl, by decide +kernel, rfl, by decide +kernel, by decide +kernel⟩
theorem bd_is_of {K : PySem.W.Frag} {x q : Str} {f : Addr} {fd : FuncData} (F : FnP K x q s_is_of [] f fd) : Binds K fd ["thing", "signs"] [] := F.bindsN fun _ _ _ _ _ _ us hl => match us, hl with | [_, _], _ => rfl
abbrev s_is_mark : Stmt := top 16
theorem sc_is_mark : FnScope ["thing"] ["thing"] (defScope s_is_mark) := ⟨rfl, rfl, rfl, by decide +kernel, rfl, by decide +kernel, by decide +kernel⟩
theorem bd_is_mark {K : PySem.W.Frag} {x q : Str} {f : Addr} {fd : FuncData} (F : FnP K x q s_is_mark [] f fd) : Binds K fd ["thing"] [] := F.bindsN fun _ _ _ _ _ _ us hl => match us, hl with | [_], _ => rfl
abbrev s_is_word : Stmt := top 17
theorem sc_is_word : FnScope ["thing"] ["thing"] (defScope s_is_word) := ⟨rfl, rfl, rfl, by decide +kernel, rfl, by decide +kernel, by decide +kernel⟩
theorem bd_is_word {K : PySem.W.Frag} {x q : Str} {f : Addr} {fd : FuncData} (F : FnP K x q s_is_word [] f fd) : Binds K fd ["thing"] [] := F.bindsN fun _ _ _ _ _ _ us hl => match us, hl with | [_], _ => rfl
abbrev s_are_rising : Stmt := top 18
theorem sc_are_rising : FnScope ["things", "at"] ["things"] (defScope s_are_rising) := ⟨rfl, rfl, rfl, by decide +kernel, rfl, by decide +kernel, by decide +kernel⟩
theorem bd_are_rising {K : PySem.W.Frag} {x q : Str} {f : Addr} {fd : FuncData} (F : FnP K x q s_are_rising [] f fd) : Binds K fd ["things"] [] := F.bindsN fun _ _ _ _ _ _ us hl => match us, hl with | [_], _ => rfl
abbrev s_are_marks : Stmt := top 19
theorem sc_are_marks : FnScope ["thing", "one"] ["thing"] (defScope s_are_marks) := ⟨rfl, rfl, rfl, by decide +kernel, rfl, by decide +kernel, by decide +kernel⟩
theorem bd_are_marks {K : PySem.W.Frag} {x q : Str} {f : Addr} {fd : FuncData} (F : FnP K x q s_are_marks [] f fd) : Binds K fd ["thing"] [] := F.bindsN fun _ _ _ _ _ _ us hl => match us, hl with | [_], _ => rfl
abbrev s_are_gives : Stmt := top 20
theorem sc_are_gives : FnScope ["thing", "pair"] ["thing"] (defScope s_are_gives) := ⟨rfl, rfl, rfl, by decide +kernel, rfl, by decide +kernel, by decide +kernel⟩
theorem bd_are_gives {K : PySem.W.Frag} {x q : Str} {f : Addr} {fd : FuncData} (F : FnP K x q s_are_gives [] f fd) : Binds K fd ["thing"] [] := F.bindsN fun _ _ _ _ _ _ us hl => match us, hl with | [_], _ => rfl
abbrev s_is_code : Stmt := top 21
theorem sc_is_code : FnScope ["thing"] ["thing"] (defScope s_is_code) := ⟨rfl, rfl, rfl, by decide +kernel, rfl, by decide +kernel, by decide +kernel⟩
theorem bd_is_code {K : PySem.W.Frag} {x q : Str} {f : Addr} {fd : FuncData} (F : FnP K x q s_is_code [] f fd) : Binds K fd ["thing"] [] := F.bindsN fun _ _ _ _ _ _ us hl => match us, hl with | [_], _ => rfl
abbrev s_need_codes : Stmt := top 22
theorem sc_need_codes : FnScope ["aspects", "codes", "words", "kinds", "number", "code", "pair"] ["aspects", "codes"] (defScope s_need_codes) := ⟨rfl, rfl, rfl, by decide +kernel, rfl, by decide +kernel, by decide +kernel⟩
theorem bd_need_codes {K : PySem.W.Frag} {x q : Str} {f : Addr} {fd : FuncData} (F : FnP K x q s_need_codes [] f fd) : Binds K fd ["aspects", "codes"] [] := F.bindsN fun _ _ _ _ _ _ us hl => match us, hl with | [_, _], _ => rfl
abbrev s_need_book : Stmt := top 23
theorem sc_need_book : FnScope ["thing", "aspects", "shown", "codes", "aspect"] ["thing"] (defScope s_need_book) := ⟨rfl, rfl, rfl, by decide +kernel, rfl, by decide +kernel, by decide +kernel⟩
theorem bd_need_book {K : PySem.W.Frag} {x q : Str} {f : Addr} {fd : FuncData} (F : FnP K x q s_need_book [] f fd) : Binds K fd ["thing"] [] := F.bindsN fun _ _ _ _ _ _ us hl => match us, hl with | [_], _ => rfl
abbrev s_codes_in : Stmt := top 24
theorem sc_codes_in : FnScope ["book", "code"] ["book"] (defScope s_codes_in) := ⟨rfl, rfl, rfl, by decide +kernel, rfl, by decide +kernel, by decide +kernel⟩
theorem bd_codes_in {K : PySem.W.Frag} {x q : Str} {f : Addr} {fd : FuncData} (F : FnP K x q s_codes_in [] f fd) : Binds K fd ["book"] [] := F.bindsN fun _ _ _ _ _ _ us hl => match us, hl with | [_], _ => rfl
abbrev s_is_chain : Stmt := top 27
theorem sc_is_chain : FnScope ["thing", "pair"] ["thing"] (defScope s_is_chain) := ⟨rfl, rfl, rfl, by decide +kernel, rfl, by decide +kernel, by decide +kernel⟩
theorem bd_is_chain {K : PySem.W.Frag} {x q : Str} {f : Addr} {fd : FuncData} (F : FnP K x q s_is_chain [] f fd) : Binds K fd ["thing"] [] := F.bindsN fun _ _ _ _ _ _ us hl => match us, hl with | [_], _ => rfl
abbrev s_are_words : Stmt := top 32
theorem sc_are_words : FnScope ["book", "thing", "most", "word"] ["book", "thing", "most"] (defScope s_are_words) := ⟨rfl, rfl, rfl, by decide +kernel, rfl, by decide +kernel, by decide +kernel⟩
theorem bd_are_words {K : PySem.W.Frag} {x q : Str} {f : Addr} {fd : FuncData} (F : FnP K x q s_are_words [] f fd) : Binds K fd ["book", "thing", "most"] [] := F.bindsN fun _ _ _ _ _ _ us hl => match us, hl with | [_, _, _], _ => rfl
abbrev s_are_aspects : Stmt := top 33
theorem sc_are_aspects : FnScope ["book", "thing", "one", "other"] ["book", "thing"] (defScope s_are_aspects) := ⟨rfl, rfl, rfl, by decide +kernel, rfl, by decide +kernel, by decide +kernel⟩
theorem bd_are_aspects {K : PySem.W.Frag} {x q : Str} {f : Addr} {fd : FuncData} (F : FnP K x q s_are_aspects [] f fd) : Binds K fd ["book", "thing"] [] := F.bindsN fun _ _ _ _ _ _ us hl => match us, hl with | [_, _], _ => rfl
abbrev s_need_row : Stmt := top 34
theorem sc_need_row : FnScope ["book", "thing"] ["book", "thing"] (defScope s_need_row) := ⟨rfl, rfl, rfl, by decide +kernel, rfl, by decide +kernel, by decide +kernel⟩
theorem bd_need_row {K : PySem.W.Frag} {x q : Str} {f : Addr} {fd : FuncData} (F : FnP K x q s_need_row [] f fd) : Binds K fd ["book", "thing"] [] := F.bindsN fun _ _ _ _ _ _ us hl => match us, hl with | [_, _], _ => rfl
abbrev s_size_in : Stmt := top 35
theorem sc_size_in : FnScope ["row", "word"] ["row"] (defScope s_size_in) := ⟨rfl, rfl, rfl, by decide +kernel, rfl, by decide +kernel, by decide +kernel⟩
theorem bd_size_in {K : PySem.W.Frag} {x q : Str} {f : Addr} {fd : FuncData} (F : FnP K x q s_size_in [] f fd) : Binds K fd ["row"] [] := F.bindsN fun _ _ _ _ _ _ us hl => match us, hl with | [_], _ => rfl
abbrev s_size_of : Stmt := top 36
theorem sc_size_of : FnScope ["book", "row"] ["book", "row"] (defScope s_size_of) := ⟨rfl, rfl, rfl, by decide +kernel, rfl, by decide +kernel, by decide +kernel⟩
theorem bd_size_of {K : PySem.W.Frag} {x q : Str} {f : Addr} {fd : FuncData} (F : FnP K x q s_size_of [] f fd) : Binds K fd ["book", "row"] [] := F.bindsN fun _ _ _ _ _ _ us hl => match us, hl with | [_, _], _ => rfl
abbrev s_are_wishes : Stmt := top 37
theorem sc_are_wishes : FnScope ["book", "thing", "pair"] ["book", "thing"] (defScope s_are_wishes) := ⟨rfl, rfl, rfl, by decide +kernel, rfl, by decide +kernel, by decide +kernel⟩
theorem bd_are_wishes {K : PySem.W.Frag} {x q : Str} {f : Addr} {fd : FuncData} (F : FnP K x q s_are_wishes [] f fd) : Binds K fd ["book", "thing"] [] := F.bindsN fun _ _ _ _ _ _ us hl => match us, hl with | [_, _], _ => rfl
abbrev s_need_wishes : Stmt := top 38
theorem sc_need_wishes : FnScope ["book", "thing", "free", "aspect", "chain"] ["book", "thing", "free"] (defScope s_need_wishes) := ⟨rfl, rfl, rfl, by decide +kernel, rfl, by decide +kernel, by decide +kernel⟩
theorem bd_need_wishes {K : PySem.W.Frag} {x q : Str} {d : V} {f : Addr} {fd : FuncData} (F : FnP K x q s_need_wishes [d] f fd) : ∃ ds, Vals [] ds ∧ Binds K fd ["book", "thing", "free"] ds := F.binds1 3 1 (by simp) rfl fun T kV doc pm an cdv ct us its hu hi => match us, hu with | [a, b, c], _ => match its, hi with | [e], _ => ⟨_, rfl, rfl⟩
abbrev s_pairs_of : Stmt := top 39
theorem sc_pairs_of : FnScope ["code", "aspect", "value"] ["code"] (defScope s_pairs_of) := ⟨rfl, rfl, rfl, by decide +kernel, rfl, by decide +kernel, by decide +kernel⟩
theorem bd_pairs_of {K : PySem.W.Frag} {x q : Str} {f : Addr} {fd : FuncData} (F : FnP K x q s_pairs_of [] f fd) : Binds K fd ["code"] [] := F.bindsN fun _ _ _ _ _ _ us hl => match us, hl with | [_], _ => rfl
abbrev s_Wanted_init : Stmt := inCls 40 0
theorem sc_Wanted_init : FnScope ["self", "wishes", "free"] ["self", "wishes", "free"] (defScope s_Wanted_init) := ⟨rfl, rfl, rfl, by decide +kernel, rfl, by decide +kernel, by decide +kernel⟩
theorem bd_Wanted_init {K : PySem.W.Frag} {x q : Str} {f : Addr} {fd : FuncData} (F : FnP K x q s_Wanted_init [] f fd) : Binds K fd ["self", "wishes", "free"] [] := F.bindsN fun _ _ _ _ _ _ us hl => match us, hl with | [_, _, _], _ => rfl
abbrev s_Wanted_is_due : Stmt := inCls 40 1
theorem sc_Wanted_is_due : FnScope ["self", "aspect", "kind", "value", "settled", "chain", "ahead", "own", "other"] ["self", "aspect", "kind", "value", "settled"] (defScope s_Wanted_is_due) := ⟨rfl, rfl, rfl, by decide +kernel, rfl, by decide +kernel, by decide +kernel⟩
theorem bd_Wanted_is_due {K : PySem.W.Frag} {x q : Str} {f : Addr} {fd : FuncData} (F : FnP K x q s_Wanted_is_due [] f fd) : Binds K fd ["self", "aspect", "kind", "value", "settled"] [] := F.bindsN fun _ _ _ _ _ _ us hl => match us, hl with | [_, _, _, _, _], _ => rfl
abbrev s_Wanted_may_stand : Stmt := inCls 40 2
theorem sc_Wanted_may_stand : FnScope ["self", "code", "settled", "word", "kind", "gives", "aspect", "value"] ["self", "code", "settled"] (defScope s_Wanted_may_stand) := ⟨rfl, rfl, rfl, by decide +kernel, rfl, by decide +kernel, by decide +kernel⟩
theorem bd_Wanted_may_stand {K : PySem.W.Frag} {x q : Str} {f : Addr} {fd : FuncData} (F : FnP K x q s_Wanted_may_stand [] f fd) : Binds K fd ["self", "code", "settled"] [] := F.bindsN fun _ _ _ _ _ _ us hl => match us, hl with | [_, _, _], _ => rfl
abbrev s_Wanted_goal : Stmt := inCls 40 3
theorem sc_Wanted_goal : FnScope ["self", "aspect", "kind", "value"] ["self"] (defScope s_Wanted_goal) := ⟨rfl, rfl, rfl, by decide +kernel, rfl, by decide +kernel, by decide +kernel⟩
theorem bd_Wanted_goal {K : PySem.W.Frag} {x q : Str} {f : Addr} {fd : FuncData} (F : FnP K x q s_Wanted_goal [] f fd) : Binds K fd ["self"] [] := F.bindsN fun _ _ _ _ _ _ us hl => match us, hl with | [_], _ => rfl
abbrev s_is_done : Stmt := top 41
theorem sc_is_done : FnScope ["wanted", "settled", "pair"] ["wanted", "settled"] (defScope s_is_done) := ⟨rfl, rfl, rfl, by decide +kernel, rfl, by decide +kernel, by decide +kernel⟩
theorem bd_is_done {K : PySem.W.Frag} {x q : Str} {f : Addr} {fd : FuncData} (F : FnP K x q s_is_done [] f fd) : Binds K fd ["wanted", "settled"] [] := F.bindsN fun _ _ _ _ _ _ us hl => match us, hl with | [_, _], _ => rfl
abbrev s_cheapest_row : Stmt := top 42
theorem sc_cheapest_row : FnScope ["book", "wanted", "known", "waiting", "settled", "code", "behind", "row", "pairs"] ["book", "wanted"] (defScope s_cheapest_row) := ⟨rfl, rfl, rfl, by decide +kernel, rfl, by decide +kernel, by decide +kernel⟩
theorem bd_cheapest_row {K : PySem.W.Frag} {x q : Str} {f : Addr} {fd : FuncData} (F : FnP K x q s_cheapest_row [] f fd) : Binds K fd ["book", "wanted"] [] := F.bindsN fun _ _ _ _ _ _ us hl => match us, hl with | [_, _], _ => rfl
abbrev s_shortest_row : Stmt := top 43
theorem sc_shortest_row : FnScope ["book", "wishes", "free"] ["book", "wishes", "free"] (defScope s_shortest_row) := ⟨rfl, rfl, rfl, by decide +kernel, rfl, by decide +kernel, by decide +kernel⟩
theorem bd_shortest_row {K : PySem.W.Frag} {x q : Str} {d : V} {f : Addr} {fd : FuncData} (F : FnP K x q s_shortest_row [d] f fd) : ∃ ds, Vals [] ds ∧ Binds K fd ["book", "wishes", "free"] ds := F.binds1 3 1 (by simp) rfl fun T kV doc pm an cdv ct us its hu hi => match us, hu with | [a, b, c], _ => match its, hi with | [e], _ => ⟨_, rfl, rfl⟩
abbrev s__law_mixed : Stmt := top 45
theorem sc__law_mixed : FnScope ["cell", "k"] ["cell", "k"] (defScope s__law_mixed) := ⟨rfl, rfl, rfl, by decide +kernel, rfl, by decide +kernel, by decide +kernel⟩
theorem bd__law_mixed {K : PySem.W.Frag} {x q : Str} {f : Addr} {fd : FuncData} (F : FnP K x q s__law_mixed [] f fd) : Binds K fd ["cell", "k"] [] := F.bindsN fun _ _ _ _ _ _ us hl => match us, hl with | [_, _], _ => rfl
abbrev s__law_begin : Stmt := top 46
theorem sc__law_begin : FnScope ["script", "cells", "cell"] ["script"] (defScope s__law_begin) := ⟨rfl, rfl, rfl, by decide +kernel, rfl, by decide +kernel, by decide +kernel⟩
theorem bd__law_begin {K : PySem.W.Frag} {x q : Str} {f : Addr} {fd : FuncData} (F : FnP K x q s__law_begin [] f fd) : Binds K fd ["script"] [] := F.bindsN fun _ _ _ _ _ _ us hl => match us, hl with | [_], _ => rfl
abbrev s__law_draw : Stmt := top 47
theorem sc__law_draw : FnScope ["state", "many", "at", "place", "left", "number"] ["state", "many"] (defScope s__law_draw) := ⟨rfl, rfl, rfl, by decide +kernel, rfl, by decide +kernel, by decide +kernel⟩
theorem bd__law_draw {K : PySem.W.Frag} {x q : Str} {f : Addr} {fd : FuncData} (F : FnP K x q s__law_draw [] f fd) : Binds K fd ["state", "many"] [] := F.bindsN fun _ _ _ _ _ _ us hl => match us, hl with | [_, _], _ => rfl
abbrev s__law_of : Stmt := top 48
theorem sc__law_of : FnScope ["state", "some"] ["state", "some"] (defScope s__law_of) := ⟨rfl, rfl, rfl, by decide +kernel, rfl, by decide +kernel, by decide +kernel⟩
theorem bd__law_of {K : PySem.W.Frag} {x q : Str} {f : Addr} {fd : FuncData} (F : FnP K x q s__law_of [] f fd) : Binds K fd ["state", "some"] [] := F.bindsN fun _ _ _ _ _ _ us hl => match us, hl with | [_, _], _ => rfl
abbrev s__law_codes : Stmt := top 49
theorem sc__law_codes : FnScope ["book", "word", "kind", "gives"] ["book"] (defScope s__law_codes) := ⟨rfl, rfl, rfl, by decide +kernel, rfl, by decide +kernel, by decide +kernel⟩
theorem bd__law_codes {K : PySem.W.Frag} {x q : Str} {f : Addr} {fd : FuncData} (F : FnP K x q s__law_codes [] f fd) : Binds K fd ["book"] [] := F.bindsN fun _ _ _ _ _ _ us hl => match us, hl with | [_], _ => rfl
abbrev s__law_sets : Stmt := top 50
theorem sc__law_sets : FnScope ["words", "found", "word", "row"] ["words"] (defScope s__law_sets) := ⟨rfl, rfl, rfl, by decide +kernel, rfl, by decide +kernel, by decide +kernel⟩
theorem bd__law_sets {K : PySem.W.Frag} {x q : Str} {f : Addr} {fd : FuncData} (F : FnP K x q s__law_sets [] f fd) : Binds K fd ["words"] [] := F.bindsN fun _ _ _ _ _ _ us hl => match us, hl with | [_], _ => rfl
abbrev s__law_book : Stmt := top 52
theorem sc__law_book : FnScope ["state", "most", "aspects", "blank", "codes", "k", "gives", "word", "aspect"] ["state", "most"] (defScope s__law_book) := ⟨rfl, rfl, rfl, by decide +kernel, rfl, by decide +kernel, by decide +kernel⟩
theorem bd__law_book {K : PySem.W.Frag} {x q : Str} {f : Addr} {fd : FuncData} (F : FnP K x q s__law_book [] f fd) : Binds K fd ["state", "most"] [] := F.bindsN fun _ _ _ _ _ _ us hl => match us, hl with | [_, _], _ => rfl
abbrev s__law_value : Stmt := top 53
theorem sc__law_value : FnScope ["state"] ["state"] (defScope s__law_value) := ⟨rfl, rfl, rfl, by decide +kernel, rfl, by decide +kernel, by decide +kernel⟩
theorem bd__law_value {K : PySem.W.Frag} {x q : Str} {f : Addr} {fd : FuncData} (F : FnP K x q s__law_value [] f fd) : Binds K fd ["state"] [] := F.bindsN fun _ _ _ _ _ _ us hl => match us, hl with | [_], _ => rfl
abbrev s__law_front : Stmt := top 54
theorem sc__law_front : FnScope ["book", "words", "codes", "found", "word", "kind", "gives", "aspect", "value", "pair"] ["book", "words"] (defScope s__law_front) := ⟨rfl, rfl, rfl, by decide +kernel, rfl, by decide +kernel, by decide +kernel⟩
theorem bd__law_front {K : PySem.W.Frag} {x q : Str} {f : Addr} {fd : FuncData} (F : FnP K x q s__law_front [] f fd) : Binds K fd ["book", "words"] [] := F.bindsN fun _ _ _ _ _ _ us hl => match us, hl with | [_, _], _ => rfl
abbrev s__law_worth : Stmt := top 55
theorem sc__law_worth : FnScope ["chain", "terminal", "some", "kind", "value"] ["chain", "terminal"] (defScope s__law_worth) := ⟨rfl, rfl, rfl, by decide +kernel, rfl, by decide +kernel, by decide +kernel⟩
theorem bd__law_worth {K : PySem.W.Frag} {x q : Str} {f : Addr} {fd : FuncData} (F : FnP K x q s__law_worth [] f fd) : Binds K fd ["chain", "terminal"] [] := F.bindsN fun _ _ _ _ _ _ us hl => match us, hl with | [_, _], _ => rfl
abbrev s__law_meets : Stmt := top 56
theorem sc__law_meets : FnScope ["book", "wishes", "words", "left", "wanted", "found", "aspect", "one", "other", "some", "terminal", "kind", "value"] ["book", "wishes", "words", "left"] (defScope s__law_meets) := ⟨rfl, rfl, rfl, by decide +kernel, rfl, by decide +kernel, by decide +kernel⟩
theorem bd__law_meets {K : PySem.W.Frag} {x q : Str} {f : Addr} {fd : FuncData} (F : FnP K x q s__law_meets [] f fd) : Binds K fd ["book", "wishes", "words", "left"] [] := F.bindsN fun _ _ _ _ _ _ us hl => match us, hl with | [_, _, _, _], _ => rfl
abbrev s__law_all_rows : Stmt := top 57
theorem sc__law_all_rows : FnScope ["book", "words", "found", "last", "word", "longer", "row", "code", "one"] ["book"] (defScope s__law_all_rows) := ⟨rfl, rfl, rfl, by decide +kernel, rfl, by decide +kernel, by decide +kernel⟩
theorem bd__law_all_rows {K : PySem.W.Frag} {x q : Str} {f : Addr} {fd : FuncData} (F : FnP K x q s__law_all_rows [] f fd) : Binds K fd ["book"] [] := F.bindsN fun _ _ _ _ _ _ us hl => match us, hl with | [_], _ => rfl
abbrev s__law_wishes : Stmt := top 58
theorem sc__law_wishes : FnScope ["state", "book", "words", "found", "wanted", "aspect", "chain", "way", "left", "code", "k"] ["state", "book"] (defScope s__law_wishes) := ⟨rfl, rfl, rfl, by decide +kernel, rfl, by decide +kernel, by decide +kernel⟩
theorem bd__law_wishes {K : PySem.W.Frag} {x q : Str} {f : Addr} {fd : FuncData} (F : FnP K x q s__law_wishes [] f fd) : Binds K fd ["state", "book"] [] := F.bindsN fun _ _ _ _ _ _ us hl => match us, hl with | [_, _], _ => rfl
abbrev s__law_right : Stmt := top 59
theorem sc__law_right : FnScope ["book", "wishes", "left", "answer", "some", "row", "word"] ["book", "wishes", "left"] (defScope s__law_right) := ⟨rfl, rfl, rfl, by decide +kernel, rfl, by decide +kernel, by decide +kernel⟩
theorem bd__law_right {K : PySem.W.Frag} {x q : Str} {f : Addr} {fd : FuncData} (F : FnP K x q s__law_right [] f fd) : Binds K fd ["book", "wishes", "left"] [] := F.bindsN fun _ _ _ _ _ _ us hl => match us, hl with | [_, _, _], _ => rfl
abbrev s__law_wide : Stmt := top 60
theorem sc__law_wide : FnScope ["many", "k"] ["many"] (defScope s__law_wide) := ⟨rfl, rfl, rfl, by decide +kernel, rfl, by decide +kernel, by decide +kernel⟩
theorem bd__law_wide {K : PySem.W.Frag} {x q : Str} {f : Addr} {fd : FuncData} (F : FnP K x q s__law_wide [] f fd) : Binds K fd ["many"] [] := F.bindsN fun _ _ _ _ _ _ us hl => match us, hl with | [_], _ => rfl
abbrev s_law : Stmt := top 61
theorem sc_law : FnScope ["script", "state", "turn", "book", "wishes", "left", "wish", "caught", "far", "some", "e"] ["script"] (defScope s_law) := ⟨rfl, rfl, rfl, by decide +kernel, rfl, by decide +kernel, by decide +kernel⟩
theorem bd_law {K : PySem.W.Frag} {x q : Str} {f : Addr} {fd : FuncData} (F : FnP K x q s_law [] f fd) : Binds K fd ["script"] [] := F.bindsN fun _ _ _ _ _ _ us hl => match us, hl with | [_], _ => rfl
/-- a def of the top, where it stands -/
structure DX (K : PySem.W.Frag) (mg : Str → Option Value) (x : Str) (st : Stmt) (ds : List V) : Type where
  f : Addr
  fd : FuncData
  F : FnP K x x st ds f fd
  g : mg x = some (.ref f)
/-- a method -/
structure MX (K : PySem.W.Frag) (C : Addr) (x q : Str) (st : Stmt) : Type where
  f : Addr
  fd : FuncData
  F : FnP K x q st [] f fd
  m : Meth K C x f
/-- an exception's class with its own __init__ -/
structure XX (K : PySem.W.Frag) (mg : Str → Option Value) (x q fld : Str) (st : Stmt) : Type where
  C : Addr
  g : mg x = some (.ref C)
  low : OexC K C
  f : Addr
  fd : FuncData
  F : FnP K "__init__" q st [] f fd
  ini : PySem.W.findIn K (.ref C) "__init__" = some (some (.ref f))
  ty : PySem.W.typeIn K (.ref f) = some (.type "function")
  noat : PySem.W.findIn K (.ref C) fld = some none
  te : PySem.W.exmOne K (.ref C) (.ref C) = some true
structure TX (K : PySem.W.Frag) (mg : Str → Option Value) : Type where
  is_of : DX K mg "is_of" s_is_of []
  is_mark : DX K mg "is_mark" s_is_mark []
  is_word : DX K mg "is_word" s_is_word []
  are_rising : DX K mg "are_rising" s_are_rising []
  are_marks : DX K mg "are_marks" s_are_marks []
  are_gives : DX K mg "are_gives" s_are_gives []
  is_code : DX K mg "is_code" s_is_code []
  need_codes : DX K mg "need_codes" s_need_codes []
  need_book : DX K mg "need_book" s_need_book []
  codes_in : DX K mg "codes_in" s_codes_in []
  is_chain : DX K mg "is_chain" s_is_chain []
  are_words : DX K mg "are_words" s_are_words []
  are_aspects : DX K mg "are_aspects" s_are_aspects []
  need_row : DX K mg "need_row" s_need_row []
  size_in : DX K mg "size_in" s_size_in []
  size_of : DX K mg "size_of" s_size_of []
  are_wishes : DX K mg "are_wishes" s_are_wishes []
  d_need_wishes : V
  dk_need_wishes : ∀ H, Dp K H d_need_wishes (.tuple [])
  need_wishes : DX K mg "need_wishes" s_need_wishes [d_need_wishes]
  pairs_of : DX K mg "pairs_of" s_pairs_of []
  is_done : DX K mg "is_done" s_is_done []
  cheapest_row : DX K mg "cheapest_row" s_cheapest_row []
  d_shortest_row : V
  dk_shortest_row : ∀ H, Dp K H d_shortest_row (.tuple [])
  shortest_row : DX K mg "shortest_row" s_shortest_row [d_shortest_row]
  _law_mixed : DX K mg "_law_mixed" s__law_mixed []
  _law_begin : DX K mg "_law_begin" s__law_begin []
  _law_draw : DX K mg "_law_draw" s__law_draw []
  _law_of : DX K mg "_law_of" s__law_of []
  _law_codes : DX K mg "_law_codes" s__law_codes []
  _law_sets : DX K mg "_law_sets" s__law_sets []
  _law_book : DX K mg "_law_book" s__law_book []
  _law_value : DX K mg "_law_value" s__law_value []
  _law_front : DX K mg "_law_front" s__law_front []
  _law_worth : DX K mg "_law_worth" s__law_worth []
  _law_meets : DX K mg "_law_meets" s__law_meets []
  _law_all_rows : DX K mg "_law_all_rows" s__law_all_rows []
  _law_wishes : DX K mg "_law_wishes" s__law_wishes []
  _law_right : DX K mg "_law_right" s__law_right []
  _law_wide : DX K mg "_law_wide" s__law_wide []
  law : DX K mg "law" s_law []
  b_isinstance : mg "isinstance" = none
  b_len : mg "len" = none
  b_str : mg "str" = none
  b_tuple : mg "tuple" = none
  b_all : mg "all" = none
  b_any : mg "any" = none
  b_range : mg "range" = none
  b_sum : mg "sum" = none
  b_dict : mg "dict" = none
  b_set : mg "set" = none
  b_sorted : mg "sorted" = none
  b_enumerate : mg "enumerate" = none
  b_zip : mg "zip" = none
  b_list : mg "list" = none
  b_int : mg "int" = none
  b_min : mg "min" = none
  b_repr : mg "repr" = none
  b_ValueError : mg "ValueError" = none
  i_MOST_SIGNS : ∃ t, mg "MOST_SIGNS" = some (.int 8 t)
  i_MOST_ASPECTS : ∃ t, mg "MOST_ASPECTS" = some (.int 6 t)
  i_MOST_CODES_books : ∃ t, mg "MOST_CODES_books" = some (.int 16 t)
  i_MOST_KINDS : ∃ t, mg "MOST_KINDS" = some (.int 6 t)
  i_MOST_KNOWN : ∃ t, mg "MOST_KNOWN" = some (.int 12 t)
  i_MOST_WORDS : ∃ t, mg "MOST_WORDS" = some (.int 60 t)
  i_MOST_CODES_rows : ∃ t, mg "MOST_CODES_rows" = some (.int 10 t)
  i_MORE_SIGNS : ∃ t, mg "MORE_SIGNS" = some (.int 2 t)
  t_LETTERS : ∃ t, mg "LETTERS" = some (.str "abcdefghijklmnopqrstuvwxyz" t)
  t_FIGURES : ∃ t, mg "FIGURES" = some (.str "0123456789" t)
  t_PART : ∃ t, mg "PART" = some (.str ";" t)
  W : Addr
  gW : mg "Wanted" = some (.ref W)
  clsW : Cls K W
  is_due : MX K W "is_due" "Wanted.is_due" s_Wanted_is_due
  may_stand : MX K W "may_stand" "Wanted.may_stand" s_Wanted_may_stand
  goal : MX K W "goal" "Wanted.goal" s_Wanted_goal
  wInit : Addr
  wFd : FuncData
  wF : FnP K "__init__" "Wanted.__init__" s_Wanted_init [] wInit wFd
  wMk : Mk K W wInit
  wNW : NoAttr K W "wishes"
  wNF : NoAttr K W "free"
  xBadBook : XX K mg "BadBook" "BadBook.__init__" "place" s_BadBook_init
  xBadRow : XX K mg "BadRow" "BadRow.__init__" "given" s_BadRow_init
  xBadWishes : XX K mg "BadWishes" "BadWishes.__init__" "given" s_BadWishes_init
  xTooMany : XX K mg "TooMany" "TooMany.__init__" "most" s_TooMany_init
  xQ : Addr
  gQ : mg "BadQuestion" = some (.ref xQ)
end K26
set_option Elab.async false
set_option linter.all false
set_option maxRecDepth 100000
set_option maxHeartbeats 2000000
/-! KQ: short rules for the built-ins this program calls, and what their readings give. -/
namespace K26
open PySem PySem.Spec PyProof.Rows L2 Evl
theorem bt_isi : bootBuiltins "isinstance" = some (.builtin "isinstance") := by decide +kernel
theorem bt_all : bootBuiltins "all" = some (.builtin "all") := by decide +kernel
theorem bt_any : bootBuiltins "any" = some (.builtin "any") := by decide +kernel
theorem bt_sum : bootBuiltins "sum" = some (.builtin "sum") := by decide +kernel
theorem bt_str : bootBuiltins "str" = some (.type "str") := by decide +kernel
theorem bt_tup : bootBuiltins "tuple" = some (.type "tuple") := by decide +kernel
theorem ixT (K : PySem.W.Frag) {X : Cx} (h : X.K = K := by rfl) : IxR X (rIxT K) := h ▸ ix_tup
theorem ixL (K : PySem.W.Frag) {X : Cx} (h : X.K = K := by rfl) : IxR X (rIxL K) := h ▸ ix_list
theorem ixQ (K : PySem.W.Frag) {X : Cx} (h : X.K = K := by rfl) : IxR X (rIx K) := h ▸ ix_seq
theorem opEq (K : PySem.W.Frag) {X : Cx} (hu : X.A.units + 64 < cLine) (h : X.K = K := by rfl) : OpR X (compareOp .Eq) (rEqD K) := h ▸ op_eqD hu
theorem opNe (K : PySem.W.Frag) {X : Cx} (hu : X.A.units + 64 < cLine) (h : X.K = K := by rfl) : OpR X (compareOp .NotEq) (rNeD K) := h ▸ op_neD hu
theorem opIn (K : PySem.W.Frag) {X : Cx} (h : X.K = K := by rfl) : OpR X (compareOp .In) (rIn K false) := h ▸ op_in_seq
theorem opNi (K : PySem.W.Frag) {X : Cx} (h : X.K = K := by rfl) : OpR X (compareOp .NotIn) (rIn K true) := h ▸ op_notIn_seq
theorem pgTup (K : PySem.W.Frag) {X : Cx} {es : List Expr} {k : Nat} {t : TGs} {n : Nat} {pos : Pos} (hc : X.calm = true) (h : PGs X es t) (hn : (assignEach es X.env).length = n := by rfl) (hst : (assignEach es X.env).findIdx? (·.1) = none := by rfl) (hk : X.K = K := by rfl) : PG X (.Tuple es k pos) (gTup K n t) := by
  subst hk
  exact pg_tup hc h hn hst
theorem paStar (K : PySem.W.Frag) {X : Cx} {e : Expr} {te : TE} {es : List Expr} {t : TA} {p : Pos} (he : PE X e te) (hr : PA X es t) (hs : starEach (.Starred e p :: es) X.env = (true, eval e X.env) :: starEach es X.env := by rfl) (hk : X.K = K := by rfl) : PA X (.Starred e p :: es) (StX.tStar K te t) := by
  subst hk
  exact StX.pa_star he hr hs
theorem fldK (K : PySem.W.Frag) {X : Cx} {e : Expr} {ta : TE} {f : Str} {pos : Pos} (he : PE X e ta) (hb : attributeBase e f X.env (eval e X.env) = eval e X.env := by rfl) (hk : X.K = K := by rfl) : PE X (.Attribute e f pos) (tFld K ta f) := by
  subst hk
  exact pe_fld he hb
theorem piT (K : PySem.W.Frag) {X : Cx} {tg l : Expr} {tl : TE} (hl : PE X l tl) (h : X.K = K := by rfl) : PI X tg l (iTup K tl) := by
  subst h
  exact pi_tup hl
theorem piL (K : PySem.W.Frag) {X : Cx} {tg l : Expr} {tl : TE} (hl : PE X l tl) (h : X.K = K := by rfl) : PI X tg l (iList K tl) := by
  subst h
  exact pi_list hl
section
variable {X : Cx} {e e2 : Expr} {t t2 : TE} {p p2 pos : Pos}
theorem qLen (K : PySem.W.Frag) (hm : X.mg "len" = none) (h : PE X e t) (hg : Gl X "len" := by rfl) (hs : starEach [e] X.env = (false, eval e X.env) :: starEach [] X.env := by rfl) (hpl : (backTo pos (starEach [] X.env)).any (·.1) = false := by rfl) (hk : X.K = K := by rfl) :
    PE X (.Call (.Name "len" p) [e] [] pos) (tCB (rLenA K) (tCons t tNil)) := by
  subst hk
  exact pe_callB call_len hg hm boot_len (pa_cons h pa_nil hs) (by decide) (by decide) hs hpl
theorem qAll (K : PySem.W.Frag) (hm : X.mg "all" = none) (hc : X.calm = true) (h : PE X e t) (hg : Gl X "all" := by rfl) (hs : starEach [e] X.env = (false, eval e X.env) :: starEach [] X.env := by rfl) (hpl : (backTo pos (starEach [] X.env)).any (·.1) = false := by rfl) (hk : X.K = K := by rfl) :
    PE X (.Call (.Name "all" p) [e] [] pos) (tCB (rAll K) (tCons t tNil)) := by
  subst hk
  exact pe_callB (cr_all hc) hg hm bt_all (pa_cons h pa_nil hs) (by decide) (by decide) hs hpl
theorem qAny (K : PySem.W.Frag) (hm : X.mg "any" = none) (hc : X.calm = true) (h : PE X e t) (hg : Gl X "any" := by rfl) (hs : starEach [e] X.env = (false, eval e X.env) :: starEach [] X.env := by rfl) (hpl : (backTo pos (starEach [] X.env)).any (·.1) = false := by rfl) (hk : X.K = K := by rfl) :
    PE X (.Call (.Name "any" p) [e] [] pos) (tCB (rAny K) (tCons t tNil)) := by
  subst hk
  exact pe_callB (cr_any hc) hg hm bt_any (pa_cons h pa_nil hs) (by decide) (by decide) hs hpl
theorem qSum (K : PySem.W.Frag) (hm : X.mg "sum" = none) (hc : X.calm = true) (h : PE X e t) (hg : Gl X "sum" := by rfl) (hs : starEach [e] X.env = (false, eval e X.env) :: starEach [] X.env := by rfl) (hpl : (backTo pos (starEach [] X.env)).any (·.1) = false := by rfl) (hk : X.K = K := by rfl) :
    PE X (.Call (.Name "sum" p) [e] [] pos) (tCB (rSum K) (tCons t tNil)) := by
  subst hk
  exact pe_callB (cr_sum hc) hg hm bt_sum (pa_cons h pa_nil hs) (by decide) (by decide) hs hpl
theorem qTup (K : PySem.W.Frag) (hm : X.mg "tuple" = none) (h : PE X e t) (hg : Gl X "tuple" := by rfl) (hs : starEach [e] X.env = (false, eval e X.env) :: starEach [] X.env := by rfl) (hpl : (backTo pos (starEach [] X.env)).any (·.1) = false := by rfl) (hk : X.K = K := by rfl) :
    PE X (.Call (.Name "tuple" p) [e] [] pos) (tCB (rTupL K) (tCons t tNil)) := by
  subst hk
  exact pe_callTy call_tuple_of hg hm bt_tup (pa_cons h pa_nil hs) (by decide) (by decide) hs hpl
/-- isinstance(x, str), isinstance(x, tuple) -/
theorem qIsS (K : PySem.W.Frag) (hm : X.mg "isinstance" = none) (ht : X.mg "str" = none) (h : PE X e t) (hg : Gl X "isinstance" := by rfl) (hg2 : Gl X "str" := by rfl)
    (hs : starEach [e, .Name "str" p2] X.env = (false, eval e X.env) :: starEach [.Name "str" p2] X.env := by rfl) (hs2 : starEach [.Name "str" p2] X.env = (false, eval (.Name "str" p2) X.env) :: starEach [] X.env := by rfl) (hpl : (backTo pos (starEach [.Name "str" p2] X.env)).any (·.1) = false := by rfl) (hk : X.K = K := by rfl) :
    PE X (.Call (.Name "isinstance" p) [e, .Name "str" p2] [] pos) (tCB (rIsi K) (tCons t (tCons (tC (.ty "str")) tNil))) := by
  subst hk
  exact pe_callB call_isi hg hm bt_isi (pa_cons h (pa_cons (pe_bltn hg2 ht bt_str (v := .ty "str") rfl) pa_nil hs2) hs) (by decide) (by decide) hs hpl
theorem qIsT (K : PySem.W.Frag) (hm : X.mg "isinstance" = none) (ht : X.mg "tuple" = none) (h : PE X e t) (hg : Gl X "isinstance" := by rfl) (hg2 : Gl X "tuple" := by rfl)
    (hs : starEach [e, .Name "tuple" p2] X.env = (false, eval e X.env) :: starEach [.Name "tuple" p2] X.env := by rfl) (hs2 : starEach [.Name "tuple" p2] X.env = (false, eval (.Name "tuple" p2) X.env) :: starEach [] X.env := by rfl) (hpl : (backTo pos (starEach [.Name "tuple" p2] X.env)).any (·.1) = false := by rfl) (hk : X.K = K := by rfl) :
    PE X (.Call (.Name "isinstance" p) [e, .Name "tuple" p2] [] pos) (tCB (rIsi K) (tCons t (tCons (tC (.ty "tuple")) tNil))) := by
  subst hk
  exact pe_callB call_isi hg hm bt_isi (pa_cons h (pa_cons (pe_bltn hg2 ht bt_tup (v := .ty "tuple") rfl) pa_nil hs2) hs) (by decide) (by decide) hs hpl
end
section
variable {K : PySem.W.Frag} {σ : L2.St} {H H' : Hp} {ta tb tc te tl : TE} {t : TT} {d e : PyData} {ds es : List PyData} {α : Type} {l : List α} {R : α → V → Hp → Prop} {D : Ends} {tu tw tz : TS}
theorem d_isS {x : Str} (h : EvD K ta σ H (.str x)) : EvD K (tCB (rIsi K) (tCons ta (tCons (tC (.ty "str")) tNil))) σ H (.bool true) := d_isi h fun v H1 w => ⟨_, ty_str w, by decide +kernel⟩
theorem d_isT (h : EvD K ta σ H (.tuple ds)) : EvD K (tCB (rIsi K) (tCons ta (tCons (tC (.ty "tuple")) tNil))) σ H (.bool true) := d_isi h fun v H1 w => ⟨_, ty_tup w, by decide +kernel⟩
theorem d_isTn (h : EvD K ta σ H .none) : EvD K (tCB (rIsi K) (tCons ta (tCons (tC (.ty "tuple")) tNil))) σ H (.bool false) := d_isi h fun v H1 w => ⟨_, ty_non w, by decide +kernel⟩
/-- a comprehension without a test -/
theorem n_lcA {wi : TI} {g : TG} {vs : List Nat} (hw : WalkD wi σ H l R) (hl : l.length ≤ 50000) (q : α → PyData) (nl : ∀ a, a ∈ l → noL (q a) = true)
    (turn : ∀ a, a ∈ l → ∀ x H1, Ex H H1 → R a x H1 → ∃ σ2, Sets g x (wipe σ vs) H1 σ2 ∧ wipe σ2 vs = wipe σ vs ∧ EvD K te σ2 H1 (q a)) : EvN K (tLc wi g tYes te vs) σ H (l.map q) :=
  n_is (n_lc (p := fun _ => true) hw hl q nl fun a ha x H1 e r => by
    obtain ⟨σ2, h1, h2, h3⟩ := turn a ha x H1 e r
    exact ⟨σ2, h1, h2, et_yes, fun _ => h3⟩) (by rw [List.filter_eq_self.mpr fun _ _ => rfl])
/-- all([.. for ..]) where every one is True; where one is False -/
theorem d_allT {wi : TI} {g : TG} {vs : List Nat} (hw : WalkD wi σ H l R) (hl : l.length ≤ 50000)
    (turn : ∀ a, a ∈ l → ∀ x H1, Ex H H1 → R a x H1 → ∃ σ2, Sets g x (wipe σ vs) H1 σ2 ∧ wipe σ2 vs = wipe σ vs ∧ EvD K te σ2 H1 (.bool true)) : EvD K (tCB (rAll K) (tCons (tLc wi g tYes te vs) tNil)) σ H (.bool true) := by
  have h := d_all (bs := l.map fun _ => true) (EvN.data (n_is (n_lcA hw hl (fun _ => .bool true) (fun _ _ => rfl) turn) (by rw [List.map_map]; rfl)))
  have e : (l.map fun _ => true).all id = true := by simp
  rw [e] at h
  exact h
theorem d_allB {wi : TI} {g : TG} {vs : List Nat} (f : α → Bool) (hw : WalkD wi σ H l R) (hl : l.length ≤ 50000)
    (turn : ∀ a, a ∈ l → ∀ x H1, Ex H H1 → R a x H1 → ∃ σ2, Sets g x (wipe σ vs) H1 σ2 ∧ wipe σ2 vs = wipe σ vs ∧ EvD K te σ2 H1 (.bool (f a))) : EvD K (tCB (rAll K) (tCons (tLc wi g tYes te vs) tNil)) σ H (.bool (l.all f)) := by
  have h := d_all (bs := l.map f) (EvN.data (n_is (n_lcA hw hl (fun a => .bool (f a)) (fun _ _ => rfl) turn) (by rw [List.map_map]; rfl)))
  have e : (l.map f).all id = l.all f := by rw [List.all_map]; rfl
  rw [e] at h
  exact h
theorem d_anyB {wi : TI} {g : TG} {vs : List Nat} (f : α → Bool) (hw : WalkD wi σ H l R) (hl : l.length ≤ 50000)
    (turn : ∀ a, a ∈ l → ∀ x H1, Ex H H1 → R a x H1 → ∃ σ2, Sets g x (wipe σ vs) H1 σ2 ∧ wipe σ2 vs = wipe σ vs ∧ EvD K te σ2 H1 (.bool (f a))) : EvD K (tCB (rAny K) (tCons (tLc wi g tYes te vs) tNil)) σ H (.bool (l.any f)) := by
  have h := d_any (bs := l.map f) (EvN.data (n_is (n_lcA hw hl (fun a => .bool (f a)) (fun _ _ => rfl) turn) (by rw [List.map_map]; rfl)))
  have e : (l.map f).any id = l.any f := by rw [List.any_map]; rfl
  rw [e] at h
  exact h
theorem s_ifF (h : EvT t σ H false) (k : ∀ H1, Ex H H1 → tw D σ H1) : tIfS t tu tw D σ H := Evl.s_if h (fun z => by cases z) fun _ => k
theorem s_ifT (h : EvT t σ H true) (k : ∀ H1, Ex H H1 → tu D σ H1) : tIfS t tu tw D σ H := Evl.s_if h (fun _ => k) (fun z => by cases z)
theorem d_lenTn {n : Nat} (h : EvD K ta σ H (.tuple ds)) (e : ds.length = n) : EvD K (tCB (rLenA K) (tCons ta tNil)) σ H (.int n) := e ▸ d_lenT h
theorem tt_and {u : TT} {a : Bool} (h1 : EvT t σ H true) (h2 : EvT u σ H a) : EvT (tAnd t u) σ H a := et_and (a := true) h1 fun _ => h2
theorem tt_orF {u : TT} {a : Bool} (h1 : EvT t σ H false) (h2 : EvT u σ H a) : EvT (tOr t u) σ H a := et_or (a := false) h1 fun _ => h2
theorem tt_notT (h1 : EvT t σ H true) : EvT (tNot t) σ H false := et_not h1
theorem tt_notF (h1 : EvT t σ H false) : EvT (tNot t) σ H true := et_not h1
theorem tt_of (h : EvD K te σ H (.bool true)) : EvT (tTest te) σ H true := t_of h
theorem tt_B (h : EvD K te σ H (.bool true)) : EvT (tB te) σ H true := t_B h
theorem d_andT (h1 : EvD K ta σ H (.bool true)) (h2 : EvD K tb σ H d) : EvD K (tAndV ta tb) σ H d := fun H1 e Q q => h1 H1 e _ fun v H2 e2 w => by
  obtain rfl := dp_bl w
  exact ⟨true, rfl, h2 H2 (e.trans e2) Q fun v H3 e3 w => q v H3 (e2.trans e3) w⟩
end
end K26
set_option Elab.async false
set_option linter.all false
set_option maxRecDepth 100000
set_option maxHeartbeats 2000000
/-! KD4: loops over data; what stands while objects that are no tuples change. -/
namespace K26
open PySem PySem.Spec PyProof.Rows L2 Evl RZ
/-- every tuple stands -/
def ExT (H H' : Hp) : Prop := (∀ a xs, H a = some (.tup xs) → H' a = some (.tup xs)) ∧ ∀ a o xs, H a = some (.frz o (.tup xs)) → H' a = some (.frz o (.tup xs))
theorem ExT.refl (H : Hp) : ExT H H := ⟨fun _ _ h => h, fun _ _ _ h => h⟩
theorem ExT.trans {H H1 H2 : Hp} (a : ExT H H1) (b : ExT H1 H2) : ExT H H2 := ⟨fun x xs h => b.1 x xs (a.1 x xs h), fun x o u h => b.2 x o u (a.2 x o u h)⟩
theorem exT_of {H H1 : Hp} (a : Ex H H1) : ExT H H1 := ⟨fun x xs h => a x _ h, fun x o u h => a x _ h⟩
/-- a store at a place that holds no tuple -/
theorem ExT.put {H : Hp} {p : Addr} {o : HO} (h1 : ∀ xs, H p ≠ some (.tup xs)) (h2 : ∀ o xs, H p ≠ some (.frz o (.tup xs))) : ExT H (upd H p o) :=
  ⟨fun a xs h => by
    have n : a ≠ p := fun z => by rw [z] at h; exact h1 xs h
    rw [upd_ne n]
    exact h, fun a ob u h => by
    have n : a ≠ p := fun z => by rw [z] at h; exact h2 ob u h
    rw [upd_ne n]
    exact h⟩
section
variable {K : PySem.W.Frag} {H H' : Hp}
theorem sqT_t (e : ExT H H') {a : Addr} {xs : List V} (h : SqT K H a xs) : SqT K H' a xs := by
  rcases h with (h | ⟨o, h⟩) | h
  · exact .inl (.inl (e.1 _ _ h))
  · exact .inl (.inr ⟨o, e.2 _ _ _ h⟩)
  · exact .inr h
mutual
theorem dp_t (e : ExT H H') : ∀ (d : PyData) (v : V), noL d = true → Dp K H v d → Dp K H' v d
  | .none, _, _, h => by cases h; exact .non
  | .bool b, _, _, h => by cases h; exact .bl b
  | .int i, _, _, h => by cases h; exact .int i
  | .str x, _, _, h => by cases h; exact .str x
  | .list ds, _, n, _ => by simp [noL] at n
  | .tuple ds, _, n, h => by
    cases h with
    | tup h1 h2 => exact .tup (sqT_t e h1) (dpAll_t e ds _ (by simpa [noL] using n) h2)
  | .dict _, _, _, h => by cases h
theorem dpAll_t (e : ExT H H') : ∀ (ds : List PyData) (vs : List V), noLs ds = true → DpAll K H vs ds → DpAll K H' vs ds
  | [], _, _, h => by cases h; exact .nil
  | d :: ds, _, n, h => by
    have n2 : noL d = true ∧ noLs ds = true := by simpa [noLs] using n
    cases h with
    | cons h1 h2 => exact .cons (dp_t e d _ n2.1 h1) (dpAll_t e ds _ n2.2 h2)
end
end
section
variable {K : PySem.W.Frag} {σ : L2.St} {H H' : Hp} {tl te : TE} {ta : TA} {α : Type} {l : List α} {f : α → PyData} {R : α → V → Hp → Prop} {wi : TI} {g : TG} {tb : TS} {D : Ends}
/-- a loop whose turns only make new objects -/
theorem s_forE (hw : WalkD wi σ H l R) (Pv : Nat → L2.St → Hp → Prop) (h0 : ∀ H1, Ex H H1 → Pv 0 σ H1)
    (turn : ∀ Hb, Ex H Hb → ∀ i a σ' H' x H1, l[i]? = some a → Ex Hb H' → Pv i σ' H' → Ex H' H1 → R a x H1 →
      g x σ' H1 fun σ2 H2 => tb { D with nx := fun σ3 H3 => Ex Hb H3 ∧ Pv (i + 1) σ3 H3, ct := fun σ3 H3 => Ex Hb H3 ∧ Pv (i + 1) σ3 H3, bk := D.nx } σ2 H2)
    (hd : ∀ σ' H', Ex H H' → Pv l.length σ' H' → D.nx σ' H') : tFor wi g tb D σ H :=
  hw H (Ex.refl H) _ fun J H2 G Y e2 W hG hY => for_it W (fun i σ' H' => Ex H2 H' ∧ Pv i σ' H') ⟨Ex.refl H2, h0 H2 e2⟩ (fun i σ' H' _ z => hG H' z.1) (fun i x σ' H3 H4 hi z hy => by
    obtain ⟨a, ha⟩ : ∃ a, l[i]? = some a := ⟨_, List.getElem?_eq_getElem hi⟩
    obtain ⟨e4, hr⟩ := hY i H3 x H4 a ha hy z.1
    exact turn H2 e2 i a σ' H3 x H4 ha z.1 z.2 e4 hr) fun σ' H' z => hd σ' H' (e2.trans z.1) z.2
/-- what is walked while objects that are no tuples may change -/
def WalkT (wi : TI) (σ : L2.St) (H : Hp) {α : Type} (l : List α) (R : α → V → Hp → Prop) : Prop := ∀ H1, Ex H H1 → ∀ Z : It → Hp → Prop,
  (∀ J H2 (G : Hp → Prop) (Y : Nat → Hp → V → Hp → Prop), Ex H1 H2 → Walk J l.length G Y → (∀ H3, ExT H2 H3 → G H3) → (∀ i H3 x H4 a, l[i]? = some a → Y i H3 x H4 → ExT H2 H3 → Ex H3 H4 ∧ R a x H4) → Z J H2) → wi σ H1 Z
theorem w_tupT (h : EvD K tl σ H (.tuple (l.map f))) (nl : ∀ a, a ∈ l → noL (f a) = true) : WalkT (iTup K tl) σ H l (fun a => isD K (f a)) := fun H1 e Z z =>
  h H1 e _ fun v H2 e2 w => by
    obtain ⟨a, xs, rfl, hs, hx⟩ := dp_tup w
    have hl : xs.length = l.length := by rw [hx.len, List.length_map]
    refine ⟨a, rfl, ⟨xs, hs⟩, z (Itt K a) H2 _ _ e2 (by rw [← hl]; exact walk_tup) (fun H3 e3 => sqT_t e3 hs) fun i H3 x H4 b hb hy e3 => ?_⟩
    obtain ⟨rfl, hi⟩ := hy
    obtain ⟨d, hd, hv⟩ := hx.at_ hi
    rw [List.getElem?_map, hb] at hd
    cases hd
    exact ⟨Ex.refl _, dp_t e3 _ _ (nl b (List.mem_of_getElem? hb)) hv⟩
theorem w_rngT {n : Nat} (h : EvDs K ta σ H [.int (n : Int)]) (hn : n ≤ 100000) : WalkT (iRng1 ta) σ H (List.range n) (fun i x _ => x = .int (i : Nat)) := fun H1 e Z z =>
  h H1 e _ fun vs H2 e2 w => by
    cases w with
    | cons w1 w2 =>
      cases w2
      obtain rfl := dp_int w1
      refine ⟨(n : Int), rfl, by omega, by omega, z (Itr 0 (n : Int).toNat) H2 _ _ e2 (by rw [List.length_range]; exact walk_range) (fun _ _ => trivial) fun i H3 x H4 b hb hy e3 => ?_⟩
      obtain ⟨rfl, rfl⟩ := hy
      obtain ⟨h1, h2⟩ := List.getElem?_eq_some_iff.mp hb
      simp at h2
      subst h2
      exact ⟨Ex.refl _, by simp⟩
/-- range(i), i an int of any sign -/
theorem w_rngI {i : Int} (h : EvDs K ta σ H [.int i]) (hn : -100000 ≤ i ∧ i ≤ 100000) : WalkD (iRng1 ta) σ H (List.range i.toNat) (fun i x _ => x = .int (i : Nat)) := fun H1 e Z z =>
  h H1 e _ fun vs H2 e2 w => by
    cases w with
    | cons w1 w2 =>
      cases w2
      obtain rfl := dp_int w1
      refine ⟨i, rfl, by omega, by omega, z (Itr 0 i.toNat) H2 _ _ e2 (by rw [List.length_range]; exact walk_range) (fun _ _ => trivial) fun j H3 x H4 b hb hy e3 => ?_⟩
      obtain ⟨rfl, rfl⟩ := hy
      obtain ⟨h1, h2⟩ := List.getElem?_eq_some_iff.mp hb
      simp at h2
      subst h2
      exact ⟨Ex.refl _, by simp⟩
theorem d_neg {i : Int} (h : EvD K te σ H (.int i)) : EvD K (tUn (rU fun i => .int (-i)) te) σ H (.int (-i)) := fun H1 e Q q => h H1 e _ fun v H2 e2 w => by
  obtain rfl := dp_int w
  exact ⟨i, rfl, q _ H2 e2 (.int _)⟩
theorem s_forT (hw : WalkT wi σ H l R) (Pv : Nat → L2.St → Hp → Prop) (h0 : ∀ H1, Ex H H1 → Pv 0 σ H1)
    (turn : ∀ Hb, Ex H Hb → ∀ i a σ' H' x H1, l[i]? = some a → ExT Hb H' → Pv i σ' H' → Ex H' H1 → R a x H1 →
      g x σ' H1 fun σ2 H2 => tb { D with nx := fun σ3 H3 => ExT Hb H3 ∧ Pv (i + 1) σ3 H3, ct := fun σ3 H3 => ExT Hb H3 ∧ Pv (i + 1) σ3 H3, bk := D.nx } σ2 H2)
    (hd : ∀ σ' H', ExT H H' → Pv l.length σ' H' → D.nx σ' H') : tFor wi g tb D σ H :=
  hw H (Ex.refl H) _ fun J H2 G Y e2 W hG hY => for_it W (fun i σ' H' => ExT H2 H' ∧ Pv i σ' H') ⟨ExT.refl H2, h0 H2 e2⟩ (fun i σ' H' _ z => hG H' z.1) (fun i x σ' H3 H4 hi z hy => by
    obtain ⟨a, ha⟩ : ∃ a, l[i]? = some a := ⟨_, List.getElem?_eq_getElem hi⟩
    obtain ⟨e4, hr⟩ := hY i H3 x H4 a ha hy z.1
    exact turn H2 e2 i a σ' H3 x H4 ha z.1 z.2 e4 hr) fun σ' H' z => hd σ' H' ((exT_of e2).trans z.1) z.2
/-- a, b = t; a, b, c = t -/
theorem s_un2 {i j : Nat} {d1 d2 : PyData} (h : EvD K te σ H (.tuple [d1, d2])) (k : ∀ x y H1, Ex H H1 → Dp K H1 x d1 → Dp K H1 y d2 → D.nx ((σ.set i (some x)).set j (some y)) H1) : tAsg te (gTup K 2 (gCons (gName i) (gCons (gName j) gNil))) D σ H :=
  h H (Ex.refl H) _ fun v H1 e w => by
    obtain ⟨a, xs, rfl, hs, hx⟩ := dp_tup w
    obtain ⟨x, y, rfl, h1, h2⟩ := dp2 hx
    exact g_two hs _ (k x y H1 e h1 h2)
theorem s_un3 {i j l : Nat} {d1 d2 d3 : PyData} (h : EvD K te σ H (.tuple [d1, d2, d3])) (k : ∀ x y z H1, Ex H H1 → Dp K H1 x d1 → Dp K H1 y d2 → Dp K H1 z d3 → D.nx (((σ.set i (some x)).set j (some y)).set l (some z)) H1) :
    tAsg te (gTup K 3 (gCons (gName i) (gCons (gName j) (gCons (gName l) gNil)))) D σ H :=
  h H (Ex.refl H) _ fun v H1 e w => by
    obtain ⟨a, xs, rfl, hs, hx⟩ := dp_tup w
    obtain ⟨x, y, z, rfl, h1, h2, h3⟩ := dp3 hx
    exact g_three hs _ (k x y z H1 e h1 h2 h3)
/-- e; -/
theorem s_dropP {R : V → Hp → Prop} (h : EvP te σ H R) (k : ∀ v H1, Ex H H1 → R v H1 → D.nx σ H1) : tDrop te D σ H := h H (Ex.refl H) _ k
/-- t[i] of a tuple or list by its items -/
theorem d_ixAny {tb' : TE} {i : Int} {d : PyData} {ds : List PyData} (ha : EvD K tl σ H (.tuple ds) ∨ EvD K tl σ H (.list ds)) (hi : EvD K tb' σ H (.int i)) (h : atI ds i = some d) : EvD K (tOp (rIx K) tl tb') σ H d := by
  have up : ∀ (r : R2), (∀ x y H Q, r x y H Q → rIx K x y H Q) → EvD K (tOp r tl tb') σ H d → (∀ H1 Q, tOp r tl tb' σ H1 Q → tOp (rIx K) tl tb' σ H1 Q) → EvD K (tOp (rIx K) tl tb') σ H d := fun r _ h m H1 e Q q => m H1 Q (h H1 e Q q)
  rcases ha with ha | ha
  · refine p_op isD_mono ha hi fun x y H1 e1 a b => ?_
    obtain ⟨p, xs, rfl, hs, hx⟩ := dp_tup a
    obtain rfl := dp_int b
    obtain ⟨j, h1, h2⟩ := Option.bind_eq_some_iff.mp (show (ixN ds.length i).bind (fun j => ds[j]?) = some d from h)
    obtain ⟨v, h3, h4⟩ := hx.of_ h2
    refine op_at (z := v) (fun Q q => .inr (.inl ⟨p, xs, i, v, rfl, rfl, hs, ?_, q⟩)) h4
    show (ixN xs.length i).bind (fun j => xs[j]?) = some v
    rw [hx.len, h1]
    exact h3
  · refine p_op isD_mono ha hi fun x y H1 e1 a b => ?_
    obtain ⟨p, xs, rfl, hs, hx⟩ := dp_lst a
    obtain rfl := dp_int b
    obtain ⟨j, h1, h2⟩ := Option.bind_eq_some_iff.mp (show (ixN ds.length i).bind (fun j => ds[j]?) = some d from h)
    obtain ⟨v, h3, h4⟩ := hx.of_ h2
    refine op_at (z := v) (fun Q q => .inl ⟨p, xs, i, v, rfl, rfl, hs, ?_, q⟩) h4
    show (ixN xs.length i).bind (fun j => xs[j]?) = some v
    rw [hx.len, h1]
    exact h3
theorem atI_of {α : Type} {xs : List α} {j : Nat} {x : α} (h : xs[j]? = some x) : atI xs (j : Int) = some x := by
  have hj : j < xs.length := (List.getElem?_eq_some_iff.mp h).1
  unfold atI
  rw [ixN_nat hj]
  exact h
end
end K26
set_option Elab.async false
set_option linter.all false
set_option maxRecDepth 100000
set_option maxHeartbeats 4000000
/-! KEnum: for i, x in enumerate(t), t a tuple. -/
namespace K26
open PySem PySem.Spec PyProof.Rows L2 AutoSeq1
theorem meets_enumT (l : Addr) (items : Array Value) (c0 : Value) (n : Nat) (dct : Option Addr) (sl : Array (Option Value)) (hc0 : c0 = .type "tuple") :
    Meets (Builtin.«enumerate.__new__» ⟨[.type "enumerate", .ref l], []⟩) (fun _ R s => s.heap.get? l = some { cls := c0, dict := dct, data := .seq items n, slots := sl } ∧
      R (.ok (.ret (.ref (s.heap.push { cls := .type "tuple_iterator", data := .fields #[.ref l, .int 0 0] }).objs.size)))
        { s with heap := (s.heap.push { cls := .type "tuple_iterator", data := .fields #[.ref l, .int 0 0] }).push { cls := .type "enumerate", data := .fields #[.none, .bool false, .ref s.heap.objs.size, rawInt 0, .none, .none] } }) :=
  .of_wp fun prog w A R s h => by
    obtain ⟨hp, g, d, tk, os⟩ := s; obtain ⟨hl, h⟩ := h
    subst hc0
    have hsub := sub_enumerate
    have hL : Heap.IsTuple (Shared.heap ⟨hp, g, d, tk, os⟩) l items := ⟨_, hl, rfl, n, rfl⟩
    wp_walk using wpAny_loadPart' hl
    refine wpAny_stack_any fun st => wpAny_pure ?_
    split
    · rename_i c _ _ _ _ _
      cases (c == Value.type "enumerate")
      · wp_walk using wpAny_loadPart' hl, wpAny_pyIter_tuple hL
        exact ⟨_, rfl, h⟩
      · wp_walk using wpAny_loadPart' hl, wpAny_pyIter_tuple hL
        exact ⟨_, rfl, h⟩
    · wp_walk using wpAny_loadPart' hl, wpAny_pyIter_tuple hL
      exact ⟨_, rfl, h⟩
section
variable {prog : Program} {w : World} {A : Around} {E : Value → Shared → Prop} {s : Shared}
theorem call_enumT {l : Addr} {items : Array Value} {Q : Value → Shared → Prop} (hL : s.heap.IsTuple l items)
    (h : ∀ h', IsEnum h' (s.heap.objs.size + 1) s.heap.objs.size 0 .none → h'.IsTupleIter s.heap.objs.size l 0 → h'.objs.size = s.heap.objs.size + 2 →
      (∀ b o, s.heap.get? b = some o → h'.get? b = some o) → Q (.ref (s.heap.objs.size + 1)) { s with heap := h' }) :
    wpAny (model prog w) A (call (.type "enumerate") [.ref l]) Q E s := by
  obtain ⟨⟨c, dct, dt, sl⟩, hl, hc, n, hd⟩ := hL
  replace hc : c = .type "tuple" := hc
  replace hd : dt = .seq items n := hd
  subst hd
  refine callType_new F.called_enumerate (by decide) (F.typeCall_enumerate_1 _) (F.newCall_enumerate_1 _) (fun obj => F.args_object_init_2 obj _) F.entry_enumerate_new
    (meets_enumT l items c n dct sl hc) ⟨hl, ?_⟩
  have hz : (s.heap.push { cls := .type "tuple_iterator", data := .fields #[.ref l, .int 0 0] }).objs.size = s.heap.objs.size + 1 := Heap.size_push ..
  show _ ∧ _
  rw [hz]
  have he : IsEnum ((s.heap.push { cls := .type "tuple_iterator", data := .fields #[.ref l, .int 0 0] }).push
      { cls := .type "enumerate", data := .fields #[.none, .bool false, .ref s.heap.objs.size, rawInt 0, .none, .none] }) (s.heap.objs.size + 1) s.heap.objs.size 0 .none := by
    have := Heap.get?_push_size (s.heap.push { cls := .type "tuple_iterator", data := .fields #[.ref l, .int 0 0] })
      (o := { cls := .type "enumerate", data := .fields #[.none, .bool false, .ref s.heap.objs.size, rawInt 0, .none, .none] }) rfl
    rw [hz] at this; exact this
  refine ⟨⟨_, he, rfl⟩, h _ he ⟨_, Heap.get?_push_of_some _ (Heap.get?_push_size _ rfl), rfl, rfl⟩ (by rw [Heap.size_push, hz]) fun b o x => Heap.get?_push_of_some _ (Heap.get?_push_of_some _ x)⟩
end
/-- the tuple at a, each item in a new pair with its place -/
def IteT (K : PySem.W.Frag) (a : Addr) : It :=
  ⟨fun i H => ∃ (xs : List V) (x : V), SqT K H a xs ∧ xs[i]? = some x, fun i H v H' => ∃ T x, v = .ref T ∧ H T = none ∧ H' = upd H T (.tup [.int (i : Nat), x]) ∧ ∀ xs, SqT K H a xs → xs[i]? = some x, fun i H => ∃ xs : List V, SqT K H a xs ∧ xs.length = i⟩
theorem turn_enumT {P : Program} {w : World} {K : PySem.W.Frag} {elts : List Expr} {kk : Nat} {tpos : Pos} (a e it : Addr) (hne : e ≠ it) (ha1 : a ≠ it) (ha2 : a ≠ e) :
    Turn P w K (.Tuple elts kk tpos) (IteT K a) [e, it] e (fun i h => (∃ old, IsEnum h e it ((i : Nat) : Int) old) ∧ h.IsTupleIter it a i) where
  mem := by simp
  obj := fun i h st b hb => by
    obtain ⟨⟨old, he⟩, ⟨o, ho, hc, hd⟩⟩ := st
    have e' : b = e ∨ b = it := by simpa using hb
    rcases e' with z | z
    · rw [z]; exact ⟨_, he, fun v q => nomatch q⟩
    · rw [z]; exact ⟨o, ho, fun v q => by rw [hd] at q; cases q⟩
  keep := fun i h h' st k => let ⟨⟨old, he⟩, hi⟩ := st; ⟨⟨old, k e (by simp) _ he⟩, hi.at fun o q => k it (by simp) o q⟩
  item := by
    intro X hP hw hK hc i pins s σ H E I hf st hg
    subst hP hw hK
    obtain ⟨⟨old, he⟩, hit⟩ := st
    obtain ⟨xs, x, hq, hx⟩ := hg
    obtain ⟨its, rv, p, hz⟩ := I.tuple hq
    obtain ⟨u, hu, ru⟩ := rv.get hx
    have hel : e < s.heap.objs.size := Heap.lt_size he
    have hil : it < s.heap.objs.size := by obtain ⟨_, q, _⟩ := hit; exact Heap.lt_size q
    refine wpAny_pyNext_enum_itemD (Draws.tuple (A := X.A.in1) (show X.A.in1.handled = none from I.ok.hd hc) it a ha1 its.toArray) he ⟨hit, p⟩ (by simpa using (List.getElem?_eq_some_iff.mp hu).1) hne (by simp; exact ⟨hne, Ne.symm ha2⟩) fun y h' tk hy ho hit' hT hsz hk => ?_
    obtain rfl : u = y := by
      have hy : its[i]? = some y := by simpa using hy
      rw [hu] at hy
      exact Option.some.inj hy
    refine ⟨_, rfl, wpAny_letOwnedTupleGo_enum (s := { s with heap := h', toks := tk + 1 }) ho fun h'' he' sb => ?_⟩
    have hT2 : h''.get? s.heap.objs.size = some { cls := .type "tuple", data := .seq #[.int i tk, u] } := (sb.2 _ (Nat.ne_of_gt hel)).trans hT
    have new : ObjOk X.prog X.w (upd H s.heap.objs.size (.tup [.int (i : Nat), x])) h'' s.heap.objs.size (.tup [.int (i : Nat), x]) :=
      ⟨by show 2 ≤ sizeLine; decide, [.int i tk, u], .cons ⟨_, rfl⟩ (.cons ru .nil), ⟨_, hT2, rfl, _, rfl⟩⟩
    have I1 : Inv X pins σ (upd H s.heap.objs.size (.tup [.int (i : Nat), x])) { s with heap := h'', toks := tk + 1 } :=
      I.turnedNew (ch := [e, it]) (fun b ob hb q => (sb.2 b (fun z => hb (by simp [z]))).trans (hk b ob (fun z => hb (by simp [z])) (fun z => hb (by simp [z])) q)) hf (Nat.le_refl _) new
    refine ⟨.ref s.heap.objs.size, _, I1, rfl, ⟨_, x, rfl, I.hok.fresh (Nat.le_refl _), rfl, fun ys hy => by rw [I.tuple_inj hy hq]; exact hx⟩, ⟨⟨u, ?_⟩, hit'.1.at fun o q => (sb.2 it (Ne.symm hne)).trans q⟩, fun b hb => ?_⟩
    · have e1 : ((i + 1 : Nat) : Int) = (i : Int) + 1 := by omega
      rw [e1]; exact he'
    · have hb' : b < s.heap.objs.size := by
        have e' : b = e ∨ b = it := by simpa using hb
        rcases e' with z | z
        · rw [z]; exact hel
        · rw [z]; exact hil
      rw [upd_ne (Nat.ne_of_lt hb')]
      exact (hf b hb).1
  done := by
    intro X hP hw hK hc i pins s σ H E I hf st hg
    subst hP hw hK
    obtain ⟨⟨old, he⟩, hit⟩ := st
    obtain ⟨xs, hq, hx⟩ := hg
    obtain ⟨its, rv, p, hz⟩ := I.tuple hq
    obtain ⟨f0, f1, f2, f3, f4, f5⟩ := hf it (by simp)
    have hl : i = its.toArray.size := by
      have := rv.length
      simp
      omega
    subst hl
    exact wpAny_pyNext_enum_endD (Draws.tuple (A := X.A.in1) (show X.A.in1.handled = none from I.ok.hd hc) it a ha1 its.toArray) he ⟨hit, p⟩ fun h' eb => ⟨rfl, I.turned (t' := s.toks) (fun b o hb q => eb b o hb q) f0 f1 f3 f4 f5⟩
  self := fun A i s Q E st h => let ⟨⟨_, he⟩, _⟩ := st; wpAny_pyIter_enum he h
def iEnumT (K : PySem.W.Frag) (ta : TA) : TI := fun σ H R => ta σ H fun vs H1 => ∃ a xs, vs = [.ref a] ∧ SqT K H1 a xs ∧ R (IteT K a) H1
theorem pi_enumT {X : Cx} {e : Expr} {ta : TA} {p pos tpos : Pos} {elts : List Expr} {kk : Nat} (hg : Gl X "enumerate") (hm : X.mg "enumerate" = none) (ha : PA X [e] ta) (hs : starEach [e] X.env = [(false, eval e X.env)] := by rfl) :
    PI X (.Tuple elts kk tpos) (.Call (.Name "enumerate" p) [e] [] pos) (iEnumT X.K ta) := by
  refine ⟨fun pins s σ H R I h => ?_⟩
  refine Call_ (ld_blt I hg hm boot_enumerate (PyProof.Rows.callWith_type1 (thn (ha.run pos pins s σ H _ I h) fun us s1 ⟨vs, H1, I1, r1, q1⟩ => ?_) hs rfl))
  obtain ⟨a, xs, ex, hq, q⟩ := q1
  subst ex
  cases r1 with
  | cons r rr =>
    cases rr
    cases r
    obtain ⟨its, rv, p', hz⟩ := I1.tuple hq
    have hal : a < s1.heap.objs.size := by obtain ⟨_, q, _⟩ := p'; exact Heap.lt_size q
    refine call_enumT p' fun h' he hit hsz hk => wpAny_pyIter_enum he ?_
    have I2 : Inv X pins σ H1 { s1 with heap := h' } := I1.kept (t' := s1.toks) hk
    refine ⟨s1.heap.objs.size + 1, [s1.heap.objs.size + 1, s1.heap.objs.size], _, _, H1, rfl, I2, turn_enumT a (s1.heap.objs.size + 1) s1.heap.objs.size (Nat.succ_ne_self _) (Nat.ne_of_lt hal) (Nat.ne_of_lt (Nat.lt_succ_of_lt hal)), ⟨⟨.none, he⟩, hit⟩, fun b hb => ?_, q⟩
    have e' : b = s1.heap.objs.size + 1 ∨ b = s1.heap.objs.size := by simpa using hb
    have hle : s1.heap.objs.size ≤ b := by
      rcases e' with z | z
      · rw [z]; exact Nat.le_add_right _ _
      · rw [z]; exact Nat.le_refl _
    exact I1.fpOk hle (I1.hok.fresh hle)
end K26
set_option Elab.async false
set_option linter.all false
set_option maxRecDepth 100000
set_option maxHeartbeats 2000000
/-! KDict: dicts from texts to data. -/
namespace K26
open PySem PySem.Spec PyProof.Rows L2 Evl RZ
/-! ### tables by text -/
section
variable {β γ : Type}
def gv (l : List (Str × β)) (s : Str) : Option β := (l.find? fun q => decide (q.1 = s)).map (·.2)
def pv2 (l : List (Str × β)) (s : Str) (b : β) : List (Str × β) := if (l.any fun q => decide (q.1 = s)) = true then l.map (fun q => if q.1 = s then (q.1, b) else q) else l ++ [(s, b)]
theorem gv_nil {s : Str} : gv ([] : List (Str × β)) s = none := rfl
theorem gv_cons {q : Str × β} {l : List (Str × β)} {s : Str} : gv (q :: l) s = if q.1 = s then some q.2 else gv l s := by
  unfold gv
  rw [List.find?_cons]
  by_cases h : q.1 = s
  · simp [h]
  · simp [h]
theorem gv_some {l : List (Str × β)} {s : Str} {b : β} (h : gv l s = some b) : (s, b) ∈ l := by
  induction l with
  | nil => simp [gv_nil] at h
  | cons q l ih =>
    rw [gv_cons] at h
    split at h
    · rename_i e
      cases h
      rw [← e]
      exact List.mem_cons_self
    · exact List.mem_cons_of_mem _ (ih h)
theorem gv_isSome {l : List (Str × β)} {s : Str} : (gv l s).isSome = decide (s ∈ l.map (·.1)) := by
  induction l with
  | nil => simp [gv_nil]
  | cons q l ih =>
    rw [gv_cons]
    by_cases h : q.1 = s
    · simp [h]
    · rw [if_neg h, ih]
      have : ¬ s = q.1 := fun z => h z.symm
      simp [this]
theorem gv_none {l : List (Str × β)} {s : Str} : gv l s = none ↔ s ∉ l.map (·.1) := by
  rw [← Option.not_isSome_iff_eq_none, gv_isSome]
  simp
theorem pv2_keys {l : List (Str × β)} {s : Str} {b : β} : (pv2 l s b).map (·.1) = if s ∈ l.map (·.1) then l.map (·.1) else l.map (·.1) ++ [s] := by
  unfold pv2
  by_cases h : (l.any fun q => decide (q.1 = s)) = true
  · have h2 : s ∈ l.map (·.1) := by
      obtain ⟨q, hq, e⟩ := List.any_eq_true.mp h
      exact List.mem_map.mpr ⟨q, hq, of_decide_eq_true e⟩
    rw [if_pos h, if_pos h2, List.map_map]
    refine List.map_congr_left fun q _ => ?_
    show (if q.1 = s then (q.1, b) else q).1 = q.1
    split <;> rfl
  · have h2 : ¬ s ∈ l.map (·.1) := fun z => h (by
      obtain ⟨q, hq, e⟩ := List.mem_map.mp z
      exact List.any_eq_true.mpr ⟨q, hq, decide_eq_true e⟩)
    rw [if_neg h, if_neg h2, List.map_append]
    rfl
theorem gv_app {l m : List (Str × β)} {s : Str} : gv (l ++ m) s = (gv l s).or (gv m s) := by
  induction l with
  | nil => rfl
  | cons q l ih =>
    rw [List.cons_append, gv_cons, gv_cons, ih]
    split <;> rfl
theorem gv_pv2 {l : List (Str × β)} {s t : Str} {b : β} : gv (pv2 l s b) t = if t = s then some b else gv l t := by
  unfold pv2
  by_cases h : (l.any fun q => decide (q.1 = s)) = true
  · rw [if_pos h]
    have key : ∀ m : List (Str × β), gv (m.map fun q => if q.1 = s then (q.1, b) else q) t = (gv m t).map fun x => if t = s then b else x := by
      intro m
      induction m with
      | nil => rfl
      | cons q m ih =>
        rw [List.map_cons, gv_cons, gv_cons, ih]
        by_cases e : q.1 = s
        · rw [if_pos e]
          by_cases e2 : q.1 = t
          · simp [e2, ← e]
          · simp [e2]
        · rw [if_neg e]
          by_cases e2 : q.1 = t
          · have : ¬ t = s := fun z => e (e2.trans z)
            simp [e2, this]
          · simp [e2]
    rw [key]
    by_cases e : t = s
    · have h2 : (gv l t).isSome = true := by
        rw [gv_isSome, e]
        obtain ⟨q, hq, e'⟩ := List.any_eq_true.mp h
        exact decide_eq_true (List.mem_map.mpr ⟨q, hq, of_decide_eq_true e'⟩)
      obtain ⟨x, hx⟩ := Option.isSome_iff_exists.mp h2
      rw [hx]
      simp [e]
    · simp [e]
  · rw [if_neg h, gv_app]
    have h2 : gv l s = none := gv_none.mpr fun z => h (by
      obtain ⟨q, hq, e⟩ := List.mem_map.mp z
      exact List.any_eq_true.mpr ⟨q, hq, decide_eq_true e⟩)
    by_cases e : t = s
    · rw [e, h2]
      simp [gv_cons]
    · have : ¬ s = t := fun z => e z.symm
      simp [gv_cons, e, this, gv_nil]
theorem pv2_len {l : List (Str × β)} {s : Str} {b : β} : (pv2 l s b).length ≤ l.length + 1 := by
  unfold pv2
  split
  · rw [List.length_map]; omega
  · rw [List.length_append]; simp
theorem pv2_map {l : List (Str × β)} {s : Str} {b : β} (f : β → γ) : (pv2 l s b).map (fun q => (q.1, f q.2)) = pv2 (l.map fun q => (q.1, f q.2)) s (f b) := by
  unfold pv2
  rw [List.any_map]
  by_cases h : (l.any fun q => decide (q.1 = s)) = true
  · rw [if_pos h, if_pos (by exact h), List.map_map, List.map_map]
    refine List.map_congr_left fun q _ => ?_
    simp only [Function.comp]
    split <;> rfl
  · rw [if_neg h, if_neg (by exact h), List.map_append]
    rfl
theorem pv2_mem {l : List (Str × β)} {s : Str} {b : β} {q : Str × β} (h : q ∈ pv2 l s b) : q ∈ l ∨ q = (s, b) := by
  unfold pv2 at h
  split at h
  · obtain ⟨p, hp, e⟩ := List.mem_map.mp h
    split at e
    · rename_i e2
      right
      rw [← e, e2]
    · left
      rw [← e]
      exact hp
  · rcases List.mem_append.mp h with h | h
    · exact .inl h
    · right
      simpa using h
end
/-! ### every object but one stands -/
def Xb (p : Addr) (H H' : Hp) : Prop := ∀ a o, a ≠ p → H a = some o → H' a = some o
theorem Xb.refl (p : Addr) (H : Hp) : Xb p H H := fun _ _ _ h => h
theorem Xb.trans {p : Addr} {H H1 H2 : Hp} (a : Xb p H H1) (b : Xb p H1 H2) : Xb p H H2 := fun x o n h => b x o n (a x o n h)
theorem Xb.of {p : Addr} {H H1 : Hp} (e : Ex H H1) : Xb p H H1 := fun x o _ h => e x o h
theorem Xb.put {p : Addr} {H : Hp} {o : HO} : Xb p H (upd H p o) := fun x u n h => by rw [upd_ne n]; exact h
theorem Xb.ex {p : Addr} {H H1 H2 : Hp} (e : Ex H H1) (hp : H p = none) (b : Xb p H1 H2) : Ex H H2 := fun x o h => b x o (fun z => by rw [z, hp] at h; cases h) (e x o h)
theorem Xb.exT {p : Addr} {H H1 : Hp} {kvs : List (Key × V)} (hp : H p = some (.dK kvs)) (b : Xb p H H1) : ExT H H1 :=
  ⟨fun a xs h => b a _ (fun z => by rw [z, hp] at h; cases h) h, fun a o u h => b a _ (fun z => by rw [z, hp] at h; cases h) h⟩
section
variable {K : PySem.W.Frag} {H H' : Hp} {p : Addr}
/-- data stands when the dict at p is another -/
theorem sqT_xb {kvs : List (Key × V)} (hp : H p = some (.dK kvs)) (b : Xb p H H') {a : Addr} {xs : List V} (h : SqT K H a xs) : SqT K H' a xs := sqT_t (b.exT hp) h
theorem sqL_xb {kvs : List (Key × V)} (hp : H p = some (.dK kvs)) (b : Xb p H H') {a : Addr} {xs : List V} (h : SqL K H a xs) : SqL K H' a xs := by
  rcases h with (h | ⟨o, h⟩) | h
  · exact .inl (.inl (b _ _ (fun z => by rw [z, hp] at h; cases h) h))
  · exact .inl (.inr ⟨o, b _ _ (fun z => by rw [z, hp] at h; cases h) h⟩)
  · exact .inr h
mutual
theorem dp_xb {kvs : List (Key × V)} (hp : H p = some (.dK kvs)) (e : Xb p H H') : ∀ (d : PyData) (v : V), Dp K H v d → Dp K H' v d
  | .none, _, h => by cases h; exact .non
  | .bool b, _, h => by cases h; exact .bl b
  | .int i, _, h => by cases h; exact .int i
  | .str x, _, h => by cases h; exact .str x
  | .list ds, _, h => by
    cases h with
    | lst h1 h2 => exact .lst (sqL_xb hp e h1) (dpAll_xb hp e ds _ h2)
  | .tuple ds, _, h => by
    cases h with
    | tup h1 h2 => exact .tup (sqT_xb hp e h1) (dpAll_xb hp e ds _ h2)
  | .dict _, _, h => by cases h
theorem dpAll_xb {kvs : List (Key × V)} (hp : H p = some (.dK kvs)) (e : Xb p H H') : ∀ (ds : List PyData) (vs : List V), DpAll K H vs ds → DpAll K H' vs ds
  | [], _, h => by cases h; exact .nil
  | d :: ds, _, h => by
    cases h with
    | cons h1 h2 => exact .cons (dp_xb hp e d _ h1) (dpAll_xb hp e ds _ h2)
end
/-! ### a dict of things of which R tells -/
class KR {β : Type} (R : β → V → Hp → Prop) : Prop where
  ex : ∀ {b : β} {v : V} {H H' : Hp}, Ex H H' → R b v H → R b v H'
  xb : ∀ {b : β} {v : V} {H H' : Hp} {p : Addr} {kvs : List (Key × V)}, H p = some (.dK kvs) → Xb p H H' → R b v H → R b v H'
abbrev rD (K : PySem.W.Frag) : PyData → V → Hp → Prop := isD K
instance kr_data : KR (isD K) := ⟨fun {b v _ _} e h => dp_ex e b v h, fun {b v _ _ _ _} h1 h2 h => dp_xb h1 h2 b v h⟩
abbrev PrR {β : Type} (R : β → V → Hp → Prop) (H : Hp) : List (Key × V) → List (Str × β) → Prop := Paired fun kv q => kv.1 = Sum.inr q.1 ∧ R q.2 kv.2 H
def GK {β : Type} (R : β → V → Hp → Prop) (H : Hp) (p : Addr) (l : List (Str × β)) : Prop := ∃ kvs, H p = some (.dK kvs) ∧ PrR R H kvs l
abbrev DK (K : PySem.W.Frag) (H : Hp) (p : Addr) (l : List (Str × PyData)) : Prop := GK (rD K) H p l
section
variable {β : Type} {R : β → V → Hp → Prop}
theorem PrR.imp {R' : β → V → Hp → Prop} {l : List (Str × β)} {kvs : List (Key × V)} (h : PrR R H kvs l) (i : ∀ d v, R d v H → R' d v H') : PrR R' H' kvs l := by
  induction h with
  | nil => exact .nil
  | cons a _ ih => exact .cons ⟨a.1, i _ _ a.2⟩ ih
theorem PrR.val {l : List (Str × β)} {kvs : List (Key × V)} (h : PrR R H kvs l) (s : Str) : (valV kvs (Sum.inr s) = none ∧ gv l s = none) ∨ ∃ v d, valV kvs (Sum.inr s) = some v ∧ gv l s = some d ∧ R d v H := by
  induction h with
  | nil => exact .inl ⟨rfl, rfl⟩
  | @cons x y xs ys a t ih =>
    by_cases e : y.1 = s
    · right
      refine ⟨x.2, y.2, valV_pos (by rw [a.1, e]), by rw [gv_cons, if_pos e], a.2⟩
    · have e2 : ¬ x.1 = Sum.inr s := fun z => e (by rw [a.1] at z; exact Sum.inr.inj z)
      rw [valV_neg e2, gv_cons, if_neg e]
      exact ih
theorem PrR.any {l : List (Str × β)} {kvs : List (Key × V)} (h : PrR R H kvs l) (s : Str) : (kvs.any fun kv => decide (kv.1 = Sum.inr s)) = l.any fun q => decide (q.1 = s) := by
  induction h with
  | nil => rfl
  | @cons x y xs ys a t ih =>
    rw [List.any_cons, List.any_cons, ih, a.1]
    congr 1
    by_cases e : y.1 = s
    · simp [e]
    · have : ¬ (Sum.inr y.1 : Key) = Sum.inr s := fun z => e (Sum.inr.inj z)
      simp [e, this]
theorem PrR.repl {s : Str} {v : V} {d : β} (hv : R d v H) : ∀ {l : List (Str × β)} {kvs : List (Key × V)}, PrR R H kvs l → PrR R H (kvs.map fun kv => if kv.1 = Sum.inr s then (kv.1, v) else kv) (l.map fun q => if q.1 = s then (q.1, d) else q)
  | _, _, .nil => .nil
  | y :: _, x :: _, .cons a t => by
    refine .cons ?_ (PrR.repl hv t)
    dsimp only
    by_cases e : y.1 = s
    · have e2 : x.1 = Sum.inr s := by rw [a.1, e]
      rw [if_pos e2, if_pos e]
      exact ⟨by rw [e2, e], hv⟩
    · have e2 : ¬ x.1 = Sum.inr s := fun z => e (by rw [a.1] at z; exact Sum.inr.inj z)
      rw [if_neg e2, if_neg e]
      exact a
theorem PrR.snoc {s : Str} {v : V} {d : β} (hv : R d v H) : ∀ {l : List (Str × β)} {kvs : List (Key × V)}, PrR R H kvs l → PrR R H (kvs ++ [(Sum.inr s, v)]) (l ++ [(s, d)])
  | _, _, .nil => .cons ⟨rfl, hv⟩ .nil
  | _ :: _, _ :: _, .cons a t => .cons a (PrR.snoc hv t)
theorem PrR.put {l : List (Str × β)} {kvs : List (Key × V)} (h : PrR R H kvs l) {s : Str} {v : V} {d : β} (hv : R d v H) : PrR R H (putK kvs (Sum.inr s) v) (pv2 l s d) := by
  unfold putK pv2
  rw [h.any s]
  split
  · exact PrR.repl hv h
  · exact PrR.snoc hv h
theorem PrR.len {l : List (Str × β)} {kvs : List (Key × V)} (h : PrR R H kvs l) : kvs.length = l.length := by
  induction h with
  | nil => rfl
  | cons _ _ ih => rw [List.length_cons, List.length_cons, ih]
variable [KR R] {l : List (Str × β)}
theorem GK.ex (e : Ex H H') (h : GK R H p l) : GK R H' p l := by
  obtain ⟨kvs, h1, h2⟩ := h
  exact ⟨kvs, e _ _ h1, h2.imp fun d v => KR.ex e⟩
/-- another dict changes -/
theorem GK.xb {q : Addr} {kvs : List (Key × V)} (hq : H q = some (.dK kvs)) (hne : p ≠ q) (e : Xb q H H') (h : GK R H p l) : GK R H' p l := by
  obtain ⟨kvs, h1, h2⟩ := h
  exact ⟨kvs, e _ _ hne h1, h2.imp fun d v => KR.xb hq e⟩
theorem GK.put {s : Str} {v : V} {d : β} (h : GK R H p l) (hv : R d v H) (hl : l.length < 100000) : ∃ H2, DPut H p (.str s) v H2 ∧ Xb p H H2 ∧ GK R H2 p (pv2 l s d) := by
  obtain ⟨kvs, h1, h2⟩ := h
  refine ⟨_, DPut.k (k := Sum.inr s) h1 (by rw [h2.len]; exact sz_lt hl), Xb.put, _, upd_same, (h2.put hv).imp fun d v => KR.xb h1 Xb.put⟩
theorem GK.get (h : GK R H p l) (s : Str) : (DGet H p (.str s) none ∧ gv l s = none) ∨ ∃ v d, DGet H p (.str s) (some v) ∧ gv l s = some d ∧ R d v H := by
  obtain ⟨kvs, h1, h2⟩ := h
  have g := DGet.k (k := Sum.inr s) h1
  rcases h2.val s with ⟨a, b⟩ | ⟨v, d, a, b, c⟩
  · rw [a] at g
    exact .inl ⟨g, b⟩
  · rw [a] at g
    exact .inr ⟨v, d, g, b, c⟩
/-- a value that is such a dict -/
abbrev isR {β : Type} (R : β → V → Hp → Prop) (l : List (Str × β)) : V → Hp → Prop := fun v H => ∃ p, v = .ref p ∧ GK R H p l
theorem isR_mono : Mono (isR R l) := fun _ _ _ e ⟨p, h1, h2⟩ => ⟨p, h1, h2.ex e⟩
/-- a new one -/
abbrev isRN {β : Type} (R : β → V → Hp → Prop) (H0 : Hp) (l : List (Str × β)) : V → Hp → Prop := fun v H => ∃ p, v = .ref p ∧ H0 p = none ∧ GK R H p l
variable {σ : L2.St} {td ty tv tx : TE} {d : β} {s : Str} {D : Ends}
theorem p_dget (hd : EvP td σ H (isR R l)) (hy : EvD K ty σ H (.str s)) (hg : gv l s = some d) : EvP (tDGet td ty) σ H (fun v H => R d v H) := fun H1 e Q q =>
  hd H1 e _ fun x H2 e2 ⟨p, hp, hk⟩ => hy H2 (e.trans e2) _ fun y H3 e3 w => by
    obtain rfl := dp_str w
    rcases (hk.ex e3).get s with ⟨_, b⟩ | ⟨v, d', a, b, c⟩
    · rw [hg] at b; cases b
    · rw [hg] at b
      cases b
      exact ⟨p, v, hp, a, q v H3 (e2.trans e3) c⟩
theorem d_din (hy : EvD K ty σ H (.str s)) (hd : EvP td σ H (isR R l)) : EvD K (tDIn ty td) σ H (.bool (gv l s).isSome) := fun H1 e Q q =>
  hy H1 e _ fun y H2 e2 w => hd H2 (e.trans e2) _ fun x H3 e3 ⟨p, hp, hk⟩ => by
    obtain rfl := dp_str w
    rcases hk.get s with ⟨a, b⟩ | ⟨v, d', a, b, c⟩
    · rw [b] at q
      exact ⟨p, _, hp, a, q _ H3 (e2.trans e3) (.bl _)⟩
    · rw [b] at q
      exact ⟨p, _, hp, a, q _ H3 (e2.trans e3) (.bl _)⟩
theorem d_dni (hy : EvD K ty σ H (.str s)) (hd : EvP td σ H (isR R l)) : EvD K (tDNotIn ty td) σ H (.bool (!(gv l s).isSome)) := fun H1 e Q q =>
  hy H1 e _ fun y H2 e2 w => hd H2 (e.trans e2) _ fun x H3 e3 ⟨p, hp, hk⟩ => by
    obtain rfl := dp_str w
    rcases hk.get s with ⟨a, b⟩ | ⟨v, d', a, b, c⟩
    · rw [b] at q
      exact ⟨p, _, hp, a, q _ H3 (e2.trans e3) (.bl _)⟩
    · rw [b] at q
      exact ⟨p, _, hp, a, q _ H3 (e2.trans e3) (.bl _)⟩
/-- d.get(s, x) -/
theorem p_dget2 {dx : β} (hd : EvP td σ H (isR R l)) (hy : EvD K ty σ H (.str s)) (hx : EvP tx σ H (fun v H => R dx v H)) : EvP (tDGet2 td ty tx) σ H (fun v H => R ((gv l s).getD dx) v H) := fun H1 e Q q =>
  hd H1 e _ fun x H2 e2 ⟨p, hp, hk⟩ => by
    have hk' := hk
    obtain ⟨kvs, h1, _⟩ := hk'
    refine ⟨p, hp, .inl ⟨kvs, .inl h1⟩, hy H2 (e.trans e2) _ fun y H3 e3 w => hx H3 ((e.trans e2).trans e3) _ fun z H4 e4 wx => ?_⟩
    obtain rfl := dp_str w
    rcases (hk.ex (e3.trans e4)).get s with ⟨a, b⟩ | ⟨v, d', a, b, c⟩
    · rw [b] at q
      exact ⟨_, a, q _ H4 ((e2.trans e3).trans e4) wx⟩
    · rw [b] at q
      exact ⟨_, a, q _ H4 ((e2.trans e3).trans e4) c⟩
/-- p[s] = e -/
theorem s_dput (hv : EvP tv σ H (fun v H => R d v H)) (hd : EvP td σ H (fun v _ => v = .ref p)) (hy : EvD K ty σ H (.str s)) (hk : GK R H p l) (hl : l.length < 100000) (k : ∀ H', Xb p H H' → GK R H' p (pv2 l s d) → D.nx σ H') : sDPut td ty tv D σ H :=
  hv H (Ex.refl H) _ fun v H1 e1 w => hd H1 e1 _ fun x H2 e2 hx => hy H2 (e1.trans e2) _ fun y H3 e3 w2 => by
    obtain rfl := dp_str w2
    obtain ⟨H4, h1, h2, h3⟩ := (hk.ex ((e1.trans e2).trans e3)).put (s := s) (KR.ex (e2.trans e3) w) hl
    exact ⟨p, H4, hx, h1, k H4 ((Xb.of ((e1.trans e2).trans e3)).trans h2) h3⟩
/-- len(d) -/
abbrev rLenK : List V → Hp → VK → Prop := fun xs H Q => ∃ a kvs, xs = [V.ref a] ∧ H a = some (.dK kvs) ∧ Q (.int (List.length (α := Key × V) kvs)) H
theorem d_lenK (hd : EvP td σ H (isR R l)) : EvD K (tCB rLenK (tCons td tNil)) σ H (.int l.length) := fun H1 e Q q =>
  hd H1 e _ fun x H2 e2 ⟨p, hp, kvs, h1, h2⟩ => ⟨p, kvs, by rw [hp], h1, by rw [h2.len]; exact q _ H2 e2 (.int _)⟩
/-- {} -/
theorem p_new : EvP tDNewK σ H (isRN R H []) := fun H1 e Q q p hp => q _ _ (Ex.new hp) ⟨p, rfl, fresh_back e hp, [], upd_same, .nil⟩
end
/-- the same of plain data -/
abbrev isK (K : PySem.W.Frag) (l : List (Str × PyData)) : V → Hp → Prop := isR (rD K) l
abbrev isKN (K : PySem.W.Frag) (H0 : Hp) (l : List (Str × PyData)) : V → Hp → Prop := isRN (rD K) H0 l
variable {l : List (Str × PyData)} {σ : L2.St} {td ty tv tx : TE} {d : PyData} {s : Str} {D : Ends}
theorem isK_mono : Mono (isK K l) := isR_mono
theorem d_dget (hd : EvP td σ H (isK K l)) (hy : EvD K ty σ H (.str s)) (hg : gv l s = some d) : EvD K (tDGet td ty) σ H d := p_dget (R := rD K) hd hy hg
/-! ### enumerate over a tuple -/
theorem walk_enumT {a : Addr} {xs : List V} : Walk (IteT K a) xs.length (fun H => SqT K H a xs) (fun i H v H' => ∃ T x, v = .ref T ∧ H T = none ∧ H' = upd H T (.tup [.int (i : Nat), x]) ∧ xs[i]? = some x) :=
  ⟨fun i H hi h => ⟨xs, xs[i], h, by simp [hi]⟩, fun H h => ⟨xs, h, rfl⟩, fun i H v H' hi h y => by
    obtain ⟨T, x, h1, h2, h3, h4⟩ := y
    exact ⟨T, x, h1, h2, h3, h4 xs h⟩⟩
theorem w_enumT {α : Type} {m : List α} {f : α → PyData} {tl : TE} (h : EvD K tl σ H (.tuple (m.map f))) (nl : ∀ a, a ∈ m → noL (f a) = true) : WalkT (iEnumT K (tCons tl tNil)) σ H m.zipIdx (fun q x H => ∃ T x1, x = .ref T ∧ H T = some (.tup [.int (q.2 : Nat), x1]) ∧ Dp K H x1 (f q.1)) := fun H1 e Z z =>
  h H1 e _ fun v H2 e2 w => by
    obtain ⟨a, xs, rfl, hs, hx⟩ := dp_tup w
    have hl : xs.length = m.zipIdx.length := by rw [hx.len, List.length_map, List.length_zipIdx]
    refine ⟨a, xs, rfl, hs, z (IteT K a) H2 _ _ e2 (by rw [← hl]; exact walk_enumT) (fun H3 e3 => sqT_t e3 hs) fun i H3 x H4 b hb hy e3 => ?_⟩
    obtain ⟨T, x1, rfl, hT, rfl, hi⟩ := hy
    obtain ⟨d, hd, hv⟩ := hx.at_ hi
    rw [List.getElem?_zipIdx] at hb
    obtain ⟨c, hc, rfl⟩ := Option.map_eq_some_iff.mp hb
    rw [List.getElem?_map, hc] at hd
    cases hd
    refine ⟨Ex.new hT, T, x1, rfl, by rw [Nat.zero_add]; exact upd_same, dp_ex (Ex.new hT) _ _ (dp_t e3 _ _ (nl c (List.mem_of_getElem? hc)) hv)⟩
end
end K26
set_option Elab.async false
set_option linter.all false
set_option maxRecDepth 100000
set_option maxHeartbeats 2000000
/-! KSc: set comprehensions of texts, over HandS.SetBool's loop and HandS.SetKeys's sets. -/
namespace K26
open PySem PySem.Spec PyProof.Rows L2 Evl RZ PpSet
theorem setK_fresh (P : Program) (w : World) (h : Heap) : (h.push { cls := .type "set", dict := none, data := .set #[] 0 (.fresh 0 0 (!w.params.followText "set-order")) }).SetOf (mixKind P w) h.objs.size (fun _ => false) 0 :=
  ⟨_, #[], 0, _, Heap.get?_push_size _ rfl, ⟨rfl, rfl, rfl⟩, rfl, (fun e he => by simp at he), (fun k => by simp), (by decide), (by rfl), rfl⟩
section
variable {X : Cx}
theorem addK_ok {pins : List (Addr × Obj)} {σ : L2.St} {H : Hp} {s : Shared} {E : Value → Shared → Prop} {D : Addr} {S : Key → Bool} {n : Nat} {k : Key} {u : Value} {Q : Value → Shared → Prop} (I : Inv X pins σ H s) (r : RelV (kV k) u) (hD : H D = some (SetK X.prog X.w D S n)) (room : n + 1 < scanBound)
    (h : ∀ s', Inv X pins σ (upd H D (SetK X.prog X.w D (fun j => S j || decide (j = k)) (if S k = true then n else n + 1))) s' → Q .none s') : wpAny (model X.prog X.w) X.A (call (.builtin "set.add") [.ref D, u]) Q E s :=
  call_set_add (kV_is r) (key_scan r) (setK_get I hD) room fun h' sb new => by
    have he : ∃ u, h'.get? D = some u := by
      have ⟨o, _, _, _, ho, _⟩ := new
      exact ⟨o, ho⟩
    exact h _ (I.write (e := D) (t' := s.toks + 1) (by rw [hD]; trivial) (.inl rfl) (fun b u hb hu => (sb.2 b hb).trans hu) he (setK_new new))
/-- {elt for target in iter if ..}, elt an int or a text: D the new set -/
def tScK (P : Program) (w : World) (wi : TI) (g : TG) (tt : TT) (te : TE) (vs : List Nat) : TE := fun σ H Q => wi σ H fun J H1 => ∀ D, H1 D = none → ∃ W : Nat → Nat → Hp → Prop, (∃ m, W 0 m (upd H1 D (SetK P w D (fun _ => false) 0))) ∧ ∀ i m H, W i m H →
  (J.stop i H ∧ Q (.ref D) H) ∨ (J.go i H ∧ ∃ Nx : Hp → Prop, (∀ H', Nx H' → ∃ m', m' < m ∧ W (i + 1) m' H') ∧ ∀ x H', J.yld i H x H' → g x (wipe σ vs) H' fun σ2 H2 => wipe σ2 vs = wipe σ vs ∧ tt σ2 H2 fun b H3 =>
    if b = true then te σ2 H3 fun y H4 => ∃ (k : Key) (S : Key → Bool) (n : Nat), y = kV k ∧ H4 D = some (SetK P w D S n) ∧ n + 1 < scanBound ∧ Nx (upd H4 D (SetK P w D (fun j => S j || decide (j = k)) (if S k = true then n else n + 1))) else Nx H3)
theorem scK_core {pins : List (Addr × Obj)} {s : Shared} {σ : L2.St} {H : Hp} {Q : VK} {elt tg iter : Expr} {ifs : List Expr} {scope : Scope} {own : List (PySem.Str × Nat)} {pos pos' : Pos} {wi : TI} {g : TG} {tt : TT} {te : TE} {use : Option (Value → Sem Unit)} {Qf : Value → Shared → Prop}
    (hc : X.calm = true) (hN : X.N.Nodup) (I : Inv X pins σ H s) (hi : PI X tg iter wi) (ok : BlkOk X.N X.env.scope scope own)
    (hg : ∀ (s : Shared) (H : Hp) (C : Addr) (cl : List (PySem.Str × Addr)) (fp : List Addr), PG (X.blk s H scope (compEnvC scope cl C X.env) fp) tg g) (ht : ∀ (s : Shared) (H : Hp) (C : Addr) (cl : List (PySem.Str × Addr)) (fp : List Addr), PTs (X.blk s H scope (compEnvC scope cl C X.env) fp) ifs tt)
    (he : ∀ (s : Shared) (H : Hp) (C : Addr) (cl : List (PySem.Str × Addr)) (fp : List Addr), PE (X.blk s H scope (compEnvC scope cl C X.env) fp) elt te) (hs : ∀ x, foldedSetIterable iter X.env x = pure x)
    (h : tScK X.prog X.w wi g tt te (own.map (·.2)) σ H Q)
    (hRR : ∀ D C s' m H', Inv X pins σ H' s' → Q (.ref D) H' → s'.heap.Ns C m → FpOk X pins H' C → compPost (model X.prog X.w) X.A X.xe use Qf (.ref D) C (.ok .next) s') :
    wpAny (model X.prog X.w) X.A (comprehension (.SetComp elt [⟨tg, iter, ifs, 0⟩] scope pos) scope X.env pos' (newSet (.type "set")) false (eval iter X.env) use) Qf X.xe s := by
  have hfree : ∀ y ∈ scope.names, y.2 = .free → ∃ c, X.env.cells.lookup y.1 = some c := fun y hy e => by
    rcases ok.free y hy e with k | k
    · exact I.ok.has _ (.inl k)
    · exact I.ok.has _ (.inr k)
  refine wpAny_comprehension_free (use := use) rfl hs (closure_ok hfree) ok.kind (fun y hy e => by rw [ok.uniq y hy, e])
    (thn (hi.run pins s σ H _ I h) fun xv s1 hx => thn hx fun itv s2 h2 => ?_)
  obtain ⟨it, fp, tn, J, H2, e, I2, T, st2, f2, q⟩ := h2
  subst e
  refine newSet_ok (newEnv_comp ?_)
  generalize hD : s2.heap.objs.size = D
  have hDn : H2 D = none := I2.hok.fresh (Nat.le_of_eq hD)
  obtain ⟨W, ⟨m0, w0⟩, turn⟩ := q D hDn
  -- the new list
  generalize hs3 : ({ s2 with heap := s2.heap.push { cls := .type "set", dict := none, data := .set #[] 0 (.fresh 0 0 (!X.w.params.followText "set-order")) } } : Shared) = s3
  have I3 : Inv X pins σ (upd H2 D (SetK X.prog X.w D (fun _ => false) 0)) s3 := by
    rw [← hs3]
    refine I2.laid (t' := s2.toks) (fun b o e => Heap.get?_push_of_some _ e) (Nat.le_of_eq hD) ?_
    rw [← hD]
    exact setK_new (setK_fresh X.prog X.w s2.heap)
  have h3 : s3.heap = s2.heap.push { cls := .type "set", dict := none, data := .set #[] 0 (.fresh 0 0 (!X.w.params.followText "set-order")) } := by rw [← hs3]
  have sz : ∀ b ∈ fp, b < s2.heap.objs.size := fun b hb => by
    obtain ⟨o, e, _⟩ := T.obj _ _ st2 b hb
    exact Heap.lt_size e
  have f3 : ∀ b ∈ fp, FpOk X pins (upd H2 D (SetK X.prog X.w D (fun _ => false) 0)) b ∧ b < s3.heap.objs.size := fun b hb => by
    have hlt := sz b hb
    refine ⟨⟨?_, (f2 b hb).2⟩, by rw [h3, Heap.size_push]; exact Nat.lt_succ_of_lt hlt⟩
    rw [upd_ne (by rw [← hD]; exact Nat.ne_of_lt hlt)]
    exact (f2 b hb).1
  have st3 : tn 0 s3.heap := T.keep _ _ _ st2 fun b _ o e => by rw [h3]; exact Heap.get?_push_of_some _ e
  have I4 := block_start I3 ok hN f3
  have pg := hg s3 (upd H2 D (SetK X.prog X.w D (fun _ => false) 0)) s3.heap.objs.size (cellsFrom (s3.heap.objs.size + 1) scope.names (cloFrom X.env.cells scope.names [])) fp
  have pt := ht s3 (upd H2 D (SetK X.prog X.w D (fun _ => false) 0)) s3.heap.objs.size (cellsFrom (s3.heap.objs.size + 1) scope.names (cloFrom X.env.cells scope.names [])) fp
  have pe := he s3 (upd H2 D (SetK X.prog X.w D (fun _ => false) 0)) s3.heap.objs.size (cellsFrom (s3.heap.objs.size + 1) scope.names (cloFrom X.env.cells scope.names [])) fp
  show codeAny _ _ (.compStart (.SetComp elt [⟨tg, iter, ifs, 0⟩] scope pos) 0 (.ref it) (.ref D) (compEnvC scope (cellsFrom (s3.heap.objs.size + 1) scope.names (cloFrom X.env.cells scope.names [])) s3.heap.objs.size X.env)) (compPost (model X.prog X.w) X.A X.xe use Qf (.ref D) s3.heap.objs.size) { s3 with heap := pushCells (s3.heap.push { cls := .type "dict", data := .dict #[] }) scope.names }
  have nfp : ∀ b ∈ fp, (upd H2 D (SetK X.prog X.w D (fun _ => false) 0)) b = none := fun b hb => (f3 b hb).1.1
  generalize hce : compEnvC scope (cellsFrom (s3.heap.objs.size + 1) scope.names (cloFrom X.env.cells scope.names [])) s3.heap.objs.size X.env = ce at I4 pg pt pe ⊢
  have cL : ce.locals = s3.heap.objs.size := by subst hce; rfl
  generalize hH3 : upd H2 D (SetK X.prog X.w D (fun _ => false) 0) = H3 at I3 I4 pg pt pe w0 nfp f3
  generalize hs4 : ({ s3 with heap := pushCells (s3.heap.push { cls := .type "dict", data := .dict #[] }) scope.names } : Shared) = s4 at I4 ⊢
  have st4 : tn 0 s4.heap := T.keep _ _ _ st3 fun b _ o e => by rw [← hs4]; exact pushCells_keeps _ _ _ _ (Heap.get?_push_of_some _ e)
  have stat : ∀ {σ' : L2.St} {H' : Hp} {s' : Shared}, Inv (X.blk s3 H3 scope ce fp) [] σ' H' s' → (∀ b ∈ fp, H' b = none) → ∀ b ∈ fp, FpOk (X.blk s3 H3 scope ce fp) [] H' b := fun {σ' H' s'} I' hn b hb =>
    ⟨hn b hb, (I'.ok.exf b hb).1, I'.ok.exfs b hb, .inl hb, fun x c e => (I'.ok.exf b hb).2 x c e, fun p hp => absurd (show p ∈ ([] : List (Addr × Obj)) ++ [] from hp) (by simp)⟩
  have loop : codeAny (model X.prog X.w) X.A (.compLoop (.SetComp elt [⟨tg, iter, ifs, 0⟩] scope pos) 0 (.ref it) (.ref D) ce) (compPost (model X.prog X.w) X.A X.xe use Qf (.ref D) s3.heap.objs.size) s4 := by
    refine compLoopS_any (fun n s' => ∃ i H', Inv (X.blk s3 H3 scope ce fp) [] (wipe σ (own.map (·.2))) H' s' ∧ tn i s'.heap ∧ (∀ b ∈ fp, H' b = none) ∧ W i n H') ?_ m0 ⟨0, H3, I4, st4, nfp, w0⟩
    rintro n s5 ⟨i, H5, I5, st5, n5, w5⟩
    rcases turn i n H5 w5 with ⟨stop, qq⟩ | ⟨go, Nx, hNx, step⟩
    · have td := T.done (X.blk s3 H3 scope ce fp) rfl rfl rfl hc i [] s5 _ H5 (fun _ _ => False) I5 (stat I5 n5) st5 stop
      refine thnF td fun r s6 ⟨hr, I6⟩ => ?_
      subst hr
      -- back in the def's context
      have I7 : Inv X pins σ H5 s6 := I3.call' (ch := fp) I6.os I6.base I6.hok I6.bare fun b hb => ⟨(f3 b hb).1.2.2.2.1, (f3 b hb).1.2.1, (f3 b hb).1.2.2.2.2.1, (f3 b hb).1.2.2.2.2.2⟩
      have nC : H5 s3.heap.objs.size = none := by
        have z : H5 ce.locals = none := I6.free
        rw [cL] at z
        exact z
      obtain ⟨m, hn, _⟩ := I6.loc
      have hn : s6.heap.Ns ce.locals m := hn
      rw [cL] at hn
      exact hRR D s3.heap.objs.size s6 m H5 I7 qq hn (I3.fpOk (Nat.le_refl _) nC)
    · have ti := T.item (X.blk s3 H3 scope ce fp) rfl rfl rfl hc i [] s5 _ H5 (fun _ _ => False) I5 (stat I5 n5) st5 go
      refine thnF ti fun r s6 ⟨u, hr, h6⟩ => ?_
      subst hr
      refine thnF h6 fun _ s7 ⟨x, H7, I7, r7, y7, st7, n7⟩ => ?_
      have I7' := I7.pinned (stat I7 n7) (T.obj _ _ st7)
      refine thnF (pg.run _ s7 _ H7 x u _ I7' r7 (step x H7 y7)) fun _ s8 ⟨σ8, H8, I8, hw8, q8⟩ => ?_
      refine thnF (pt.run _ s8 σ8 H8 _ I8 q8) fun b s9 ⟨H9, I9, q9⟩ => ?_
      -- the turn's end
      have fin : ∀ {s' : Shared} {H' : Hp}, Inv (X.blk s3 H3 scope ce fp) ([] ++ pinsAt fp s7.heap) σ8 H' s' → Nx H' → ∃ m, m < n ∧ ∃ i H', Inv (X.blk s3 H3 scope ce fp) [] (wipe σ (own.map (·.2))) H' s' ∧ tn i s'.heap ∧ (∀ b ∈ fp, H' b = none) ∧ W i m H' := fun {s' H'} I' nx => by
        obtain ⟨m', hm, w'⟩ := hNx H' nx
        have pin' : ∀ b ∈ fp, ∀ o, s7.heap.get? b = some o → s'.heap.get? b = some o ∧ H' b = none := fun b hb o e =>
          let z := I'.pin (b, o) (List.mem_append_right _ (List.mem_append_right _ (mem_pinsAt hb e)))
          ⟨z.1, z.2.1⟩
        have hl : (wipe σ (own.map (·.2))).length = σ8.length := by rw [← hw8, wipe_length]
        refine ⟨m', hm, i + 1, H', (I'.unpinned (pins := [])).weak hl (fun j v e => ?_), T.keep _ _ _ st7 fun b hb o e => (pin' b hb o e).1, fun b hb => ?_, w'⟩
        · rw [← hw8] at e
          exact (wipe_some e).1
        · obtain ⟨o, e, _⟩ := T.obj _ _ st7 b hb
          exact (pin' b hb o e).2
      cases b with
      | false =>
        simp only [Bool.false_eq_true, if_false] at q9 ⊢
        exact fin I9 q9
      | true =>
        simp only [if_true] at q9 ⊢
        refine thnF (pe.run _ s9 σ8 H9 _ I9 q9) fun z s10 ⟨yv, H10, I10, r10, kb, S0, n0, ey, hD10, hz10, nx⟩ => ?_
        subst ey
        exact addK_ok (X := X.blk s3 H3 scope ce fp) I10 r10 hD10 hz10 fun s11 I11 => fin I11 nx
  exact codeAny_compStart_set loop (T.self X.A 0 _ _ _ st4 loop)
theorem pe_scK {elt tg iter : Expr} {ifs : List Expr} {scope : Scope} {own : List (PySem.Str × Nat)} {pos : Pos} {wi : TI} {g : TG} {tt : TT} {te : TE} (hc : X.calm = true) (hN : X.N.Nodup) (hi : PI X tg iter wi) (ok : BlkOk X.N X.env.scope scope own)
    (hg : ∀ (s : Shared) (H : Hp) (C : Addr) (cl : List (PySem.Str × Addr)) (fp : List Addr), PG (X.blk s H scope (compEnvC scope cl C X.env) fp) tg g) (ht : ∀ (s : Shared) (H : Hp) (C : Addr) (cl : List (PySem.Str × Addr)) (fp : List Addr), PTs (X.blk s H scope (compEnvC scope cl C X.env) fp) ifs tt)
    (he : ∀ (s : Shared) (H : Hp) (C : Addr) (cl : List (PySem.Str × Addr)) (fp : List Addr), PE (X.blk s H scope (compEnvC scope cl C X.env) fp) elt te) (hs : ∀ x, foldedSetIterable iter X.env x = pure x := by intro _; rfl) :
    PE X (.SetComp elt [⟨tg, iter, ifs, 0⟩] scope pos) (tScK X.prog X.w wi g tt te (own.map (·.2))) := by
  refine ⟨fun pins s σ H Q I h => ?_⟩
  rw [eval_SetComp]
  refine scK_core hc hN I hi ok hg ht he hs h fun D C s' m H' I' q hn f => ⟨m, hn, fun h'' sb => ?_⟩
  obtain ⟨f0, f1, f2, f3, f4, f5⟩ := f
  exact ⟨.ref D, H', I'.turned (t' := s'.toks) (fun b o hb e => (sb.2 b hb).trans e) f0 f1 f3 f4 f5, rfl, q⟩
/-- len(s) of a set of keys -/
def rLenSK (P : Program) (w : World) : List V → Hp → VK → Prop := fun xs H Q => ∃ a S n, xs = [V.ref a] ∧ H a = some (SetK P w a S n) ∧ Q (.int (n : Int)) H
theorem cr_lenSK : CallR X (.builtin "len") (rLenSK X.prog X.w) := by
  intro pins s σ H xs us Q I r h
  obtain ⟨a, S, n, rfl, ha, q⟩ := h
  cases r with
  | cons r1 rr =>
    cases rr
    cases r1
    obtain ⟨o, es, ep, t, ho, hx, hd, _, _, hs, hf, hn⟩ := setK_get I ha
    subst hn
    refine call_len_set ho hx hd hf (by have e : scanBound = 4096 := rfl
                                        omega) ⟨.int _, H, I.tok _, ⟨_, rfl⟩, q⟩
end
section
variable {K : PySem.W.Frag} {P : Program} {w : World} {σ : L2.St} {H H' : Hp} {te : TE} {α : Type} {l : List α} {R : α → V → Hp → Prop}
theorem setK_ne_lst {D : Addr} {S : Key → Bool} {n : Nat} {xs : List V} : SetK P w D S n ≠ .lst xs := fun z => by
  have z' : HO.ext _ = HO.lst xs := z
  cases z'
/-- len({f x for x in l}), the texts unlike -/
theorem d_lenSc {wi : TI} {g : TG} {vs : List Nat} (f : α → Str) (hw : WalkD wi σ H l R) (hl : l.length ≤ 1000) (nd : (l.map f).Nodup)
    (turn : ∀ a, a ∈ l → ∀ x H1, Ex H H1 → R a x H1 → ∃ σ2, Sets g x (wipe σ vs) H1 σ2 ∧ wipe σ2 vs = wipe σ vs ∧ EvD K te σ2 H1 (.str (f a))) :
    EvD K (tCB (rLenSK P w) (tCons (tScK P w wi g tYes te vs) tNil)) σ H (.int (l.length : Int)) := fun H1 e Q k =>
  hw H1 e _ fun J H2 G Y e2 W hG hY => fun D hD => by
    refine ⟨fun i m H' => m = l.length - i ∧ i ≤ l.length ∧ Ex H2 H' ∧ ∃ S, H' D = some (SetK P w D S i) ∧ ∀ k, S k = true ↔ ∃ x, k = Sum.inr x ∧ x ∈ (l.take i).map f,
      ⟨_, rfl, Nat.zero_le _, Ex.new hD, _, upd_same, fun k => by simp⟩, ?_⟩
    rintro i m H3 ⟨rfl, hi, e3, S, hS, hSm⟩
    have hg := hG H3 e3
    by_cases hlt : i < l.length
    · refine .inr ⟨W.goes i H3 hlt hg, fun H' => (i + 1 ≤ l.length) ∧ Ex H2 H' ∧ ∃ S, H' D = some (SetK P w D S (i + 1)) ∧ ∀ k, S k = true ↔ ∃ x, k = Sum.inr x ∧ x ∈ (l.take (i + 1)).map f,
        fun H' z => ⟨_, by omega, rfl, z.1, z.2.1, z.2.2⟩, fun x H4 hy => ?_⟩
      obtain ⟨a, ha⟩ : ∃ a, l[i]? = some a := ⟨_, List.getElem?_eq_getElem hlt⟩
      obtain ⟨e4, hr⟩ := hY i H3 x H4 a ha (W.yields i H3 x H4 hlt hg hy) e3
      obtain ⟨σ2, s1, s2, s3⟩ := turn a (List.mem_of_getElem? ha) x H4 (((e.trans e2).trans e3).trans e4) hr
      refine s1 _ ⟨s2, et_yes H4 (Ex.refl H4) _ fun H5 e5 => ?_⟩
      show te σ2 H5 _
      refine s3 H5 e5 _ fun y H6 e6 hy => ?_
      obtain rfl := dp_str hy
      have hS6 := e6 _ _ (e5 _ _ (e4 _ _ hS))
      have tk : (l.take (i + 1)).map f = (l.take i).map f ++ [f a] := by rw [List.take_add_one, ha, List.map_append]; rfl
      have hn : ¬ S (Sum.inr (f a)) = true := fun z => by
        obtain ⟨x, hx, hm⟩ := (hSm _).mp z
        cases hx
        have q : ((l.take (i + 1)).map f).Nodup := by
          rw [List.map_take]
          exact nd.sublist (List.take_sublist _ _)
        rw [tk, List.nodup_append] at q
        exact q.2.2 _ hm _ (by simp) rfl
      refine ⟨Sum.inr (f a), S, i, rfl, hS6, by have e : scanBound = 4096 := rfl
                                                omega, hlt, Ex.mut (((e3.trans e4).trans e5).trans e6) hD, _, by rw [upd_same, if_neg hn], fun k => ?_⟩
      rw [Bool.or_eq_true, hSm, decide_eq_true_eq, tk]
      constructor
      · rintro (⟨x, rfl, hx⟩ | rfl)
        · exact ⟨x, rfl, List.mem_append_left _ hx⟩
        · exact ⟨_, rfl, by simp⟩
      · rintro ⟨x, rfl, hx⟩
        rcases List.mem_append.mp hx with hx | hx
        · exact .inl ⟨x, rfl, hx⟩
        · right
          rw [List.mem_singleton.mp hx]
    · obtain rfl : i = l.length := by omega
      exact .inl ⟨W.stops H3 hg, D, S, _, rfl, hS, k _ _ (e2.trans e3) (.int _)⟩
end
end K26
set_option Elab.async false
set_option linter.all false
set_option maxRecDepth 100000
set_option maxHeartbeats 2000000
/-! KDict2: dict comprehensions over data. -/
namespace K26
open PySem PySem.Spec PyProof.Rows L2 Evl RZ
/-- pairs put one behind another -/
def kfold {β : Type} (l : List (Str × β)) : List (Str × β) := l.foldl (fun acc q => pv2 acc q.1 q.2) []
theorem kfold_snoc {β : Type} (l : List (Str × β)) (q : Str × β) : kfold (l ++ [q]) = pv2 (kfold l) q.1 q.2 := by
  unfold kfold
  rw [List.foldl_append]
  rfl
theorem pv2_new {β : Type} {l : List (Str × β)} {s : Str} {b : β} (h : s ∉ l.map (·.1)) : pv2 l s b = l ++ [(s, b)] := by
  unfold pv2
  rw [if_neg fun z => h (by
    obtain ⟨q, hq, e⟩ := List.any_eq_true.mp z
    exact List.mem_map.mpr ⟨q, hq, of_decide_eq_true e⟩)]
theorem kfold_take {β : Type} {l : List (Str × β)} (h : (l.map (·.1)).Nodup) : ∀ i, i ≤ l.length → kfold (l.take i) = l.take i
  | 0, _ => rfl
  | i + 1, hi => by
    have hl : i < l.length := by omega
    have tk : l.take (i + 1) = l.take i ++ [l[i]] := by rw [List.take_add_one]; simp [hl]
    rw [tk, kfold_snoc, kfold_take h i (by omega), pv2_new]
    intro z
    have q : ((l.take (i + 1)).map (·.1)).Nodup := by
      rw [List.map_take]
      exact h.sublist (List.take_sublist _ _)
    rw [tk, List.map_append, List.nodup_append] at q
    exact q.2.2 _ z _ (by simp) rfl
theorem kfold_nodup {β : Type} {l : List (Str × β)} (h : (l.map (·.1)).Nodup) : kfold l = l := by
  have := kfold_take h l.length (Nat.le_refl _)
  rwa [List.take_length] at this
theorem kfold_len {β : Type} (l : List (Str × β)) : ∀ i, (kfold (l.take i)).length ≤ i := by
  intro i
  have key : ∀ (m acc : List (Str × β)), (m.foldl (fun acc q => pv2 acc q.1 q.2) acc).length ≤ acc.length + m.length := by
    intro m
    induction m with
    | nil => intro acc; simp
    | cons q m ih =>
      intro acc
      rw [List.foldl_cons]
      have := ih (pv2 acc q.1 q.2)
      have := pv2_len (l := acc) (s := q.1) (b := q.2)
      rw [List.length_cons]
      omega
  have := key (l.take i) []
  rw [List.length_take] at this
  unfold kfold
  simp at this
  omega
section
variable {K : PySem.W.Frag} {σ : L2.St} {H H' : Hp} {tk tv : TE} {α : Type} {l : List α} {R : α → V → Hp → Prop}
/-- {f a: q a for a in l} -/
theorem k_dc {wi : TI} {g : TG} {vs : List Nat} (hw : WalkD wi σ H l R) (hl : l.length ≤ 50000) (f : α → Str) (q : α → PyData)
    (turn : ∀ a, a ∈ l → ∀ x H1, Ex H H1 → R a x H1 → ∃ σ2, Sets g x (wipe σ vs) H1 σ2 ∧ wipe σ2 vs = wipe σ vs ∧ EvD K tk σ2 H1 (.str (f a)) ∧ EvD K tv σ2 H1 (q a)) :
    EvP (tDc wi g tYes tk tv vs) σ H (isKN K H (kfold (l.map fun a => (f a, q a)))) := fun H1 e Q k =>
  hw H1 e _ fun J H2 G Y e2 W hG hY => fun D hD => by
    refine ⟨fun i m H' => m = l.length - i ∧ i ≤ l.length ∧ Ex H2 H' ∧ DK K H' D (kfold ((l.map fun a => (f a, q a)).take i)), ⟨_, rfl, Nat.zero_le _, Ex.new hD, [], upd_same, .nil⟩, ?_⟩
    rintro i m H3 ⟨rfl, hi, e3, hd⟩
    have hg := hG H3 e3
    by_cases hlt : i < l.length
    · refine .inr ⟨W.goes i H3 hlt hg, fun H' => i + 1 ≤ l.length ∧ Ex H2 H' ∧ DK K H' D (kfold ((l.map fun a => (f a, q a)).take (i + 1))), fun H' z => ⟨_, by omega, rfl, z.1, z.2.1, z.2.2⟩, fun x H4 hy => ?_⟩
      obtain ⟨a, ha⟩ : ∃ a, l[i]? = some a := ⟨_, List.getElem?_eq_getElem hlt⟩
      obtain ⟨e4, hr⟩ := hY i H3 x H4 a ha (W.yields i H3 x H4 hlt hg hy) e3
      obtain ⟨σ2, s1, s2, s3, s4⟩ := turn a (List.mem_of_getElem? ha) x H4 (((e.trans e2).trans e3).trans e4) hr
      refine s1 _ ⟨s2, et_yes H4 (Ex.refl H4) _ fun H5 e5 => ?_⟩
      show tk σ2 H5 _
      refine s3 H5 e5 _ fun y H6 e6 hy => s4 H6 (e5.trans e6) _ fun z H7 e7 hz => ?_
      obtain rfl := dp_str hy
      have hd7 := hd.ex (((e4.trans e5).trans e6).trans e7)
      obtain ⟨kvs, h1, h2⟩ := hd7
      have hlen : kvs.length ≤ i := by
        rw [h2.len]
        exact kfold_len _ i
      refine ⟨kvs, Sum.inr (f a), rfl, h1, sz_lt (by omega), hlt, Ex.mut ((((e3.trans e4).trans e5).trans e6).trans e7) hD, ?_⟩
      have tk : (l.map fun a => (f a, q a)).take (i + 1) = (l.map fun a => (f a, q a)).take i ++ [(f a, q a)] := by
        rw [List.take_add_one, List.getElem?_map, ha]
        rfl
      rw [tk, kfold_snoc]
      exact ⟨_, upd_same, PrR.imp (PrR.put h2 hz) fun d v => dp_xb h1 Xb.put d v⟩
    · obtain rfl : i = l.length := by omega
      refine .inl ⟨W.stops H3 hg, k _ _ (e2.trans e3) ⟨D, rfl, fresh_back e (fresh_back e2 hD), ?_⟩⟩
      have z : (l.map fun a => (f a, q a)).take l.length = l.map fun a => (f a, q a) := List.take_of_length_le (by rw [List.length_map]; exact Nat.le_refl _)
      rw [z] at hd
      exact hd
end
end K26
set_option Elab.async false
set_option linter.all false
set_option maxRecDepth 100000
set_option maxHeartbeats 2000000
/-! KD5: slices of tuples, calls that give dicts, sums. -/
namespace K26
open PySem PySem.Spec PyProof.Rows L2 Evl RZ
theorem slT (K : PySem.W.Frag) {X : Cx} (h : X.K = K := by rfl) : SlR X (rSlA K) := h ▸ sl_tupA
theorem catT (K : PySem.W.Frag) {X : Cx} (h : X.K = K := by rfl) : OpR X (binaryOp .Add) (rCatA K) := h ▸ op_catA
section
variable {K : PySem.W.Frag} {σ : L2.St} {H H' : Hp} {ta tb tc te : TE} {tl th : TO} {d e : PyData} {ds es : List PyData}
/-- a part of a slice -/
def EvO2 (to : TO) (σ : L2.St) (H : Hp) (o : Option Int) : Prop := ∀ H1, Ex H H1 → ∀ Q : Option Int → Hp → Prop, (∀ H2, Ex H1 H2 → Q o H2) → to σ H1 Q
theorem o_none : EvO2 tNoPart σ H none := fun H1 _ _ q => q H1 (Ex.refl H1)
theorem o_some {i : Int} (h : EvD K te σ H (.int i)) : EvO2 (tPart te) σ H (some i) := fun H1 e _ q => h H1 e _ fun v H2 e2 w => ⟨i, dp_int w, q H2 e2⟩
def cutD (xs : List PyData) (lo hi : Option Int) : List PyData := (xs.drop (HT.sIx xs.length 0 lo)).take (HT.sIx xs.length xs.length hi - HT.sIx xs.length 0 lo)
theorem d_sl {lo hi : Option Int} (h : EvD K te σ H (.tuple ds)) (h1 : EvO2 tl σ H lo) (h2 : EvO2 th σ H hi) : EvD K (tSl (rSlA K) te tl th) σ H (.tuple (cutD ds lo hi)) := fun H1 e Q q =>
  h H1 e _ fun v H2 e2 w => h1 H2 (e.trans e2) _ fun H3 e3 => h2 H3 ((e.trans e2).trans e3) _ fun H4 e4 => by
    have w := dp_ex (e3.trans e4) _ _ w
    obtain ⟨a, xs, rfl, hs, hx⟩ := dp_tup w
    have hl := hx.len
    refine ⟨a, xs, rfl, hs, fun z => ?_, fun z p hp => ?_⟩
    · refine q _ H4 ((e2.trans e3).trans e4) ?_
      have e : cutD ds lo hi = ds := by
        unfold cutD
        rw [← hl, z.1, z.2, List.drop_zero, Nat.sub_zero, hl, List.take_length]
      rw [e]
      exact .tup hs hx
    · refine q _ _ (((e2.trans e3).trans e4).trans (Ex.new hp)) (.tup (st_of upd_same) (dpAll_ex (Ex.new hp) _ _ ?_))
      unfold cutV cutD
      rw [hl]
      exact DpAll.take_ _ (DpAll.drop_ _ hx)
/-- t[1:], t[:k] -/
theorem d_tail (h : EvD K te σ H (.tuple ds)) : EvD K (tSl (rSlA K) te (tPart (tC (.int 1))) tNoPart) σ H (.tuple ds.tail) := by
  have z := d_sl h (o_some (K := K) (d_int (i := 1))) o_none
  have e : cutD ds (some 1) none = ds.tail := by
    unfold cutD
    rw [HT.sIx_none]
    cases ds with
    | nil => rfl
    | cons a l =>
      have : HT.sIx (a :: l).length 0 (some 1) = 1 := by
        have := HT.sIx_nat (a :: l).length 0 1
        rw [show ((1 : Nat) : Int) = 1 from rfl] at this
        rw [this, List.length_cons]
        omega
      rw [this, List.drop_one, List.tail_cons, List.length_cons, Nat.add_sub_cancel, List.take_length]
  rw [e] at z
  exact z
theorem d_take {k : Nat} (h : EvD K te σ H (.tuple ds)) (hk : EvD K ta σ H (.int (k : Int))) (hl : k ≤ ds.length) : EvD K (tSl (rSlA K) te tNoPart (tPart ta)) σ H (.tuple (ds.take k)) := by
  have z := d_sl h o_none (o_some hk)
  have e : cutD ds none (some (k : Int)) = ds.take k := by
    unfold cutD
    rw [HT.sIx_none, HT.sIx_nat, List.drop_zero, Nat.sub_zero, Nat.min_eq_left hl]
  rw [e] at z
  exact z
/-- a call that gives a new dict -/
def SpK (K : PySem.W.Frag) (f : List PyData → List (Str × PyData) → Prop) : Sp := fun vs H Q _ => ∃ ds l, DpAll K H vs ds ∧ f ds l ∧ ∀ v H', Ex H H' → isKN K H l v H' → Q v H'
theorem k_call {ta : TA} {f : List PyData → List (Str × PyData) → Prop} {l : List (Str × PyData)} {E : XK} (h : EvDs K ta σ H ds) (hf : f ds l) : EvP (tCall (SpK K f) [] E ta) σ H (isKN K H l) := fun H1 e Q q =>
  h H1 e _ fun vs H2 e2 ws => by
    show SpK K f (vs ++ []) H2 Q E
    rw [List.append_nil]
    refine ⟨ds, l, ws, hf, fun v H3 e3 ⟨p, h1, h2, h3⟩ => q v H3 (e2.trans e3) ⟨p, h1, fresh_back (e.trans e2) h2, h3⟩⟩
theorem EvP.kd {l : List (Str × PyData)} (h : EvP te σ H (isKN K H l)) : EvP te σ H (isK K l) := h.imp fun _ _ _ ⟨p, h1, _, h3⟩ => ⟨p, h1, h3⟩
theorem isKN_mono {H0 : Hp} {l : List (Str × PyData)} : Mono (isKN K H0 l) := fun _ _ _ e ⟨p, h1, h2, h3⟩ => ⟨p, h1, h2, h3.ex e⟩
theorem spK_len {f : List PyData → List (Str × PyData) → Prop} {vs : List V} {Q : VK} {E : XK} {n : Nat} (hf : ∀ ds d, f ds d → ds.length = n) (h : SpK K f vs H Q E) : vs.length = n := by
  obtain ⟨ds, d, h1, h2, _⟩ := h
  rw [h1.len]
  exact hf ds d h2
/-- sum([f a for a in l]) -/
theorem d_sumI {α : Type} {l : List α} {R : α → V → Hp → Prop} {wi : TI} {g : TG} {vs : List Nat} (f : α → Int) (hw : WalkD wi σ H l R) (hl : l.length ≤ 50000)
    (turn : ∀ a, a ∈ l → ∀ x H1, Ex H H1 → R a x H1 → ∃ σ2, Sets g x (wipe σ vs) H1 σ2 ∧ wipe σ2 vs = wipe σ vs ∧ EvD K te σ2 H1 (.int (f a))) : EvD K (tCB (rSum K) (tCons (tLc wi g tYes te vs) tNil)) σ H (.int (l.map f).sum) :=
  d_sum (ns := l.map f) (EvN.data (n_is (n_lcA hw hl (fun a => .int (f a)) (fun _ _ => rfl) turn) (by rw [List.map_map]; rfl)))
/-- t + u, one after another -/
theorem d_catA (ha : EvD K ta σ H (.tuple ds)) (hb : EvD K tb σ H (.tuple es)) (hl : ds.length + es.length ≤ 100000) : EvD K (tOp (rCatA K) ta tb) σ H (.tuple (ds ++ es)) := d_cat ha hb hl
end
end K26
set_option Elab.async false
set_option linter.all false
set_option maxRecDepth 100000
set_option maxHeartbeats 2000000
/-! KExc: the program's exceptions: StyleError.__init__(self, text), made and raised. -/
namespace K26
open PySem PySem.Spec PyProof.Rows L2 Evl
/-- what the written part says of the class whose __init__ is read off it -/
structure SeC (K : PySem.W.Frag) (S : Addr) : Prop where
  ga : PySem.W.specialIn K (.ref S) "__getattribute__" = some (some (.builtin "type.__getattribute__"))
  rd : PySem.W.readsIn K S (.type "type") = true
  fc : PySem.W.findCls K (.ref S) (.type "type") "__init__" = some (.val (.builtin "ValueError.__init__"))
section
variable {X : Cx} {e : Expr} {es : List Expr} {ta : TA} {p1 p2 pos : Pos} {S : Addr}
theorem pe_seinit {pl : Sem Bool} (hg : Gl X "StyleError") (hm : X.mg "StyleError" = some (.ref S)) (vS : SeC X.K S) (ha : PA X (e :: es) ta)
    (hc : eval (.Call (.Attribute (.Name "StyleError" p1) "__init__" p2) (e :: es) [] pos) X.env = (do
      let ov ← eval (.Name "StyleError" p1) X.env
      standAt p2.atName
      let (f, first) ← holding [ov] (getMethod ov "__init__" pl)
      callWith pos f first (backTo pos (starEach (e :: es) X.env)) (backToKw pos (keywordEach [] X.env))) := by rfl)
    (he : starEach (e :: es) X.env = (false, eval e X.env) :: starEach es X.env := by rfl) (hpl : (backTo pos (starEach es X.env)).any (·.1) = false := by rfl) :
    PE X (.Call (.Attribute (.Name "StyleError" p1) "__init__" p2) (e :: es) [] pos) (tVeI X.K ta) := by
  refine ⟨fun pins s σ H Q I h => ?_⟩
  refine PySem.W.methodCall_KW (ld_glob I hg hm ?_ (by decide)) hc
  refine PySem.W.method_cls I.kIn vS.ga (PySem.W.cls_value I.kIn vS.rd vS.fc (by decide +kernel) ?_)
  show wpAny _ _ (callWith pos (Value.builtin "ValueError.__init__") [] (backTo pos (starEach (e :: es) X.env)) []) _ _ _
  refine PyProof.Rows.callWith_method1 (thn (ha.run pos pins _ σ H _ (I.tok _) h) fun us s1 ⟨vs, H1, I1, r1, a, C, ws, ev, hl, T, ea, q⟩ => ?_) he hpl
  subst ev
  cases r1 with
  | @cons _ u0 _ ur ra rw' =>
    obtain rfl : u0 = Value.ref a := ra
    have hlen : ur.length ≤ sizeLine := by
      rw [← Paired.length rw', sizeLine_eq]
      omega
    exact oinit_ok T I1 ea hlen fun s' J => ⟨.non, H1, J, rfl, q⟩
end
/-- raise e -/
def tRs (t : L2.St → Hp → XK → Prop) (W : WX) : TS := fun _ σ H => t σ H fun cls d H' => W cls d σ H'
theorem psRaise {X : Cx} {W : WX} {e : Expr} {t : L2.St → Hp → XK → Prop} {pos : Pos} (hc : X.calm = true) (tk : Takes X W) (he : PMk X e t) : PS X (.Raise (some e) none pos) (tRs t W) := ps_raise hc tk he
/-- what an own __init__(self, x) of these does: the one field is laid -/
def spIni (K : PySem.W.Frag) (C : Addr) (fld : Str) : Sp := fun vs H Q _ => ∃ (a : Addr) (v : V), vs = [.ref a, v] ∧ OexC K C ∧ PySem.W.findIn K (.ref C) fld = some none ∧ H a = some (exo a C none) ∧
  ∀ dx, H dx = none → dx ≠ a → Q .non (upd (upd H dx (exd dx [(fld, v)])) a (exo a C (some dx)))
section
variable {P : Program} {w : World} {K : PySem.W.Frag} {mg : Str → Option Value} {base : Heap} {S : Addr}
theorem ok_ini1 {q : Str} (Y : XX K mg "BadWishes" q "given" s_BadWishes_init) (hS : mg "StyleError" = some (.ref S)) (vS : SeC K S) : FnOk P w K mg base CX0 1 Y.f Y.fd ["self", "given"] (spIni K Y.C "given") := by
  refine Y.F.ok sc_BadWishes_init (fun vs H Q E h => by obtain ⟨a, v, rfl, _⟩ := h; rfl) (fun cdv A outer s H vs Q E hr h => ?_)
  refine ⟨_, PSs.nox (pss_cons (ps_expr (pe_seinit rfl hS vS (pa_cons (pv 0) (pa_cons pe_str pa_nil)))) (pss_one (ps_ost (pv 0) (pv 1)))), ?_⟩
  obtain ⟨a, v, rfl, hC, hf, ha, hQ⟩ := h
  exact ⟨_, rfl, a, Y.C, _, rfl, by decide, hC, ha, _, rfl, _, rfl, a, Y.C, rfl, hC, hf, .inl ⟨ha, hQ⟩⟩
theorem ok_ini2 {q : Str} (Y : XX K mg "TooMany" q "most" s_TooMany_init) (hS : mg "StyleError" = some (.ref S)) (vS : SeC K S) : FnOk P w K mg base CX0 1 Y.f Y.fd ["self", "most"] (spIni K Y.C "most") := by
  refine Y.F.ok sc_TooMany_init (fun vs H Q E h => by obtain ⟨a, v, rfl, _⟩ := h; rfl) (fun cdv A outer s H vs Q E hr h => ?_)
  refine ⟨_, PSs.nox (pss_cons (ps_expr (pe_seinit rfl hS vS (pa_cons (pv 0) (pa_cons pe_str pa_nil)))) (pss_one (ps_ost (pv 0) (pv 1)))), ?_⟩
  obtain ⟨a, v, rfl, hC, hf, ha, hQ⟩ := h
  exact ⟨_, rfl, a, Y.C, _, rfl, by decide, hC, ha, _, rfl, _, rfl, a, Y.C, rfl, hC, hf, .inl ⟨ha, hQ⟩⟩
end
/-- X(e): what its making leaves: the error's own dict, new -/
theorem mkO_of {K : PySem.W.Frag} {C : Addr} {fld : Str} {te : TE} {σ : L2.St} {H : Hp} {Q : XK} {v0 : V} (hC : OexC K C) (hf : PySem.W.findIn K (.ref C) fld = some none) (hv : ∀ Q', (∀ H1, Ex H H1 → Q' v0 H1) → te σ H Q')
    (h : ∀ d H', H d = none → Ex H H' → H' d = some (.xd [(fld, v0)]) → Q (.ref C) (some d) H') : tMkO C (spIni K C fld) [] (tCons te tNil) σ H Q := by
  refine hv _ fun H1 e => ⟨by show (1 : Nat) ≤ 1000; decide, fun a ha => ⟨a, v0, rfl, hC, hf, upd_same, fun dx hdx hne => ⟨rfl, dx, [(fld, v0)], upd_same, by rw [upd_ne hne, upd_same], ?_, ?_⟩⟩⟩
  · rw [upd_ne hne] at hdx
    exact hdx
  · have hd1 : H1 dx = none := by
      rw [upd_ne hne] at hdx
      exact hdx
    refine h dx _ (fresh_back e hd1) ?_ upd_same
    intro b o hb
    have hb1 := e b o hb
    have nb : b ≠ dx := fun z => by rw [z, hd1] at hb1; cases hb1
    have na : b ≠ a := fun z => by rw [z, ha] at hb1; cases hb1
    rw [upd_ne nb, del_ne na, upd_ne na, upd_ne nb, upd_ne na]
    exact hb1
end K26
set_option Elab.async false
set_option linter.all false
set_option maxRecDepth 100000
set_option maxHeartbeats 2000000
/-! KW1: words, marks, codes: each test's promise where it answers True. -/
namespace K26
open PySem PySem.Spec PyProof.Rows L2 Evl
/-- a text of one to eight of some signs -/
def OfOk (z x : Str) : Prop := 1 ≤ x.length ∧ x.length ≤ 8 ∧ ∀ c ∈ x.cps.toList, c ∈ z.cps.toList
def letters : Str := "abcdefghijklmnopqrstuvwxyz"
def figs : Str := "0123456789;"
def Mark (x : Str) : Prop := OfOk letters x
def Word (x : Str) : Prop := OfOk figs x ∧ x.cps.toList[0]? ≠ some 59 ∧ x.cps.toList.getLast? ≠ some 59
abbrev sCp (x : Str) : List Nat := x.cps.toList
/-- ascending and unlike -/
def Rising (xs : List Str) : Prop := ∀ i x y, xs[i]? = some x → xs[i + 1]? = some y → sCp x < sCp y
abbrev ePair (p : Str × Str) : PyData := .tuple [.str p.1, .str p.2]
abbrev eStrs (xs : List Str) : PyData := .tuple (xs.map PyData.str)
abbrev eCh (c : List (Str × Str)) : PyData := .tuple (c.map ePair)
abbrev Code := Str × Str × List (Str × Str)
abbrev eCode (c : Code) : PyData := .tuple [.str c.1, .str c.2.1, eCh c.2.2]
structure GivesOk (g : List (Str × Str)) : Prop where
  ne : g ≠ []
  few : g.length ≤ 100
  marks : ∀ p ∈ g, Mark p.1 ∧ Mark p.2
  rise : Rising (g.map (·.1))
structure CodeOk (c : Code) : Prop where
  word : Word c.1
  kind : Mark c.2.1
  gives : GivesOk c.2.2
abbrev pOf : List PyData → PyData → Prop := fun ds d => ∃ x z, ds = [.str x, .str z] ∧ OfOk z x ∧ d = .bool true
abbrev pMark : List PyData → PyData → Prop := fun ds d => ∃ x, ds = [.str x] ∧ Mark x ∧ d = .bool true
abbrev pWord : List PyData → PyData → Prop := fun ds d => ∃ x, ds = [.str x] ∧ Word x ∧ d = .bool true
abbrev pRise : List PyData → PyData → Prop := fun ds d => ∃ xs : List Str, (ds = [eStrs xs] ∨ ds = [.list (xs.map PyData.str)]) ∧ Rising xs ∧ xs.length ≤ 1000 ∧ d = .bool true
abbrev pMarks : List PyData → PyData → Prop := fun ds d => ∃ xs : List Str, ds = [eStrs xs] ∧ (∀ x ∈ xs, Mark x) ∧ Rising xs ∧ xs.length ≤ 1000 ∧ d = .bool true
abbrev pGives : List PyData → PyData → Prop := fun ds d => ∃ g, ds = [eCh g] ∧ GivesOk g ∧ d = .bool true
abbrev pCode : List PyData → PyData → Prop := fun ds d => ∃ c, ds = [eCode c] ∧ CodeOk c ∧ d = .bool true
theorem noL_strs (xs : List Str) : noLs (xs.map PyData.str) = true := noLs_map fun _ _ => rfl
theorem noL_pairs (c : List (Str × Str)) : noLs (c.map ePair) = true := noLs_map fun _ _ => rfl
section
variable {P : Program} {w : World} {K : PySem.W.Frag} {mg : Str → Option Value} {base : Heap}
theorem ok_is_of (T : TX K mg) : FnOk P w K mg base CX0 1 T.is_of.f T.is_of.fd ["thing", "signs"] (SpD K pOf) := by
  obtain ⟨t8, i8⟩ := T.i_MOST_SIGNS
  refine T.is_of.F.ok sc_is_of (fun vs H Q E h => spD_len (n := 2) (fun ds d ⟨x, z, e, _⟩ => by rw [e]; rfl) h) (fun cdv A outer s H vs Q E hr h => ?_)
  refine ⟨_, PSs.nox (pss_cons (ps_if (PW.pt (pw_or (pt_not (pt_val (qIsS K T.b_isinstance T.b_str (pv 0))))
        (pw_or1 (pt_not (pt_chain op_le op_le pe_int (qLen K T.b_len (pv 0)) (pe_glob rfl i8 (v := .int 8) ⟨_, rfl⟩))))))
        (pss_one ps_never) pss_nil)
      (pss_one (ps_ret (qAll K T.b_all rfl (pe_lc (own := [("sign", 2)]) (g := gName 2) (tt := tYes) rfl sc_is_of.nd (pi_str (pv 0))
        (blkOk_by (N := ["thing", "signs", "sign"]) (sc := defScope s_is_of) (by decide +kernel)) (fun _ _ _ _ _ => pg_name (i := 2) sc_is_of.nd rfl (Or.inl rfl)) (fun _ _ _ _ _ => pts_nil)
        (fun _ _ _ _ _ => pe_cmpR op_in_sign (pv 2) (pv 1) rfl)))))), ?_⟩
  obtain ⟨ds, d, hd, ⟨x, z, rfl, ⟨o1, o2, o3⟩, rfl⟩, hQ⟩ := h
  obtain ⟨u, v, rfl, h1, h2⟩ := dp2 hd
  have hl : x.cps.toList.length ≤ 50000 := by have : x.cps.toList.length = x.length := by simp [Str.length]
                                              omega
  refine s_ifF (tt_orF (tt_notT (tt_B (d_isS (d_var (i := 0) rfl h1)))) (tt_notT (tt_of (d_is (d_chain (a := true) (b := true) d_int (d_lenS (d_var (i := 0) rfl h1) (by omega)) d_int ?_ ?_) rfl)))) fun H1 e => ?_
  · show V.bl (decide ((1 : Int) ≤ (x.length : Int))) = V.bl true
    rw [decide_eq_true (by omega)]
  · show V.bl (decide ((x.length : Int) ≤ 8)) = V.bl true
    simp
    omega
  · refine s_retP (d_allT (w_str (d_var (i := 0) rfl (dp_ex e _ _ h1))) hl fun c hc y H2 e2 hy => ⟨_, g_name, rfl, ?_⟩) fun v H2 e2 w => hQ v H2 (e.trans e2) w
    subst hy
    exact d_is (d_sg (c := c) (d_var (i := 2) rfl (.str _)) (d_var (i := 1) rfl (dp_ex (e.trans e2) _ _ h2))) (by simp [o3 c hc])
theorem ok_is_mark (T : TX K mg) : FnOk P w K mg base CX0 2 T.is_mark.f T.is_mark.fd ["thing"] (SpD K pMark) := by
  obtain ⟨t8, i8⟩ := T.t_LETTERS
  refine T.is_mark.F.ok sc_is_mark (fun vs H Q E h => spD_len (n := 1) (fun ds d ⟨x, e, _⟩ => by rw [e]; rfl) h) (fun cdv A outer s H vs Q E hr h => ?_)
  refine ⟨_, PSs.nox (pss_one (ps_ret (pe_call (ok_is_of T) hr rfl T.is_of.g T.is_of.F.kp (bd_is_of T.is_of.F) .nil pass0 (pa_cons (pv 0) (pa_cons (pe_glob rfl i8 (v := .str letters) ⟨_, rfl⟩) pa_nil))))), ?_⟩
  obtain ⟨ds, d, hd, ⟨x, rfl, o, rfl⟩, hQ⟩ := h
  obtain ⟨u, rfl, h1⟩ := dp1 hd
  exact s_retP (d_call (ds_cons (d_var (i := 0) rfl h1) (ds_cons (d_str (x := letters)) ds_nil)) ⟨x, letters, rfl, o, rfl⟩) hQ
theorem last_atI {x : Str} {c : Nat} (h : x.cps.toList.getLast? = some c) : atI x.cps.toList (-1) = some c := by
  unfold atI ixN
  rw [List.getLast?_eq_getElem?] at h
  have hn : x.cps.toList.length ≠ 0 := by
    intro z
    rw [List.length_eq_zero_iff] at z
    rw [z] at h
    cases h
  simp only [show ¬ (0 : Int) ≤ -1 by decide, if_false]
  rw [if_pos (by omega)]
  simp only [Option.bind_some]
  rw [show ((-1 : Int) + (x.cps.toList.length : Int)).toNat = x.cps.toList.length - 1 by omega]
  exact h
theorem ok_is_word (T : TX K mg) : FnOk P w K mg base CX0 2 T.is_word.f T.is_word.fd ["thing"] (SpD K pWord) := by
  obtain ⟨tf, iF⟩ := T.t_FIGURES
  obtain ⟨tp, iP⟩ := T.t_PART
  refine T.is_word.F.ok sc_is_word (fun vs H Q E h => spD_len (n := 1) (fun ds d ⟨x, e, _⟩ => by rw [e]; rfl) h) (fun cdv A outer s H vs Q E hr h => ?_)
  refine ⟨_, PSs.nox (pss_one (ps_ret (pe_and (pe_call (ok_is_of T) hr rfl T.is_of.g T.is_of.F.kp (bd_is_of T.is_of.F) .nil pass0 (pa_cons (pv 0) (pa_cons (pe_op op_add_str (pe_glob rfl iF (v := .str "0123456789") ⟨_, rfl⟩) (pe_glob rfl iP (v := .str ";") ⟨_, rfl⟩)) pa_nil)))
    (pe_and (pe_cmpR op_ne (pe_ix ix_str (pv 0) pe_int (fun _ _ => rfl)) (pe_glob rfl iP (v := .str ";") ⟨_, rfl⟩) (nomark _))
      (pe_one (pe_cmpR op_ne (pe_ix ix_str (pv 0) (pe_un un_neg pe_int) (fun _ _ => rfl)) (pe_glob rfl iP (v := .str ";") ⟨_, rfl⟩) (nomark _))))))), ?_⟩
  obtain ⟨ds, d, hd, ⟨x, rfl, ⟨o, h0, hz⟩, rfl⟩, hQ⟩ := h
  obtain ⟨u, rfl, h1⟩ := dp1 hd
  obtain ⟨o1, o2, o3⟩ := o
  have hlen : x.cps.toList.length = x.length := by simp [Str.length]
  obtain ⟨c0, e0⟩ : ∃ c, x.cps.toList[0]? = some c := ⟨_, List.getElem?_eq_getElem (by omega)⟩
  obtain ⟨cz, ez⟩ : ∃ c, x.cps.toList.getLast? = some c := by
    rw [List.getLast?_eq_getElem?]
    exact ⟨_, List.getElem?_eq_getElem (by omega)⟩
  have ne : ∀ {c : Nat}, c ≠ 59 → (!decide ((⟨#[c]⟩ : Str) = (";" : Str))) = true := fun {c} h => by
    have : ¬ (⟨#[c]⟩ : Str) = (";" : Str) := fun z => h (by
      have e : (";" : Str) = ⟨#[59]⟩ := by decide +kernel
      rw [e] at z
      simpa using z)
    simp [this]
  have dv : EvD K (tVar 0) (L2.start ["thing"] [u]) H (.str x) := d_var (i := 0) rfl h1
  refine s_retP (d_andT (d_call (ds_cons dv (ds_cons (d_catS (a := "0123456789") (b := ";") (fun H Q q => ⟨_, _, rfl, rfl, by decide, q⟩) d_str d_str) ds_nil)) ⟨x, _, rfl, ⟨o1, o2, ?_⟩, rfl⟩)
    (d_andT (d_is (d_neT (d_ixS (c := c0) dv d_int (by omega) (atI_of (j := 0) e0)) d_str) ?_) (d_is (d_neT (d_ixS (c := cz) dv (d_neg d_int) (by omega) (last_atI ez)) d_str) ?_))) hQ
  · have e : ("0123456789" : Str) ++ (";" : Str) = figs := by decide +kernel
    rw [e]
    exact o3
  · rw [ne fun z => h0 (by rw [e0, z])]
  · rw [ne fun z => hz (by rw [ez, z])]
theorem rise_lt {xs : List Str} (h : Rising xs) {i : Nat} (hi : i < ((xs.length : Int) - 1).toNat) : ∃ x y, xs[i]? = some x ∧ xs[i + 1]? = some y ∧ decide (x.cps.toList < y.cps.toList) = true := by
  have h1 : i < xs.length := by omega
  have h2 : i + 1 < xs.length := by omega
  exact ⟨xs[i], xs[i + 1], by simp [h1], by simp [h2], decide_eq_true (h i _ _ (by simp [h1]) (by simp [h2]))⟩
theorem ok_are_rising (T : TX K mg) : FnOk P w K mg base CX0 1 T.are_rising.f T.are_rising.fd ["things"] (SpD K pRise) := by
  refine T.are_rising.F.ok sc_are_rising (fun vs H Q E h => spD_len (n := 1) (fun ds d ⟨x, e, _⟩ => by rcases e with e | e <;> (rw [e]; rfl)) h) (fun cdv A outer s H vs Q E hr h => ?_)
  refine ⟨_, PSs.nox (pss_one (ps_ret (qAll K T.b_all rfl (pe_lc (own := [("at", 1)]) (g := gName 1) (tt := tYes) rfl sc_are_rising.nd (pi_range1 rfl T.b_range (pa_cons (pe_op op_sub (qLen K T.b_len (pv 0)) pe_int) pa_nil))
        (blkOk_by (N := ["things", "at"]) (sc := defScope s_are_rising) (by decide +kernel)) (fun _ _ _ _ _ => pg_name (i := 1) sc_are_rising.nd rfl (Or.inl rfl)) (fun _ _ _ _ _ => pts_nil)
        (fun _ _ _ _ _ => pe_cmpR op_lt_str (pe_ix (ixQ K) (pv 0) (pv 1) (fun _ _ => rfl)) (pe_ix (ixQ K) (pv 0) (pe_op op_add (pv 1) pe_int) (fun _ _ => rfl)) (nomark _)))))), ?_⟩
  obtain ⟨ds, d, hd, ⟨xs, hx, rs, hl, rfl⟩, hQ⟩ := h
  obtain ⟨u, rfl, h1⟩ : ∃ u, vs = [u] ∧ (Dp K H u (eStrs xs) ∨ Dp K H u (.list (xs.map PyData.str))) := by
    rcases hx with rfl | rfl
    · obtain ⟨u, h0, h1⟩ := dp1 hd
      exact ⟨u, h0, .inl h1⟩
    · obtain ⟨u, h0, h1⟩ := dp1 hd
      exact ⟨u, h0, .inr h1⟩
  have dv : ∀ {H1 : Hp} {σ1 : L2.St}, Ex H H1 → σ1[0]? = some (some u) → EvD K (tVar 0) σ1 H1 (eStrs xs) ∨ EvD K (tVar 0) σ1 H1 (.list (xs.map PyData.str)) := fun {H1 σ1} e hs => h1.imp (fun z => d_var hs (dp_ex e _ _ z)) (fun z => d_var hs (dp_ex e _ _ z))
  have dl : EvD K (tCB (rLenA K) (tCons (tVar 0) tNil)) (L2.start ["things", "at"] [u]) H (.int (xs.length : Int)) := by
    rcases dv (σ1 := L2.start ["things", "at"] [u]) (Ex.refl H) rfl with z | z
    · exact d_is (d_lenT z) (by rw [List.length_map])
    · exact d_is (d_lenL z) (by rw [List.length_map])
  refine s_retP (d_allT (w_rngI (i := (xs.length : Int) - 1) (ds_cons (d_sub dl d_int) ds_nil) (by omega)) (by rw [List.length_range]; omega) fun i hi y H2 e2 hy => ⟨_, g_name, rfl, ?_⟩) hQ
  subst hy
  obtain ⟨x, y, g1, g2, g3⟩ := rise_lt rs (by simpa using hi)
  exact d_is (d_ltS (d_ixAny (dv e2 rfl) (d_var (i := 1) rfl (.int _)) (atI_of (by rw [List.getElem?_map, g1]; rfl)))
    (d_ixAny (dv e2 rfl) (d_is (d_add (d_var (i := 1) rfl (.int _)) d_int) rfl) (atI_of (j := i + 1) (by rw [List.getElem?_map, g2]; rfl)))) (by rw [g3])
theorem ok_are_marks (T : TX K mg) : FnOk P w K mg base CX0 3 T.are_marks.f T.are_marks.fd ["thing"] (SpD K pMarks) := by
  refine T.are_marks.F.ok sc_are_marks (fun vs H Q E h => spD_len (n := 1) (fun ds d ⟨x, e, _⟩ => by rw [e]; rfl) h) (fun cdv A outer s H vs Q E hr h => ?_)
  refine ⟨_, PSs.nox (pss_one (ps_ret (pe_and (qIsT K T.b_isinstance T.b_tuple (pv 0)) (pe_and (qAll K T.b_all rfl (pe_lc (own := [("one", 1)]) (g := gName 1) (tt := tYes) rfl sc_are_marks.nd (piT K (pv 0))
        (blkOk_by (N := ["thing", "one"]) (sc := defScope s_are_marks) (by decide +kernel)) (fun _ _ _ _ _ => pg_name (i := 1) sc_are_marks.nd rfl (Or.inl rfl)) (fun _ _ _ _ _ => pts_nil)
        (fun _ _ _ _ _ => pe_call (ok_is_mark T) hr rfl T.is_mark.g T.is_mark.F.kp (bd_is_mark T.is_mark.F) .nil pass0 (pa_cons (pv 1) pa_nil))))
      (pe_one (pe_call (ok_are_rising T) (hr.mono (by decide)) rfl T.are_rising.g T.are_rising.F.kp (bd_are_rising T.are_rising.F) .nil pass0 (pa_cons (pv 0) pa_nil))))))), ?_⟩
  obtain ⟨ds, d, hd, ⟨xs, rfl, hm, rs, hl, rfl⟩, hQ⟩ := h
  obtain ⟨u, rfl, h1⟩ := dp1 hd
  have dv : EvD K (tVar 0) (L2.start ["thing", "one"] [u]) H (eStrs xs) := d_var (i := 0) rfl h1
  refine s_retP (d_andT (d_isT dv) (d_andT (d_allT (w_tup dv) (by omega) fun x hx y H2 e2 hy => ⟨_, g_name, rfl, ?_⟩) (d_call (ds_cons dv ds_nil) ⟨xs, .inl rfl, rs, hl, rfl⟩))) hQ
  exact d_call (ds_cons (d_var (i := 1) rfl hy) ds_nil) ⟨x, rfl, hm x hx, rfl⟩
theorem ok_are_gives (T : TX K mg) : FnOk P w K mg base CX0 3 T.are_gives.f T.are_gives.fd ["thing"] (SpD K pGives) := by
  refine T.are_gives.F.ok sc_are_gives (fun vs H Q E h => spD_len (n := 1) (fun ds d ⟨x, e, _⟩ => by rw [e]; rfl) h) (fun cdv A outer s H vs Q E hr h => ?_)
  refine ⟨_, PSs.nox (pss_cons (ps_if (PW.pt (pw_or (pt_not (pt_val (qIsT K T.b_isinstance T.b_tuple (pv 0)))) (pw_or1 (pt_cmpR op_eq (qLen K T.b_len (pv 0)) pe_int (nomark _))))) (pss_one ps_never) pss_nil)
    (pss_cons (ps_for PassesOwn.never rfl (piT K (pv 0)) (pg_name (i := 1) sc_are_gives.nd rfl (Or.inl rfl))
      (pss_one (ps_if (PW.pt (pw_or (pt_not (pt_val (qIsT K T.b_isinstance T.b_tuple (pv 1)))) (pw_or (pt_cmpR op_ne (qLen K T.b_len (pv 1)) pe_int (nomark _))
        (pw_or (pt_not (pt_val (pe_call (ok_is_mark T) hr rfl T.is_mark.g T.is_mark.F.kp (bd_is_mark T.is_mark.F) .nil pass0 (pa_cons (pe_ix (ixT K) (pv 1) pe_int (fun _ _ => rfl)) pa_nil))))
          (pw_or1 (pt_not (pt_val (pe_call (ok_is_mark T) hr rfl T.is_mark.g T.is_mark.F.kp (bd_is_mark T.is_mark.F) .nil pass0 (pa_cons (pe_ix (ixT K) (pv 1) pe_int (fun _ _ => rfl)) pa_nil))))))))) (pss_one ps_never) pss_nil)))
      (pss_one (ps_ret (pe_call (ok_are_rising T) (hr.mono (by decide)) rfl T.are_rising.g T.are_rising.F.kp (bd_are_rising T.are_rising.F) .nil pass0
        (pa_cons (pe_lc (own := [("pair", 1)]) (g := gName 1) (tt := tYes) rfl sc_are_gives.nd (piT K (pv 0)) (blkOk_by (N := ["thing", "pair"]) (sc := defScope s_are_gives) (by decide +kernel)) (fun _ _ _ _ _ => pg_name (i := 1) sc_are_gives.nd rfl (Or.inl rfl)) (fun _ _ _ _ _ => pts_nil)
          (fun _ _ _ _ _ => pe_ix (ixT K) (pv 1) pe_int (fun _ _ => rfl))) pa_nil)))))), ?_⟩
  obtain ⟨ds, d, hd, ⟨g, rfl, o, rfl⟩, hQ⟩ := h
  obtain ⟨u, rfl, h1⟩ := dp1 hd
  have hg := o.ne
  have hf := o.few
  refine s_ifF (tt_orF (tt_notT (tt_B (d_isT (d_var (i := 0) rfl h1)))) (t_of (d_is (d_eqI (d_lenT (d_var (i := 0) rfl h1)) d_int) ?_))) fun H1 e => ?_
  · rw [List.length_map]
    cases g with
    | nil => exact absurd rfl hg
    | cons a g => simp; omega
  · refine s_forE (w_tup (d_var (i := 0) rfl (dp_ex e _ _ h1))) (fun _ σ' _ => ∃ z, σ' = [some u, z]) (fun _ _ => ⟨_, rfl⟩) (fun Hb eb i p σ' H' x H2 hp e1 hs e2 hx => ?_) fun σ' H' e1 hs => ?_
    · obtain ⟨z, rfl⟩ := hs
      have hm := o.marks p (List.mem_of_getElem? hp)
      have dp : EvD K (tVar 1) [some u, some x] H2 (ePair p) := d_var (i := 1) rfl hx
      show tIfS _ _ _ _ [some u, some x] H2
      refine s_ifF (tt_orF (tt_notT (tt_B (d_isT dp))) (tt_orF (t_of (d_is (d_neI (d_lenT dp) d_int) rfl)) (tt_orF (tt_notT (tt_B (d_call (ds_cons (d_ixT dp d_int (atI_of (j := 0) rfl)) ds_nil) ⟨p.1, rfl, hm.1, rfl⟩)))
        (tt_notT (tt_B (d_call (ds_cons (d_ixT dp d_int (atI_of (j := 1) rfl)) ds_nil) ⟨p.2, rfl, hm.2, rfl⟩)))))) fun H3 e3 => ⟨(e1.trans e2).trans e3, _, rfl⟩
    · obtain ⟨z, rfl⟩ := hs
      have h2 := dp_ex (e.trans e1) _ _ h1
      refine s_retP (d_call (ds_cons (EvN.data (n_lcA (w_tup (d_var (i := 0) rfl h2)) (by omega) (fun p => .str p.1) (fun _ _ => rfl) fun p hp y H3 e3 hy => ⟨_, g_name, rfl, ?_⟩)) ds_nil) ⟨g.map (·.1), .inr (by rw [List.map_map]; rfl), o.rise, by rw [List.length_map]; omega, rfl⟩) fun v H3 e3 w => hQ v H3 ((e.trans e1).trans e3) w
      exact d_ixT (d_var (i := 1) rfl hy) d_int (atI_of (j := 0) rfl)
theorem ok_is_code (T : TX K mg) : FnOk P w K mg base CX0 4 T.is_code.f T.is_code.fd ["thing"] (SpD K pCode) := by
  refine T.is_code.F.ok sc_is_code (fun vs H Q E h => spD_len (n := 1) (fun ds d ⟨x, e, _⟩ => by rw [e]; rfl) h) (fun cdv A outer s H vs Q E hr h => ?_)
  refine ⟨_, PSs.nox (pss_cons (ps_if (PW.pt (pw_or (pt_not (pt_val (qIsT K T.b_isinstance T.b_tuple (pv 0)))) (pw_or1 (pt_cmpR op_ne (qLen K T.b_len (pv 0)) pe_int (nomark _))))) (pss_one ps_never) pss_nil)
    (pss_one (ps_ret (pe_and (pe_call (ok_is_word T) (hr.mono (by decide)) rfl T.is_word.g T.is_word.F.kp (bd_is_word T.is_word.F) .nil pass0 (pa_cons (pe_ix (ixT K) (pv 0) pe_int (fun _ _ => rfl)) pa_nil))
      (pe_and (pe_call (ok_is_mark T) (hr.mono (by decide)) rfl T.is_mark.g T.is_mark.F.kp (bd_is_mark T.is_mark.F) .nil pass0 (pa_cons (pe_ix (ixT K) (pv 0) pe_int (fun _ _ => rfl)) pa_nil))
        (pe_one (pe_call (ok_are_gives T) hr rfl T.are_gives.g T.are_gives.F.kp (bd_are_gives T.are_gives.F) .nil pass0 (pa_cons (pe_ix (ixT K) (pv 0) pe_int (fun _ _ => rfl)) pa_nil)))))))), ?_⟩
  obtain ⟨ds, d, hd, ⟨c, rfl, o, rfl⟩, hQ⟩ := h
  obtain ⟨u, rfl, h1⟩ := dp1 hd
  have dv : ∀ {H1}, Ex H H1 → EvD K (tVar 0) (L2.start ["thing"] [u]) H1 (eCode c) := fun e => d_var (i := 0) rfl (dp_ex e _ _ h1)
  refine s_ifF (tt_orF (tt_notT (tt_B (d_isT (dv (Ex.refl H))))) (t_of (d_is (d_neI (d_lenT (dv (Ex.refl H))) d_int) rfl))) fun H1 e => ?_
  refine s_retP (d_andT (d_call (ds_cons (d_ixT (dv e) d_int (atI_of (j := 0) rfl)) ds_nil) ⟨c.1, rfl, o.word, rfl⟩) (d_andT (d_call (ds_cons (d_ixT (dv e) d_int (atI_of (j := 1) rfl)) ds_nil) ⟨c.2.1, rfl, o.kind, rfl⟩)
    (d_call (ds_cons (d_ixT (dv e) d_int (atI_of (j := 2) rfl)) ds_nil) ⟨c.2.2, rfl, o.gives, rfl⟩))) fun v H3 e3 w => hQ v H3 (e.trans e3) w
end
end K26
set_option Elab.async false
set_option linter.all false
set_option maxRecDepth 100000
set_option maxHeartbeats 2000000
/-! KW2: books. -/
namespace K26
open PySem PySem.Spec PyProof.Rows L2 Evl
structure Bk where
  asps : List Str
  shown : List Str
  codes : List Code
abbrev eCodes (cs : List Code) : PyData := .tuple (cs.map eCode)
abbrev eBook (b : Bk) : PyData := .tuple [eStrs b.asps, eStrs b.shown, eCodes b.codes]
structure CodesOk (asps : List Str) (cs : List Code) : Prop where
  few : cs.length ≤ 16
  each : ∀ c ∈ cs, CodeOk c
  words : (cs.map (·.1)).Nodup
  gives : ∀ c ∈ cs, ∀ p ∈ c.2.2, p.1 ∈ asps
  kinds : ∃ ks : List Str, ks.length ≤ 6 ∧ ∀ c ∈ cs, c.2.1 ∈ ks
structure BookOk (b : Bk) : Prop where
  asps : ∀ a ∈ b.asps, Mark a
  rise : Rising b.asps
  some_ : 1 ≤ b.asps.length
  few : b.asps.length ≤ 6
  shown : ∀ a ∈ b.shown, Mark a
  srise : Rising b.shown
  sfew : b.shown.length ≤ 6
  sub : ∀ a ∈ b.shown, a ∈ b.asps
  codes : CodesOk b.asps b.codes
theorem nd_le : ∀ {l ks : List Str}, l.Nodup → (∀ x ∈ l, x ∈ ks) → l.length ≤ ks.length
  | [], _, _, _ => Nat.zero_le _
  | x :: l, ks, h, s => by
    have hx := s x List.mem_cons_self
    have hn := List.nodup_cons.mp h
    have q := nd_le (l := l) (ks := ks.erase x) hn.2 fun y hy => (List.mem_erase_of_ne (fun z => hn.1 (by rw [← z]; exact hy))).mpr (s y (List.mem_cons_of_mem _ hy))
    rw [List.length_erase_of_mem hx] at q
    have := List.length_pos_of_mem hx
    rw [List.length_cons]
    omega
abbrev pCodes : List PyData → PyData → Prop := fun ds d => ∃ asps cs, ds = [eStrs asps, eCodes cs] ∧ CodesOk asps cs ∧ d = .none
abbrev pBook : List PyData → PyData → Prop := fun ds d => ∃ b, ds = [eBook b] ∧ BookOk b ∧ d = eBook b
theorem noL_code (c : Code) : noL (eCode c) = true := by
  simp only [noL, noLs, Bool.true_and, Bool.and_true]
  exact noL_pairs _
section
variable {P : Program} {w : World} {K : PySem.W.Frag} {mg : Str → Option Value} {base : Heap}
theorem ok_need_codes (T : TX K mg) : FnOk P w K mg base CX0 5 T.need_codes.f T.need_codes.fd ["aspects", "codes"] (SpD K pCodes) := by
  refine T.need_codes.F.ok sc_need_codes (fun vs H Q E h => spD_len (n := 2) (fun ds d ⟨x, y, e, _⟩ => by rw [e]; rfl) h) (fun cdv A outer s H vs Q E hr h => ?_)
  obtain ⟨tk_MOST_KINDS, gi_MOST_KINDS⟩ := T.i_MOST_KINDS
  refine ⟨_, PSs.nox (pss_cons (ps_par (i := 2) (j := 3) rfl sc_need_codes.nd rfl rfl (by decide) rfl rfl (pa_cons pe_dnewK (pa_cons pe_dnewK pa_nil)) (by rfl)) (pss_one (ps_for PassesOwn.never rfl (pi_enumT rfl T.b_enumerate (pa_cons (pv 1) pa_nil)) (pg_tup rfl (pgs_cons (pg_name (i := 4) sc_need_codes.nd rfl (Or.inl rfl)) (pgs_cons (pg_name (i := 5) sc_need_codes.nd rfl (Or.inl rfl)) pgs_nil))) (pss_cons (ps_if (PW.pt (pw_or (pt_not (pt_val (pe_call (ok_is_code T) (hr.mono (by decide)) rfl T.is_code.g T.is_code.F.kp (bd_is_code T.is_code.F) .nil pass0 (pa_cons (pv 5) pa_nil)))) (pw_or (pt_cmp (pc_din (hu_of hr) (pe_ix (ixT K) (pv 5) pe_int (fun _ _ => rfl)) (pv 2))) (pw_or1 (pt_not (pt_val (qAll K T.b_all rfl (pe_lc (own := [("pair", 6)]) rfl sc_need_codes.nd (piT K (pe_ix (ixT K) (pv 5) pe_int (fun _ _ => rfl))) (blkOk_by (N := ["aspects", "codes", "words", "kinds", "number", "code", "pair"]) (sc := defScope s_need_codes) (by decide +kernel)) (fun _ _ _ _ _ => (pg_name (i := 6) sc_need_codes.nd rfl (Or.inl rfl))) (fun _ _ _ _ _ => pts_nil) (fun _ _ _ _ _ => (pe_cmpR (opIn K) (pe_ix (ixT K) (pv 6) pe_int (fun _ _ => rfl)) (pv 0) rfl)))))))))) (pss_one ps_never) pss_nil) (pss_cons (ps_dput (hu_of hr) (pv 2) (pe_ix (ixT K) (pv 5) pe_int (fun _ _ => rfl)) pe_bl rfl) (pss_cons (ps_dput (hu_of hr) (pv 3) (pe_ix (ixT K) (pv 5) pe_int (fun _ _ => rfl)) pe_bl rfl) (pss_one (ps_if (pt_cmpR op_gt (pe_callB call_lenD rfl T.b_len boot_len (pa_cons (pv 3) pa_nil)) (pe_glob rfl gi_MOST_KINDS (v := .int 6) ⟨_, rfl⟩) (nomark _)) (pss_one ps_never) pss_nil)))))))), ?_⟩
  obtain ⟨ds, d, hd, ⟨asps, cs, rfl, o, rfl⟩, hQ⟩ := h
  obtain ⟨u, v, rfl, h1, h2⟩ := dp2 hd
  obtain ⟨ks, hk6, hks⟩ := o.kinds
  have few := o.few
  have hnl : noL (eStrs asps) = true := by simpa [noL] using noL_strs asps
  refine fun a ha => fun b hb => ⟨.ref a, .ref b, rfl, ?_⟩
  have eab : b ≠ a := fun z => by rw [z, upd_same] at hb; cases hb
  have e0 : Ex H (upd (upd H a (.dK [])) b (.dK [])) := (Ex.new ha).trans (Ex.new hb)
  have hb0 : H b = none := fresh_back (Ex.new ha) hb
  refine s_forT (w_enumT (m := cs) (f := eCode) (d_var (i := 1) rfl (dp_ex e0 _ _ h2)) fun c _ => noL_code c)
    (fun i σ' H' => Ex H H' ∧ (∃ z1 z2 z3, σ' = [some u, some v, some (.ref a), some (.ref b), z1, z2, z3]) ∧ (∃ l, DK K H' a l ∧ l.map (·.1) = (cs.take i).map (·.1)) ∧ ∃ m, DK K H' b m ∧ (m.map (·.1)).Nodup ∧ ∀ x ∈ m.map (·.1), x ∈ ks)
    (fun H1 e1 => ⟨e0.trans e1, ⟨_, _, _, rfl⟩, ⟨[], ⟨[], e1 _ _ (by rw [upd_ne (Ne.symm eab), upd_same]), .nil⟩, rfl⟩, [], ⟨[], e1 _ _ upd_same, .nil⟩, .nil, fun x hx => by simp at hx⟩)
    (fun Hb eb i q σ' H' x H1 hq e1 hP e2 hx => ?_) fun σ' H' e1 hP => hQ _ _ hP.1 .non
  obtain ⟨c, j⟩ := q
  rw [List.getElem?_zipIdx] at hq
  obtain ⟨c', hc, e⟩ := Option.map_eq_some_iff.mp hq
  obtain ⟨rfl, rfl⟩ := Prod.mk.inj e
  obtain ⟨eH, ⟨z1, z2, z3, rfl⟩, ⟨l, kl, hl⟩, m, km, mn, ms⟩ := hP
  obtain ⟨T', x1, rfl, hT', hx1⟩ := hx
  have hcm : c' ∈ cs := List.mem_of_getElem? hc
  have hi : i < cs.length := (List.getElem?_eq_some_iff.mp hc).1
  have hll : l.length = i := by
    have := congrArg List.length hl
    rw [List.length_map, List.length_map, List.length_take] at this
    omega
  have hml : m.length ≤ 6 := by
    have := nd_le mn ms
    rw [List.length_map] at this
    omega
  refine g_two (st_of hT') _ ?_
  have kl := kl.ex e2
  have km := km.ex e2
  have hv0 : EvD K (tVar 0) [some u, some v, some (.ref a), some (.ref b), some (.int (0 + i : Nat)), some x1, z3] H1 (eStrs asps) := d_var (i := 0) rfl (dp_ex (eH.trans e2) _ _ h1)
  have hv5 : EvD K (tVar 5) [some u, some v, some (.ref a), some (.ref b), some (.int (0 + i : Nat)), some x1, z3] H1 (eCode c') := d_var (i := 5) rfl hx1
  have cword : EvD K (tOp (rIxT K) (tVar 5) (tC (.int 0))) [some u, some v, some (.ref a), some (.ref b), some (.int (0 + i : Nat)), some x1, z3] H1 (.str c'.1) := d_ixT hv5 d_int (atI_of (j := 0) rfl)
  have nw : gv l c'.1 = none := gv_none.mpr fun z => by
    rw [hl] at z
    obtain ⟨c2, h2', e2'⟩ := List.mem_map.mp z
    obtain ⟨j2, hj2⟩ := List.getElem?_of_mem h2'
    rw [List.getElem?_take] at hj2
    split at hj2
    · rename_i hlt
      have n1 : (cs.map (·.1))[j2]? = some c2.1 := by rw [List.getElem?_map, hj2]; rfl
      have n2 : (cs.map (·.1))[i]? = some c'.1 := by rw [List.getElem?_map, hc]; rfl
      have hj2' : j2 < (cs.map (·.1)).length := (List.getElem?_eq_some_iff.mp n1).1
      have := (List.getElem?_inj hj2' o.words).mp (n1.trans (by rw [e2', n2]))
      omega
    · cases hj2
  refine s_ifF (tt_orF (tt_notT (tt_B (d_call (ds_cons hv5 ds_nil) ⟨c', rfl, o.each c' hcm, rfl⟩))) (tt_orF (t_B (d_is (d_din cword (p_var (i := 2) rfl isK_mono ⟨a, rfl, kl⟩)) (by rw [nw]; rfl)))
    (tt_notT (tt_B (d_allT (w_tup (d_ixT hv5 d_int (atI_of (j := 2) rfl))) (by have := (o.each c' hcm).gives.few; omega) fun p hp y H2 e3 hy => ⟨_, g_name, rfl, ?_⟩))))) fun H2 e3 => ?_
  · exact d_is (d_in1 (d_ixT (d_var (i := 6) rfl hy) d_int (atI_of (j := 0) rfl)) (hv0.up e3)) (by simp [o.gives c' hcm p hp])
  refine s_dput (p := a) (l := l) (d := .bool true) d_bl (p_var (i := 2) rfl (fun _ _ _ _ h => h) rfl) (cword.up e3) (kl.ex e3) (by omega) fun H3 b3 kl3 => ?_
  have kl2 := kl.ex e3
  obtain ⟨kvs, hkvs, _⟩ := kl2
  have km3 := (km.ex e3).xb hkvs eab b3
  refine s_dput (p := b) (l := m) (s := c'.2.1) (d := .bool true) d_bl (p_var (i := 3) rfl (fun _ _ _ _ h => h) rfl) (d_ixT (d_var (i := 5) rfl (dp_xb hkvs b3 _ _ (dp_ex e3 _ _ hx1))) d_int (atI_of (j := 1) rfl)) km3 (by omega) fun H4 b4 km4 => ?_
  have km3' := km3
  obtain ⟨kvs', hkvs', _⟩ := km3'
  have kl4 := kl3.xb hkvs' (Ne.symm eab) b4
  have hin : c'.2.1 ∈ ks := hks c' hcm
  have ke := pv2_keys (l := m) (s := c'.2.1) (b := PyData.bool true)
  have mn' : ((pv2 m c'.2.1 (.bool true)).map (·.1)).Nodup := by
    rw [ke]
    split
    · exact mn
    · rename_i hn
      rw [List.nodup_append]
      exact ⟨mn, by simp, fun x hx y hy => by
        simp at hy
        subst hy
        exact fun z => hn (z ▸ hx)⟩
  have ms' : ∀ x ∈ (pv2 m c'.2.1 (.bool true)).map (·.1), x ∈ ks := by
    rw [ke]
    split
    · exact ms
    · intro x hx
      rcases List.mem_append.mp hx with hx | hx
      · exact ms x hx
      · simp at hx
        rw [hx]
        exact hin
  have hl6 : (pv2 m c'.2.1 (PyData.bool true)).length ≤ 6 := by
    have := nd_le mn' ms'
    rw [List.length_map] at this
    omega
  have exH4 : Ex H H4 := Xb.ex (Xb.ex ((eH.trans e2).trans e3) ha b3) hb0 b4
  refine s_ifF (t_of (K := K) (d_is (d_gt (d_lenK (p_var (i := 3) rfl isK_mono ⟨b, rfl, km4⟩)) d_int) (by rw [decide_eq_false (by omega)]))) fun H5 e5 => ⟨?_, exH4.trans e5, ⟨_, _, _, rfl⟩, ⟨_, kl4.ex e5, ?_⟩, _, km4.ex e5, mn', ms'⟩
  · exact (((e1.trans (exT_of e2)).trans (exT_of e3)).trans (b3.exT hkvs)).trans ((b4.exT hkvs').trans (exT_of e5))
  · rw [pv2_keys, if_neg (gv_none.mp nw), hl, List.take_add_one, hc, List.map_append]
    rfl
theorem ok_need_book (T : TX K mg) : FnOk P w K mg base CX0 6 T.need_book.f T.need_book.fd ["thing"] (SpD K pBook) := by
  refine T.need_book.F.ok sc_need_book (fun vs H Q E h => spD_len (n := 1) (fun ds d ⟨x, e, _⟩ => by rw [e]; rfl) h) (fun cdv A outer s H vs Q E hr h => ?_)
  obtain ⟨tk_MOST_ASPECTS, gi_MOST_ASPECTS⟩ := T.i_MOST_ASPECTS
  obtain ⟨tk_MOST_CODES_books, gi_MOST_CODES_books⟩ := T.i_MOST_CODES_books
  refine ⟨_, PSs.nox (pss_cons (ps_if (PW.pt (pw_or (pt_not (pt_val (qIsT K T.b_isinstance T.b_tuple (pv 0)))) (pw_or1 (pt_cmpR op_ne (qLen K T.b_len (pv 0)) pe_int (nomark _))))) (pss_one ps_never) pss_nil) (pss_cons (ps_asg (pv 0) (pg_tup rfl (pgs_cons (pg_name (i := 1) sc_need_book.nd rfl (Or.inr rfl)) (pgs_cons (pg_name (i := 2) sc_need_book.nd rfl (Or.inl rfl)) (pgs_cons (pg_name (i := 3) sc_need_book.nd rfl (Or.inl rfl)) pgs_nil))))) (pss_cons (ps_if (PW.pt (pw_or (pt_not (pt_val (pe_call (ok_are_marks T) (hr.mono (by decide)) rfl T.are_marks.g T.are_marks.F.kp (bd_are_marks T.are_marks.F) .nil pass0 (pa_cons (pv 1) pa_nil)))) (pw_or1 (pt_not (pt_chain op_le op_le pe_int (qLen K T.b_len (pv 1)) (pe_glob rfl gi_MOST_ASPECTS (v := .int 6) ⟨_, rfl⟩)))))) (pss_one ps_never) pss_nil) (pss_cons (ps_if (PW.pt (pw_or (pt_not (pt_val (pe_call (ok_are_marks T) (hr.mono (by decide)) rfl T.are_marks.g T.are_marks.F.kp (bd_are_marks T.are_marks.F) .nil pass0 (pa_cons (pv 2) pa_nil)))) (pw_or1 (pt_not (pt_val (qAll K T.b_all rfl (pe_lc (own := [("aspect", 4)]) rfl sc_need_book.nd (piT K (pv 2)) (blkOk_by (N := ["thing", "aspects", "shown", "codes", "aspect"]) (sc := defScope s_need_book) (by decide +kernel)) (fun _ _ _ _ _ => (pg_name (i := 4) sc_need_book.nd rfl (Or.inl rfl))) (fun _ _ _ _ _ => pts_nil) (fun _ _ _ _ _ => (pe_cmpR (opIn K) (pv 4) (pv 1) rfl))))))))) (pss_one ps_never) pss_nil) (pss_cons (ps_if (PW.pt (pw_or (pt_not (pt_val (qIsT K T.b_isinstance T.b_tuple (pv 3)))) (pw_or1 (pt_cmpR op_gt (qLen K T.b_len (pv 3)) (pe_glob rfl gi_MOST_CODES_books (v := .int 16) ⟨_, rfl⟩) (nomark _))))) (pss_one ps_never) pss_nil) (pss_cons (ps_expr (pe_call (ok_need_codes T) (hr.mono (by decide)) rfl T.need_codes.g T.need_codes.F.kp (bd_need_codes T.need_codes.F) .nil pass0 (pa_cons (pv 1) (pa_cons (pv 3) pa_nil)))) (pss_one (ps_ret (pv 0))))))))), ?_⟩
  obtain ⟨ds, d, hd, ⟨b, rfl, o, rfl⟩, hQ⟩ := h
  obtain ⟨u, rfl, h1⟩ := dp1 hd
  have dv : EvD K (tVar 0) (L2.start ["thing", "aspects", "shown", "codes", "aspect"] [u]) H (eBook b) := d_var (i := 0) rfl h1
  have l1 := o.some_
  have l2 := o.few
  have l3 := o.sfew
  have l4 := o.codes.few
  refine s_ifF (tt_orF (tt_notT (tt_B (d_isT dv))) (t_of (d_is (d_neI (d_lenT dv) d_int) rfl))) fun H1 e => ?_
  have h1 := dp_ex e _ _ h1
  refine s_un3 (d_var (i := 0) rfl h1) fun v1 v2 v3 H2 e2 w1 w2 w3 => ?_
  refine s_ifF (tt_orF (tt_notT (tt_B (d_call (ds_cons (d_var (i := 1) rfl w1) ds_nil) ⟨b.asps, rfl, o.asps, o.rise, by omega, rfl⟩))) (tt_notT (tt_of (d_is (d_chain (a := true) (b := true) d_int (d_lenT (d_var (i := 1) rfl w1)) d_int ?_ ?_) rfl)))) fun H3 e3 => ?_
  · show V.bl (decide ((1 : Int) ≤ ((b.asps.map PyData.str).length : Int))) = V.bl true
    rw [List.length_map, decide_eq_true (by omega)]
  · show V.bl (decide (((b.asps.map PyData.str).length : Int) ≤ (6 : Int))) = V.bl true
    rw [List.length_map, decide_eq_true (by omega)]
  have w1 := dp_ex e3 _ _ w1
  have w2 := dp_ex e3 _ _ w2
  have w3 := dp_ex e3 _ _ w3
  refine s_ifF (tt_orF (tt_notT (tt_B (d_call (ds_cons (d_var (i := 2) rfl w2) ds_nil) ⟨b.shown, rfl, o.shown, o.srise, by omega, rfl⟩))) (tt_notT (tt_B (d_allT (w_tup (d_var (i := 2) rfl w2)) (by omega) fun a ha y H4 e4 hy => ⟨_, g_name, rfl, ?_⟩)))) fun H4 e4 => ?_
  · exact d_is (d_in1 (d_var (i := 4) rfl hy) (d_var (i := 1) rfl (dp_ex e4 _ _ w1))) (by simp [o.sub a ha])
  have w1 := dp_ex e4 _ _ w1
  have w3 := dp_ex e4 _ _ w3
  refine s_ifF (tt_orF (tt_notT (tt_B (d_isT (d_var (i := 3) rfl w3)))) (t_of (d_is (d_gt (d_lenT (d_var (i := 3) rfl w3)) d_int) (by rw [List.length_map, decide_eq_false (by omega)])))) fun H5 e5 => ?_
  refine s_dropP (d_call (ds_cons (d_var (i := 1) rfl (dp_ex e5 _ _ w1)) (ds_cons (d_var (i := 3) rfl (dp_ex e5 _ _ w3)) ds_nil)) ⟨b.asps, b.codes, rfl, o.codes, rfl⟩) fun v H6 e6 _ => ?_
  exact s_retP (d_var (i := 0) rfl (dp_ex ((((e2.trans e3).trans e4).trans e5).trans e6) _ _ h1)) fun v H7 e7 w => hQ v H7 ((((((e.trans e2).trans e3).trans e4).trans e5).trans e6).trans e7) w
end
end K26
set_option Elab.async false
set_option linter.all false
set_option maxRecDepth 100000
set_option maxHeartbeats 2000000
/-! KW3: rows, chains, aspects. -/
namespace K26
open PySem PySem.Spec PyProof.Rows L2 Evl
abbrev Chain := List (Str × Str)
structure ChainOk (c : Chain) : Prop where
  few : c.length ≤ 12
  marks : ∀ p ∈ c, Mark p.1 ∧ Mark p.2
  nodup : (c.map (·.1)).Nodup
/-- a row of words of a book -/
structure RowOk (b : Bk) (r : List Str) : Prop where
  few : r.length ≤ 60
  each : ∀ x ∈ r, x ∈ b.codes.map (·.1)
def sizeR (r : List Str) : Int := (r.map fun x => ((x.length : Nat) : Int) + 2).sum
abbrev dCodes (b : Bk) : List (Str × PyData) := b.codes.map fun c => (c.1, eCode c)
abbrev pCodesIn : List PyData → List (Str × PyData) → Prop := fun ds l => ∃ b, ds = [eBook b] ∧ BookOk b ∧ l = dCodes b
abbrev pChain : List PyData → PyData → Prop := fun ds d => ∃ c, ds = [eCh c] ∧ ChainOk c ∧ d = .bool true
abbrev pWords : List PyData → PyData → Prop := fun ds d => ∃ b r, ds = [eBook b, eStrs r, .int 60] ∧ BookOk b ∧ RowOk b r ∧ d = .bool true
abbrev pAsps : List PyData → PyData → Prop := fun ds d => ∃ b xs k, ds = [eBook b, eStrs xs] ∧ BookOk b ∧ xs.length ≤ 1000 ∧ k = xs.all (fun x => decide (x ∈ b.asps)) ∧ (k = true → Rising xs) ∧ d = .bool k
abbrev pRow : List PyData → PyData → Prop := fun ds d => ∃ b r, ds = [eBook b, eStrs r] ∧ BookOk b ∧ RowOk b r ∧ d = eStrs r
abbrev pSize : List PyData → PyData → Prop := fun ds d => ∃ r : List Str, ds = [eStrs r] ∧ r.length ≤ 1000 ∧ (∀ x ∈ r, x.length ≤ 1000) ∧ d = .int (sizeR r)
abbrev pSizeOf : List PyData → PyData → Prop := fun ds d => ∃ b r, ds = [eBook b, eStrs r] ∧ BookOk b ∧ RowOk b r ∧ d = .int (sizeR r)
theorem dCodes_keys (b : Bk) : (dCodes b).map (·.1) = b.codes.map (·.1) := by rw [List.map_map]; rfl
section
variable {P : Program} {w : World} {K : PySem.W.Frag} {mg : Str → Option Value} {base : Heap}
theorem ok_codes_in (T : TX K mg) : FnOk P w K mg base CX0 1 T.codes_in.f T.codes_in.fd ["book"] (SpK K pCodesIn) := by
  refine T.codes_in.F.ok sc_codes_in (fun vs H Q E h => spK_len (n := 1) (fun ds d ⟨x, e, _⟩ => by rw [e]; rfl) h) (fun cdv A outer s H vs Q E hr h => ?_)
  refine ⟨_, PSs.nox (pss_one (ps_ret (pe_dc (own := [("code", 1)]) rfl sc_codes_in.nd (piT K (pe_ix (ixT K) (pv 0) pe_int (fun _ _ => rfl))) (blkOk_by (N := ["book", "code"]) (sc := defScope s_codes_in) (by decide +kernel)) (fun _ _ _ _ _ => (pg_name (i := 1) sc_codes_in.nd rfl (Or.inl rfl))) (fun _ _ _ _ _ => pts_nil) (fun _ _ _ _ _ => (pe_ix (ixT K) (pv 1) pe_int (fun _ _ => rfl))) (fun _ _ _ _ _ => (pv 1))))), ?_⟩
  obtain ⟨ds, d, hd, ⟨b, rfl, o, rfl⟩, hQ⟩ := h
  obtain ⟨u, rfl, h1⟩ := dp1 hd
  have l4 := o.codes.few
  have z : EvP (tDc (iTup K (tOp (rIxT K) (tVar 0) (tC (.int 2)))) (gName 1) tYes (tOp (rIxT K) (tVar 1) (tC (.int 0))) (tVar 1) [1]) (L2.start ["book", "code"] [u]) H (isKN K H (kfold (b.codes.map fun c => (c.1, eCode c)))) :=
    k_dc (w_tup (d_ixT (d_var (i := 0) rfl h1) d_int (atI_of (j := 2) rfl))) (by omega) (fun c => c.1) eCode fun c hc x H1 e hx => ⟨_, g_name, rfl, d_ixT (d_var (i := 1) rfl hx) d_int (atI_of (j := 0) rfl), d_var (i := 1) rfl hx⟩
  refine s_retP z fun v H1 e w => hQ v H1 e ?_
  have q : kfold (dCodes b) = dCodes b := kfold_nodup (by rw [dCodes_keys]; exact o.codes.words)
  rw [← q]
  exact w
theorem ok_is_chain (T : TX K mg) : FnOk P w K mg base CX0 3 T.is_chain.f T.is_chain.fd ["thing"] (SpD K pChain) := by
  refine T.is_chain.F.ok sc_is_chain (fun vs H Q E h => spD_len (n := 1) (fun ds d ⟨x, e, _⟩ => by rw [e]; rfl) h) (fun cdv A outer s H vs Q E hr h => ?_)
  obtain ⟨tk_MOST_KNOWN, gi_MOST_KNOWN⟩ := T.i_MOST_KNOWN
  refine ⟨_, PSs.nox (pss_cons (ps_if (PW.pt (pw_or (pt_not (pt_val (qIsT K T.b_isinstance T.b_tuple (pv 0)))) (pw_or1 (pt_cmpR op_gt (qLen K T.b_len (pv 0)) (pe_glob rfl gi_MOST_KNOWN (v := .int 12) ⟨_, rfl⟩) (nomark _))))) (pss_one (ps_ret pe_bl)) pss_nil) (pss_cons (ps_for PassesOwn.never rfl (piT K (pv 0)) (pg_name (i := 1) sc_is_chain.nd rfl (Or.inl rfl)) (pss_one (ps_if (PW.pt (pw_or (pt_not (pt_val (qIsT K T.b_isinstance T.b_tuple (pv 1)))) (pw_or (pt_cmpR op_ne (qLen K T.b_len (pv 1)) pe_int (nomark _)) (pw_or (pt_not (pt_val (pe_call (ok_is_mark T) (hr.mono (by decide)) rfl T.is_mark.g T.is_mark.F.kp (bd_is_mark T.is_mark.F) .nil pass0 (pa_cons (pe_ix (ixT K) (pv 1) pe_int (fun _ _ => rfl)) pa_nil)))) (pw_or1 (pt_not (pt_val (pe_call (ok_is_mark T) (hr.mono (by decide)) rfl T.is_mark.g T.is_mark.F.kp (bd_is_mark T.is_mark.F) .nil pass0 (pa_cons (pe_ix (ixT K) (pv 1) pe_int (fun _ _ => rfl)) pa_nil))))))))) (pss_one (ps_ret pe_bl)) pss_nil))) (pss_one (ps_ret (pe_cmpR op_eq (pe_callB cr_lenSK rfl T.b_len boot_len (pa_cons (pe_scK (own := [("pair", 1)]) rfl sc_is_chain.nd (piT K (pv 0)) (blkOk_by (N := ["thing", "pair"]) (sc := defScope s_is_chain) (by decide +kernel)) (fun _ _ _ _ _ => (pg_name (i := 1) sc_is_chain.nd rfl (Or.inl rfl))) (fun _ _ _ _ _ => pts_nil) (fun _ _ _ _ _ => (pe_ix (ixT K) (pv 1) pe_int (fun _ _ => rfl)))) pa_nil)) (qLen K T.b_len (pv 0)) (nomark _)))))), ?_⟩
  obtain ⟨ds, d, hd, ⟨g, rfl, o, rfl⟩, hQ⟩ := h
  obtain ⟨u, rfl, h1⟩ := dp1 hd
  have hf := o.few
  refine s_ifF (tt_orF (tt_notT (tt_B (d_isT (d_var (i := 0) rfl h1)))) (t_of (d_is (d_gt (d_lenT (d_var (i := 0) rfl h1)) d_int) (by rw [List.length_map, decide_eq_false (by omega)])))) fun H1 e => ?_
  refine s_forE (w_tup (d_var (i := 0) rfl (dp_ex e _ _ h1))) (fun _ σ' _ => ∃ z, σ' = [some u, z]) (fun _ _ => ⟨_, rfl⟩) (fun Hb eb i p σ' H' x H2 hp e1 hs e2 hx => ?_) fun σ' H' e1 hs => ?_
  · obtain ⟨z, rfl⟩ := hs
    have hm := o.marks p (List.mem_of_getElem? hp)
    have dp : EvD K (tVar 1) [some u, some x] H2 (ePair p) := d_var (i := 1) rfl hx
    show tIfS _ _ _ _ [some u, some x] H2
    exact s_ifF (tt_orF (tt_notT (tt_B (d_isT dp))) (tt_orF (t_of (d_is (d_neI (d_lenT dp) d_int) rfl)) (tt_orF (tt_notT (tt_B (d_call (ds_cons (d_ixT dp d_int (atI_of (j := 0) rfl)) ds_nil) ⟨p.1, rfl, hm.1, rfl⟩)))
      (tt_notT (tt_B (d_call (ds_cons (d_ixT dp d_int (atI_of (j := 1) rfl)) ds_nil) ⟨p.2, rfl, hm.2, rfl⟩)))))) fun H3 e3 => ⟨(e1.trans e2).trans e3, _, rfl⟩
  · obtain ⟨z, rfl⟩ := hs
    have h2 := dp_ex (e.trans e1) _ _ h1
    refine s_retP (d_is (d_eqI (d_lenSc (fun p : Str × Str => p.1) (w_tup (d_var (i := 0) rfl h2)) (by omega) o.nodup fun p hp y H3 e3 hy => ⟨_, g_name, rfl, d_ixT (d_var (i := 1) rfl hy) d_int (atI_of (j := 0) rfl)⟩) (d_lenT (d_var (i := 0) rfl h2))) (by rw [List.length_map, decide_eq_true rfl])) fun v H3 e3 w => hQ v H3 ((e.trans e1).trans e3) w
theorem ok_are_words (T : TX K mg) : FnOk P w K mg base CX0 2 T.are_words.f T.are_words.fd ["book", "thing", "most"] (SpD K pWords) := by
  refine T.are_words.F.ok sc_are_words (fun vs H Q E h => spD_len (n := 3) (fun ds d ⟨x, y, e, _⟩ => by rw [e]; rfl) h) (fun cdv A outer s H vs Q E hr h => ?_)
  refine ⟨_, PSs.nox (pss_cons (ps_if (PW.pt (pw_or (pt_not (pt_val (qIsT K T.b_isinstance T.b_tuple (pv 1)))) (pw_or1 (pt_cmpR op_gt (qLen K T.b_len (pv 1)) (pv 2) (nomark _))))) (pss_one (ps_ret pe_bl)) pss_nil) (pss_one (ps_ret (qAll K T.b_all rfl (pe_lc (own := [("word", 3)]) rfl sc_are_words.nd (piT K (pv 1)) (blkOk_by (N := ["book", "thing", "most", "word"]) (sc := defScope s_are_words) (by decide +kernel)) (fun _ _ _ _ _ => (pg_name (i := 3) sc_are_words.nd rfl (Or.inl rfl))) (fun _ _ _ _ _ => pts_nil) (fun _ _ _ _ _ => (pe_and (qIsS K T.b_isinstance T.b_str (pv 3)) (pe_one (pe_cmp (pc_din (hu_of hr) (pv 3) (pe_call (ok_codes_in T) (hr.mono (by decide)) rfl T.codes_in.g T.codes_in.F.kp (bd_codes_in T.codes_in.F) .nil pass0 (pa_cons (pv 0) pa_nil)))))))))))), ?_⟩
  obtain ⟨ds, d, hd, ⟨b, r, rfl, o, ro, rfl⟩, hQ⟩ := h
  obtain ⟨u, v, t, rfl, h1, h2, h3⟩ := dp3 hd
  have hf := ro.few
  refine s_ifF (tt_orF (tt_notT (tt_B (d_isT (d_var (i := 1) rfl h2)))) (t_of (d_is (d_gt (d_lenT (d_var (i := 1) rfl h2)) (d_var (i := 2) rfl h3)) (by rw [List.length_map, decide_eq_false (by omega)])))) fun H1 e => ?_
  refine s_retP (d_allT (w_tup (d_var (i := 1) rfl (dp_ex e _ _ h2))) (by omega) fun x hx y H2 e2 hy => ⟨_, g_name, rfl, d_andT (d_isS (d_var (i := 3) rfl hy)) ?_⟩) fun v H3 e3 w => hQ v H3 (e.trans e3) w
  refine d_is (d_din (d_var (i := 3) rfl hy) (EvP.kd (k_call (ds_cons (d_var (i := 0) rfl (dp_ex (e.trans e2) _ _ h1)) ds_nil) ⟨b, rfl, o, rfl⟩))) ?_
  rw [gv_isSome, dCodes_keys, decide_eq_true (ro.each x hx)]
theorem ok_are_aspects (T : TX K mg) : FnOk P w K mg base CX0 1 T.are_aspects.f T.are_aspects.fd ["book", "thing"] (SpD K pAsps) := by
  refine T.are_aspects.F.ok sc_are_aspects (fun vs H Q E h => spD_len (n := 2) (fun ds d ⟨x, y, k, e, _⟩ => by rw [e]; rfl) h) (fun cdv A outer s H vs Q E hr h => ?_)
  refine ⟨_, PSs.nox (pss_cons (ps_if (PW.pt (pw_or (pt_not (pt_val (qIsT K T.b_isinstance T.b_tuple (pv 1)))) (pw_or1 (pt_not (pt_val (qAll K T.b_all rfl (pe_lc (own := [("one", 2)]) rfl sc_are_aspects.nd (piT K (pv 1)) (blkOk_by (N := ["book", "thing", "one", "other"]) (sc := defScope s_are_aspects) (by decide +kernel)) (fun _ _ _ _ _ => (pg_name (i := 2) sc_are_aspects.nd rfl (Or.inl rfl))) (fun _ _ _ _ _ => pts_nil) (fun _ _ _ _ _ => (pe_and (qIsS K T.b_isinstance T.b_str (pv 2)) (pe_one (pe_cmpR (opIn K) (pv 2) (pe_ix (ixT K) (pv 0) pe_int (fun _ _ => rfl)) rfl))))))))))) (pss_one (ps_ret pe_bl)) pss_nil) (pss_one (ps_ret (qAll K T.b_all rfl (pe_lc (own := [("one", 2), ("other", 3)]) rfl sc_are_aspects.nd (RZ.pi_zipA rfl T.b_zip (pa_cons (pv 1) (pa_cons (pe_slice (slT K) (pv 1) (po_some pe_int) po_none) pa_nil))) (blkOk_by (N := ["book", "thing", "one", "other"]) (sc := defScope s_are_aspects) (by decide +kernel)) (fun _ _ _ _ _ => (pgTup K (n := 2) rfl (pgs_cons (pg_name (i := 2) sc_are_aspects.nd rfl (Or.inl rfl)) (pgs_cons (pg_name (i := 3) sc_are_aspects.nd rfl (Or.inl rfl)) pgs_nil)))) (fun _ _ _ _ _ => pts_nil) (fun _ _ _ _ _ => (pe_cmpR op_lt_str (pv 2) (pv 3) (nomark _)))))))), ?_⟩
  obtain ⟨ds, d, hd, ⟨b, xs, k, rfl, o, hl, hk, hr2, rfl⟩, hQ⟩ := h
  obtain ⟨u, v, rfl, h1, h2⟩ := dp2 hd
  have dv : EvD K (tVar 1) (L2.start ["book", "thing", "one", "other"] [u, v]) H (eStrs xs) := d_var (i := 1) rfl h2
  refine Evl.s_if (b := !k) (tt_orF (tt_notT (tt_B (d_isT dv))) (et_not (t_B (d_is (d_allB (fun x => decide (x ∈ b.asps)) (w_tup dv) (by omega) fun x hx y H2 e2 hy => ⟨_, g_name, rfl, d_andT (d_isS (d_var (i := 2) rfl hy)) (d_in1 (d_var (i := 2) rfl hy) (d_ixT (d_var (i := 0) rfl (dp_ex e2 _ _ h1)) d_int (atI_of (j := 0) rfl)))⟩) (by rw [← hk]))))) (fun hb H1 e => ?_) fun hb H1 e => ?_
  · have : k = false := by simpa using hb
    subst this
    exact s_retP d_bl fun v H3 e3 w => hQ v H3 (e.trans e3) w
  · have : k = true := by simpa using hb
    subst this
    have rs := hr2 rfl
    have dv1 : EvD K (tVar 1) (L2.start ["book", "thing", "one", "other"] [u, v]) H1 (eStrs xs) := d_var (i := 1) rfl (dp_ex e _ _ h2)
    refine s_retP (d_allT (w_zip (l := xs) (m := xs.tail) (f := PyData.str) (f2 := PyData.str) dv1 (d_is (d_tail dv1) (by rw [List.map_tail]))) (by rw [List.length_zip]; omega) fun p hp y H2 e2 hy => ?_) fun v H3 e3 w => hQ v H3 (e.trans e3) w
    obtain ⟨T', x1, x2, rfl, hT, k1, k2⟩ := hy
    refine ⟨_, g_two (st_of hT), rfl, d_is (d_ltS (d_var (i := 2) rfl k1) (d_var (i := 3) rfl k2)) ?_⟩
    obtain ⟨i, hi⟩ := List.getElem?_of_mem hp
    rw [List.getElem?_zip_eq_some] at hi
    have h2' : xs[i + 1]? = some p.2 := by
      rw [← hi.2, List.getElem?_tail]
    rw [decide_eq_true (rs i _ _ hi.1 h2')]
theorem ok_need_row (T : TX K mg) : FnOk P w K mg base CX0 7 T.need_row.f T.need_row.fd ["book", "thing"] (SpD K pRow) := by
  refine T.need_row.F.ok sc_need_row (fun vs H Q E h => spD_len (n := 2) (fun ds d ⟨x, y, e, _⟩ => by rw [e]; rfl) h) (fun cdv A outer s H vs Q E hr h => ?_)
  obtain ⟨tk_MOST_WORDS, gi_MOST_WORDS⟩ := T.i_MOST_WORDS
  refine ⟨_, PSs.nox (pss_cons (ps_expr (pe_call (ok_need_book T) (hr.mono (by decide)) rfl T.need_book.g T.need_book.F.kp (bd_need_book T.need_book.F) .nil pass0 (pa_cons (pv 0) pa_nil))) (pss_cons (ps_if (pt_not (pt_val (pe_call (ok_are_words T) (hr.mono (by decide)) rfl T.are_words.g T.are_words.F.kp (bd_are_words T.are_words.F) .nil pass0 (pa_cons (pv 0) (pa_cons (pv 1) (pa_cons (pe_glob rfl gi_MOST_WORDS (v := .int 60) ⟨_, rfl⟩) pa_nil)))))) (pss_one ps_never) pss_nil) (pss_one (ps_ret (pv 1))))), ?_⟩
  obtain ⟨ds, d, hd, ⟨b, r, rfl, o, ro, rfl⟩, hQ⟩ := h
  obtain ⟨u, v, rfl, h1, h2⟩ := dp2 hd
  refine s_dropP (d_call (ds_cons (d_var (i := 0) rfl h1) ds_nil) ⟨b, rfl, o, rfl⟩) fun _ H1 e1 _ => ?_
  refine s_ifF (tt_notT (tt_B (d_call (ds_cons (d_var (i := 0) rfl (dp_ex e1 _ _ h1)) (ds_cons (d_var (i := 1) rfl (dp_ex e1 _ _ h2)) (ds_cons d_int ds_nil))) ⟨b, r, rfl, o, ro, rfl⟩))) fun H2 e2 => ?_
  exact s_retP (d_var (i := 1) rfl (dp_ex (e1.trans e2) _ _ h2)) fun v H3 e3 w => hQ v H3 ((e1.trans e2).trans e3) w
theorem ok_size_in (T : TX K mg) : FnOk P w K mg base CX0 1 T.size_in.f T.size_in.fd ["row"] (SpD K pSize) := by
  refine T.size_in.F.ok sc_size_in (fun vs H Q E h => spD_len (n := 1) (fun ds d ⟨x, e, _⟩ => by rw [e]; rfl) h) (fun cdv A outer s H vs Q E hr h => ?_)
  obtain ⟨tk_MORE_SIGNS, gi_MORE_SIGNS⟩ := T.i_MORE_SIGNS
  refine ⟨_, PSs.nox (pss_one (ps_ret (qSum K T.b_sum rfl (pe_lc (own := [("word", 1)]) rfl sc_size_in.nd (piT K (pv 0)) (blkOk_by (N := ["row", "word"]) (sc := defScope s_size_in) (by decide +kernel)) (fun _ _ _ _ _ => (pg_name (i := 1) sc_size_in.nd rfl (Or.inl rfl))) (fun _ _ _ _ _ => pts_nil) (fun _ _ _ _ _ => (pe_op op_add (qLen K T.b_len (pv 1)) (pe_glob rfl gi_MORE_SIGNS (v := .int 2) ⟨_, rfl⟩))))))), ?_⟩
  obtain ⟨ds, d, hd, ⟨r, rfl, rl, rx, rfl⟩, hQ⟩ := h
  obtain ⟨u, rfl, h1⟩ := dp1 hd
  exact s_retP (d_sumI (fun x : Str => ((x.length : Nat) : Int) + 2) (w_tup (d_var (i := 0) rfl h1)) (by omega) fun x hx y H2 e2 hy => ⟨_, g_name, rfl, d_add (d_lenS (d_var (i := 1) rfl hy) (by have := rx x hx; omega)) d_int⟩) hQ
theorem word_len {b : Bk} (o : BookOk b) {r : List Str} (ro : RowOk b r) : ∀ x ∈ r, x.length ≤ 8 := fun x hx => by
  obtain ⟨c, hc, rfl⟩ := List.mem_map.mp (ro.each x hx)
  exact (o.codes.each c hc).word.1.2.1
theorem ok_size_of (T : TX K mg) : FnOk P w K mg base CX0 8 T.size_of.f T.size_of.fd ["book", "row"] (SpD K pSizeOf) := by
  refine T.size_of.F.ok sc_size_of (fun vs H Q E h => spD_len (n := 2) (fun ds d ⟨x, y, e, _⟩ => by rw [e]; rfl) h) (fun cdv A outer s H vs Q E hr h => ?_)
  refine ⟨_, PSs.nox (pss_one (ps_ret (pe_call (ok_size_in T) (hr.mono (by decide)) rfl T.size_in.g T.size_in.F.kp (bd_size_in T.size_in.F) .nil pass0 (pa_cons (pe_call (ok_need_row T) (hr.mono (by decide)) rfl T.need_row.g T.need_row.F.kp (bd_need_row T.need_row.F) .nil pass0 (pa_cons (pv 0) (pa_cons (pv 1) pa_nil))) pa_nil)))), ?_⟩
  obtain ⟨ds, d, hd, ⟨b, r, rfl, o, ro, rfl⟩, hQ⟩ := h
  obtain ⟨u, v, rfl, h1, h2⟩ := dp2 hd
  have hf := ro.few
  exact s_retP (d_call (ds_cons (d_call (ds_cons (d_var (i := 0) rfl h1) (ds_cons (d_var (i := 1) rfl h2) ds_nil)) ⟨b, r, rfl, o, ro, rfl⟩) ds_nil) ⟨r, rfl, by omega, fun x hx => by have := word_len o ro x hx; omega, rfl⟩) hQ
end
end K26
set_option Elab.async false
set_option linter.all false
set_option maxRecDepth 100000
set_option maxHeartbeats 2000000
/-! KIn: data in a tuple, tuple.index of data; equality of what is written as data. -/
namespace K26
open PySem PySem.Spec PyProof.Rows L2 Evl
/-! ### data, laid and compared -/
def okD (d : PyData) : Prop := d.canLay0 = true ∧ d.depth ≤ 10
theorem okD.shaped {d : PyData} (h : okD d) : SeqAt.shaped d = true := by
  unfold SeqAt.shaped
  rw [h.1, decide_eq_true (by have := h.2; omega)]
  rfl
theorem lay_map {α : Type} {e : α → PyData} : ∀ {l : List α}, (∀ a ∈ l, (e a).canLay0 = true) → PyData.canLayAll0 (l.map e) = true
  | [], _ => rfl
  | a :: l, h => by
    show ((e a).canLay0 && PyData.canLayAll0 (l.map e)) = true
    rw [h a List.mem_cons_self, lay_map fun b hb => h b (List.mem_cons_of_mem _ hb)]
    rfl
theorem depth_map {α : Type} {e : α → PyData} {n : Nat} : ∀ {l : List α}, (∀ a ∈ l, (e a).depth ≤ n) → PyData.depthAll (l.map e) ≤ n
  | [], _ => Nat.zero_le _
  | a :: l, h => by
    show max (e a).depth (PyData.depthAll (l.map e)) ≤ n
    have := h a List.mem_cons_self
    have := depth_map fun b hb => h b (List.mem_cons_of_mem _ hb)
    omega
theorem eqvAll_map {α : Type} {e : α → PyData} {p : α → Prop} [DecidableEq α] (he : ∀ a b, (e a).eqv (e b) = decide (a = b)) : ∀ {l m : List α}, PyData.eqvAll (l.map e) (m.map e) = decide (l = m)
  | [], [] => rfl
  | [], _ :: _ => rfl
  | _ :: _, [] => rfl
  | a :: l, b :: m => by
    show ((e a).eqv (e b) && PyData.eqvAll (l.map e) (m.map e)) = _
    rw [he, eqvAll_map (p := p) he]
    simp [Bool.decide_and]
theorem eqv_str (a b : Str) : (PyData.str a).eqv (.str b) = decide (a = b) := by
  show (a == b) = decide (a = b)
  by_cases h : a = b
  · subst h; simp
  · simp [h]
theorem eqv_pair (p q : Str × Str) : (ePair p).eqv (ePair q) = decide (p = q) := by
  show ((PyData.str p.1).eqv (.str q.1) && ((PyData.str p.2).eqv (.str q.2) && true)) = _
  rw [eqv_str, eqv_str, Bool.and_true, ← Bool.decide_and]
  congr 1
  exact propext ⟨fun h => Prod.ext h.1 h.2, fun h => by rw [h]; exact ⟨rfl, rfl⟩⟩
theorem eqv_ch (c e : List (Str × Str)) : (eCh c).eqv (eCh e) = decide (c = e) := eqvAll_map (p := fun _ => True) eqv_pair
theorem eqv_strs (c e : List Str) : (eStrs c).eqv (eStrs e) = decide (c = e) := eqvAll_map (p := fun _ => True) eqv_str
def Lt (x : Str) : Prop := PyData.strOk x = true
theorem cpsOk {z x : Str} (h : OfOk z x) (hz : PyData.strOk z = true): PyData.strOk x = true := by
  unfold PyData.strOk at hz ⊢
  rw [Array.all_eq_true'] at hz ⊢
  intro c hc
  exact hz c (Array.mem_toList_iff.mp (h.2.2 c (Array.mem_toList_iff.mpr hc)))
theorem Mark.lt {x : Str} (h : Mark x) : Lt x := cpsOk h (by decide +kernel)
theorem Word.lt {x : Str} (h : Word x) : Lt x := cpsOk h.1 (by decide +kernel)
theorem okD_str {x : Str} (h : Lt x) : okD (.str x) := ⟨h, Nat.zero_le _⟩
theorem okD_tup {ds : List PyData} {n : Nat} (hl : PyData.canLayAll0 ds = true) (hd : PyData.depthAll ds ≤ n) (hn : n ≤ 9) : okD (.tuple ds) := ⟨hl, by show PyData.depthAll ds + 1 ≤ 10; omega⟩
theorem pair_depth (p : Str × Str) : (ePair p).depth = 1 := by simp [PyData.depth, PyData.depthAll]
theorem okD_pair {p : Str × Str} (h1 : Lt p.1) (h2 : Lt p.2) : okD (ePair p) := by
  refine ⟨?_, by rw [pair_depth]; decide⟩
  show (PyData.strOk p.1 && (PyData.strOk p.2 && true)) = true
  rw [h1, h2]
  rfl
theorem okD_ch {c : List (Str × Str)} (h : ∀ p ∈ c, Lt p.1 ∧ Lt p.2) : okD (eCh c) := okD_tup (n := 1) (lay_map fun p hp => (okD_pair (h p hp).1 (h p hp).2).1) (depth_map fun p _ => by rw [pair_depth]; decide) (by decide)
theorem okD_strs {c : List Str} (h : ∀ p ∈ c, Lt p) : okD (eStrs c) := okD_tup (n := 0) (lay_map h) (depth_map fun p _ => Nat.zero_le _) (by decide)
/-! ### rules -/
def rInT (K : PySem.W.Frag) : R2 := fun x y H Q => ∃ d ds, Dp K H x d ∧ Dp K H y (.tuple ds) ∧ okD d ∧ PyData.canLayAll0 ds = true ∧ Q (.bl (ds.any fun z => PyData.eqv z d)) H
def rNiT (K : PySem.W.Frag) : R2 := fun x y H Q => ∃ d ds, Dp K H x d ∧ Dp K H y (.tuple ds) ∧ okD d ∧ PyData.canLayAll0 ds = true ∧ Q (.bl (!ds.any fun z => PyData.eqv z d)) H
section
variable {X : Cx}
theorem room_in {u n m : Nat} (hu : u + 64 < cLine) (h : m ≤ 10) : u + 1 + min n m < cLine := by
  have : min n m ≤ 10 := Nat.le_trans (Nat.min_le_right _ _) h
  omega
theorem opInT (K : PySem.W.Frag) (hu : X.A.units + 64 < cLine) (hk : X.K = K := by rfl) : OpR X (compareOp .In) (rInT K) := by
  subst hk
  intro pins s σ H x y v u Q I rx ry h
  obtain ⟨d, ds, hd, he, od, oe, q⟩ := h
  obtain ⟨as, r1⟩ := Dp.reads I d x v hd rx
  obtain ⟨bs, r2⟩ := Dp.reads I (.tuple ds) y u he ry
  exact SeqAt.in_tuple_reads r2 r1 oe od.1 (room_in hu od.2) ⟨.bl _, H, I, rfl, q⟩
theorem opNiT (K : PySem.W.Frag) (hu : X.A.units + 64 < cLine) (hk : X.K = K := by rfl) : OpR X (compareOp .NotIn) (rNiT K) := by
  subst hk
  intro pins s σ H x y v u Q I rx ry h
  obtain ⟨d, ds, hd, he, od, oe, q⟩ := h
  obtain ⟨as, r1⟩ := Dp.reads I d x v hd rx
  obtain ⟨bs, r2⟩ := Dp.reads I (.tuple ds) y u he ry
  exact SeqAt.notIn_tuple_reads r2 r1 oe od.1 (room_in hu od.2) ⟨.bl _, H, I, rfl, q⟩
/-- t.index(x): the first place of an equal one -/
def rIdxT (K : PySem.W.Frag) : V → List V → Hp → VK → Prop := fun x xs H Q => ∃ (a : Addr) (y : V) (d : PyData) (ds : List PyData) (j : Nat) (z : PyData), x = V.ref a ∧ xs = [y] ∧ Dp K H (V.ref a) (.tuple ds) ∧ Dp K H y d ∧
  PyData.canLayAll0 ds = true ∧ okD d ∧ ds[j]? = some z ∧ PyData.eqv z d = true ∧ (∀ (m : Nat) (z' : PyData), m < j → ds[m]? = some z' → PyData.eqv z' d = false) ∧ Q (.int (j : Nat)) H
theorem mt_idxT (hu : X.A.units + 64 < cLine) : MtR X "tuple.index" (rIdxT X.K) := by
  intro pins s σ H x xs v us Q I rx rxs h
  obtain ⟨a, y, d, ds, j, z, rfl, rfl, hl, hy, sl, sd, hz, hzj, hno, q⟩ := h
  cases rx
  cases rxs with
  | cons ry rt =>
    rename_i uy ut
    cases rt
    obtain ⟨bs, r1⟩ := Dp.reads I d y uy hy ry
    cases hl with
    | tup hs ha =>
      obtain ⟨its, rv, ⟨⟨cls, dd, data, sls⟩, ho, hc, n, hdt⟩, hlen⟩ := I.tuple hs
      simp only at hc hdt
      subst hc hdt
      obtain ⟨as, h4⟩ := Dp.readsAll I ds _ its ha rv
      have hn : its.length = ds.length := SeqAt.ReadsAll.length ds its as h4
      have hmap : its.map (SeqAt.readOf s.heap) = ds := SeqAt.readsAll_map ds its as sl h4
      have jd : j < ds.length := (List.getElem?_eq_some_iff.mp hz).1
      have hj : j < its.toArray.size := by
        simp
        omega
      have look : ∀ (m : Nat) (hm : m < its.toArray.size) (z' : PyData), ds[m]? = some z' → SeqAt.readOf s.heap its.toArray[m] = z' := by
        intro m hm z' hz'
        have hml : m < its.length := by simpa using hm
        rw [← hmap, List.getElem?_map, List.getElem?_eq_getElem hml] at hz'
        have e1 := Option.some.inj hz'
        simpa using e1
      have eqs := SeqAt.items_eqAt (A := X.A) (vs := its.toArray) (show ReadsAll s.heap its.toArray.toList ds as from h4) r1 sl sd.1 (room_in hu sd.2)
      have eqs2 : ∀ m (hm : m < its.toArray.size), SeqAt.EqAt X.A.in1 s its.toArray[m] uy ((fun i => if h : i < its.toArray.size then PyData.eqv (SeqAt.readOf s.heap its.toArray[i]) d else false) m) := fun m hm => by
        dsimp only
        rw [dif_pos hm]
        exact eqs _ (Array.getElem_mem hm)
      refine call_meets PySem.F.slot_tuple_index ⟨_, ho, rfl⟩ PySem.F.entry_tuple_index (PySem.F.args_tuple_index_2 _ _)
        (SeqAt.tuple_index2_found a its.toArray n dd sls uy _ j hj (Nat.zero_le _) hj ?_ ?_) ⟨ho, eqs2, ⟨.int (j : Nat), H, I.tok _, ⟨_, rfl⟩, q⟩⟩
      · rw [dif_pos hj, look j hj z hz]
        exact hzj
      · intro m hm _ hmj
        rw [dif_pos hm, look m hm _ (List.getElem?_eq_getElem (show m < ds.length by omega))]
        exact hno m _ hmj (List.getElem?_eq_getElem (show m < ds.length by omega))
end
section
variable {K : PySem.W.Frag} {σ : L2.St} {H H' : Hp} {ta tb : TE} {d : PyData}
theorem any_eqv {α : Type} [DecidableEq α] {e : α → PyData} (he : ∀ a b, (e a).eqv (e b) = decide (a = b)) (a : α) : ∀ l : List α, ((l.map e).any fun z => z.eqv (e a)) = decide (a ∈ l)
  | [] => rfl
  | b :: l => by
    rw [List.map_cons, List.any_cons, he, any_eqv he a l]
    by_cases h : b = a
    · subst h
      simp
    · have : ¬ a = b := fun z => h z.symm
      simp [h, this]
theorem any_eqv2 {α : Type} [DecidableEq α] {e : α → PyData} (he : ∀ a b, (e a).eqv (e b) = decide (a = b)) (a : α) (l : List α) [i : Decidable (a ∈ l)] : ((l.map e).any fun z => z.eqv (e a)) = decide (a ∈ l) := by
  rw [any_eqv he]
  congr
theorem d_inT {α : Type} [DecidableEq α] {e : α → PyData} {a : α} {l : List α} [Decidable (a ∈ l)] (he : ∀ a b, (e a).eqv (e b) = decide (a = b)) (h1 : EvD K ta σ H (e a)) (h2 : EvD K tb σ H (.tuple (l.map e))) (o1 : okD (e a)) (o2 : ∀ b ∈ l, okD (e b)) : EvD K (tOp (rInT K) ta tb) σ H (.bool (decide (a ∈ l))) :=
  p_op isD_mono h1 h2 fun x y H1 e1 w1 w2 => op_at (z := .bl ((l.map e).any fun z => z.eqv (e a))) (fun Q q => ⟨e a, l.map e, w1, w2, o1, lay_map fun b hb => (o2 b hb).1, q⟩) (by rw [any_eqv2 he]; exact .bl _)
theorem d_niT {α : Type} [DecidableEq α] {e : α → PyData} {a : α} {l : List α} [Decidable (a ∈ l)] (he : ∀ a b, (e a).eqv (e b) = decide (a = b)) (h1 : EvD K ta σ H (e a)) (h2 : EvD K tb σ H (.tuple (l.map e))) (o1 : okD (e a)) (o2 : ∀ b ∈ l, okD (e b)) : EvD K (tOp (rNiT K) ta tb) σ H (.bool (!decide (a ∈ l))) :=
  p_op isD_mono h1 h2 fun x y H1 e1 w1 w2 => op_at (z := .bl (!(l.map e).any fun z => z.eqv (e a))) (fun Q q => ⟨e a, l.map e, w1, w2, o1, lay_map fun b hb => (o2 b hb).1, q⟩) (by rw [any_eqv2 he]; exact .bl _)
end
end K26
set_option Elab.async false
set_option linter.all false
set_option maxRecDepth 100000
set_option maxHeartbeats 2000000
/-! KFrz: tuples that are known to the last part (they have no dict of their own): made by a display, by +, by [::-1]; a method of such a one called. -/
namespace HT
open PySem PySem.Spec PyProof.Rows
section
variable {prog : Program} {w : World} {A : Around} {E : Value → Shared → Prop} {s : Shared}
theorem back_adjust (n : Nat) : Builtin.Slice.sliceAdjust none none (-1) (n : Int) = ((n : Int) - 1, -1) := by
  unfold Builtin.Slice.sliceAdjust
  simp
theorem back_places (n : Nat) : Builtin.Slice.slicePlaces ((n : Int) - 1) (-1) (-1) = n := by
  unfold Builtin.Slice.slicePlaces
  have h1 : ¬ (-1 : Int) > 0 := by decide
  simp only [h1, if_false, Int.neg_neg, Int.ediv_one]
  split <;> omega
theorem back_applied {sl : Addr} {vl vu vs : Value} {n : Nat} {Q : Int × Int × Nat → Shared → Prop} (hs : s.heap.IsSliceOf sl vl vu vs) (pl : IsPart vl none) (pu : IsPart vu none) (ps : IsPart vs (some (-1)))
    (h : Q ((n : Int) - 1, -1, n) s) : wpAny (model prog w) A (Builtin.Slice.sliceApplied (.ref sl) (pure (n : Int))) Q E s := by
  obtain ⟨os, hos, hcs, hds⟩ := id hs
  unfold Builtin.Slice.sliceApplied Builtin.Slice.sliceFields
  refine wpAny_bind (wpAny_bind (wpAny_field hos hds (x := vl) rfl (wpAny_bind (wpAny_field hos hds (x := vu) rfl (wpAny_bind (wpAny_field hos hds (x := vs) rfl (wpAny_pure ?_)))))))
  refine wpAny_bind (slicePart_ ps ?_)
  show wpAny _ _ (if ((-1 : Int) == 0) = true then _ else _) _ _ s
  rw [if_neg (by decide)]
  refine wpAny_bind (slicePart_ pl (wpAny_bind (slicePart_ pu (wpAny_bind (wpAny_pure ?_)))))
  show wpAny _ _ (match Builtin.Slice.sliceAdjust none none (-1) (n : Int) with | (lo, hi) => pure (lo, (-1 : Int), Builtin.Slice.slicePlaces lo hi (-1))) _ _ s
  rw [back_adjust]
  show wpAny _ _ (pure ((n : Int) - 1, (-1 : Int), Builtin.Slice.slicePlaces ((n : Int) - 1) (-1) (-1))) _ _ s
  rw [back_places]
  exact wpAny_pure h
theorem back_pick (xs : Array Value) : ((List.range xs.size).filterMap fun (m : Nat) => xs[(((xs.size : Int) - 1) + (m : Int) * (-1)).toNat]?).toArray = xs.toList.reverse.toArray := by
  congr 1
  apply List.ext_getElem?
  intro i
  have key : ∀ (n : Nat), n ≤ xs.size → ((List.range n).filterMap fun (m : Nat) => xs[(((xs.size : Int) - 1) + (m : Int) * (-1)).toNat]?) = (xs.toList.reverse).take n := by
    intro n
    induction n with
    | zero => intro _; rfl
    | succ n ih =>
      intro hn
      rw [List.range_succ, List.filterMap_append, ih (by omega), List.take_add_one]
      congr 1
      have e : (((xs.size : Int) - 1) + (n : Int) * (-1)).toNat = xs.size - 1 - n := by omega
      have e2 : xs.toList.reverse[n]? = xs[xs.size - 1 - n]? := by
        rw [List.getElem?_reverse (by rw [Array.length_toList]; omega)]
        simp
      rw [e2]
      simp only [List.filterMap_cons, List.filterMap_nil, e]
      cases xs[xs.size - 1 - n]? <;> rfl
  rw [key xs.size (Nat.le_refl _), List.take_of_length_le (by simp)]
theorem getItem_tuple_back {t sl : Addr} {items : Array Value} {vl vu vs : Value} {Q : Value → Shared → Prop} (ht : IsTup s.heap t items) (hs : s.heap.IsSliceOf sl vl vu vs) (pl : IsPart vl none) (pu : IsPart vu none) (ps : IsPart vs (some (-1)))
    (h : Q (.ref s.heap.objs.size) { s with heap := s.heap.push { cls := .type "tuple", data := .seq items.toList.reverse.toArray } }) (hsz : items.size ≤ sizeLine) : wpAny (model prog w) A (getItem (.ref t) (.ref sl)) Q E s := by
  have hz : sizeOk (.seq items.toList.reverse.toArray) := by
    show items.toList.reverse.toArray.size ≤ sizeLine
    simpa using hsz
  obtain ⟨os, hos, hcs, hds⟩ := id hs
  have hTs : s.TypeIs (.ref sl) "slice" := ⟨os, hos, hcs⟩
  unfold getItem
  try with_reducible refine wpAny_holding ?_
  first | refine wpAny_bind (wpAny_pure ?_) | skip
  refine wpAny_bind (wpAny_sequenceKey ht.typeIs (by decide) ?_)
  refine wpAny_bind (wpAny_callSpecial?_slot (name := Str.ofString "__getitem__") ht.typeIs PyProof.Rows.slot_tuple_getitem
    (wpAny_call_entry PyProof.Rows.slot_tuple_getitem ht.typeIs entry_tuple_getitem ?_ (args_tuple_getitem _ _)))
  show wpAny _ _ (Builtin.Tuple.tupleItemsOf (.ref t) >>= _) _ _ s
  refine wpAny_bind (tupleItemsOf_ ht ?_)
  refine wpAny_bind (wpAny_typeOf hTs ?_)
  rw [if_pos (by decide)]
  refine wpAny_bind (back_applied hs pl pu ps ?_)
  show wpAny _ _ (if (((items.size : Int) - 1) == 0 && (-1 : Int) == 1 && items.size == items.size) = true then _ else _) _ _ s
  rw [if_neg (by simp), back_pick]
  first
    | exact wpAny_bind (m := Builtin.Tuple.tupleExact _) (wpAny_newObj_type (wpAny_pure ⟨_, rfl, wpAny_pure h⟩) hz)
    | exact wpAny_bind (m := Builtin.Tuple.tupleExact _) (wpAny_newObj_type (wpAny_bind (wpAny_pure (wpAny_pure ⟨_, rfl, wpAny_pure h⟩))) hz)
    | exact wpAny_bind (wpAny_bind (m := Builtin.Tuple.tupleExact _) (wpAny_newObj_type (wpAny_pure (wpAny_pure ⟨_, rfl, wpAny_pure h⟩)) hz))
    | exact wpAny_bind (wpAny_bind (m := Builtin.Tuple.tupleExact _) (wpAny_newObj_type (wpAny_pure ⟨_, rfl, wpAny_pure h⟩) hz))
end
end HT
namespace K26
open PySem PySem.Spec PyProof.Rows L2 Evl
/-- the tuple object of these items -/
def FrzT (H : Hp) (a : Addr) (xs : List V) : Prop := ∃ o : Obj, H a = some (.frz o (.tup xs)) ∧ o.dict = none ∧ o.cls = .type "tuple"
/-- a value that is such a tuple -/
def PlT (H : Hp) (v : V) : Prop := ∃ a xs, v = .ref a ∧ FrzT H a xs
theorem FrzT.sq {K : PySem.W.Frag} {H : Hp} {a : Addr} {xs : List V} (h : FrzT H a xs) : SqT K H a xs := by
  obtain ⟨o, h, _⟩ := h
  exact .inl (.inr ⟨o, h⟩)
theorem PlT.ex {H H' : Hp} {v : V} (e : Ex H H') (h : PlT H v) : PlT H' v := by
  obtain ⟨a, xs, h1, o, h2, h3⟩ := h
  exact ⟨a, xs, h1, o, e _ _ h2, h3⟩
theorem PlT.t {H H' : Hp} {v : V} (e : ExT H H') (h : PlT H v) : PlT H' v := by
  obtain ⟨a, xs, h1, o, h2, h3⟩ := h
  exact ⟨a, xs, h1, o, e.2 _ _ _ h2, h3⟩
section
variable {X : Cx}
abbrev tupO (us : List Value) : Obj := { cls := .type "tuple", data := .seq us.toArray }
/-- (a, b, ..) -/
def tTupF (t : TA) : TE := fun σ H Q => t σ H fun xs H' => xs.length ≤ sizeLine ∧ ∀ p H2, H' p = none → (∃ o : Obj, o.dict = none ∧ o.cls = .type "tuple" ∧ H2 = upd H' p (.frz o (.tup xs))) → Q (.ref p) H2
theorem frz_new {P : Program} {w : World} {H' : Hp} {h : Heap} {xs : List V} {us : List Value} (z : xs.length ≤ sizeLine) (r : Vals xs us) : ObjOk P w H' (h.push (tupO us)) h.objs.size (.frz (tupO us) (.tup xs)) :=
  ⟨Heap.get?_push_size _ rfl, z, us, r, IsTup.new _ _⟩
theorem pe_tupF {es : List Expr} {t : TA} {pos : Pos} {x1} (h : PA X es t) : PE X (.Tuple es x1 pos) (tTupF t) := by
  refine ⟨fun pins s σ H Q I hq => ?_⟩
  refine wpAny_Tuple_spliced (thn (h.run pos pins s σ H _ I hq) fun us s1 ⟨xs, H1, I1, r, z, q⟩ => ⟨by rw [← r.length]; exact z, ?_⟩)
  exact ⟨.ref s1.heap.objs.size, _, I1.laid (t' := s1.toks) (o := .frz (tupO us) (.tup xs)) (fun b u e => Heap.get?_push_of_some _ e) (Nat.le_refl _) (frz_new z r), rfl, q _ _ (I1.hok.fresh (Nat.le_refl _)) ⟨_, rfl, rfl, rfl⟩⟩
/-- t + u, t not empty -/
def rCatF (K : PySem.W.Frag) : R2 := fun x y H Q => ∃ a b xs ys, x = .ref a ∧ y = .ref b ∧ SqT K H a xs ∧ SqT K H b ys ∧ xs ≠ [] ∧ xs.length + ys.length ≤ sizeLine ∧
  (ys = [] → Q (.ref a) H) ∧ (ys ≠ [] → ∀ p H2, H p = none → (∃ o : Obj, o.dict = none ∧ o.cls = .type "tuple" ∧ H2 = upd H p (.frz o (.tup (xs ++ ys)))) → Q (.ref p) H2)
theorem opCatF (K : PySem.W.Frag) (hk : X.K = K := by rfl) : OpR X (binaryOp .Add) (rCatF K) := by
  subst hk
  intro pins s σ H x y v u Q I rx ry h
  obtain ⟨a, b, xs, ys, rfl, rfl, ha, hb, hx, hz, q1, q2⟩ := h
  cases rx
  cases ry
  obtain ⟨its, r1, p1, _⟩ := I.tuple ha
  obtain ⟨its2, r2, p2, _⟩ := I.tuple hb
  refine HT.cat_tup p1 p2 (fun z => hx (r1.nil_iff.mp z)) (fun z => ⟨.ref a, H, I, rfl, q1 (r2.nil_iff.mp z)⟩) (fun z => ?_) (by rw [← r1.length, ← r2.length]; exact hz)
  exact ⟨.ref s.heap.objs.size, _, I.laid (t' := s.toks) (o := .frz (tupO (its ++ its2)) (.tup (xs ++ ys))) (fun b ob q => Heap.get?_push_of_some _ q) (Nat.le_refl _) (frz_new (by rw [List.length_append]; exact hz) (r1.append r2)), rfl,
    q2 (fun w => z (r2.nil_iff.mpr w)) _ _ (I.hok.fresh (Nat.le_refl _)) ⟨_, rfl, rfl, rfl⟩⟩
/-- t[::-1] -/
def tRevF (K : PySem.W.Frag) (te : TE) : TE := fun σ H Q => te σ H fun x H1 => ∃ a xs, x = .ref a ∧ SqT K H1 a xs ∧ ∀ p H2, H1 p = none → (∃ o : Obj, o.dict = none ∧ o.cls = .type "tuple" ∧ H2 = upd H1 p (.frz o (.tup xs.reverse))) → Q (.ref p) H2
theorem pe_revF (K : PySem.W.Frag) {e : Expr} {te : TE} {k : Nat} {p1 p2 p3 pos : Pos} (he : PE X e te) (hk : X.K = K := by rfl) : PE X (.Subscript e (.Slice none none (some (.UnaryOp .USub (.Constant (.int 1) k p1) p2)) p3) pos) (tRevF K te) := by
  subst hk
  refine ⟨fun pins s σ H Q I h => ?_⟩
  refine Subscript_ (thn (he.run pins s σ H _ I h) fun v s1 ⟨x, H1, I1, r1, q1⟩ => ?_)
  obtain ⟨a, xs, ex, hx, q⟩ := q1
  subst ex
  cases r1
  have hst : PO X (some (.UnaryOp .USub (.Constant (.int 1) k p1) p2)) (tPart (tUn (rU fun i => .int (-i)) (tC (.int 1)))) := po_some (pe_un un_neg pe_int)
  refine wpAny_Slice (thn (po_none.run pins s1 σ H1 (fun o H2 => o = none ∧ H2 = H1) I1 ⟨rfl, rfl⟩) fun vl s2 ⟨l, H2, I2, pl, el, e2⟩ => ?_)
  subst el e2
  refine thn (po_none.run pins s2 σ H2 (fun o H3 => o = none ∧ H3 = H2) I2 ⟨rfl, rfl⟩) fun vu s3 ⟨u, H3, I3, pu, eu, e3⟩ => ?_
  subst eu e3
  refine thn (hst.run pins s3 σ H3 (fun o H4 => o = some (-1) ∧ H4 = H3) I3 ⟨1, rfl, -1, rfl, rfl, rfl⟩) fun vs s4 ⟨o, H4, I4, ps, eo, e4⟩ => ?_
  subst eo e4
  have I5 : Inv X pins σ H4 { s4 with heap := s4.heap.push { cls := .type "slice", data := .fields #[vl, vu, vs] } } := I4.kept (t' := s4.toks) fun b ob q => Heap.get?_push_of_some _ q
  obtain ⟨its, r, ht, hz⟩ := I5.tuple hx
  have hlen := r.length
  show wpAny (model X.prog X.w) X.A (subscriptTail e (.Slice none none (some (.UnaryOp .USub (.Constant (.int 1) k p1) p2)) p3) (.ref a) (.ref s4.heap.objs.size)) (EP X pins σ Q) X.xe { s4 with heap := s4.heap.push { cls := .type "slice", data := .fields #[vl, vu, vs] } }
  refine tail_any (ops := [.ref a, .ref s4.heap.objs.size]) ht.typeIs (PyProof.Rows.slot_tuple_getitem.lookup) ?_ (by with_unfolding_all rfl)
  refine HT.getItem_tuple_back ht (Heap.IsSliceOf.new _ vl vu vs) pl pu ps ?_ (by rw [List.size_toArray]; omega)
  exact ⟨.ref _, _, I5.laid (t' := s4.toks) (o := .frz (tupO its.reverse) (.tup xs.reverse)) (fun b ob q => Heap.get?_push_of_some _ q) (Nat.le_refl _) (frz_new (by rw [List.length_reverse]; exact hz) r.reverse), rfl, q _ _ (I5.hok.fresh (Nat.le_refl _)) ⟨_, rfl, rfl, rfl⟩⟩
/-- a method of such a tuple -/
def tBMF (r : V → List V → Hp → VK → Prop) (to : TE) (t : TA) : TE := fun σ H Q => to σ H fun x H1 => PlT H1 x ∧ t σ H1 fun xs H2 => r x xs H2 Q
theorem pe_bmF {o e : Expr} {es : List Expr} {to : TE} {t : TA} {name : Str} {apos cpos : Pos} {id : String} {r : V → List V → Hp → VK → Prop} (slot : Slot "tuple" name id) (hty : typeOf (.builtin id) = pure (.type "method_descriptor")) (hm : MtR X id r) (ho : PE X o to) (ha : PA X (e :: es) t)
    (hbase : attributeBase o name X.env (eval o X.env) = eval o X.env := by rfl)
    (hfew : ((backTo cpos (starEach (e :: es) X.env)).all (fun x => !x.1) && (backToKw cpos (keywordEach [] X.env)).all (fun x => x.1.isSome)
      && decide ((e :: es).length + ([] : List Keyword).length + (if ([] : List Keyword).isEmpty then 0 else 1) < 30)) = true := by rfl)
    (hline : (apos.endLine == cpos.line) = true := by rfl) (hs : starEach (e :: es) X.env = (false, eval e X.env) :: starEach es X.env := by rfl) (hplain : (backTo cpos (starEach es X.env)).any (·.1) = false := by rfl) :
    PE X (.Call (.Attribute o name apos) (e :: es) [] cpos) (tBMF r to t) := by
  refine ⟨fun pins s σ H Q I h => ?_⟩
  refine wpAny_Call_method_late hbase hfew hline rfl (thn (ho.run pins s σ H _ I h) fun v s1 ⟨x, H1, I1, r1, ty, q1⟩ => ?_)
  obtain ⟨a, ys, rfl, ob, hob, hd, hc⟩ := ty
  cases r1
  have ho1 : s1.heap.get? a = some ob := (I1.hok a _ hob).1
  refine ⟨"tuple", id, PySem.F.plainAttrs_tuple, slot, hty, ⟨ob, ho1, hc⟩, fun b e => ?_, ?_⟩
  · cases e
    exact ⟨ob, ho1, hd⟩
  have hA := ha.run cpos pins s1 σ H1 _ I1 q1
  rw [hs] at hA ⊢
  refine Calls.callWith_builtin (by show (false || (backTo cpos (starEach es X.env)).any (·.1)) = false; rw [hplain] <;> rfl) (Calls.evalArgs_plain ?_)
  exact thn hA fun us s2 ⟨vs, H2, I2, r2, q2⟩ => hm pins s2 σ H2 (.ref a) vs (.ref a) us Q I2 rfl r2 q2
end
end K26
set_option Elab.async false
set_option linter.all false
set_option maxRecDepth 100000
set_option maxHeartbeats 4000000
/-! KDictT: dict(t), t a tuple of pairs that is known to the last part; tuple(list) as such a one. -/
namespace K26
open PySem PySem.Spec PyProof.Rows L2 Evl
theorem tuple_keys_none : typeLookup (.type "tuple") "keys" = pure none := am_miss_of_fast (by first | decide +kernel | rfl)
section
variable {prog : Program} {w : World} {A : Around} {E : Value → Shared → Prop}
/-- a tuple has no attribute 'keys': an AttributeError is made, and forgotten -/
theorem miss_tuple {s : Shared} {a : Addr} {o : Obj} {xs : Array Value} {k : Nat} {Q : Option Value → Shared → Prop} (hx : s.heap.get? a = some o) (hc : o.cls = .type "tuple") (hdat : o.data = .seq xs k) (hd : o.dict = none) (hA : A.handled = none)
    (h : ∀ h' tk, (∀ b ob, s.heap.get? b = some ob → h'.get? b = some ob) → Q none { s with heap := h', toks := tk }) : wpAny (model prog w) A (getAttr? (.ref a) "keys") Q E s := by
  obtain ⟨c, dct, dat, sl⟩ := o
  simp only at hc hdat hd
  subst hc hdat hd
  obtain ⟨hp, g, d, tk, os⟩ := s
  have hT : ∀ tk', (⟨hp, g, d, tk', os⟩ : Shared).TypeIs (.ref a) "tuple" := fun _ => ⟨_, hx, rfl⟩
  have hmiss := tuple_keys_none
  have hname : (["__module__", "__name__", "__qualname__", "__doc__", "__annotations__"] : List Str).contains "keys" = false := by decide +kernel
  have hsz : ("keys" : Str).length + 100 ≤ sizeLine := by first | size_fits | decide +kernel
  have f1 := sub_AttributeError
  have f3 := PySem.F.slot_tuple_getattribute.lookup
  have f4 := PySem.F.slot_tuple_getattribute.bind (.ref a)
  have f5 := am_tuple_getattr_none
  unfold getAttr? getAttrBy? getAttrBy
  repeat (any_goals (first | assumption | exact hT _ | ((with_reducible show wpAny _ _ (call (Value.builtin "tuple.__getattribute__") _ _) _ _ _); refine call_meets PySem.F.slot_tuple_getattribute (hT _) am_entry_tuple_getattribute (PySem.F.args_tuple_getattribute_2 _ _) (meets_getattribute_miss_tuple a xs k sl "keys" _ hmiss hname hsz) ⟨hx, hA, fun h' tk' e hx' => ?_⟩) | wp_step))
  obtain ⟨t', u', he⟩ := hx'.there
  show wpAny _ _ (getattributeRaised _ _ _ _ _ _ _) _ _ _
  unfold getattributeRaised
  repeat (any_goals (first | assumption | wp_step))
  all_goals first | exact h _ _ hx'.keeps | (dsimp only; repeat (any_goals (first | assumption | exact h _ _ hx'.keeps | wp_step)))

/-- the walk over the pairs -/
theorem upd_loopT {R : Result → Shared → Prop} {S I l : Addr} {items : Array Value} {res : Value} (hh : A.handled = none) (hlI : l ≠ I) (hSI : S ≠ I) (hSl : S ≠ l) :
    ∀ (rest : List (Key × Value)) (i : Nat) (acc : List (Key × Value)) (ix : Int) (t : Tok) (s : Shared), items.size = i + rest.length → acc.length + rest.length ≤ sizeLine →
      (∀ (j : Nat) (q : Key × Value), rest[j]? = some q → ∃ (b : Addr) (u : Value), items[i + j]? = some (.ref b) ∧ b ≠ S ∧ b ≠ I ∧ IsTup s.heap b #[u, q.2] ∧ keyIs q.1 u = true) →
      s.heap.IsTupleIter I l i → s.heap.IsTuple l items → s.heap.DictOf (mixKind prog w) S acc →
      (∀ h' tk, h'.DictOf (mixKind prog w) S (merged acc rest) → (∀ b o, b ≠ S → b ≠ I → s.heap.get? b = some o → h'.get? b = some o) → R (.ok (.ret res)) { s with heap := h', toks := tk }) →
      codeAny (model prog w) A (.builtin "dict.update.loop" ⟨[.ref S, .ref I, .int ix t, res], []⟩) R s
  | [], i, acc, ix, t, s, hsz, hln, ht, hit, hl, hm, hR => by
    refine codeAny_builtin ud_entry ?_
    rw [Around.under_plainId ud_plain _]
    show wpAny _ A.in1 (pyNext (.ref I) >>= _) _ _ s
    refine wpAny_bind (wpAny_pyNext_tuple_end (A := A.in1) hh hit hl (by first | exact Array.getElem?_eq_none (Nat.le_of_eq hsz) | (simp at hsz; simp; omega)) fun h' he => ?_)
    show wpAny _ A.in1 (Builtin.Dict.addKeywords S [] >>= _) _ _ _
    refine wpAny_bind (wpAny_pure (wpAny_pure ?_))
    exact hR h' s.toks (hm.extBut he hSI) fun b o _ hb e => he b o hb e
  | q :: rest, i, acc, ix, t, s, hsz, hln, ht, hit, hl, hm, hR => by
    obtain ⟨b, u, hb, hbS, hbI, htup, hk⟩ := ht 0 q rfl
    rw [List.length_cons] at hsz hln
    refine codeAny_builtin ud_entry ?_
    rw [Around.under_plainId ud_plain _]
    show wpAny _ A.in1 (pyNext (.ref I) >>= _) _ _ s
    refine wpAny_bind (wpAny_pyNext_tuple_item (x := .ref b) hit hl (by simpa using hb) fun h1 hit1 hs1 => ?_)
    have ht1 : IsTup h1 b #[u, q.2] := htup.extBut hs1.extBut hbI
    have hl1 : h1.IsTuple l items := hl.extBut hs1.extBut hlI
    have hm1 : h1.DictOf (mixKind prog w) S acc := hm.extBut hs1.extBut hSI
    obtain ⟨o, ho, hc, n, hd⟩ := id ht1
    show wpAny _ A.in1 (holding [Value.ref b] _ >>= _) _ _ _
    refine wpAny_bind (wpAny_holding ?_)
    refine wpAny_bind (wpAny_tryCatch ?_)
    unfold Builtin.Dict.pairItems
    refine wpAny_bind (wpAny_typeOf (T := "tuple") ⟨o, ho, hc⟩ ?_)
    rw [if_pos (by first | decide | rfl | simp)]
    refine wpAny_bind (wpAny_seqItems ho hd (wpAny_pure ?_))
    show wpAny _ A.in1 (holding [u, q.2] (dictSet S u q.2)) _ _ _
    refine wpAny_holding (wpAny_dictSet_pairs (knd := mixKind prog w) (k := q.1) hk hm1 (fun h2 hm2 hs2 => ?_) (by omega))
    refine wpAny_pure ⟨plainId_quiet ud_plain _, upd_loopT (items := items) hh hlI hSI hSl rest (i + 1) (stored acc q.1 q.2) (ix + 1) 0 _ (show items.size = i + 1 + rest.length by omega) ?_ (fun j q' e => ?_) ?_ ?_ hm2 fun h' tk hd' k => ?_⟩
    · have z := stored_length_le acc q.1 q.2
      omega
    · obtain ⟨b', u', hb', hbS', hbI', htup', hk'⟩ := ht (j + 1) q' (by simpa using e)
      refine ⟨b', u', ?_, hbS', hbI', (htup'.extBut hs1.extBut hbI').extBut hs2.extBut hbS', hk'⟩
      rw [show i + 1 + j = i + (j + 1) by omega]
      exact hb'
    · exact hit1.at fun o' e => hs2.extBut I o' (Ne.symm hSI) e
    · exact hl1.extBut hs2.extBut (Ne.symm hSl)
    · exact hR h' tk hd' fun c oc h3 h4 e => k c oc h3 h4 (hs2.extBut c oc h3 (hs1.extBut c oc h4 e))

/-- dict(t) of a tuple of pairs -/
theorem call_dict_tup {s : Shared} {l : Addr} {ol : Obj} {items : Array Value} {n : Nat} {prs : List (Key × Value)} {Q : Value → Shared → Prop} (hh : A.handled = none) (hl : s.heap.get? l = some ol) (hc : ol.cls = .type "tuple") (hd : ol.dict = none)
    (hdat : ol.data = .seq items n) (hsz : items.size = prs.length) (hln : prs.length ≤ sizeLine)
    (ht : ∀ (j : Nat) (q : Key × Value), prs[j]? = some q → ∃ (b : Addr) (u : Value), items[j]? = some (.ref b) ∧ IsTup s.heap b #[u, q.2] ∧ keyIs q.1 u = true)
    (h : ∀ h' tk, h'.DictOf (mixKind prog w) s.heap.objs.size (merged [] prs) → (∀ b o, s.heap.get? b = some o → h'.get? b = some o) → Q (.ref s.heap.objs.size) { s with heap := h', toks := tk }) :
    wpAny (model prog w) A (call (.type "dict") [.ref l]) Q E s := by
  refine callType_codes (Q₁ := fun obj s₁ => obj = .ref s.heap.objs.size ∧ s₁ = { s with heap := s.heap.push { cls := .type "dict", data := .dict #[] } }) PySem.F.kt_called_dict (PySem.F.kt_typeCall_dict_1 _) PySem.F.entry_dict_init (kt_code_dict_new _ ⟨rfl, rfl⟩) ?_
  rintro obj s₁ ⟨rfl, rfl⟩
  have hnew : (s.heap.push { cls := .type "dict", data := .dict #[] }).DictOf (mixKind prog w) s.heap.objs.size [] := Heap.DictOf.new s.heap
  have k0 : ∀ b o, s.heap.get? b = some o → (s.heap.push { cls := .type "dict", data := .dict #[] }).get? b = some o := fun b o e => Heap.get?_push_of_some _ e
  refine ⟨hnew.typeIs, PySem.F.args_dict_init_2 _ _, ?_⟩
  unfold Builtin.«dict.__init__»
  refine wpAny_bind ?_
  unfold Builtin.Dict.selfAndRest
  refine wpAny_bind (wpAny_notOrdered_dict hnew.typeIs ?_)
  show wpAny _ _ (pure (s.heap.objs.size, [Value.ref l])) _ _ _
  refine wpAny_pure ?_
  show wpAny _ _ (Builtin.Dict.updateFrom "dict.__init__" s.heap.objs.size (.ref l) [] .none) _ _ _
  unfold Builtin.Dict.updateFrom
  refine wpAny_bind (wpAny_typeOf (T := "tuple") ⟨ol, k0 _ _ hl, hc⟩ ?_)
  rw [if_pos (by first | decide | rfl | simp)]
  refine wpAny_bind (miss_tuple (k0 _ _ hl) hc hdat hd hh fun h1 tk1 hk1 => ?_)
  rw [if_pos (show (none : Option Value).isNone = true from rfl)]
  refine wpAny_bind (wpAny_rule ?_)
  have hl1 : h1.IsTuple l items := ⟨ol, hk1 _ _ (k0 _ _ hl), hc, n, hdat⟩
  have hS1 : s.heap.objs.size < h1.objs.size := by
    have e : (s.heap.push { cls := .type "dict", data := .dict #[] }).get? s.heap.objs.size = some { cls := .type "dict", data := .dict #[] } := Heap.get?_push_size _ rfl
    exact Heap.lt_size (hk1 _ _ e)
  refine wpAny_bind (wpAny_pyIter_tuple hl1 ?_)
  have k2 : ∀ b o, h1.get? b = some o → (h1.push { cls := .type "tuple_iterator", data := .fields #[.ref l, .int 0 0] }).get? b = some o := fun b o e => Heap.get?_push_of_some _ e
  have hlt : l < s.heap.objs.size := Heap.lt_size hl
  have key := upd_loopT (prog := prog) (w := w) (A := A.in1) (R := wants (fun r s₂ => r = .none ∧ Q (.ref s.heap.objs.size) s₂) E) (S := s.heap.objs.size) (I := h1.objs.size) (l := l) (items := items) (res := Value.none) hh
    (Nat.ne_of_lt (Nat.lt_trans hlt hS1)) (Nat.ne_of_lt hS1) (Nat.ne_of_gt hlt) prs 0 [] 0 0
    { s with heap := h1.push { cls := .type "tuple_iterator", data := .fields #[.ref l, .int 0 0] }, toks := tk1 } (by rw [hsz, Nat.zero_add]) (by rw [List.length_nil, Nat.zero_add]; exact hln)
    (fun j q e => by
      obtain ⟨b, u, e1, e2, e3⟩ := ht j q e
      have hb : b < s.heap.objs.size := e2.lt
      exact ⟨b, u, by rw [Nat.zero_add]; exact e1, Nat.ne_of_lt hb, Nat.ne_of_lt (Nat.lt_trans hb hS1), e2.keeps fun c o z => k2 _ _ (hk1 _ _ (k0 _ _ z)), e3⟩)
    ⟨_, Heap.get?_push_size _ rfl, rfl, rfl⟩ (hl1.at fun o e => k2 _ _ e) ((hnew.at fun o e => hk1 _ _ e).at fun o e => k2 _ _ e)
    (fun h' tk hd' k => ⟨rfl, h h' tk hd' fun b o e => k b o (Nat.ne_of_lt (Heap.lt_size e)) (Nat.ne_of_lt (Nat.lt_trans (Heap.lt_size e) hS1)) (k2 _ _ (hk1 _ _ (k0 _ _ e)))⟩)
  first
    | exact wpAny_pure ⟨plainId_quiet ud_plain _, key⟩
    | exact wpAny_bind (wpAny_pure (wpAny_pure ⟨plainId_quiet ud_plain _, key⟩))
end
section
variable {X : Cx}
/-- dict(t) -/
def rDictT (K : PySem.W.Frag) : List V → Hp → VK → Prop := fun xs H Q => ∃ (a : Addr) (ps : List Addr) (kvs : List (Key × V)), xs = [.ref a] ∧ FrzT H a (ps.map V.ref) ∧ Paired (fun p kv => SqT K H p [kV kv.1, kv.2]) ps kvs ∧
    ∀ p, H p = none → Q (.ref p) (upd H p (.dK (mergeK [] kvs)))
theorem call_dictT (hcalm : X.calm = true) : CallR X (.type "dict") (rDictT X.K) := by
  intro pins s σ H xs us Q I r q
  obtain ⟨a, ps, kvs, ex, ⟨ob, hq, hd, hc⟩, hp, q⟩ := q
  subst ex
  obtain ⟨u, eu, rx⟩ := vals1 r
  subst eu
  cases rx
  obtain ⟨its, rv, ⟨o, ho, hc', n, hdat⟩, hz⟩ := I.tuple (show SqT X.K H a (ps.map V.ref) from .inl (.inr ⟨ob, hq⟩))
  have ho1 : s.heap.get? a = some ob := (I.hok a _ hq).1
  have eo : o = ob := Option.some.inj (ho.symm.trans ho1)
  subst eo
  have ei := refs_at rv
  subst ei
  rw [List.length_map] at hz
  obtain ⟨prs, rel, hl, hpr⟩ := pairs_of I hp
  refine call_dict_tup (prs := prs) (I.ok.hd hcalm) ho hc hd hdat (by simp [hl]) (by rw [hl]; exact hz) (fun j q' e => ?_) fun h' tk hd' k => ?_
  · obtain ⟨b, u, e1, e2, e3⟩ := hpr j q' e
    exact ⟨b, u, by simp [e1], e2, e3⟩
  · have hm : (s.heap.objs.size == sysModules) = false := beq_eq_false_iff_ne.mpr (Nat.ne_of_gt I.big)
    have hlen : (mergeK [] kvs).length ≤ sizeLine := by
      refine Nat.le_trans (length_mergeK kvs []) ?_
      rw [List.length_nil, Nat.zero_add, rel.length, hl]
      exact hz
    exact ⟨.ref s.heap.objs.size, upd H s.heap.objs.size (.dK (mergeK [] kvs)), I.laid (t' := tk) k (Nat.le_refl _) (show ObjOk X.prog X.w _ _ _ (.dK (mergeK [] kvs)) from ⟨hlen, hm, merged [] prs, KV.merge rel .nil, hd'⟩), rfl, q _ (I.hok.fresh (Nat.le_refl _))⟩
/-- tuple(list) -/
def rTupF (K : PySem.W.Frag) : List V → Hp → VK → Prop := fun xs H Q => ∃ p ys, xs = [.ref p] ∧ SqL K H p ys ∧ ∀ l H2, H l = none → (∃ o : Obj, o.dict = none ∧ o.cls = .type "tuple" ∧ H2 = upd H l (.frz o (.tup ys))) → Q (.ref l) H2
theorem call_tupF : CallR X (.type "tuple") (rTupF X.K) := by
  intro pins s σ H xs us Q I r h
  obtain ⟨p, ys, rfl, hq, q⟩ := h
  obtain ⟨u, rfl, rx⟩ := vals1 r
  cases rx
  obtain ⟨its, r', pl, hz⟩ := I.list hq
  have hlen := r'.length
  refine call_tuple_list pl.isList (fun h' kp => ?_) (by simp only [List.size_toArray] <;> omega)
  have I1 : Inv X pins σ H { s with heap := h' } := I.kept (t' := s.toks) kp
  exact ⟨.ref h'.objs.size, _, I1.laid (t' := s.toks) (o := .frz (tupO its) (.tup ys)) (fun b o e => Heap.get?_push_of_some _ e) (Nat.le_refl _) (frz_new hz r'), rfl, q _ _ (I1.hok.fresh (Nat.le_refl _)) ⟨_, rfl, rfl, rfl⟩⟩
end
end K26
set_option Elab.async false
set_option linter.all false
set_option maxRecDepth 100000
set_option maxHeartbeats 2000000
/-! KWish: chains, wishes, dicts of chains as values. -/
namespace K26
open PySem PySem.Spec PyProof.Rows L2 Evl
abbrev Wish := Str × Chain
abbrev eWish (q : Wish) : PyData := .tuple [.str q.1, eCh q.2]
abbrev eWs (ws : List Wish) : PyData := .tuple (ws.map eWish)
section
variable {K : PySem.W.Frag} {H H' : Hp}
/-- a chain: known to the last part where it is not empty -/
def rC (K : PySem.W.Frag) : Chain → V → Hp → Prop := fun c v H => Dp K H v (eCh c) ∧ (c ≠ [] → PlT H v)
theorem rC.t {c : Chain} {v : V} (e : ExT H H') (h : rC K c v H) : rC K c v H' := ⟨dp_t e _ _ (by simpa [noL] using noL_pairs c) h.1, fun z => (h.2 z).t e⟩
instance kr_chain : KR (rC K) := ⟨fun e h => h.t (exT_of e), fun hp b h => h.t (b.exT hp)⟩
def rP (K : PySem.W.Frag) : Wish → V → Hp → Prop := fun q x H => ∃ b y, x = .ref b ∧ SqT K H b [.str q.1, y] ∧ rC K q.2 y H
theorem rP.t {q : Wish} {v : V} (e : ExT H H') (h : rP K q v H) : rP K q v H' := by
  obtain ⟨b, y, h1, h2, h3⟩ := h
  exact ⟨b, y, h1, sqT_t e h2, h3.t e⟩
/-- wishes -/
def rWs (K : PySem.W.Frag) (ws : List Wish) : V → Hp → Prop := fun v H => ∃ a xs, v = .ref a ∧ FrzT H a xs ∧ Paired (fun x q => rP K q x H) xs ws
theorem rWs.t {ws : List Wish} {v : V} (e : ExT H H') (h : rWs K ws v H) : rWs K ws v H' := by
  obtain ⟨a, xs, h1, ⟨o, h2, h3⟩, h4⟩ := h
  refine ⟨a, xs, h1, ⟨o, e.2 _ _ _ h2, h3⟩, ?_⟩
  clear h2
  induction h4 with
  | nil => exact .nil
  | cons a _ ih => exact .cons (a.t e) ih
theorem rWs_mono {ws : List Wish} : Mono (rWs K ws) := fun _ _ _ e h => h.t (exT_of e)
theorem rP.dp {q : Wish} {v : V} (h : rP K q v H) : Dp K H v (eWish q) := by
  obtain ⟨b, y, rfl, h2, h3⟩ := h
  exact .tup h2 (.cons (.str _) (.cons h3.1 .nil))
theorem rWs.dp {ws : List Wish} {v : V} (h : rWs K ws v H) : Dp K H v (eWs ws) := by
  obtain ⟨a, xs, rfl, hf, hp⟩ := h
  refine .tup hf.sq ?_
  clear hf
  induction hp with
  | nil => exact .nil
  | cons a _ ih => exact .cons a.dp ih
theorem EvP.wdp {te : TE} {σ : L2.St} {ws : List Wish} (h : EvP te σ H (rWs K ws)) : EvD K te σ H (eWs ws) := h.imp fun _ _ _ => rWs.dp
/-- what dict(t) puts -/
theorem merge_of {R : Chain → V → Hp → Prop} : ∀ {ws : List Wish} {kvs : List (Key × V)} {acc : List (Str × Chain)} {base : List (Key × V)}, PrR R H base acc → Paired (fun (kv : Key × V) (q : Wish) => kv.1 = Sum.inr q.1 ∧ R q.2 kv.2 H) kvs ws →
    PrR R H (mergeK base kvs) (ws.foldl (fun acc q => pv2 acc q.1 q.2) acc)
  | _, _, _, _, h, .nil => h
  | q :: ws, kv :: kvs, acc, base, h, .cons a t => by
    show PrR R H (mergeK (putK base kv.1 kv.2) kvs) (ws.foldl _ (pv2 acc q.1 q.2))
    rw [a.1]
    exact merge_of (PrR.put h a.2) t
theorem pairs_at : ∀ {xs : List V} {ws : List Wish}, Paired (fun x q => rP K q x H) xs ws → ∃ (ps : List Addr) (kvs : List (Key × V)), xs = ps.map V.ref ∧ Paired (fun p kv => SqT K H p [kV kv.1, kv.2]) ps kvs ∧ Paired (fun (kv : Key × V) (q : Wish) => kv.1 = Sum.inr q.1 ∧ rC K q.2 kv.2 H) kvs ws
  | _, _, .nil => ⟨[], [], rfl, .nil, .nil⟩
  | _, q :: _, .cons a t => by
    obtain ⟨ps, kvs, e1, p1, p2⟩ := pairs_at t
    obtain ⟨b, y, rfl, h2, h3⟩ := a
    exact ⟨b :: ps, (Sum.inr q.1, y) :: kvs, by rw [e1]; rfl, .cons h2 p1, .cons ⟨rfl, h3⟩ p2⟩
variable {σ : L2.St} {te : TE}
theorem k_dictT {ws : List Wish} (h : EvP te σ H (rWs K ws)) : EvP (tCB (rDictT K) (tCons te tNil)) σ H (isRN (rC K) H (kfold ws)) := fun H1 e Q q =>
  h H1 e _ fun v H2 e2 ⟨a, xs, hv, hf, hp⟩ => by
    subst hv
    obtain ⟨ps, kvs, e1, p1, p2⟩ := pairs_at hp
    subst e1
    refine ⟨a, ps, kvs, rfl, hf, p1, fun p hn => q _ _ (e2.trans (Ex.new hn)) ⟨p, rfl, fresh_back e (fresh_back e2 hn), _, upd_same, ?_⟩⟩
    exact (merge_of (R := rC K) (acc := []) (base := []) .nil p2).imp fun d v w => KR.ex (Ex.new hn) w
end
end K26
set_option Elab.async false
set_option linter.all false
set_option maxRecDepth 100000
set_option maxHeartbeats 2000000
/-! KW4: wishes: are_wishes, need_wishes, pairs_of. -/
namespace K26
open PySem PySem.Spec PyProof.Rows L2 Evl
structure WishOk (b : Bk) (ws : List Wish) : Prop where
  few : ws.length ≤ 100
  chain : ∀ q ∈ ws, ChainOk q.2 ∧ q.2 ≠ []
  asp : ∀ q ∈ ws, q.1 ∈ b.asps
  rise : Rising (ws.map (·.1))
/-- some aspects may be left free -/
structure FreeOk (b : Bk) (ws : List Wish) (fr : List Str) : Prop where
  asp : ∀ a ∈ fr, a ∈ b.asps
  rise : Rising fr
  apart : ∀ q ∈ ws, q.1 ∉ fr
abbrev pWishes : List PyData → PyData → Prop := fun ds d => ∃ b dw k, ds = [eBook b, dw] ∧ BookOk b ∧ ((dw = .none ∧ k = false) ∨ ∃ ws, dw = eWs ws ∧ WishOk b ws ∧ k = true) ∧ d = .bool k
abbrev pPairs : List PyData → List PyData → Prop := fun ds es => ∃ c, ds = [eCode c] ∧ c.2.2.length ≤ 1000 ∧ es = (c.2.2.map fun p => (p.1, c.2.1)).map ePair
theorem noL_wish (q : Wish) : noL (eWish q) = true := by
  simp only [noL, noLs, Bool.true_and, Bool.and_true]
  exact noL_pairs _
theorem noL_ws (ws : List Wish) : noL (eWs ws) = true := by
  show noLs _ = true
  exact noLs_map fun q _ => noL_wish q
section
variable {P : Program} {w : World} {K : PySem.W.Frag} {mg : Str → Option Value} {base : Heap}
theorem ok_are_wishes (T : TX K mg) : FnOk P w K mg base CX0 4 T.are_wishes.f T.are_wishes.fd ["book", "thing"] (SpD K pWishes) := by
  refine T.are_wishes.F.ok sc_are_wishes (fun vs H Q E h => spD_len (n := 2) (fun ds d ⟨x, y, k, e, _⟩ => by rw [e]; rfl) h) (fun cdv A outer s H vs Q E hr h => ?_)
  refine ⟨_, PSs.nox (pss_cons (ps_if (pt_not (pt_val (qIsT K T.b_isinstance T.b_tuple (pv 1)))) (pss_one (ps_ret pe_bl)) pss_nil) (pss_cons (ps_if (pt_not (pt_val (qAll K T.b_all rfl (pe_lc (own := [("pair", 2)]) rfl sc_are_wishes.nd (piT K (pv 1)) (blkOk_by (N := ["book", "thing", "pair"]) (sc := defScope s_are_wishes) (by decide +kernel)) (fun _ _ _ _ _ => (pg_name (i := 2) sc_are_wishes.nd rfl (Or.inl rfl))) (fun _ _ _ _ _ => pts_nil) (fun _ _ _ _ _ => (pe_and (qIsT K T.b_isinstance T.b_tuple (pv 2)) (pe_and (pe_cmpR op_eq (qLen K T.b_len (pv 2)) pe_int (nomark _)) (pe_and (pe_call (ok_is_chain T) (hr.mono (by decide)) rfl T.is_chain.g T.is_chain.F.kp (bd_is_chain T.is_chain.F) .nil pass0 (pa_cons (pe_ix (ixT K) (pv 2) pe_int (fun _ _ => rfl)) pa_nil)) (pe_one (pe_cmpR (opNe K hr.units) (pe_ix (ixT K) (pv 2) pe_int (fun _ _ => rfl)) (pe_tup pa_nil) (nomark _))))))))))) (pss_one (ps_ret pe_bl)) pss_nil) (pss_one (ps_ret (pe_call (ok_are_aspects T) (hr.mono (by decide)) rfl T.are_aspects.g T.are_aspects.F.kp (bd_are_aspects T.are_aspects.F) .nil pass0 (pa_cons (pv 0) (pa_cons (qTup K T.b_tuple (pe_lc (own := [("pair", 2)]) rfl sc_are_wishes.nd (piT K (pv 1)) (blkOk_by (N := ["book", "thing", "pair"]) (sc := defScope s_are_wishes) (by decide +kernel)) (fun _ _ _ _ _ => (pg_name (i := 2) sc_are_wishes.nd rfl (Or.inl rfl))) (fun _ _ _ _ _ => pts_nil) (fun _ _ _ _ _ => (pe_ix (ixT K) (pv 2) pe_int (fun _ _ => rfl))))) pa_nil))))))), ?_⟩
  obtain ⟨ds, d, hd, ⟨b, dw, k, rfl, o, hk, rfl⟩, hQ⟩ := h
  obtain ⟨u, v, rfl, h1, h2⟩ := dp2 hd
  rcases hk with ⟨rfl, rfl⟩ | ⟨ws, rfl, wo, rfl⟩
  · exact s_ifT (tt_notF (t_B (d_isTn (d_var (i := 1) rfl h2)))) fun H1 e => s_retP d_bl fun v H3 e3 w => hQ v H3 (e.trans e3) w
  · have few := wo.few
    refine s_ifF (tt_notT (tt_B (d_isT (d_var (i := 1) rfl h2)))) fun H1 e => ?_
    have h1 := dp_ex e _ _ h1
    have h2 := dp_ex e _ _ h2
    refine s_ifF (tt_notT (tt_B (d_allT (w_tup (d_var (i := 1) rfl h2)) (by omega) fun q hq y H2 e2 hy => ⟨_, g_name, rfl, ?_⟩))) fun H2 e2 => ?_
    · have dy : EvD K (tVar 2) [some u, some v, some y] H2 (eWish q) := d_var (i := 2) rfl hy
      have hc := wo.chain q hq
      have dc : EvD K (tOp (rIxT K) (tVar 2) (tC (.int 1))) [some u, some v, some y] H2 (eCh q.2) := d_ixT dy d_int (atI_of (j := 1) rfl)
      refine d_andT (d_isT dy) (d_andT (d_is (d_eqI (d_lenT dy) d_int) rfl) (d_andT (d_call (ds_cons dc ds_nil) ⟨q.2, rfl, hc.1, rfl⟩)
        (d_is (d_ne dc (d_tup ds_nil (by decide)) (okD_ch fun p hp => ⟨(hc.1.marks p hp).1.lt, (hc.1.marks p hp).2.lt⟩).shaped (okD_ch (c := []) fun p hp => by simp at hp).shaped) ?_)))
      have : (eCh q.2).eqv (eCh []) = false := by rw [eqv_ch, decide_eq_false hc.2]
      rw [show (eCh q.2).eqv (.tuple []) = false from this]
      rfl
    · refine s_retP (d_call (ds_cons (d_var (i := 0) rfl (dp_ex e2 _ _ h1)) (ds_cons (d_tupL (EvN.data (n_lcA (w_tup (d_var (i := 1) rfl (dp_ex e2 _ _ h2))) (by omega) (fun q : Wish => .str q.1) (fun _ _ => rfl) fun q hq y H3 e3 hy => ⟨_, g_name, rfl, ?_⟩))) ds_nil))
        ⟨b, ws.map (·.1), true, by show _ = [eBook b, PyData.tuple ((ws.map (·.1)).map PyData.str)]; rw [List.map_map]; rfl, o, by rw [List.length_map]; omega, ?_, fun _ => wo.rise, rfl⟩) fun v H3 e3 w => hQ v H3 ((e.trans e2).trans e3) w
      · exact d_ixT (d_var (i := 2) rfl hy) d_int (atI_of (j := 0) rfl)
      · symm
        rw [List.all_eq_true]
        intro a ha
        obtain ⟨q, hq, rfl⟩ := List.mem_map.mp ha
        exact decide_eq_true (wo.asp q hq)
theorem ok_pairs_of (T : TX K mg) : FnOk P w K mg base CX0 1 T.pairs_of.f T.pairs_of.fd ["code"] (SpN K pPairs) := by
  refine T.pairs_of.F.ok sc_pairs_of (fun vs H Q E h => spN_len (n := 1) (fun ds d ⟨x, e, _⟩ => by rw [e]; rfl) h) (fun cdv A outer s H vs Q E hr h => ?_)
  refine ⟨_, PSs.nox (pss_one (ps_ret (pe_lc (own := [("aspect", 1), ("value", 2)]) rfl sc_pairs_of.nd (piT K (pe_ix (ixT K) (pv 0) pe_int (fun _ _ => rfl))) (blkOk_by (N := ["code", "aspect", "value"]) (sc := defScope s_pairs_of) (by decide +kernel)) (fun _ _ _ _ _ => (pgTup K (n := 2) rfl (pgs_cons (pg_name (i := 1) sc_pairs_of.nd rfl (Or.inl rfl)) (pgs_cons (pg_name (i := 2) sc_pairs_of.nd rfl (Or.inl rfl)) pgs_nil)))) (fun _ _ _ _ _ => pts_nil) (fun _ _ _ _ _ => (pe_tup (pa_cons (pv 1) (pa_cons (pe_ix (ixT K) (pv 0) pe_int (fun _ _ => rfl)) pa_nil))))))), ?_⟩
  obtain ⟨ds, d, hd, ⟨c, rfl, hl, rfl⟩, hQ⟩ := h
  obtain ⟨u, rfl, h1⟩ := dp1 hd
  refine s_retP (n_is (n_lcA (w_tup (d_ixT (d_var (i := 0) rfl h1) d_int (atI_of (j := 2) rfl))) (by omega) (fun p : Str × Str => ePair (p.1, c.2.1)) (fun _ _ => rfl) fun p hp y H3 e3 hy => ?_) (by rw [List.map_map]; rfl)) hQ
  obtain ⟨a, xs, rfl, hs, hx⟩ := dp_tup hy
  obtain ⟨y1, y2, rfl, k1, k2⟩ := dp2 hx
  exact ⟨_, g_two hs, rfl, d_tup (ds_cons (d_var (i := 1) rfl k1) (ds_cons (d_ixT (d_var (i := 0) rfl (dp_ex e3 _ _ h1)) d_int (atI_of (j := 1) rfl)) ds_nil)) (by show (2 : Nat) ≤ 100000; decide)⟩
/-- what need_wishes answers and raises -/
structure SX (K : PySem.W.Frag) (mg : Str → Option Value) : Type where
  S : Addr
  g : mg "StyleError" = some (.ref S)
  c : SeC K S
structure QX (K : PySem.W.Frag) (mg : Str → Option Value) : Type where
  C : Addr
  g : mg "BadQuestion" = some (.ref C)
  ex : PySem.W.excIn K C [.type "ValueError", .type "Exception", .type "BaseException", .type "object"] "ValueError.__new__" = true
  kp : PySem.W.keepIn K (.ref C) = true
  sb : PySem.W.subIn K (.ref C) (.type "BaseException") = some true
  ty : PySem.W.typeIn K (.ref C) = some (.type "type")
def spNeed (K : PySem.W.Frag) (cW cQ : Addr) : Sp := fun vs H Q E => ∃ b dw fr, BookOk b ∧ fr.length ≤ 1000 ∧ DpAll K H vs [eBook b, dw, eStrs fr] ∧
  ((dw = .none ∧ ∀ d H', H d = none → Ex H H' → H' d = some (.xd [("given", .non)]) → E (.ref cW) (some d) H') ∨
  ∃ ws, dw = eWs ws ∧ WishOk b ws ∧ ((FreeOk b ws fr ∧ ∀ v H', Ex H H' → Q v H') ∨
    (¬ (∀ a ∈ fr, a ∈ b.asps) ∧ ∀ H', Ex H H' → E (.ref cQ) none H') ∨ ((∀ a ∈ fr, a ∈ b.asps) ∧ Rising fr ∧ (∃ q ∈ ws, q.1 ∈ fr) ∧ ∀ H', Ex H H' → E (.ref cQ) none H')))
theorem ok_need_wishes (T : TX K mg) (Y : SX K mg) (Z : QX K mg) : FnOk P w K mg base (CX P w) 7 T.need_wishes.f T.need_wishes.fd ["book", "thing", "free"] (spNeed K T.xBadWishes.C Z.C) := by
  refine T.need_wishes.F.ok sc_need_wishes (fun vs H Q E h => by obtain ⟨b, dw, fr, _, _, h, _⟩ := h; rw [h.len]; rfl) (fun cdv A outer s H vs Q E hr h => ?_)
  refine ⟨_, (pss_cons (ps_expr (pe_call (ok_need_book T) (hr.mono (by decide)) rfl T.need_book.g T.need_book.F.kp (bd_need_book T.need_book.F) .nil pass0 (pa_cons (pv 0) pa_nil))) (pss_cons (ps_if (pt_not (pt_val (pe_call (ok_are_wishes T) (hr.mono (by decide)) rfl T.are_wishes.g T.are_wishes.F.kp (bd_are_wishes T.are_wishes.F) .nil pass0 (pa_cons (pv 0) (pa_cons (pv 1) pa_nil))))) (pss_one (psRaise rfl (takes_of rfl rfl rfl rfl) (pmk_oex T.xBadWishes.low T.xBadWishes.ini T.xBadWishes.ty (ok_ini1 T.xBadWishes Y.g Y.c) (hr.mono (by decide)) (bd_BadWishes_init T.xBadWishes.F) .nil pass0 rfl T.xBadWishes.g (pa_cons (pv 1) pa_nil)))) pss_nil) (pss_cons (ps_if (PW.pt (pw_or (pt_not (pt_val (pe_call (ok_are_aspects T) (hr.mono (by decide)) rfl T.are_aspects.g T.are_aspects.F.kp (bd_are_aspects T.are_aspects.F) .nil pass0 (pa_cons (pv 0) (pa_cons (pv 2) pa_nil))))) (pw_or1 (pt_val (qAny K T.b_any rfl (pe_lc (own := [("aspect", 3), ("chain", 4)]) rfl sc_need_wishes.nd (piT K (pv 1)) (blkOk_by (N := ["book", "thing", "free", "aspect", "chain"]) (sc := defScope s_need_wishes) (by decide +kernel)) (fun _ _ _ _ _ => (pgTup K (n := 2) rfl (pgs_cons (pg_name (i := 3) sc_need_wishes.nd rfl (Or.inl rfl)) (pgs_cons (pg_name (i := 4) sc_need_wishes.nd rfl (Or.inl rfl)) pgs_nil)))) (fun _ _ _ _ _ => pts_nil) (fun _ _ _ _ _ => (pe_cmpR (opIn K) (pv 3) (pv 2) rfl)))))))) (pss_one (psRaise rfl (takes_of rfl rfl rfl rfl) (pmk_own PySem.F.excBase_ValueError Z.ex Z.g Z.kp (raises_own Z.sb Z.ty) rfl))) pss_nil) (pss_one (ps_ret (pv 1)))))), ?_⟩
  obtain ⟨b, dw, fr, o, frl, hd, hk⟩ := h
  obtain ⟨u, v, t, rfl, h1, h2, h3⟩ := dp3 hd
  refine s_dropP (d_call (ds_cons (d_var (i := 0) rfl h1) ds_nil) ⟨b, rfl, o, rfl⟩) fun _ H1 e1 _ => ?_
  have h1 := dp_ex e1 _ _ h1
  have h3 := dp_ex e1 _ _ h3
  rcases hk with ⟨rfl, hk⟩ | ⟨ws, rfl, wo, hk⟩
  · have h2' := dp_ex e1 _ _ h2
    obtain rfl := dp_non h2
    refine s_ifT (tt_notF (t_B (d_call (ds_cons (d_var (i := 0) rfl h1) (ds_cons (d_var (i := 1) rfl h2') ds_nil)) ⟨b, .none, false, rfl, o, .inl ⟨rfl, rfl⟩, rfl⟩))) fun H2 e2 => ?_
    exact mkO_of T.xBadWishes.low T.xBadWishes.noat (fun Q' q => ⟨.non, rfl, q H2 (Ex.refl H2)⟩) fun d H' hn he hx => hk d H' (fresh_back (e1.trans e2) hn) ((e1.trans e2).trans he) hx
  · have h2 := dp_ex e1 _ _ h2
    have few := wo.few
    refine s_ifF (tt_notT (tt_B (d_call (ds_cons (d_var (i := 0) rfl h1) (ds_cons (d_var (i := 1) rfl h2) ds_nil)) ⟨b, eWs ws, true, rfl, o, .inr ⟨ws, rfl, wo, rfl⟩, rfl⟩))) fun H2 e2 => ?_
    have h1 := dp_ex e2 _ _ h1
    have h2 := dp_ex e2 _ _ h2
    have h3 := dp_ex e2 _ _ h3
    have asp : ∀ k, k = fr.all (fun x => decide (x ∈ b.asps)) → (k = true → Rising fr) → EvT (tB (tCall (SpD K pAsps) [] E0 (tCons (tVar 0) (tCons (tVar 2) tNil)))) (L2.start ["book", "thing", "free", "aspect", "chain"] [u, v, t]) H2 k := fun k e r =>
      t_B (d_call (ds_cons (d_var (i := 0) rfl h1) (ds_cons (d_var (i := 2) rfl h3) ds_nil)) ⟨b, fr, k, rfl, o, frl, e, r, rfl⟩)
    have any : ∀ k, k = ws.any (fun q => decide (q.1 ∈ fr)) → EvT (tB (tCB (rAny K) (tCons (tLc (iTup K (tVar 1)) (gTup K 2 (gCons (gName 3) (gCons (gName 4) gNil))) tYes (tOp (rIn K false) (tVar 3) (tVar 2)) [3, 4]) tNil))) (L2.start ["book", "thing", "free", "aspect", "chain"] [u, v, t]) H2 k := fun k e =>
      t_B (d_is (d_anyB (fun q : Wish => decide (q.1 ∈ fr)) (w_tup (d_var (i := 1) rfl h2)) (by omega) fun q hq y H3 e3 hy => by
        obtain ⟨a, xs, rfl, hs, hx⟩ := dp_tup hy
        obtain ⟨y1, y2, rfl, k1, k2⟩ := dp2 hx
        exact ⟨_, g_two hs, rfl, d_in1 (d_var (i := 3) rfl k1) (d_var (i := 2) rfl (dp_ex e3 _ _ h3))⟩) (by rw [← e]))
    rcases hk with ⟨fo, hQ⟩ | ⟨nf, hE⟩ | ⟨af, rf, ⟨q, hq, hqf⟩, hE⟩
    · refine s_ifF (tt_orF (tt_notT (asp true (by symm; rw [List.all_eq_true]; exact fun a ha => decide_eq_true (fo.asp a ha)) fun _ => fo.rise)) (any false ?_)) fun H3 e3 => ?_
      · symm
        rw [List.any_eq_false]
        intro q hq
        rw [decide_eq_true_eq]
        exact fo.apart q hq
      · exact s_retP (d_var (i := 1) rfl (dp_ex e3 _ _ h2)) fun v H4 e4 w => hQ v H4 (((e1.trans e2).trans e3).trans e4)
    · refine s_ifT (et_or (a := true) (b := true) (tt_notF (asp false ?_ fun z => by cases z)) fun z => by cases z) fun H3 e3 => hE H3 ((e1.trans e2).trans e3)
      symm
      rw [List.all_eq_false]
      have : ∃ a, a ∈ fr ∧ a ∉ b.asps := Classical.byContradiction fun z => nf fun a ha => Classical.byContradiction fun z2 => z ⟨a, ha, z2⟩
      obtain ⟨a, ha, hn⟩ := this
      exact ⟨a, ha, by rw [decide_eq_true_eq]; exact hn⟩
    · refine s_ifT (tt_orF (tt_notT (asp true (by symm; rw [List.all_eq_true]; exact fun a ha => decide_eq_true (af a ha)) fun _ => rf)) (any true ?_)) fun H3 e3 => hE H3 ((e1.trans e2).trans e3)
      symm
      rw [List.any_eq_true]
      exact ⟨q, hq, decide_eq_true hqf⟩
end
end K26
set_option Elab.async false
set_option linter.all false
set_option maxRecDepth 100000
set_option maxHeartbeats 2000000
/-! KW5: the class Wanted. -/
namespace K26
open PySem PySem.Spec PyProof.Rows L2 Evl
abbrev Pairs := List (Str × Str)
/-! ### what they compute -/
def isDue (ws : List Wish) (a k v : Str) (st : Pairs) : Bool :=
  decide ((k, v) ∈ (gv ws a).getD []) && (((gv ws a).getD []).take (((gv ws a).getD []).idxOf (k, v))).all fun p => decide (p.2 = v) || decide ((a, p.1) ∈ st)
def mayStand (ws : List Wish) (fr : List Str) (c : Code) (st : Pairs) : Bool :=
  c.2.2.all fun p => decide (p.1 ∈ fr) || (decide ((p.1, c.2.1) ∈ st) || isDue ws p.1 c.2.1 p.2 st)
def goalOf (ws : List Wish) : Pairs := ws.flatMap fun q => q.2.map fun p => (q.1, p.1)
def isDone (ws : List Wish) (st : Pairs) : Bool := (goalOf ws).all fun p => decide (p ∈ st)
/-- pairs of texts that can be laid -/
def PairsOk (st : Pairs) : Prop := ∀ p ∈ st, Lt p.1 ∧ Lt p.2
structure WsOk (ws : List Wish) : Prop where
  few : ws.length ≤ 100
  each : ∀ q ∈ ws, q.2.length ≤ 12 ∧ PairsOk q.2 ∧ Lt q.1
  nodup : (ws.map (·.1)).Nodup
section
variable {K : PySem.W.Frag} {H H' : Hp}
def isW (K : PySem.W.Frag) (W : Addr) (ws : List Wish) (fr : List Str) : V → Hp → Prop := fun v H => ∃ a dx p u, v = .ref a ∧ H a = some (.ins W dx [("wishes", .ref p), ("free", u)]) ∧ GK (rC K) H p ws ∧ Dp K H u (eStrs fr)
theorem isW_mono {W : Addr} {ws : List Wish} {fr : List Str} : Mono (isW K W ws fr) := fun v H H' e h => by
  obtain ⟨a, dx, p, u, h1, h2, h3, h4⟩ := h
  exact ⟨a, dx, p, u, h1, e _ _ h2, h3.ex e, dp_ex e _ _ h4⟩
theorem isW.ex {W : Addr} {ws : List Wish} {fr : List Str} {v : V} (e : Ex H H') (h : isW K W ws fr v H) : isW K W ws fr v H' := isW_mono v H H' e h
variable {σ : L2.St} {te : TE} {W : Addr} {ws : List Wish} {fr : List Str}
theorem p_wishes (cl : Cls K W) (nW : NoAttr K W "wishes") (h : EvP te σ H (isW K W ws fr)) : EvP (tFld K te "wishes") σ H (isR (rC K) ws) := fun H1 e Q q =>
  h H1 e _ fun v H2 e2 ⟨a, dx, p, u, hv, h2, h3, h4⟩ => ⟨a, W, dx, _, .ref p, hv, h2, cl, nW, rfl, q _ H2 e2 ⟨p, rfl, h3⟩⟩
theorem p_free (cl : Cls K W) (nF : NoAttr K W "free") (h : EvP te σ H (isW K W ws fr)) : EvD K (tFld K te "free") σ H (eStrs fr) := fun H1 e Q q =>
  h H1 e _ fun v H2 e2 ⟨a, dx, p, u, hv, h2, h3, h4⟩ => ⟨a, W, dx, _, u, hv, h2, cl, nF, rfl, q _ H2 e2 h4⟩
end
/-- o.m(..) of a Wanted -/
theorem p_meth {K : PySem.W.Frag} {W : Addr} {ws : List Wish} {fr : List Str} {σ : L2.St} {H : Hp} {te : TE} {ta : TA} {ds : List PyData} {sp : Sp} {m : Str} {E : XK} {d : PyData} (h : EvP te σ H (isW K W ws fr)) (ha : EvDs K ta σ H ds)
    (hs : ∀ self vs H2, Ex H H2 → isW K W ws fr self H2 → DpAll K H2 vs ds → ∀ Q E, RetD K d H2 Q → sp (self :: (vs ++ [])) H2 Q E) (hm : ([("wishes", V.non), ("free", V.non)] : List (Str × V)).lookup m = none := by rfl) : EvD K (tMeth W m sp [] E te ta) σ H d := fun H1 e Q q =>
  h H1 e _ fun v H2 e2 hw => by
    have hw' := hw
    obtain ⟨a, dx, p, u, h1, h2, _⟩ := hw'
    refine ⟨a, dx, _, h1, h2, ?_, ha H2 (e.trans e2) _ fun vs H3 e3 hv => hs v vs H3 ((e.trans e2).trans e3) (hw.ex e3) hv Q E fun v' H4 e4 w => q v' H4 ((e2.trans e3).trans e4) w⟩
    revert hm
    simp only [List.lookup]
    split
    · intro z; cases z
    · split
      · intro z; cases z
      · intro _; rfl
theorem upd_twice {H : Hp} {a : Addr} {o u : HO} : upd (upd H a o) a u = upd H a u := by
  funext b
  by_cases h : b = a
  · rw [h, upd_same, upd_same]
  · rw [upd_ne h, upd_ne h, upd_ne h]
/-- the promises -/
def spWI (W : Addr) : Sp := fun vs H Q _ => ∃ x dx p u, vs = [.ref x, p, u] ∧ H x = some (.ins W dx []) ∧ Q .non (upd H x (.ins W dx [("wishes", p), ("free", u)]))
def spDue (K : PySem.W.Frag) (W : Addr) : Sp := fun vs H Q _ => ∃ ws fr a k v st self ds, vs = self :: ds ∧ isW K W ws fr self H ∧ WsOk ws ∧ Lt a ∧ Lt k ∧ Lt v ∧ PairsOk st ∧ DpAll K H ds [.str a, .str k, .str v, eCh st] ∧ RetD K (.bool (isDue ws a k v st)) H Q
def spStand (K : PySem.W.Frag) (W : Addr) : Sp := fun vs H Q _ => ∃ ws fr c st self ds, vs = self :: ds ∧ isW K W ws fr self H ∧ WsOk ws ∧ CodeOk c ∧ PairsOk st ∧ DpAll K H ds [eCode c, eCh st] ∧ RetD K (.bool (mayStand ws fr c st)) H Q
def spGoal (K : PySem.W.Frag) (W : Addr) : Sp := fun vs H Q _ => ∃ ws fr self, vs = [self] ∧ isW K W ws fr self H ∧ WsOk ws ∧ RetN K ((goalOf ws).map ePair) H Q
def spDone (K : PySem.W.Frag) (W : Addr) : Sp := fun vs H Q _ => ∃ ws fr st self v, vs = [self, v] ∧ isW K W ws fr self H ∧ WsOk ws ∧ PairsOk st ∧ Dp K H v (eCh st) ∧ RetD K (.bool (isDone ws st)) H Q
section
variable {P : Program} {w : World} {K : PySem.W.Frag} {mg : Str → Option Value} {base : Heap}
theorem ok_wInit (T : TX K mg) : FnOk P w K mg base CX0 1 T.wInit T.wFd ["self", "wishes", "free"] (spWI T.W) := by
  refine T.wF.ok sc_Wanted_init (fun vs H Q E h => by obtain ⟨x, dx, p, u, rfl, _⟩ := h; rfl) (fun cdv A outer s H vs Q E hr h => ?_)
  refine ⟨_, PSs.nox (pss_cons (ps_fld (pv 0) (pv 1) rfl) (pss_one (ps_fld (pv 0) (pv 2) rfl))), ?_⟩
  obtain ⟨x, dx, p, u, rfl, hx, hQ⟩ := h
  refine ⟨_, rfl, _, rfl, x, T.W, dx, [], rfl, hx, T.clsW, T.wNW, by decide, ?_⟩
  refine ⟨_, rfl, _, rfl, x, T.W, dx, [("wishes", p)], rfl, upd_same, T.clsW, T.wNF, by show (1 : Nat) < 1000; decide, ?_⟩
  show Q .non (upd (upd H x _) x _)
  rw [upd_twice]
  exact hQ
/-- chain.index(pair) -/
theorem d_index {σ : L2.St} {H : Hp} {ta : TE} {t : TA} {ch : Chain} {p : Str × Str} (hp : p ∈ ch) (hc : PairsOk ch) (h1 : EvP ta σ H (rC K ch)) (h2 : EvDs K t σ H [ePair p]) : EvD K (tBMF (rIdxT K) ta t) σ H (.int (ch.idxOf p : Nat)) := fun H1 e Q q =>
  h1 H1 e _ fun x H2 e2 hx => by
    have hne : ch ≠ [] := fun z => by rw [z] at hp; cases hp
    have pl := hx.2 hne
    refine ⟨pl, h2 H2 (e.trans e2) _ fun vs H3 e3 hv => ?_⟩
    obtain ⟨y, rfl, hy⟩ := dp1 hv
    have pl' := pl
    obtain ⟨a, xs, rfl, _⟩ := pl'
    have hx3 := dp_ex e3 _ _ hx.1
    have hi : ch.idxOf p < ch.length := List.idxOf_lt_length_of_mem hp
    refine ⟨a, y, ePair p, ch.map ePair, ch.idxOf p, ePair p, rfl, rfl, hx3, hy, lay_map fun q hq => (okD_pair (hc q hq).1 (hc q hq).2).1, okD_pair (hc p hp).1 (hc p hp).2, ?_, ?_, fun m z hm hz => ?_, q _ H3 (e2.trans e3) (.int _)⟩
    · rw [List.getElem?_map, List.getElem?_eq_getElem hi, List.getElem_idxOf hi]
      rfl
    · rw [eqv_pair, decide_eq_true rfl]
    · rw [List.getElem?_map] at hz
      obtain ⟨q, hq, rfl⟩ := Option.map_eq_some_iff.mp hz
      rw [eqv_pair, decide_eq_false]
      intro z
      rw [z] at hq
      have hm' : m < ch.length := by omega
      rw [List.getElem?_eq_getElem hm'] at hq
      have e4 := Option.some.inj hq
      have := List.not_of_lt_findIdx (p := fun x => x == p) (xs := ch) (i := m) hm
      simp [e4] at this
theorem ok_is_due (T : TX K mg) : FnOk P w K mg base CX0 1 T.is_due.f T.is_due.fd ["self", "aspect", "kind", "value", "settled"] (spDue K T.W) := by
  refine T.is_due.F.ok sc_Wanted_is_due (fun vs H Q E h => by obtain ⟨ws, fr, a, k, v, st, self, ds, rfl, _, _, _, _, _, _, hd, _⟩ := h; rw [List.length_cons, hd.len]; rfl) (fun cdv A outer s H vs Q E hr h => ?_)
  refine ⟨_, PSs.nox (pss_cons (ps_set (i := 5) sc_Wanted_is_due.nd rfl (Or.inl rfl) (pe_dget2 (hu_of hr) (fldK K (pv 0)) (pv 1) (pe_tup pa_nil) ⟨rfl, rfl, rfl, rfl⟩)) (pss_cons (ps_if (pt_cmpR (opNiT K hr.units) (pe_tup (pa_cons (pv 2) (pa_cons (pv 3) pa_nil))) (pv 5) rfl) (pss_one (ps_ret pe_bl)) pss_nil) (pss_cons (ps_set (i := 6) sc_Wanted_is_due.nd rfl (Or.inl rfl) (pe_slice (slT K) (pv 5) po_none (po_some (pe_bmF PySem.F.slot_tuple_index PySem.F.type_tuple_index (mt_idxT hr.units) (pv 5) (pa_cons (pe_tup (pa_cons (pv 2) (pa_cons (pv 3) pa_nil))) pa_nil))))) (pss_one (ps_ret (qAll K T.b_all rfl (pe_lc (own := [("own", 7), ("other", 8)]) rfl sc_Wanted_is_due.nd (piT K (pv 6)) (blkOk_by (N := ["self", "aspect", "kind", "value", "settled", "chain", "ahead", "own", "other"]) (sc := defScope s_Wanted_is_due) (by decide +kernel)) (fun _ _ _ _ _ => (pgTup K (n := 2) rfl (pgs_cons (pg_name (i := 7) sc_Wanted_is_due.nd rfl (Or.inl rfl)) (pgs_cons (pg_name (i := 8) sc_Wanted_is_due.nd rfl (Or.inl rfl)) pgs_nil)))) (fun _ _ _ _ _ => pts_nil) (fun _ _ _ _ _ => (pe_or (pe_cmpR op_eq (pv 8) (pv 3) (nomark _)) (pe_one (pe_cmpR (opInT K hr.units) (pe_tup (pa_cons (pv 1) (pa_cons (pv 7) pa_nil))) (pv 4) rfl))))))))))), ?_⟩
  obtain ⟨ws, fr, a, k, v, st, self, ds, rfl, hW, wo, la, lk, lv, ps, hd, hQ⟩ := h
  obtain ⟨va, vk, vv, vst, rfl, h1, h2, h3, h4⟩ : ∃ va vk vv vst, ds = [va, vk, vv, vst] ∧ Dp K H va (.str a) ∧ Dp K H vk (.str k) ∧ Dp K H vv (.str v) ∧ Dp K H vst (eCh st) := by
    cases hd with
    | cons h1 t =>
      obtain ⟨x, y, z, rfl, h2, h3, h4⟩ := dp3 t
      exact ⟨_, x, y, z, rfl, h1, h2, h3, h4⟩
  have hch : PairsOk ((gv ws a).getD []) ∧ ((gv ws a).getD []).length ≤ 12 := by
    cases e : gv ws a with
    | none => exact ⟨fun p hp => by simp at hp, by simp⟩
    | some c =>
      have := wo.each _ (gv_some e)
      exact ⟨this.2.1, this.1⟩
  generalize hc : (gv ws a).getD [] = ch at hch
  have okp : okD (ePair (k, v)) := okD_pair lk lv
  refine s_setP (R := rC K ch) ?_ fun x H1 e1 hx => ?_
  · rw [← hc]
    exact p_dget2 (R := rC K) (p_wishes T.clsW T.wNW (p_var (i := 0) rfl isW_mono hW)) (d_var (i := 1) rfl h1) ((d_tup ds_nil (by decide)).imp fun v H1 _ w => ⟨w, fun z => absurd rfl z⟩)
  have h2 := dp_ex e1 _ _ h2
  have h3 := dp_ex e1 _ _ h3
  have h4 := dp_ex e1 _ _ h4
  have h1 := dp_ex e1 _ _ h1
  have ekv : ∀ {H2 : Hp} {σ2 : L2.St}, Ex H1 H2 → σ2[2]? = some (some vk) → σ2[3]? = some (some vv) → EvDs K (tCons (tTup (tCons (tVar 2) (tCons (tVar 3) tNil))) tNil) σ2 H2 [ePair (k, v)] := fun e s1 s2 =>
    ds_cons (d_tup (ds_cons (d_var s1 (dp_ex e _ _ h2)) (ds_cons (d_var s2 (dp_ex e _ _ h3)) ds_nil)) (by show (2 : Nat) ≤ 100000; decide)) ds_nil
  refine Evl.s_if (b := !decide ((k, v) ∈ ch)) (t_of (d_niT (e := ePair) (l := ch) eqv_pair (d_tup (ds := [.str k, .str v]) (ds_cons (d_var (i := 2) rfl h2) (ds_cons (d_var (i := 3) rfl h3) ds_nil)) (by show (2 : Nat) ≤ 100000; decide)) (d_var (i := 5) rfl hx.1) okp fun p hp => okD_pair (hch.1 p hp).1 (hch.1 p hp).2))
    (fun hb H2 e2 => ?_) fun hb H2 e2 => ?_
  · have hm : decide ((k, v) ∈ ch) = false := by simpa using hb
    refine s_retP (d_bl (K := K)) fun v' H3 e3 w => hQ v' H3 ((e1.trans e2).trans e3) ?_
    unfold isDue
    rw [hc, hm]
    exact w
  · have hm : decide ((k, v) ∈ ch) = true := by simpa using hb
    have hmem : (k, v) ∈ ch := of_decide_eq_true hm
    have hx2 : rC K ch x H2 := KR.ex e2 hx
    refine s_setP (d_take (ds := ch.map ePair) (d_var (i := 5) rfl hx2.1) (d_index hmem hch.1 (p_var (i := 5) rfl (fun _ _ _ => KR.ex) hx2) (ekv e2 rfl rfl)) (by rw [List.length_map]; exact List.idxOf_le_length)) fun y H3 e3 hy => ?_
    have hy : Dp K H3 y (.tuple ((ch.take (ch.idxOf (k, v))).map ePair)) := by
      rw [List.map_take]
      exact hy
    have e13 := e2.trans e3
    refine s_retP (d_allB (fun p : Str × Str => decide (p.2 = v) || decide ((a, p.1) ∈ st)) (w_tup (l := ch.take (ch.idxOf (k, v))) (d_var (i := 6) rfl hy)) (by rw [List.length_take]; omega) fun p hp z H4 e4 hz => ?_) fun v' H4 e4 w => hQ v' H4 ((e1.trans e13).trans e4) ?_
    · obtain ⟨b, xs, rfl, hs, hxs⟩ := dp_tup hz
      obtain ⟨y1, y2, rfl, k1, k2⟩ := dp2 hxs
      have e14 := e13.trans e4
      have pin : p ∈ ch := List.mem_of_mem_take hp
      refine ⟨_, g_two hs, rfl, d_orV (d_eqT (d_var (i := 8) rfl k2) (d_var (i := 3) rfl (dp_ex e14 _ _ h3))) fun _ => ?_⟩
      exact d_inT (e := ePair) (a := (a, p.1)) (l := st) eqv_pair (d_tup (ds := [.str a, .str p.1]) (ds_cons (d_var (i := 1) rfl (dp_ex e14 _ _ h1)) (ds_cons (d_var (i := 7) rfl k1) ds_nil)) (by show (2 : Nat) ≤ 100000; decide)) (d_var (i := 4) rfl (dp_ex e14 _ _ h4)) (okD_pair la (hch.1 p pin).1) fun q hq => okD_pair (ps q hq).1 (ps q hq).2
    · unfold isDue
      rw [hc, hm]
      exact w
theorem ok_may_stand (T : TX K mg) : FnOk P w K mg base CX0 2 T.may_stand.f T.may_stand.fd ["self", "code", "settled"] (spStand K T.W) := by
  refine T.may_stand.F.ok sc_Wanted_may_stand (fun vs H Q E h => by obtain ⟨ws, fr, c, st, self, ds, rfl, _, _, _, _, hd, _⟩ := h; rw [List.length_cons, hd.len]; rfl) (fun cdv A outer s H vs Q E hr h => ?_)
  refine ⟨_, PSs.nox (pss_cons (ps_asg (pv 1) (pg_tup rfl (pgs_cons (pg_name (i := 3) sc_Wanted_may_stand.nd rfl (Or.inl rfl)) (pgs_cons (pg_name (i := 4) sc_Wanted_may_stand.nd rfl (Or.inl rfl)) (pgs_cons (pg_name (i := 5) sc_Wanted_may_stand.nd rfl (Or.inl rfl)) pgs_nil))))) (pss_cons (ps_for PassesOwn.never rfl (piT K (pv 5)) (pg_tup rfl (pgs_cons (pg_name (i := 6) sc_Wanted_may_stand.nd rfl (Or.inl rfl)) (pgs_cons (pg_name (i := 7) sc_Wanted_may_stand.nd rfl (Or.inl rfl)) pgs_nil))) (pss_one (ps_if (PW.pt (pw_and (pt_cmpR (opNi K) (pv 6) (fldK K (pv 0)) rfl) (pw_and1 (pt_cmpR (opNiT K hr.units) (pe_tup (pa_cons (pv 6) (pa_cons (pv 4) pa_nil))) (pv 2) rfl)))) (pss_one (ps_if (pt_not (pt_val (pe_meth (pv 0) T.clsW T.is_due.m (ok_is_due T) (hr.mono (by decide)) (bd_Wanted_is_due T.is_due.F) .nil pass0 (pa_cons (pv 6) (pa_cons (pv 4) (pa_cons (pv 7) (pa_cons (pv 2) pa_nil))))))) (pss_one (ps_ret pe_bl)) pss_nil)) pss_nil))) (pss_one (ps_ret pe_bl)))), ?_⟩
  obtain ⟨ws, fr, c, st, self, ds, rfl, hW, wo, co, ps, hd, hQ⟩ := h
  obtain ⟨vc, vst, rfl, h1, h2⟩ := dp2 hd
  refine s_un3 (d_var (i := 1) rfl h1) fun x y z H1 e1 w1 w2 w3 => ?_
  have hW := hW.ex e1
  have h2 := dp_ex e1 _ _ h2
  have few := co.gives.few
  refine s_forE (w_tup (d_var (i := 5) rfl w3)) (fun i σ' _ => (∃ z1 z2, σ' = [some self, some vc, some vst, some x, some y, some z, z1, z2]) ∧ (c.2.2.take i).all (fun p => decide (p.1 ∈ fr) || (decide ((p.1, c.2.1) ∈ st) || isDue ws p.1 c.2.1 p.2 st)) = true) (fun _ _ => ⟨⟨_, _, rfl⟩, rfl⟩)
    (fun Hb eb i p σ' H' u H2 hp e2 hs e3 hu => ?_) fun σ' H' e2 hs => ?_
  · obtain ⟨⟨z1, z2, rfl⟩, hall⟩ := hs
    obtain ⟨b, xs, rfl, hs2, hxs⟩ := dp_tup hu
    obtain ⟨y1, y2, rfl, k1, k2⟩ := dp2 hxs
    have pm : p ∈ c.2.2 := List.mem_of_getElem? hp
    have mk := co.gives.marks p pm
    have e12 := (eb.trans e2).trans e3
    have eH := e1.trans e12
    have W2 := hW.ex e12
    refine g_two hs2 _ ?_
    have dW : ∀ {H3}, Ex H2 H3 → EvP (tVar 0) [some self, some vc, some vst, some x, some y, some z, some y1, some y2] H3 (isW K T.W ws fr) := fun e => p_var (i := 0) rfl isW_mono (W2.ex e)
    have da : ∀ {H3}, Ex H2 H3 → EvD K (tVar 6) [some self, some vc, some vst, some x, some y, some z, some y1, some y2] H3 (.str p.1) := fun e => d_var (i := 6) rfl (dp_ex e _ _ k1)
    have dv : ∀ {H3}, Ex H2 H3 → EvD K (tVar 7) [some self, some vc, some vst, some x, some y, some z, some y1, some y2] H3 (.str p.2) := fun e => d_var (i := 7) rfl (dp_ex e _ _ k2)
    have dk : ∀ {H3}, Ex H2 H3 → EvD K (tVar 4) [some self, some vc, some vst, some x, some y, some z, some y1, some y2] H3 (.str c.2.1) := fun e => d_var (i := 4) rfl (dp_ex (e12.trans e) _ _ w2)
    have ds : ∀ {H3}, Ex H2 H3 → EvD K (tVar 2) [some self, some vc, some vst, some x, some y, some z, some y1, some y2] H3 (eCh st) := fun e => d_var (i := 2) rfl (dp_ex (e12.trans e) _ _ h2)
    have tk : ∀ b, (decide (p.1 ∈ fr) || (decide ((p.1, c.2.1) ∈ st) || isDue ws p.1 c.2.1 p.2 st)) = b → (c.2.2.take (i + 1)).all (fun p => decide (p.1 ∈ fr) || (decide ((p.1, c.2.1) ∈ st) || isDue ws p.1 c.2.1 p.2 st)) = b := fun b hb => by
      rw [List.take_add_one, hp, List.all_append, hall]
      simpa using hb
    have okc : okD (ePair (p.1, c.2.1)) := okD_pair mk.1.lt co.kind.lt
    refine Evl.s_if (b := (!decide (p.1 ∈ fr)) && (!decide ((p.1, c.2.1) ∈ st))) (et_and (t_of (d_ni1 (da (Ex.refl _)) (p_free T.clsW T.wNF (dW (Ex.refl _))))) fun _ => t_of (d_niT (e := ePair) (a := (p.1, c.2.1)) (l := st) eqv_pair
      (d_tup (ds := [.str p.1, .str c.2.1]) (ds_cons (da (Ex.refl _)) (ds_cons (dk (Ex.refl _)) ds_nil)) (by show (2 : Nat) ≤ 100000; decide)) (ds (Ex.refl _)) okc fun q hq => okD_pair (ps q hq).1 (ps q hq).2)) (fun hb H3 e4 => ?_) fun hb H3 e4 => ?_
    · rw [Bool.and_eq_true] at hb
      have n1 : decide (p.1 ∈ fr) = false := by simpa using hb.1
      have n2 : decide ((p.1, c.2.1) ∈ st) = false := by simpa using hb.2
      refine Evl.s_if (b := !isDue ws p.1 c.2.1 p.2 st) (et_not (t_B (p_meth (dW e4) (ds_cons (da e4) (ds_cons (dk e4) (ds_cons (dv e4) (ds_cons (ds e4) ds_nil)))) fun self' vs H4 e5 hw hv Q' E' q => ?_))) (fun hb2 H4 e5 => ?_) fun hb2 H4 e5 => ?_
      · exact ⟨ws, fr, p.1, c.2.1, p.2, st, self', vs, by rw [List.append_nil], hw, wo, mk.1.lt, co.kind.lt, mk.2.lt, ps, hv, q⟩
      · have hf : isDue ws p.1 c.2.1 p.2 st = false := by simpa using hb2
        refine s_retP (d_bl (K := K)) fun v' H5 e6 w => hQ v' H5 (((eH.trans e4).trans e5).trans e6) ?_
        have : mayStand ws fr c st = false := by
          unfold mayStand
          rw [List.all_eq_false]
          exact ⟨p, pm, by rw [n1, n2, hf]; decide⟩
        rw [this]
        exact w
      · have hf : isDue ws p.1 c.2.1 p.2 st = true := by simpa using hb2
        exact ⟨((e2.trans e3).trans e4).trans e5, ⟨_, _, rfl⟩, tk true (by rw [n1, n2, hf]; rfl)⟩
    · refine ⟨(e2.trans e3).trans e4, ⟨_, _, rfl⟩, tk true ?_⟩
      cases h : decide (p.1 ∈ fr) with
      | true => rfl
      | false =>
        rw [h] at hb
        have : decide ((p.1, c.2.1) ∈ st) = true := by simpa using hb
        rw [this]
        rfl
  · obtain ⟨⟨z1, z2, rfl⟩, hall⟩ := hs
    rw [List.take_length] at hall
    have : mayStand ws fr c st = true := hall
    rw [this] at hQ
    have hQ2 : ∀ v' H3, Ex H' H3 → isD K (.bool true) v' H3 → Q v' H3 := fun v' H3 e3 w => hQ v' H3 ((e1.trans e2).trans e3) w
    exact s_retP (σ := []) (D := { nx := fun _ H' => Q .non H', rt := Q }) (te := tC (.bl true)) d_bl hQ2
end
end K26
set_option Elab.async false
set_option linter.all false
set_option maxRecDepth 100000
set_option maxHeartbeats 2000000
/-! KW6: the goal; is_done. -/
namespace K26
open PySem PySem.Spec PyProof.Rows L2 Evl
theorem goalOf_snoc (ws : List Wish) (q : Wish) : goalOf (ws ++ [q]) = goalOf ws ++ q.2.map fun p => (q.1, p.1) := by
  unfold goalOf
  rw [List.flatMap_append]
  simp
theorem PrR.at_ {β : Type} {R : β → V → Hp → Prop} {H : Hp} : ∀ {l : List (Str × β)} {kvs : List (Key × V)} {i : Nat} {kv : Key × V}, PrR R H kvs l → kvs[i]? = some kv → ∃ q, l[i]? = some q ∧ kv.1 = Sum.inr q.1 ∧ R q.2 kv.2 H
  | _, _, _, _, .nil, e => by simp at e
  | _, _, 0, _, .cons a _, e => by
    simp at e
    subst e
    exact ⟨_, rfl, a⟩
  | _, _, i + 1, _, .cons _ t, e => PrR.at_ (i := i) t (by simpa using e)
theorem gv_mem {β : Type} : ∀ {l : List (Str × β)} {q : Str × β}, (l.map (·.1)).Nodup → q ∈ l → gv l q.1 = some q.2
  | p :: l, q, hn, hq => by
    rw [gv_cons]
    rcases List.mem_cons.mp hq with rfl | hq
    · rw [if_pos rfl]
    · have hn2 := List.nodup_cons.mp hn
      rw [if_neg fun z => hn2.1 (by show p.1 ∈ _; rw [z]; exact List.mem_map.mpr ⟨q, hq, rfl⟩)]
      exact gv_mem hn2.2 hq
section
variable {K : PySem.W.Frag} {H : Hp} {W : Addr} {ws : List Wish} {fr : List Str} {self : V}
theorem goal_len (ws : List Wish) (h : ∀ q ∈ ws, q.2.length ≤ 12) (i : Nat) : (goalOf (ws.take i)).length ≤ 12 * i := by
  induction i with
  | zero => simp [goalOf]
  | succ i ih =>
    rw [List.take_add_one]
    cases e : ws[i]? with
    | none =>
      rw [show (none : Option Wish).toList = [] from rfl, List.append_nil]
      omega
    | some q =>
      rw [show (some q).toList = [q] from rfl, goalOf_snoc, List.length_append, List.length_map]
      have := h q (List.mem_of_getElem? e)
      omega
theorem n_goal (cl : Cls K W) (nW : NoAttr K W "wishes") (hW : isW K W ws fr self H) (wo : WsOk ws) :
    EvN K (tLockE (tLc2 (iKeys (tFld K (tVar 0) "wishes")) (gName 1) tYes (iTup K (tDGet (tFld K (tVar 0) "wishes") (tVar 1))) (gTup K 2 (gCons (gName 2) (gCons (gName 3) gNil))) tYes (tTup (tCons (tVar 1) (tCons (tVar 2) tNil))) [1, 2, 3] [2, 3]))
      [some self, none, none, none] H ((goalOf ws).map ePair) := by
  intro H1 e Q q
  obtain ⟨a, dx, p, u, rfl, h2, ⟨kvs, hk, pr⟩, h4⟩ := hW.ex e
  refine ⟨p, .dK kvs, hk, trivial, fun od => ?_⟩
  have hl : kvs.length = ws.length := pr.len
  have nap : a ≠ p := fun z => by rw [z, hk] at h2; cases h2
  have xl : Xb p H1 (upd H1 p (.frz od (.dK kvs))) := Xb.put
  refine ⟨_, rfl, a, W, dx, _, .ref p, rfl, by rw [upd_ne nap]; exact h2, cl, nW, rfl, p, od, rfl, .inl ⟨kvs, upd_same, fun D hD => ?_⟩⟩
  have hfew := wo.few
  refine ⟨fun i m H' => m = kvs.length - i ∧ i ≤ kvs.length ∧ Ex (upd H1 p (.frz od (.dK kvs))) H' ∧ ∃ acc, H' D = some (.lst acc) ∧ DpAll K H' acc ((goalOf (ws.take i)).map ePair), ⟨_, rfl, Nat.zero_le _, Ex.new hD, [], upd_same, .nil⟩, ?_⟩
  rintro i m H3 ⟨rfl, hi, e3, acc, hacc, hdp⟩
  have h3p : H3 p = some (.frz od (.dK kvs)) := e3 p _ upd_same
  have h3a : H3 a = some (.ins W dx [("wishes", .ref p), ("free", u)]) := e3 a _ (by rw [upd_ne nap]; exact h2)
  by_cases hlt : i < kvs.length
  · refine .inr ⟨⟨h3p, hlt⟩, fun H' => i + 1 ≤ kvs.length ∧ Ex (upd H1 p (.frz od (.dK kvs))) H' ∧ ∃ acc, H' D = some (.lst acc) ∧ DpAll K H' acc ((goalOf (ws.take (i + 1))).map ePair), fun H' z => ⟨_, by omega, rfl, z.1, z.2.1, z.2.2⟩, fun x H4 hy => ?_⟩
    obtain ⟨rfl, k, v, hkv, rfl⟩ := hy
    obtain ⟨qq, hq, hkq, _⟩ := pr.at_ hkv
    have hkq : k = Sum.inr qq.1 := hkq
    subst hkq
    have qm : qq ∈ ws := List.mem_of_getElem? hq
    have hgv := gv_mem wo.nodup qm
    obtain ⟨v', hval, hv'⟩ : ∃ v', valV kvs (Sum.inr qq.1) = some v' ∧ rC K qq.2 v' H1 := by
      rcases pr.val qq.1 with ⟨_, z⟩ | ⟨v', d, z1, z2, z3⟩
      · rw [hgv] at z; cases z
      · rw [hgv] at z2
        cases z2
        exact ⟨v', z1, z3⟩
    have hch := dp_ex e3 _ _ (dp_xb hk xl _ _ hv'.1)
    obtain ⟨b, xs, rfl, hs, hxs⟩ := dp_tup hch
    have hxl : xs.length = qq.2.length := by rw [hxs.len, List.length_map]
    have q12 := (wo.each qq qm).1
    have gl := goal_len ws (fun q hq => (wo.each q hq).1) i
    have tk : goalOf (ws.take (i + 1)) = goalOf (ws.take i) ++ qq.2.map fun p => (qq.1, p.1) := by
      rw [List.take_add_one, hq]
      exact goalOf_snoc _ _
    show _ ∧ _
    refine ⟨rfl, et_yes H4 (Ex.refl H4) _ fun H5 e5 => ?_⟩
    rw [if_pos rfl]
    show tDGet _ _ _ _ _
    have h5p := e5 p _ h3p
    have hs5 := ex_t e5 hs
    have hxs5 := dpAll_ex e5 _ _ hxs
    refine ⟨_, rfl, a, W, dx, _, .ref p, rfl, e5 a _ h3a, cl, nW, rfl, .str qq.1, rfl, p, .ref b, rfl, .inl ⟨kvs, Sum.inr qq.1, .inr ⟨od, h5p⟩, rfl, hval.symm⟩, b, rfl, ⟨xs, hs5⟩, ?_⟩
    refine ⟨fun j k H' => k = xs.length - j ∧ j ≤ xs.length ∧ Ex (upd H1 p (.frz od (.dK kvs))) H' ∧ SqT K H' b xs ∧ DpAll K H' xs (qq.2.map ePair) ∧ ∃ acc, H' D = some (.lst acc) ∧ DpAll K H' acc ((goalOf (ws.take i) ++ (qq.2.take j).map fun p => (qq.1, p.1)).map ePair),
      ⟨_, rfl, Nat.zero_le _, e3.trans e5, hs5, hxs5, acc, e5 _ _ hacc, by simpa using dpAll_ex e5 _ _ hdp⟩, ?_⟩
    rintro j k H6 ⟨rfl, hj, e6, hs6, hxs6, acc6, hacc6, hdp6⟩
    by_cases hjl : j < xs.length
    · refine .inr ⟨walk_tup.goes j H6 hjl hs6, fun H' => j + 1 ≤ xs.length ∧ Ex (upd H1 p (.frz od (.dK kvs))) H' ∧ SqT K H' b xs ∧ DpAll K H' xs (qq.2.map ePair) ∧ ∃ acc, H' D = some (.lst acc) ∧ DpAll K H' acc ((goalOf (ws.take i) ++ (qq.2.take (j + 1)).map fun p => (qq.1, p.1)).map ePair),
        fun H' z => ⟨_, by omega, rfl, z⟩, fun x H7 hy => ?_⟩
      obtain ⟨rfl, hxj⟩ := walk_tup.yields j H6 x H7 hjl hs6 hy
      obtain ⟨d, hd, hdx⟩ := hxs6.at_ hxj
      rw [List.getElem?_map] at hd
      obtain ⟨pp, hpp, rfl⟩ := Option.map_eq_some_iff.mp hd
      obtain ⟨b2, ys, rfl, hs2, hys⟩ := dp_tup hdx
      obtain ⟨y1, y2, rfl, k1, k2⟩ := dp2 hys
      refine g_two hs2 _ ⟨rfl, et_yes H7 (Ex.refl H7) _ fun H8 e8 => ?_⟩
      rw [if_pos rfl]
      have hkey : Dp K H8 (V.str qq.1) (.str qq.1) := .str _
      refine (d_tup (K := K) (σ := [some (V.ref a), some (V.str qq.1), some y1, some y2]) (ds := [.str qq.1, .str pp.1]) (ds_cons (d_var (i := 1) rfl hkey) (ds_cons (d_var (i := 2) rfl (dp_ex e8 _ _ k1)) ds_nil)) (by show (2 : Nat) ≤ 100000; decide)) H8 (Ex.refl H8) _ fun y H9 e9 hy9 => ?_
      have e89 := e8.trans e9
      have h9D := e89 D _ hacc6
      have acl : acc6.length ≤ 12 * i + 12 := by
        rw [hdp6.len, List.length_map, List.length_append, List.length_map, List.length_take]
        omega
      refine ⟨acc6, h9D, sz_lt (by omega), hjl, Ex.mut (e6.trans e89) hD, sqT_upd h9D (ex_t e89 hs6), dpAll_upd h9D _ _ (noLs_map fun _ _ => rfl) (dpAll_ex e89 _ _ hxs6), acc6 ++ [y], upd_same, ?_⟩
      have tk2 : qq.2.take (j + 1) = qq.2.take j ++ [pp] := by
        rw [List.take_add_one, hpp]
        rfl
      rw [tk2, show goalOf (ws.take i) ++ (qq.2.take j ++ [pp]).map (fun p => (qq.1, p.1)) = (goalOf (ws.take i) ++ (qq.2.take j).map fun p => (qq.1, p.1)) ++ [(qq.1, pp.1)] by rw [List.map_append, List.append_assoc]; rfl, List.map_append]
      exact DpAll.app (dpAll_upd h9D _ _ (noLs_map fun _ _ => rfl) (dpAll_ex e89 _ _ hdp6)) (.cons (dp_upd h9D _ _ rfl hy9) .nil)
    · obtain rfl : j = xs.length := by omega
      refine .inl ⟨walk_tup.stops H6 hs6, hlt, e6, acc6, hacc6, ?_⟩
      rw [tk]
      rw [hxl, List.take_length] at hdp6
      exact hdp6
  · obtain rfl : i = kvs.length := by omega
    refine .inl ⟨⟨h3p, Nat.le_refl _⟩, h3p, ?_⟩
    have ep : Ex H1 (upd H3 p (.dK kvs)) := fun b o hb => by
      by_cases z : b = p
      · rw [z, upd_same]
        rw [z, hk] at hb
        exact hb
      · rw [upd_ne z]
        exact e3 b o (by rw [upd_ne z]; exact hb)
    have np : D ≠ p := fun z => by rw [z, upd_same] at hD; cases hD
    have hD1 : H1 D = none := by
      rw [upd_ne np] at hD
      exact hD
    have xt : ExT H3 (upd H3 p (.dK kvs)) := ExT.put (fun xs z => by rw [h3p] at z; cases z) (fun o xs z => by rw [h3p] at z; cases z)
    refine q _ _ ep ⟨D, acc, rfl, fresh_back e hD1, by rw [upd_ne np]; exact hacc, ?_⟩
    rw [hl, List.take_length] at hdp
    exact dpAll_t xt _ _ (noLs_map fun _ _ => rfl) hdp
end
section
variable {P : Program} {w : World} {K : PySem.W.Frag} {mg : Str → Option Value} {base : Heap}
theorem ok_goal (T : TX K mg) : FnOk P w K mg base CX0 1 T.goal.f T.goal.fd ["self"] (spGoal K T.W) := by
  refine T.goal.F.ok sc_Wanted_goal (fun vs H Q E h => by obtain ⟨ws, fr, self, rfl, _⟩ := h; rfl) (fun cdv A outer s H vs Q E hr h => ?_)
  refine ⟨_, PSs.nox (pss_one (ps_ret (pe_lock <| pe_lc2 (own := [("aspect", 1), ("kind", 2), ("value", 3)]) (vs1 := [2, 3]) rfl sc_Wanted_goal.nd (pi_keys (fldK K (pv 0))) (blkOk_by (N := ["self", "aspect", "kind", "value"]) (sc := defScope s_Wanted_goal) (by decide +kernel)) (by decide) (fun _ _ _ _ _ => (pg_name (i := 1) sc_Wanted_goal.nd rfl (Or.inl rfl))) (fun _ _ _ _ _ => pts_nil) (fun _ _ _ _ _ => (piT K (pe_dget (hu_of hr) (fldK K (pv 0)) (pv 1) (fun _ _ => rfl)))) (fun _ _ _ _ _ => (pgTup K (n := 2) rfl (pgs_cons (pg_name (i := 2) sc_Wanted_goal.nd rfl (Or.inl rfl)) (pgs_cons (pg_name (i := 3) sc_Wanted_goal.nd rfl (Or.inl rfl)) pgs_nil)))) (fun _ _ _ _ _ => pts_nil) (fun _ _ _ _ _ => (pe_tup (pa_cons (pv 1) (pa_cons (pv 2) pa_nil))))))), ?_⟩
  obtain ⟨ws, fr, self, rfl, hW, wo, hQ⟩ := h
  exact s_retP (n_goal T.clsW T.wNW hW wo) hQ
theorem n_meth0 {W : Addr} {ws : List Wish} {fr : List Str} {σ : L2.St} {H : Hp} {te : TE} {sp : Sp} {m : Str} {E : XK} {es : List PyData} (h : EvP te σ H (isW K W ws fr))
    (hs : ∀ self H2, Ex H H2 → isW K W ws fr self H2 → ∀ Q E, RetN K es H2 Q → sp [self] H2 Q E) (hm : ([("wishes", V.non), ("free", V.non)] : List (Str × V)).lookup m = none := by rfl) : EvN K (tMeth W m sp [] E te tNil) σ H es := fun H1 e Q q =>
  h H1 e _ fun v H2 e2 hw => by
    have hw' := hw
    obtain ⟨a, dx, p, u, h1, h2, _⟩ := hw'
    refine ⟨a, dx, _, h1, h2, ?_, hs v H2 (e.trans e2) hw Q E fun v' H4 e4 w => q v' H4 (e2.trans e4) ?_⟩
    · revert hm
      simp only [List.lookup]
      split
      · intro z; cases z
      · split
        · intro z; cases z
        · intro _; rfl
    · obtain ⟨p, xs, h1, h2, h3, h4⟩ := w
      exact ⟨p, xs, h1, fresh_back (e.trans e2) h2, h3, h4⟩
theorem goal_ok {ws : List Wish} (wo : WsOk ws) : PairsOk (goalOf ws) := fun p hp => by
  obtain ⟨q, hq, hp⟩ := List.mem_flatMap.mp hp
  obtain ⟨r, hr, rfl⟩ := List.mem_map.mp hp
  exact ⟨(wo.each q hq).2.2, ((wo.each q hq).2.1 r hr).1⟩
theorem ok_is_done (T : TX K mg) : FnOk P w K mg base CX0 2 T.is_done.f T.is_done.fd ["wanted", "settled"] (spDone K T.W) := by
  refine T.is_done.F.ok sc_is_done (fun vs H Q E h => by obtain ⟨ws, fr, st, self, v, rfl, _⟩ := h; rfl) (fun cdv A outer s H vs Q E hr h => ?_)
  refine ⟨_, PSs.nox (pss_one (ps_ret (qAll K T.b_all rfl (pe_lc (own := [("pair", 2)]) rfl sc_is_done.nd (piL K (pe_meth0 (pv 0) T.clsW T.goal.m (ok_goal T) (hr.mono (by decide)) (bd_Wanted_goal T.goal.F) .nil pass0)) (blkOk_by (N := ["wanted", "settled", "pair"]) (sc := defScope s_is_done) (by decide +kernel)) (fun _ _ _ _ _ => (pg_name (i := 2) sc_is_done.nd rfl (Or.inl rfl))) (fun _ _ _ _ _ => pts_nil) (fun _ _ _ _ _ => (pe_cmpR (opInT K hr.units) (pv 2) (pv 1) rfl)))))), ?_⟩
  obtain ⟨ws, fr, st, self, v, rfl, hW, wo, ps, hd, hQ⟩ := h
  have gl := goal_len ws (fun q hq => (wo.each q hq).1) ws.length
  rw [List.take_length] at gl
  have few := wo.few
  refine s_retP (d_allB (fun p : Str × Str => decide (p ∈ st)) (w_lst (EvN.data (n_meth0 (p_var (i := 0) rfl isW_mono hW) fun self' H2 e2 hw Q' E' q => ⟨ws, fr, self', rfl, hw, wo, q⟩))) (by omega) fun p hp y H1 e1 hy => ⟨_, g_name, rfl, ?_⟩) hQ
  exact d_inT (e := ePair) (a := p) (l := st) eqv_pair (d_var (i := 2) rfl hy) (d_var (i := 1) rfl (dp_ex e1 _ _ hd)) (okD_pair (goal_ok wo p hp).1 (goal_ok wo p hp).2) fun q hq => okD_pair (ps q hq).1 (ps q hq).2
end
end K26
set_option Elab.async false
set_option linter.all false
set_option maxRecDepth 100000
set_option maxHeartbeats 4000000
/-! KSortJ: sorted(xs, key=f) where f's calls keep a word J of the whole state and give ints (f may do more than read the heap). -/
namespace K26
open PySem PySem.Calls PyProof.Rows PySem.W
section
variable {prog : Program} {w : World} {A : Around} {E : Value → Shared → Prop} {s : Shared} {a kS : Addr} {vs : List Value} {e1 : Nat} {P : PySem.Fin → Shared → Prop} {kz : List PyData}
/-- what the moves of the two objects a, kS leave -/
def Moves (J : Shared → Prop) (a kS : Addr) : Prop := ∀ (s1 : Shared) (h2 : Heap) (t : Nat), J s1 → (∀ b o, b ≠ a → b ≠ kS → s1.heap.get? b = some o → h2.get? b = some o) → J { s1 with heap := h2, toks := t }
/-- a call of the key -/
def KeyJ (J : Shared → Prop) (a kS : Addr) (k : PyData) (s1 : Shared) (r : Value) (s2 : Shared) : Prop := (∃ n t, k = .int n ∧ r = .int n t) ∧ J s2 ∧ ∀ b o, b = a ∨ b = kS → s1.heap.get? b = some o → s2.heap.get? b = some o
theorem keyJ_rest {f : Value} (J : Shared → Prop) (hj : J s) (mv : Moves J a kS) (nk : s.heap.get? kS = some (seqObj "list" #[] 0)) (na : s.heap.get? a = some (seqObj "list" #[] e1)) (hka : kS ≠ a)
    (hlen : kz.length = vs.length) (hZ : vs.length ≤ sizeLine) (hal : AllAlike kz) (hsk : Sortable kz) (hu : ∀ d, d ∈ kz → A.units + d.depth < cLine)
    (turn : ∀ (i : Nat) (v : Value) (k : PyData), vs[i]? = some v → kz[i]? = some k → ∀ s1, J s1 → (∃ o, s1.heap.get? a = some o) → (∃ o, s1.heap.get? kS = some o) → wpAny (model prog w) A (call f [v]) (KeyJ J a kS k s1) (fun _ _ => False) s1)
    (h : ∀ s' out c, J s' → s'.heap.get? a = some (seqObj "list" (List.toArray out) c) → KeyedOut false kz vs out → P (.done (.ret .none)) s') :
    wpAny (model prog w) A (ksk_rest a f false vs.toArray e1 (.ref kS)) P E s := by
  unfold ksk_rest
  refine wpAny_bind (wpAny_rule ?_)
  first
    | rw [List.forIn_toArray]
    | (rw [← Array.forIn_toList]; simp only [List.toList_toArray])
    | rw [← Array.forIn_toList]
  refine wpAny_bind (ksk_fold (fun i s' => ∃ kA e, J s' ∧ s'.heap.get? kS = some (seqObj "list" kA e) ∧ s'.heap.get? a = some (seqObj "list" #[] e1) ∧ EachIs (fun v k => ∃ n t, k = PyData.int n ∧ v = Value.int n t) kA.toList (kz.take i)) vs 0 s
    ⟨#[], 0, hj, nk, na, by rw [List.take_zero]; exact EachIs.nil⟩ ?step ?done)
  case step =>
    rintro j x s' hx ⟨kA, e, hJ, nk', na', hk⟩
    simp only [Nat.zero_add] at hk ⊢
    have hj : j < vs.length := (List.getElem?_eq_some_iff.mp hx).1
    obtain ⟨k, hkj⟩ : ∃ k, kz[j]? = some k := ⟨_, List.getElem?_eq_getElem (by omega)⟩
    have hz : kA.size ≤ vs.length := by
      have h1 := hk.length
      rw [Array.length_toList, List.length_take] at h1
      omega
    refine wpAny_bind (wpAny_attempt (wpAny_mono (turn j x k hx hkj s' hJ ⟨_, na'⟩ ⟨_, nk'⟩) (fun v s'' he => ?_) fun _ _ hF => hF.elim))
    obtain ⟨hv, hJ2, hold⟩ := he
    try dsimp only
    have nk2 := hold _ _ (.inr rfl) nk'
    have na2 := hold _ _ (.inl rfl) na'
    have s1 := Heap.SameBut.update s''.heap kS (Obj.mapSeq (·.push v))
    obtain ⟨c2, hc2⟩ : ∃ c2, (s''.heap.update kS (Obj.mapSeq (·.push v))).get? kS = some (seqObj "list" (kA.push v) c2) := ⟨_, get?_update_seq nk2 (·.push v)⟩
    have ek : kz.take (j + 1) = kz.take j ++ [k] := by rw [List.take_add_one, hkj]; simp
    have ea : (kA.push v).toList = kA.toList ++ [v] := by simp
    refine wpAny_bind (listUpdate_at nk2 rfl ?_ (Nat.le_trans hz hZ) (Nat.le_trans (Nat.le_of_eq (Array.size_push ..)) (Nat.succ_le_succ (Nat.le_trans hz hZ))))
    refine wpAny_pure ⟨rfl, kA.push v, c2, mv s'' _ s''.toks hJ2 (fun b o h1 h2 z => (s1.2 b h2).trans z), hc2, (s1.2 a hka.symm).trans na2, ?_⟩
    rw [ea, ek]
    exact each_snoc hv hk
  case done =>
    rintro s' ⟨kA, e, hJ, nk', na', hk⟩
    have e3 : kz.take (0 + vs.length) = kz := List.take_of_length_le (by omega)
    rw [e3] at hk
    have hk' : EachIs (fun v k => ∃ as, Reads s'.heap v k as) kA.toList kz := hk.mono fun v k q => by
      obtain ⟨n, t, rfl, rfl⟩ := q
      exact ⟨[], .int n t⟩
    have hsz : kA.size = vs.length := by
      have h1 := hk'.length
      rw [Array.length_toList] at h1
      omega
    try dsimp only
    refine wpAny_bind (listItems_at nk' rfl ?_)
    obtain ⟨G, g1, g2⟩ := L2.restrict s'.heap fun b => decide (b ≠ kS)
    have kp : KeepsBut a G s'.heap := fun b o hb q => by
      by_cases z : b = kS
      · rw [g2 b (by simp [z])] at q; cases q
      · rw [g1 b (decide_eq_true z)] at q; exact q
    refine keyH_end (κ := dataKind s'.heap kz) (h₁ := G) kp (g2 kS (by simp)) nk' na' hka (SortsAt.data (s := s') hk' hal hsk hu) hsz hZ fun h3 tk3 c k3 n3 => h _ _ c (mv s' h3 tk3 hJ fun b o h1 h2 z => k3 b o h1 (by rw [g1 b (decide_eq_true h2)]; exact z)) n3 ⟨s'.heap, kA.toList, hal, rfl, hk'⟩
/-- sorted(xs, key=f) -/
theorem sortedJ {β : Type} {bs : List β} {R : Value → β → Prop} {l : Addr} {f : Value} {kw : List (Str × Value)} {Q : Value → Shared → Prop} (J : Addr → Addr → Shared → Prop) (k : β → Int) (hl : s.heap.IsList l vs.toArray) (e : EachIs R vs bs) (hL : bs.length ≤ sizeLine)
    (hu : A.units + 3 < cLine) (ha1 : argsOk "sorted" ⟨[.ref l], kw⟩) (ha2 : ∀ x, argsOk "list.sort" ⟨[.ref x], kw⟩) (ht : ∀ x, Builtin.«list.sort» ⟨[.ref x], kw⟩ = ksk_tree x f false)
    (start : ∀ a kS h' t, s.heap.objs.size ≤ a → s.heap.objs.size ≤ kS → (∀ b o, s.heap.get? b = some o → h'.get? b = some o) → J a kS { s with heap := h', toks := t })
    (mv : ∀ a kS, s.heap.objs.size ≤ a → s.heap.objs.size ≤ kS → Moves (J a kS) a kS)
    (turn : ∀ a kS, s.heap.objs.size ≤ a → s.heap.objs.size ≤ kS → ∀ (v : Value) (x : β), R v x → x ∈ bs → ∀ s1, J a kS s1 → (∃ o, s1.heap.get? a = some o) → (∃ o, s1.heap.get? kS = some o) → wpAny (model prog w) A.in1.in1 (call f [v]) (KeyJ (J a kS) a kS (.int (k x)) s1) (fun _ _ => False) s1)
    (h : ∀ a kS out c s', s.heap.objs.size ≤ a → s.heap.objs.size ≤ kS → J a kS s' → s'.heap.get? a = some (seqObj "list" (List.toArray out) c) → out.length = bs.length → EachIs R out (bs.mergeSort (dataLe false fun x => .int (k x))) → Q (.ref a) s') :
    wpAny (model prog w) A (call (.builtin "sorted") [.ref l] kw) Q E s := by
  have hlv : vs.length ≤ sizeLine := by rw [e.length]; exact hL
  refine sorted_of_sort hl hlv ha1 ha2 fun E' => ?_
  rw [ht]
  have ho := copyHeap_at s.heap vs
  have hcs : s.heap.objs.size + 1 < (copyHeap s.heap vs).objs.size := Heap.lt_size ho
  obtain ⟨e1, ho1⟩ : ∃ e1, ((copyHeap s.heap vs).update (s.heap.objs.size + 1) (Obj.mapSeq fun _ => (#[] : Array Value))).get? (s.heap.objs.size + 1) = some (seqObj "list" #[] e1) := ⟨_, get?_update_seq ho fun _ => #[]⟩
  have hkS : (((copyHeap s.heap vs).update (s.heap.objs.size + 1) (Obj.mapSeq fun _ => (#[] : Array Value))).push (seqObj "tuple" vs.toArray 0)).objs.size = (copyHeap s.heap vs).objs.size + 1 := by rw [size_push', Heap.size_update]
  unfold ksk_tree
  refine wpAny_bind (listItems_at ho rfl ?_)
  refine wpAny_bind (listUpdate_at ho rfl ?_ (by rw [List.size_toArray]; exact hlv) (Nat.zero_le _))
  refine wpAny_bind (seqEpoch_at ho1 rfl ?_)
  refine wpAny_bind (wpAny_newTuple ?_ (by show vs.length ≤ _; exact hlv))
  refine wpAny_bind (wpAny_newList ?_ (Nat.zero_le _))
  refine wpAny_holding ?_
  have old : ∀ b o, s.heap.get? b = some o → (sortingHeap (copyHeap s.heap vs) (s.heap.objs.size + 1) vs).get? b = some o := fun b o q => sortingHeap_old (Nat.ne_of_lt (Nat.lt_succ_of_lt (Heap.lt_size q))) (copyHeap_old q)
  have zk : s.heap.objs.size ≤ (((copyHeap s.heap vs).update (s.heap.objs.size + 1) (Obj.mapSeq fun _ => (#[] : Array Value))).push (seqObj "tuple" vs.toArray 0)).objs.size := by rw [hkS]; omega
  have za : s.heap.objs.size ≤ s.heap.objs.size + 1 := Nat.le_succ _
  refine keyJ_rest (kz := bs.map fun x => PyData.int (k x)) (s := { s with heap := sortingHeap (copyHeap s.heap vs) (s.heap.objs.size + 1) vs }) (kS := (((copyHeap s.heap vs).update (s.heap.objs.size + 1) (Obj.mapSeq fun _ => (#[] : Array Value))).push (seqObj "tuple" vs.toArray 0)).objs.size)
    (J (s.heap.objs.size + 1) _) (start _ _ _ s.toks za zk old) (mv _ _ za zk) (Heap.get?_push_size _ rfl) (Heap.get?_push_of_some _ (Heap.get?_push_of_some _ ho1)) (Nat.ne_of_gt (by rw [hkS]; exact Nat.lt_succ_of_lt hcs)) (by rw [List.length_map]; exact e.length.symm) hlv ?_ ?_ ?_ ?_ fun s' out c hJ ha ko => ⟨rfl, ?_⟩
  · intro d hd d' hd'
    obtain ⟨x, _, rfl⟩ := List.mem_map.mp hd
    obtain ⟨y, _, rfl⟩ := List.mem_map.mp hd'
    rfl
  · refine .inr fun d hd => ?_
    obtain ⟨x, _, rfl⟩ := List.mem_map.mp hd
    exact ⟨(fun z => by cases z), fun xs z => by cases z⟩
  · intro d hd
    obtain ⟨x, _, rfl⟩ := List.mem_map.mp hd
    show A.units + 2 + 0 < cLine
    omega
  · intro i v d hv hd s1 hJ ea ek
    rw [List.getElem?_map] at hd
    obtain ⟨x, q, rfl⟩ := Option.map_eq_some_iff.mp hd
    have hz : (v, x) ∈ vs.zip bs := List.mem_of_getElem? (i := i) (by rw [List.getElem?_zip_eq_some]; exact ⟨hv, q⟩)
    exact turn _ _ za zk v x (e.zip _ hz) (List.mem_of_getElem? q) s1 hJ ea ek
  · exact h _ _ out c s' za zk hJ ha ((ko.length (by rw [List.length_map]; exact e.length.symm)).trans e.length) (keyedOut_each _ ko e)
end
end K26
set_option Elab.async false
set_option linter.all false
set_option maxRecDepth 100000
set_option maxHeartbeats 4000000
/-! KKnown: the dict from tuples of pairs to rows. -/
namespace K26
open PySem PySem.Spec PyProof.Rows L2 Evl SeqAt
/-- an entry: the pairs, their tuple's address, the row's address, the row -/
structure KEnt where
  st : Pairs
  ka : Addr
  ra : Addr
  row : List Str
def encP (st : Pairs) : NestedKey := .tup (st.map fun p => .tup [.text p.1, .text p.2])
theorem encP_inj {a b : Pairs} (h : encP a = encP b) : a = b := by
  have h := NestedKey.tup.inj h
  have key : ∀ (a b : Pairs), (a.map fun p : Str × Str => NestedKey.tup [.text p.1, .text p.2]) = (b.map fun p => NestedKey.tup [.text p.1, .text p.2]) → a = b := by
    intro a
    induction a with
    | nil => intro b h; cases b with
      | nil => rfl
      | cons _ _ => cases h
    | cons p a ih => intro b h; cases b with
      | nil => cases h
      | cons q b =>
        rw [List.map_cons, List.map_cons] at h
        obtain ⟨h1, h2⟩ := List.cons.inj h
        have h1 := NestedKey.tup.inj h1
        obtain ⟨e1, e2⟩ := List.cons.inj h1
        obtain ⟨e2, _⟩ := List.cons.inj e2
        rw [ih b h2, show p = q from Prod.ext (NestedKey.text.inj e1) (NestedKey.text.inj e2)]
  exact key a b h
theorem pair_dep (p : Str × Str) : (NestedKey.tup [.text p.1, .text p.2]).depth ≤ 2 := by simp [NestedKey.depth, NestedKey.depthAll]
theorem encP_depth (st : Pairs) : (encP st).depth ≤ 8 := by
  have key : ∀ st : Pairs, NestedKey.depthAll (st.map fun p : Str × Str => NestedKey.tup [.text p.1, .text p.2]) ≤ 3 := by
    intro st
    induction st with
    | nil => simp [NestedKey.depthAll]
    | cons p st ih =>
      rw [List.map_cons]
      have := pair_dep p
      simp only [NestedKey.depthAll]
      omega
  have := key st
  unfold encP
  simp only [NestedKey.depth]
  omega
theorem nested_pair {h : Heap} {v : Value} {p : Str × Str} {as : List Addr} (r : Reads h v (ePair p) as) : NestedIs h (.tup [.text p.1, .text p.2]) v := by
  cases r with
  | tuple h1 h2 h3 h4 =>
    refine .tup h1 h2 h3 ?_
    generalize hv : (Array.toList _ : List Value) = vs at h4
    cases h4 with
    | cons a t =>
      cases a
      cases t with
      | cons b t =>
        cases b
        cases t
        exact .cons (.text _ _) (.cons (.text _ _) .nil)
theorem nested_all {h : Heap} : ∀ {st : Pairs} {vs : List Value} {as : List Addr}, ReadsAll h vs (st.map ePair) as → NestedAll h (st.map fun p => NestedKey.tup [.text p.1, .text p.2]) vs
  | [], _, _, r => by cases r; exact .nil
  | p :: st, _, _, r => by
    cases r with
    | cons a t => exact .cons (nested_pair a) (nested_all t)
theorem nested_ch {P : Program} {w : World} {h : Heap} {b : Addr} {st : Pairs} {as : List Addr} (r : Reads h (.ref b) (eCh st) as) : (nestedKind P w).is h (encP st) b := by
  refine ⟨?_, encP_depth st⟩
  cases r with
  | tuple h1 h2 h3 h4 => exact .tup h1 h2 h3 (nested_all h4)
def kx (e : KEnt) : NestedKey × Addr × Value := (encP e.st, e.ka, .ref e.ra)
/-- the dict's own object -/
def KnO (P : Program) (w : World) (d : Addr) (l : List KEnt) : HO := .ext fun h => ∃ o es ep, h.get? d = some o ∧ o.ExactDict ∧ o.data = .dict es ep ∧ es.toList = (l.map kx).map (entryOfKey (nestedKind P w)) ∧ (d == sysModules) = false
structure KnH (K : PySem.W.Frag) (P : Program) (w : World) (H : Hp) (d : Addr) (l : List KEnt) : Prop where
  at_ : H d = some (KnO P w d l)
  each : ∀ e ∈ l, Dp K H (.ref e.ka) (eCh e.st) ∧ Dp K H (.ref e.ra) (eStrs e.row)
  nodup : (l.map (·.st)).Nodup
  few : l.length ≤ 100000
theorem knO_ne {P : Program} {w : World} {d : Addr} {l : List KEnt} : (∀ xs, KnO P w d l ≠ .tup xs) ∧ (∀ o u, KnO P w d l ≠ .frz o u) ∧ (∀ ps, KnO P w d l ≠ .tbl ps) ∧ (∀ xs, KnO P w d l ≠ .lst xs) :=
  ⟨fun _ z => (by unfold KnO at z; cases z), fun _ _ z => (by unfold KnO at z; cases z), fun _ z => (by unfold KnO at z; cases z), fun _ z => (by unfold KnO at z; cases z)⟩
theorem KnH.t {K : PySem.W.Frag} {P : Program} {w : World} {H H' : Hp} {d : Addr} {l : List KEnt} (e : ExT H H') (hd : H' d = some (KnO P w d l)) (h : KnH K P w H d l) : KnH K P w H' d l :=
  ⟨hd, fun x hx => ⟨dp_t e _ _ (by simpa [noL] using noL_pairs _) (h.each x hx).1, dp_t e _ _ (by simpa [noL] using noL_strs _) (h.each x hx).2⟩, h.nodup, h.few⟩
theorem KnH.ex {K : PySem.W.Frag} {P : Program} {w : World} {H H' : Hp} {d : Addr} {l : List KEnt} (e : Ex H H') (h : KnH K P w H d l) : KnH K P w H' d l := h.t (exT_of e) (e _ _ h.at_)
/-- what stands at a key -/
def kAt (l : List KEnt) (st : Pairs) : Option KEnt := l.find? fun e => decide (e.st = st)
theorem kAt_some {l : List KEnt} {st : Pairs} {e : KEnt} (h : kAt l st = some e) : e ∈ l ∧ e.st = st := ⟨List.mem_of_find?_eq_some h, of_decide_eq_true (List.find?_some (p := fun e : KEnt => decide (e.st = st)) h)⟩
theorem kAt_none {l : List KEnt} {st : Pairs} (h : kAt l st = none) : st ∉ l.map (·.st) := fun z => by
  obtain ⟨e, he, rfl⟩ := List.mem_map.mp z
  have := List.find?_eq_none.mp h e he
  simp at this
theorem atKey_kx (l : List KEnt) (st : Pairs) : atKey (l.map kx) (encP st) = (kAt l st).map fun e => (e.ka, Value.ref e.ra) := by
  unfold atKey kAt
  induction l with
  | nil => rfl
  | cons e l ih =>
    rw [List.map_cons, List.find?_cons, List.find?_cons]
    by_cases h : e.st = st
    · have h2 : (kx e).1 = encP st := by rw [← h]; rfl
      simp [h, h2, kx]
    · have h2 : ¬ (kx e).1 = encP st := fun z => h (encP_inj z)
      simp only [h, h2, decide_false]
      exact ih
/-- the dict behind d[st] = row -/
def kPut (l : List KEnt) (n : KEnt) : List KEnt := if (kAt l n.st).isSome then l.map (fun e => if e.st = n.st then { e with ra := n.ra, row := n.row } else e) else l ++ [n]
theorem storedH_kx (l : List KEnt) (n : KEnt) : storedH (l.map kx) (encP n.st) n.ka (.ref n.ra) = (kPut l n).map kx := by
  unfold storedH kPut
  rw [atKey_kx, Option.isSome_map]
  split
  · rw [List.map_map, List.map_map]
    refine List.map_congr_left fun e _ => ?_
    show putAt (encP n.st) (.ref n.ra) (kx e) = kx (if e.st = n.st then _ else e)
    unfold putAt
    by_cases h : e.st = n.st
    · rw [if_pos h, if_pos (by rw [← h]; rfl)]
      rfl
    · rw [if_neg h, if_neg (show ¬ (kx e).1 = encP n.st from fun z => h (encP_inj z))]
  · rw [List.map_append]
    rfl
theorem kPut_keys (l : List KEnt) (n : KEnt) : (kPut l n).map (·.st) = if n.st ∈ l.map (·.st) then l.map (·.st) else l.map (·.st) ++ [n.st] := by
  unfold kPut
  cases h : kAt l n.st with
  | none =>
    rw [if_neg (by simp), if_neg (kAt_none h), List.map_append]
    rfl
  | some e =>
    have := kAt_some h
    rw [if_pos (show (some e).isSome = true from rfl), if_pos (List.mem_map.mpr ⟨e, this⟩), List.map_map]
    refine List.map_congr_left fun x _ => ?_
    show (if x.st = n.st then _ else x).st = x.st
    split <;> rfl
theorem kPut_mem {l : List KEnt} {n e : KEnt} (h : e ∈ kPut l n) : e ∈ l ∨ (e.st = n.st ∧ e.ra = n.ra ∧ e.row = n.row ∧ (e.ka = n.ka ∨ ∃ x ∈ l, x.st = e.st ∧ x.ka = e.ka)) := by
  unfold kPut at h
  split at h
  · obtain ⟨x, hx, e1⟩ := List.mem_map.mp h
    split at e1
    · rename_i hs
      subst e1
      exact .inr ⟨hs, rfl, rfl, .inr ⟨x, hx, rfl, rfl⟩⟩
    · subst e1
      exact .inl hx
  · rcases List.mem_append.mp h with h | h
    · exact .inl h
    · obtain rfl := List.mem_singleton.mp h
      exact .inr ⟨rfl, rfl, rfl, .inl rfl⟩
theorem kAt_put (l : List KEnt) (n : KEnt) (st : Pairs) : (kAt (kPut l n) st).map (·.row) = if st = n.st then some n.row else (kAt l st).map (·.row) := by
  unfold kPut
  cases h : kAt l n.st with
  | none =>
    rw [if_neg (by simp)]
    unfold kAt at h ⊢
    rw [List.find?_append]
    by_cases e : st = n.st
    · subst e
      rw [if_pos rfl, h]
      simp
    · rw [if_neg e]
      have : ¬ n.st = st := fun z => e z.symm
      simp [this]
  | some e0 =>
    rw [if_pos (show (some e0).isSome = true from rfl)]
    have h0 := h
    clear h
    revert h0
    unfold kAt
    induction l with
    | nil => intro h0; cases h0
    | cons e l ih =>
      intro h0
      rw [List.map_cons, List.find?_cons, List.find?_cons]
      by_cases q : e.st = n.st
      · rw [if_pos q]
        by_cases z : st = n.st
        · have z2 : e.st = st := q.trans z.symm
          simp [z, q]
        · have z2 : ¬ e.st = st := fun y => z (y.symm.trans q)
          rw [if_neg z]
          simp only [z2, decide_false]
          have key : ∀ m : List KEnt, (List.find? (fun e : KEnt => decide (e.st = st)) (m.map fun e => if e.st = n.st then { e with ra := n.ra, row := n.row } else e)).map (·.row) = (m.find? fun e => decide (e.st = st)).map (·.row) := by
            intro m
            induction m with
            | nil => rfl
            | cons x m ih2 =>
              rw [List.map_cons, List.find?_cons, List.find?_cons]
              by_cases y : x.st = n.st
              · rw [if_pos y]
                have y2 : ¬ x.st = st := fun w => z (w.symm.trans y)
                simp only [y2, decide_false]
                exact ih2
              · rw [if_neg y]
                by_cases w : x.st = st
                · simp [w]
                · simp only [w, decide_false]
                  exact ih2
          exact key l
      · rw [if_neg q]
        rw [List.find?_cons] at h0
        simp only [q, decide_false] at h0
        by_cases w : e.st = st
        · have w2 : ¬ st = n.st := fun y => q (w.trans y)
          rw [if_neg w2]
          simp [w]
        · simp only [w, decide_false]
          exact ih h0
theorem kPut_len (l : List KEnt) (n : KEnt) : (kPut l n).length ≤ l.length + 1 := by
  unfold kPut
  split
  · rw [List.length_map]; omega
  · rw [List.length_append]; simp
section
variable {X : Cx} {pins : List (Addr × Obj)} {σ : L2.St} {H : Hp} {s : Shared} {d : Addr} {l : List KEnt}
theorem key_is (I : Inv X pins σ H s) {b : Addr} {st : Pairs} (h : Dp X.K H (.ref b) (eCh st)) : (nestedKind X.prog X.w).is s.heap (encP st) b := by
  obtain ⟨as, r⟩ := Dp.reads I _ _ (.ref b) h rfl
  exact nested_ch r
theorem kn_at (I : Inv X pins σ H s) (h : KnH X.K X.prog X.w H d l) : s.heap.DictOfH (nestedKind X.prog X.w) d (l.map kx) ∧ (d == sysModules) = false := by
  have z : ObjOk X.prog X.w H s.heap d (KnO X.prog X.w d l) := I.hok d _ h.at_
  obtain ⟨⟨o, es, ep, h1, h2, h3, h4, h5⟩, _⟩ := z
  refine ⟨⟨o, es, ep, h1, h2, h3, h4, fun x hx => ?_, ?_⟩, h5⟩
  · obtain ⟨e, he, rfl⟩ := List.mem_map.mp hx
    exact key_is I (h.each e he).1
  · have e : (l.map kx).map (·.1) = (l.map (·.st)).map encP := by rw [List.map_map, List.map_map]; rfl
    rw [e]
    exact List.pairwise_map.mpr (h.nodup.imp fun hab z => hab (encP_inj z))
theorem knO_new {P : Program} {w : World} {H : Hp} {h : Heap} (hd : h.DictOfH (nestedKind P w) d (l.map kx)) (hm : (d == sysModules) = false) : ObjOk P w H h d (KnO P w d l) := by
  obtain ⟨o, es, ep, h1, h2, h3, h4, _⟩ := hd
  refine ⟨⟨o, es, ep, h1, h2, h3, h4, hm⟩, ⟨o, h1⟩, fun ha hb z k => ?_⟩
  obtain ⟨o', es', ep', q1, q2⟩ := z
  exact ⟨o', es', ep', k _ q1, q2⟩
end
end K26
set_option Elab.async false
set_option linter.all false
set_option maxRecDepth 100000
set_option maxHeartbeats 4000000
/-! KKnown2: rules for the dict from tuples of pairs to rows. -/
namespace K26
open PySem PySem.Spec PyProof.Rows L2 Evl SeqAt LamX
def tKnGet (K : PySem.W.Frag) (P : Program) (w : World) (td ty : TE) : TE := fun σ H Q => td σ H fun x H1 => ty σ H1 fun y H2 => ∃ d l b st e, x = .ref d ∧ y = .ref b ∧ KnH K P w H2 d l ∧ Dp K H2 (.ref b) (eCh st) ∧ kAt l st = some e ∧ Q (.ref e.ra) H2
def rKnIn (K : PySem.W.Frag) (P : Program) (w : World) (neg : Bool) : R2 := fun y x H Q => ∃ d l b st, x = .ref d ∧ y = .ref b ∧ KnH K P w H d l ∧ Dp K H (.ref b) (eCh st) ∧ Q (.bl (if neg then !(kAt l st).isSome else (kAt l st).isSome)) H
def sKnPut (K : PySem.W.Frag) (P : Program) (w : World) (td ty tv : TE) : TS := fun D σ H => tv σ H fun v H1 => td σ H1 fun x H2 => ty σ H2 fun y H3 => ∃ d l n, x = .ref d ∧ y = .ref n.ka ∧ v = .ref n.ra ∧ KnH K P w H3 d l ∧ Dp K H3 (.ref n.ka) (eCh n.st) ∧ l.length < 100000 ∧ ((∀ c q, H3 c = some (CodeO c q) → c ≠ d) → D.nx σ (upd H3 d (KnO P w d (kPut l n))))
def tKn0 (K : PySem.W.Frag) (P : Program) (w : World) (tk tv : TE) : TE := fun σ H Q => ∀ p, H p = none → tk σ (upd H p (KnO P w p [])) fun y H1 => tv σ H1 fun z H2 => ∃ n : KEnt, [(y, z)] = [(V.ref n.ka, V.ref n.ra)] ∧ H2 p = some (KnO P w p []) ∧ Dp K H2 (.ref n.ka) (eCh n.st) ∧ Q (.ref p) (upd H2 p (KnO P w p [n]))
section
variable {X : Cx} {o i value k v : Expr} {pos pos' : Pos} {td ty tv tk : TE}
theorem roomK {u : Nat} (hu : u + 64 < cLine) : u + 1 + 8 < cLine := by omega
theorem pe_knget (K : PySem.W.Frag) (P : Program) (w : World) (hu : X.A.units + 64 < cLine) (ho : PE X o td) (hi : PE X i ty) (hs : NoSl i) (hk : X.K = K := by rfl) (hp : X.prog = P := by rfl) (hw : X.w = w := by rfl) : PE X (.Subscript o i pos) (tKnGet K P w td ty) := by
  subst hk hp hw
  refine ⟨fun pins s σ H Q I h => ?_⟩
  refine subD_of PySem.F.slot_dict_getitem.lookup hs (thn (ho.run pins s σ H _ I h) fun u s1 ⟨x, H1, I1, rx, q1⟩ => thn (hi.run pins s1 σ H1 _ I1 q1) fun iv s2 ⟨y, H2, I2, ry, d, l, b, st, e, ex, ey, kn, hb, he, q2⟩ => ?_)
  subst ex ey
  obtain rfl : u = Value.ref d := rx
  obtain rfl : iv = Value.ref b := ry
  obtain ⟨dd, hm⟩ := kn_at I2 kn
  refine ⟨dd.typeIs, wpAny_getItem_heap (p := (e.ka, Value.ref e.ra)) (roomK hu) (key_is I2 hb) dd (by rw [atKey_kx, he]; rfl) ⟨.ref e.ra, H2, I2.tok _, rfl, q2⟩⟩
theorem opKnIn (K : PySem.W.Frag) (P : Program) (w : World) (hu : X.A.units + 64 < cLine) (hk : X.K = K := by rfl) (hp : X.prog = P := by rfl) (hw : X.w = w := by rfl) : OpR X (compareOp .In) (rKnIn K P w false) := by
  subst hk hp hw
  intro pins s σ H x y v u Q I rx ry h
  obtain ⟨d, l, b, st, rfl, rfl, kn, hb, q⟩ := h
  cases rx
  cases ry
  obtain ⟨dd, hm⟩ := kn_at I kn
  refine wpAny_in_heap (roomK hu) (key_is I hb) hm dd ⟨.bl _, H, I.tok _, rfl, ?_⟩
  rw [atKey_kx, Option.isSome_map]
  exact q
theorem opKnNi (K : PySem.W.Frag) (P : Program) (w : World) (hu : X.A.units + 64 < cLine) (hk : X.K = K := by rfl) (hp : X.prog = P := by rfl) (hw : X.w = w := by rfl) : OpR X (compareOp .NotIn) (rKnIn K P w true) := by
  subst hk hp hw
  intro pins s σ H x y v u Q I rx ry h
  obtain ⟨d, l, b, st, rfl, rfl, kn, hb, q⟩ := h
  cases rx
  cases ry
  obtain ⟨dd, hm⟩ := kn_at I kn
  refine notIn_keyed (kvs := pairsH (l.map kx)) (roomK hu) (key_is I hb) hm ⟨_, dd, rfl⟩ ⟨.bl _, H, I.tok _, rfl, ?_⟩
  rw [valueAt_pairsH, atKey_kx, Option.isSome_map, Option.isSome_map]
  exact q
theorem ps_knput (K : PySem.W.Frag) (P : Program) (w : World) (hu : X.A.units + 64 < cLine) (ho : PE X o td) (hi : PE X i ty) (hv : PE X value tv) (hs : swapsWith value (some (.Subscript o i pos')) pos.line X.env = pure false := by rfl) (hk : X.K = K := by rfl) (hp : X.prog = P := by rfl) (hw : X.w = w := by rfl) :
    PS X (.Assign [.Subscript o i pos'] value pos) (sKnPut K P w td ty tv) := by
  subst hk hp hw
  refine ⟨fun pins s σ H D I h => ?_⟩
  refine wpAny_Assign_Subscript (thn (hv.run pins s σ H _ I h) fun r s1 ⟨v, H1, I1, rv, q1⟩ => thn (ho.run pins s1 σ H1 _ I1 q1) fun u s2 ⟨x, H2, I2, rx, q2⟩ => thn (hi.run pins s2 σ H2 _ I2 q2) fun iv s3 ⟨y, H3, I3, ry, d, l, n, ex, ey, ev, kn, hb, hl, q3⟩ => ?_) hs
  subst ex ey ev
  obtain rfl : u = Value.ref d := rx
  obtain rfl : iv = Value.ref n.ka := ry
  obtain rfl : r = Value.ref n.ra := rv
  obtain ⟨dd, hm⟩ := kn_at I3 kn
  refine wpAny_setItem_heap (roomK hu) (key_is I3 hb) dd (fun h' hd' hs' => ?_) (by rw [List.length_map]; exact Nat.le_trans (Nat.le_of_lt hl) (by decide))
  have he : ∃ u, h'.get? d = some u := by
    obtain ⟨o, _, _, e, _⟩ := hd'
    exact ⟨o, e⟩
  have hco : ∀ c q, H3 c = some (CodeO c q) → c ≠ d := fun c q hc z => by
    subst z
    obtain ⟨⟨oc, vs, t, h1, h2, h3⟩, _, _⟩ := I3.hok c _ hc
    obtain ⟨o, es, ep, k1, k2, k3, _⟩ := dd
    rw [h1] at k1
    cases k1
    rw [h2] at k3
    cases k3
  rw [storedH_kx] at hd'
  exact ⟨σ, _, I3.write (e := d) (o := KnO X.prog X.w d (kPut l n)) (by rw [kn.at_]; exact True.intro) (.inl rfl) (fun b u hb hu => (hs'.2 b hb).trans hu) he (knO_new hd' hm), q3 hco⟩
theorem pe_kn0 (K : PySem.W.Frag) (P : Program) (w : World) (hu : X.A.units + 64 < cLine) (hpk : PPs X pos [some k] [v] [(tk, tv)]) (hk : X.K = K := by rfl) (hp : X.prog = P := by rfl) (hw : X.w = w := by rfl) : PE X (.Dict [some k] [v] pos) (tKn0 K P w tk tv) := by
  subst hk hp hw
  refine ⟨fun pins s σ H Q I q => ?_⟩
  have hn := I.hok.fresh (Nat.le_refl s.heap.objs.size)
  have hm : (s.heap.objs.size == sysModules) = false := beq_eq_false_iff_ne.mpr (Nat.ne_of_gt I.big)
  have I1 := I.laid (a := s.heap.objs.size) (o := KnO X.prog X.w s.heap.objs.size []) (h' := s.heap.push { cls := .type "dict", data := .dict #[] }) (t' := s.toks) (fun _ _ q => Heap.get?_push_of_some _ q) (Nat.le_refl _) (knO_new (l := []) (Heap.DictOfH.new s.heap) hm)
  rw [arm_eval_Dict, zip_pairTrees [some k] [v] X.env pos rfl rfl, dictDisplay_pairs (pairTrees [some k] [v] X.env pos) (fun z => by
      have := pairTrees_length [some k] [v] X.env pos rfl rfl
      rw [z] at this
      cases this) (by rw [pairTrees_length _ _ _ _ rfl rfl]; show (1 : Nat) < 17; decide)]
  refine wpAny_bind (wpAny_standAt (wpAny_bind (wpAny_subDictH (knd := nestedKind X.prog X.w) (show X.A.units + 8 < cLine by omega) (by rw [pairTrees_length _ _ _ _ rfl rfl]; show (1 : Nat) ≤ 15; decide)
    (thn (hpk.run pins _ σ _ (fun ps H2 => ∃ n : KEnt, ps = [(.ref n.ka, .ref n.ra)] ∧ H2 s.heap.objs.size = some (KnO X.prog X.w s.heap.objs.size []) ∧ Dp X.K H2 (.ref n.ka) (eCh n.st) ∧ Q (.ref s.heap.objs.size) (upd H2 s.heap.objs.size (KnO X.prog X.w s.heap.objs.size [n]))) I1 (q _ hn)) fun ws s2 ⟨ps, H2, I2, rel, n, ep, lk, hb, q2⟩ => ?_))))
  subst ep
  cases rel with
  | @cons _ qq _ _ r t =>
    cases t
    obtain ⟨w1, w2⟩ := qq
    obtain ⟨r1, r2⟩ := r
    obtain rfl : w1 = Value.ref n.ka := r1
    obtain rfl : w2 = Value.ref n.ra := r2
    have kn0 : KnH X.K X.prog X.w H2 s.heap.objs.size [] := ⟨lk, fun e he => by simp at he, .nil, by simp⟩
    obtain ⟨dd, _⟩ := kn_at I2 kn0
    refine ⟨[kx n], ⟨rfl, rfl, key_is I2 hb, trivial⟩, dd, fun h' tk hd' hs' => ?_⟩
    have he : ∃ u, h'.get? s.heap.objs.size = some u := by
      obtain ⟨o, _, _, e, _⟩ := hd'
      exact ⟨o, e⟩
    have hd2 : h'.DictOfH (nestedKind X.prog X.w) s.heap.objs.size ([n].map kx) := hd'
    exact wpAny_pure ⟨.ref s.heap.objs.size, _, I2.write (e := s.heap.objs.size) (o := KnO X.prog X.w s.heap.objs.size [n]) (by rw [lk]; exact True.intro) (.inl rfl) (fun b u hb hu => (hs'.2 b hb).trans hu) he (knO_new hd2 hm), rfl, q2⟩
end
end K26
set_option Elab.async false
set_option linter.all false
set_option maxRecDepth 100000
set_option maxHeartbeats 4000000
/-! KLamP: a lambda with parameters and captured names; sorted(xs, key=it). -/
namespace K26
open PySem PySem.Spec PyProof.Rows L2 Evl LamX NdefX
/-- the function that a lambda makes -/
structure LF where
  qual : Str
  params : Arguments
  body : Expr
  scope : Scope
  cl : List (Str × Addr)
  c : Addr
def LamO (f : Addr) (F : LF) : HO := .ext fun h => ∃ pm ctv : Value, h.get? f = some (PySem.W.kla_obj "<lambda>" F.qual F.params F.body F.scope F.cl pm F.c ctv)
abbrev LF.nf (F : LF) : NF := ⟨"<lambda>", F.qual, F.params, [], F.scope, F.cl, F.c⟩
section
variable {X : Cx} {pins : List (Addr × Obj)} {σ : L2.St} {H : Hp} {s : Shared}
theorem inv_lam {F : LF} {t' : Nat} {pm ctv : Value} (I : Inv X pins σ H s) :
    Inv X pins σ (upd H s.heap.objs.size (LamO s.heap.objs.size F)) { s with heap := s.heap.push (PySem.W.kla_obj "<lambda>" F.qual F.params F.body F.scope F.cl pm F.c ctv), toks := t' } := by
  refine I.laid (a := s.heap.objs.size) (fun b u e => Heap.get?_push_of_some _ e) (Nat.le_refl _) ?_
  have e : (s.heap.push (PySem.W.kla_obj "<lambda>" F.qual F.params F.body F.scope F.cl pm F.c ctv)).get? s.heap.objs.size = some (PySem.W.kla_obj "<lambda>" F.qual F.params F.body F.scope F.cl pm F.c ctv) := Heap.get?_push_size _ rfl
  exact ⟨⟨pm, ctv, e⟩, ⟨_, e⟩, fun h1 h2 ⟨p, t, z⟩ st => ⟨p, t, st _ z⟩⟩
/-- the lambda is made: its code object is new, or found in the table -/
theorem lam_made {T : List (Addr × Str)} {c P : Addr} {params : Arguments} {body : Expr} {scope : Scope} {pos : Pos} {E : Value → Shared → Prop} {Q : Value → Shared → Prop} (I : Inv X pins σ H s) (TB : TabB X.base X.mg c P) (hcode : X.env.code = .ref c)
    (hm : (P, X.env.qual ++ "<lambda>") ∈ T) (hu : ∀ p ∈ T, p.1 = P → p.2 = X.env.qual ++ "<lambda>") (hT : Tabs T H) (hdef : defaultsOf params X.env = ([], [])) (hfree : ∀ y ∈ scope.names, y.2 = .free → ∃ c, X.env.cells.lookup y.1 = some c)
    (h : ∀ (f c' : Addr) (H1 : Hp) (s' : Shared), Inv X pins σ H1 s' → ExtN H H1 → Tabs T H1 → H f = none → H1 f = some (LamO f ⟨X.env.qual ++ "<lambda>", params, body, scope, cloFrom X.env.cells scope.names [], c'⟩) → H1 c' = some (CodeO c' (X.env.qual ++ "<lambda>")) → Q (.ref f) s') :
    wpAny (model X.prog X.w) X.A (eval (.Lambda params body scope pos) X.env) Q E s := by
  obtain ⟨ps, hP, ht, ha⟩ := hT _ hm
  refine PySem.W.kla_eval hdef ?_
  have bP : s.heap.BuiltinsAt X.mg P := TB.bm.keeps I.bk
  have hP' : s.heap.get? P = some { cls := .none, data := .fields ps } := I.hok P _ hP
  cases hc : codeAmong pos ps.toList with
  | none =>
    refine PySem.W.kla_makeFunction (mg := X.mg) (c := c) (P := P) (ps := ps) (closure_ok hfree) I.ok.glob (I.mod.glob.keeps I.bk) hcode (TB.code.keeps I.bk) hP' ht hc TB.gP bP fun c' ctv h' tk hx hge hlt hrec htb => ?_
    obtain ⟨c2, oc, vs, t, e2, hoc, hd, hv⟩ := hrec
    cases e2
    have nC : H c' = none := I.hok.fresh hge
    have I1 := inv_table (t' := tk) (more := #[rawInt pos.line, rawInt pos.col, .ref c']) (h' := h') I hP (fun b o hb e => hx b o hb e) htb hge ⟨oc, vs, t, hoc, hd, hv⟩
    have hE : ExtN H (upd (upd H P (.tbl (ps ++ #[rawInt pos.line, rawInt pos.col, .ref c']))) c' (CodeO c' (X.env.qual ++ "<lambda>"))) := fun b o e n => by
      rw [upd_ne (ne_of_none e nC), upd_ne (fun z => n ps (Option.some.inj (e.symm.trans (by rw [z]; exact hP))))]
      exact e
    have eL : (ps ++ #[rawInt pos.line, rawInt pos.col, .ref c']).toList = ps.toList ++ [rawInt pos.line, rawInt pos.col, .ref c'] := by simp
    have T1 : Tabs T (upd (upd H P (.tbl (ps ++ #[rawInt pos.line, rawInt pos.col, .ref c']))) c' (CodeO c' (X.env.qual ++ "<lambda>"))) := fun p hp => by
      by_cases hb : p.1 = P
      · rw [hu p hp hb, hb]
        refine ⟨_, by rw [upd_ne (ne_of_none hP nC), upd_same], by rw [eL]; exact PySem.TriplesOk_snoc _ _ _ _ ht, fun p' cv hcv => ?_⟩
        rw [eL] at hcv
        rcases among_app _ ht hcv with z | z
        · obtain ⟨c0, e1, e2⟩ := ha p' cv z
          exact ⟨c0, e1, hE _ _ e2 codeO_ne⟩
        · exact ⟨c', z, upd_same⟩
      · obtain ⟨ps', a1, a2, a3⟩ := hT p hp
        refine ⟨ps', by rw [upd_ne (ne_of_none a1 nC), upd_ne hb]; exact a1, a2, fun p' cv hcv => ?_⟩
        obtain ⟨c0, e1, e2⟩ := a3 p' cv hcv
        exact ⟨c0, e1, hE _ _ e2 codeO_ne⟩
    have nF := I1.hok.fresh (Nat.le_refl _)
    have I2 := inv_lam (F := ⟨X.env.qual ++ "<lambda>", params, body, scope, cloFrom X.env.cells scope.names [], c'⟩) (t' := tk) (pm := (X.mg "__name__").getD .none) (ctv := ctv) I1
    refine h h'.objs.size c' _ _ I2 (fun b o e n => ?_) (T1.ext fun b o e => ?_) (I.hok.fresh (Nat.le_trans hge (Nat.le_of_lt hlt))) upd_same ?_
    · have e1 := hE b o e n
      exact (upd_ne (ne_of_none e1 nF)).trans e1
    · exact (upd_ne (ne_of_none e nF)).trans e
    · exact (upd_ne (Nat.ne_of_lt hlt)).trans upd_same
  | some cv =>
    obtain ⟨c', e, hco⟩ := ha pos cv hc
    subst e
    refine PySem.W.kla_makeFunctionHit (mg := X.mg) (c := c) (P := P) (ps := ps) (closure_ok hfree) I.ok.glob (I.mod.glob.keeps I.bk) hcode (TB.code.keeps I.bk) hP' ht hc bP fun ctv h' tk hx hsz => ?_
    have I1 : Inv X pins σ H { s with heap := h', toks := tk } := I.kept hx
    have nF : H h'.objs.size = none := I1.hok.fresh (Nat.le_refl _)
    have I2 := inv_lam (F := ⟨X.env.qual ++ "<lambda>", params, body, scope, cloFrom X.env.cells scope.names [], c'⟩) (t' := tk) (pm := (X.mg "__name__").getD .none) (ctv := ctv) I1
    refine h h'.objs.size c' _ _ I2 (fun b o e n => ?_) (hT.ext fun b o e => ?_) nF upd_same ?_
    · exact (upd_ne (ne_of_none e nF)).trans e
    · exact (upd_ne (ne_of_none e nF)).trans e
    · exact (upd_ne (ne_of_none hco nF)).trans hco
/-- the reading of «lambda ..: ..» -/
def tLamP (T : List (Addr × Str)) (mk : Addr → LF) : TE := fun σ H Q => Tabs T H ∧ ∀ (f c' : Addr) (H1 : Hp), ExtN H H1 → Tabs T H1 → H f = none → H1 f = some (LamO f (mk c')) → H1 c' = some (CodeO c' (mk c').qual) → Q (.ref f) H1
theorem pe_lamP {T : List (Addr × Str)} {c P : Addr} {params : Arguments} {body : Expr} {scope : Scope} {pos : Pos} (TB : TabB X.base X.mg c P) (hcode : X.env.code = .ref c) (hm : (P, X.env.qual ++ "<lambda>") ∈ T) (hu : ∀ p ∈ T, p.1 = P → p.2 = X.env.qual ++ "<lambda>")
    (hdef : defaultsOf params X.env = ([], [])) (hfree : X.Ok → ∀ y ∈ scope.names, y.2 = .free → ∃ c, X.env.cells.lookup y.1 = some c) : PE X (.Lambda params body scope pos) (tLamP T fun c' => ⟨X.env.qual ++ "<lambda>", params, body, scope, cloFrom X.env.cells scope.names [], c'⟩) :=
  ⟨fun pins s σ H Q I ⟨hT, q⟩ => lam_made I TB hcode hm hu hT hdef (hfree I.ok) fun f c' H1 s' I1 e1 t1 n1 l1 o1 => ⟨.ref f, H1, I1, rfl, q f c' H1 e1 t1 n1 l1 o1⟩⟩
end
/-- the promise of such a function -/
structure LOk (P : Program) (w : World) (K : PySem.W.Frag) (mg : Str → Option Value) (base : Heap) (CX : CXT) (k : Nat) (f : Addr) (F : LF) (ps fr : List Str) (sp : List (Option V) → Sp) : Prop where
  run : ∀ (A : Around) (outer : List Env) (s : Shared) (H : Hp) (us : List Value) (vs : List V) (ws : List (Option V)) (Q : VK) (E : XK), Room k A → Env0 P w K mg base A outer s H → H f = some (LamO f F) → H F.c = some (CodeO F.c F.qual) →
    CellsAt F.cl fr ws s.heap H → Vals vs us → sp ws vs H Q E → codeAny (model P w) A (.call (.ref f) ⟨us, []⟩) (CR CX outer P w H s Q E) s
section
variable {CX : CXT} {P : Program} {w : World} {K : PySem.W.Frag} {mg : Str → Option Value} {base : Heap} {N ps fr : List Str} {F : LF} {f : Addr} {k : Nat} {sp : List (Option V) → Sp}
theorem lok_of (S : NScope N ps fr F.scope) (hb : ∀ (pm ctv : Value) (us : List Value), us.length = ps.length → bindArgs (PySem.W.kla_fn "<lambda>" F.qual F.params F.body F.scope F.cl pm (.ref F.c) ctv) ⟨us, []⟩ = pure (ps.zip us)) (len : ∀ ws vs H Q E, sp ws vs H Q E → vs.length = ps.length)
    (hbody : ∀ (A : Around) (outer : List Env) (s : Shared) (H : Hp) (vs : List V) (ws : List (Option V)) (Q : VK) (E : XK), Room k (A.deeper (envF F.nf f s.heap.objs.size)) → ws.length = fr.length → sp ws vs H Q E →
      ∃ t : TE, PE (ncx CX P w K mg base N F.nf f A outer s H E) F.body t ∧ t (startF N vs ws) H Q) : LOk P w K mg base CX (k + 1) f F ps fr sp := by
  refine ⟨fun A outer s H us vs ws Q E hr e0 hf hc C r hsp => ?_⟩
  have hl := len _ _ _ _ _ hsp
  have lim : s.heap.NoLimit := e0.mod.nolimit.keeps fun b o e => (e0.bs b o e).1
  have z : ObjOk P w H s.heap f (LamO f F) := e0.hok f _ hf
  obtain ⟨⟨pm, ctv, ho⟩, _⟩ := z
  refine PySem.W.kla_callFunE hr.depth ho rfl S.co S.gen rfl (codeO_at e0.hok hc) ?_
  rw [hb pm ctv us (by rw [← r.length]; exact hl)]
  refine wpAny_pure (wpAny_newFunctionEnv S.nocell (fun ⟨n, _⟩ hy => S.par n (List.of_mem_zip hy).1) (fun h₁ hns hsb => ⟨lim.fresh _ hsb, ?_⟩) S.kind)
  show codeAny _ _ (.expr F.body (envF F.nf f s.heap.objs.size)) _ _
  have kp : ∀ b o, s.heap.get? b = some o → h₁.get? b = some o := fun b o e => hsb.extBut b o (Nat.ne_of_lt (Heap.lt_size e)) (Heap.get?_push_of_some _ e)
  obtain ⟨t, ht, hq⟩ := hbody A outer s H vs ws Q E (hr.deeper _) C.len hsp
  have I : Inv (ncx CX P w K mg base N F.nf f A outer s H E) [] (startF N vs ws) H { s with heap := h₁, toks := s.toks + (ps.zip us).length } := inv_startN S hr.hd e0 hl r C hns kp
  refine PySem.W.kla_codeExpr (wpAny_mono (ht.run [] _ (startF N vs ws) H Q I hq) (fun v s' hs => ?_) fun e s' hs => hs)
  obtain ⟨w', H', J, rv, q⟩ := hs
  exact ⟨w', H', J.os, J.bare, J.base, J.hok, rv, q⟩
end
end K26
set_option Elab.async false
set_option linter.all false
set_option maxRecDepth 100000
set_option maxHeartbeats 4000000
/-! KSortW: sorted(xs, key=lambda pairs: size_in(known[pairs])) as a rule. -/
namespace K26
open PySem PySem.Spec PyProof.Rows L2 Evl LamX NdefX
/-- the key's promise -/
def spKey (K : PySem.W.Frag) (P : Program) (w : World) : List (Option V) → Sp := fun ws vs H Q _ => ∃ d l b st e, ws = [some (V.ref d)] ∧ vs = [V.ref b] ∧ KnH K P w H d l ∧ Dp K H (.ref b) (eCh st) ∧ kAt l st = some e ∧ e.row.length ≤ 1000 ∧ (∀ x ∈ e.row, x.length ≤ 1000) ∧
  ∀ v H', Ex H H' → v = .int (sizeR e.row) → Q v H'
abbrev Tags := List (Addr × Pairs)
def bSortK (K : PySem.W.Frag) (P : Program) (w : World) (T : List (Addr × Str)) (i : Nat) (σ : L2.St) (Q : VK) (x : V) (H0 : Hp) : Prop := ∃ (a d : Addr) (ks : Tags) (l : List KEnt) (sz : Pairs → Int), x = .ref a ∧ SqL K H0 a (ks.map fun k => V.ref k.1) ∧ ks.length ≤ 100000 ∧ σ[i]? = some (some (.ref d)) ∧ Tabs T H0 ∧
  (∀ H1, ExtN H0 H1 → KnH K P w H1 d l ∧ ∀ k ∈ ks, Dp K H1 (.ref k.1) (eCh k.2)) ∧ (∀ k ∈ ks, ∃ e, kAt l k.2 = some e ∧ e.row.length ≤ 1000 ∧ (∀ x ∈ e.row, x.length ≤ 1000) ∧ sz k.2 = sizeR e.row) ∧
  ∀ H2 p (ys : Tags), ExtN H0 H2 → Tabs T H2 → (∀ o, H0 p = some o → ∃ ps, o = .tbl ps) → H2 p = some (.lst (ys.map fun k => V.ref k.1)) → ys = ks.mergeSort (PySem.W.dataLe false fun k => .int (sz k.2)) → Q (.ref p) H2
def tSortK (K : PySem.W.Frag) (P : Program) (w : World) (T : List (Addr × Str)) (i : Nat) (te : TE) : TE := fun σ H Q => te σ H (bSortK K P w T i σ Q)
def oneV (B : V → Hp → Prop) : List V → Hp → Prop
  | [x], H => B x H
  | _, _ => False
theorem oneV_of {B : V → Hp → Prop} {vs : List V} {H : Hp} (h : oneV B vs H) : ∃ x, vs = [x] ∧ B x H := by
  match vs, h with
  | [x], h => exact ⟨x, rfl, h⟩
section
variable {X : Cx}
theorem nofrs {pins : List (Addr × Obj)} {σ : L2.St} {H : Hp} {s : Shared} (I : Inv X pins σ H s) {b : Addr} (h : s.heap.objs.size ≤ b) : b ∉ frs X.stack := fun z => by
  rcases List.mem_cons.mp (I.stkSub b z) with e | e
  · exact absurd I.lt (by rw [← e]; exact Nat.not_lt.mpr h)
  · exact I.nofs h e
theorem each_refsK : ∀ {ks : Tags} {vs : List Value}, Vals (ks.map fun k => V.ref k.1) vs → PySem.W.EachIs (fun (v : Value) (k : Addr × Pairs) => v = .ref k.1) vs ks
  | [], _, .nil => .nil
  | _ :: _, _, .cons r t => .cons r (each_refsK t)
theorem refs_eachK : ∀ {ks : Tags} {vs : List Value}, PySem.W.EachIs (fun (v : Value) (k : Addr × Pairs) => v = .ref k.1) vs ks → Vals (ks.map fun k => V.ref k.1) vs
  | _, _, .nil => .nil
  | _, _, .cons r t => .cons r (refs_eachK t)
theorem pe_sortK {K : PySem.W.Frag} {P : Program} {w : World} {T : List (Addr × Str)} {i k : Nat} {e : Expr} {te : TE} {c Pt : Addr} {params : Arguments} {body : Expr} {scope : Scope} {lpos p kp pos : Pos}
    (hk : X.K = K) (hp : X.prog = P) (hw : X.w = w) (hcl : X.calm = true) (hr : Room (k + 2) X.A) (hg : Gl X "sorted") (hmn : X.mg "sorted" = none)
    (TB : TabB X.base X.mg c Pt) (hcode : X.env.code = .ref c) (hm : (Pt, X.env.qual ++ "<lambda>") ∈ T) (hu : ∀ p ∈ T, p.1 = Pt → p.2 = X.env.qual ++ "<lambda>")
    (hdef : defaultsOf params X.env = ([], [])) (hfree : X.Ok → ∀ y ∈ scope.names, y.2 = .free → ∃ c, X.env.cells.lookup y.1 = some c)
    (cp : X.Ok → Caps X (cloFrom X.env.cells scope.names []) ["known"] [i])
    (lo : ∀ f c', LOk X.prog X.w X.K X.mg X.base CX0 k f ⟨X.env.qual ++ "<lambda>", params, body, scope, cloFrom X.env.cells scope.names [], c'⟩ ["pairs"] ["known"] (spKey X.K X.prog X.w))
    (he : PE X e te)
    (hs : backTo pos (starEach [e] X.env) = (false, eval e X.env) :: backTo pos (starEach [] X.env) := by rfl) (hpl : (backTo pos (starEach [e] X.env)).any (·.1) = false := by rfl) (hss : starEach [e] X.env = (false, eval e X.env) :: starEach [] X.env := by rfl)
    (hall : (backToKw pos (keywordEach [⟨some "key", .Lambda params body scope lpos, kp⟩] X.env)).all (·.1.isSome) = true := by rfl) (hnone : (backToKw pos (keywordEach [⟨some "key", .Lambda params body scope lpos, kp⟩] X.env)).any (·.1.isNone) = false := by rfl)
    (hks : (backToKw pos (keywordEach [⟨some "key", .Lambda params body scope lpos, kp⟩] X.env)).filterMap (·.1) = [Str.ofString "key"] := by rfl) :
    PE X (.Call (.Name "sorted" p) [e] [⟨some "key", .Lambda params body scope lpos, kp⟩] pos) (tSortK K P w T i te) := by
  subst hk hp hw
  refine ⟨fun pins s σ H Q I h => ?_⟩
  refine wpAny_Call_Name_kw (ld_blt I hg hmn (u := .builtin "sorted") (by decide +kernel) ?_ (by decide) (by decide))
  refine PyProof.Rows.callWith_kw (thn ((pa_cons he pa_nil hss).run pos pins s σ H (oneV (bSortK X.K X.prog X.w T i σ Q)) I h) fun us s1 ⟨vs, H0, I0, r0, q0⟩ => thn ((pk_cons (nm := some "key") (kpos := kp) (pe_lamP (T := T) TB hcode hm hu hdef hfree) pk_nil).run pos pins s1 σ H0 (fun zs H1 => ∃ (f c' : Addr), ExtN H0 H1 ∧ Tabs T H1 ∧ zs = [V.ref f] ∧ H0 f = none ∧ H1 f = some (LamO f ⟨X.env.qual ++ "<lambda>", params, body, scope, cloFrom X.env.cells scope.names [], c'⟩) ∧ H1 c' = some (CodeO c' (X.env.qual ++ "<lambda>"))) I0 ?_) fun ws s2 ⟨zs, H1, I1, r2, f, c', e1, t1, ez, nf, lf, lc⟩ => ?_) hs hpl hall hnone
  · obtain ⟨x0, ev, q0⟩ := oneV_of q0
    obtain ⟨a, d, ks, l, sz, rfl, hl, hlen, hd, hT, _⟩ := q0
    exact ⟨hT, fun f c' H1 e1 t1 n1 l1 o1 => ⟨f, c', e1, t1, rfl, n1, l1, o1⟩⟩
  · rw [hks]
    obtain ⟨x0, ev, q0⟩ := oneV_of q0
    subst ev
    obtain ⟨a, d, ks, l, sz, rfl, hl, hlen, hd, hT, hkn, hkey, hQ⟩ := q0
    subst ez
    cases r0 with
    | @cons _ u _ _ ra rt =>
      cases rt
      obtain rfl : u = Value.ref a := ra
      cases r2 with
      | @cons _ uf _ _ rf rt =>
        cases rt
        obtain rfl : uf = Value.ref f := rf
        have hl1 : SqL X.K H1 a (ks.map fun k => V.ref k.1) := by
          rcases hl with (hl | ⟨o, hl⟩) | hl
          · exact .inl (.inl (e1 _ _ hl fun ps z => by cases z))
          · exact .inl (.inr ⟨o, e1 _ _ hl fun ps z => by cases z⟩)
          · exact .inr hl
        obtain ⟨its, rv, pl, hz⟩ := I1.list hl1
        have hhd := I1.ok.hd hcl
        have each := each_refsK rv
        have hus : X.A.units + 3 < cLine := by have := hr.un; omega
        show wpAny _ _ (call (.builtin "sorted") [.ref a] [(Str.ofString "key", Value.ref f)]) _ _ _
        refine sortedJ (J := fun a' kS s' => ∃ H', Un (frs X.stack) [] H1 H' s2.heap s'.heap ∧ HOk X.prog X.w H' s'.heap ∧ AllBare s'.gens ∧ s'.os = s2.os ∧ Ex H1 H' ∧ H' a' = none ∧ H' kS = none) (bs := ks) (fun k => sz k.2) pl.isList each (by exact Nat.le_trans hlen (by decide)) hus (ksk_s1 _ _) (fun _ => ksk_l1 _ _) (fun _ => ksk_t1 _ _) ?start ?mv ?turn ?fin
        case start =>
          intro a' kS h' t ha hkS old
          exact ⟨H1, Un.kept old, I1.hok.kept old, I1.bare, rfl, Ex.refl H1, I1.hok.fresh ha, I1.hok.fresh hkS⟩
        case mv =>
          rintro a' kS ha hkS s3 h2 t ⟨H', U, ok, bare, os, ex, na, nk⟩ hb
          have lt : ∀ {b : Addr} {o : Obj}, s2.heap.get? b = some o → b ≠ a' ∧ b ≠ kS := fun q => ⟨Nat.ne_of_lt (Nat.lt_of_lt_of_le (Heap.lt_size q) ha), Nat.ne_of_lt (Nat.lt_of_lt_of_le (Heap.lt_size q) hkS)⟩
          refine ⟨H', ?_, fun b o q => ?_, bare, os, ex, na, nk⟩
          · exact {
              keep := fun b o q n hf hx => hb b o (lt q).1 (lt q).2 (U.keep b o q n hf hx)
              slot := fun b o q n hf hx => by
                obtain ⟨sl, q2⟩ := U.slot b o q n hf hx
                exact ⟨sl, hb b _ (lt q).1 (lt q).2 q2⟩
              free := U.free
              there := fun b o q hx => by
                obtain ⟨o', q2⟩ := U.there b o q hx
                exact ⟨o', hb b _ (lt q).1 (lt q).2 q2⟩
              tups := U.tups
              frzs := U.frzs
              tbls := U.tbls }
          · have nb : ∀ {c : Addr} {u : HO}, H' c = some u → c ≠ a' ∧ c ≠ kS := fun q => ⟨fun z => (by rw [z, na] at q; cases q), fun z => (by rw [z, nk] at q; cases q)⟩
            refine (ok b o q).stay (fun c v hc y => ?_) (fun _ z => z) fun _ _ z => z
            rcases hc with rfl | hc
            · exact hb _ _ (nb q).1 (nb q).2 y
            · exact hb _ _ (nb hc).1 (nb hc).2 y
        case turn =>
          rintro a' kS ha hkS v x rfl hx s3 ⟨H', U, ok, bare, os, ex, na, nk⟩ ⟨oa, hoa⟩ ⟨ok', hok'⟩
          have I3 : Inv X pins σ H' s3 := I1.call' (ch := []) os U ok bare (fun _ z => nomatch z)
          obtain ⟨kn, kd⟩ := hkn H' (e1.trans (ExtN.of ex))
          obtain ⟨en, he1, he2, he3, he4⟩ := hkey x hx
          have hsl : ([i].map (slotAt σ)) = [some (V.ref d)] := by
            show [slotAt σ i] = _
            rw [slotAt_of hd]
          have run := (lo f c').run X.A.in1.in1 X.stack s3 H' [.ref x.1] [.ref x.1] ([i].map (slotAt σ)) (fun v' H'' => Ex H' H'' ∧ v' = .int (sz x.2)) E0 (Room.in1 (Room.in1 (k := k + 1) hr)) I3.env0.in1.in1 (ex _ _ lf) (ex _ _ lc) (cells_of I3 (cp I3.ok)) (.cons rfl .nil)
            (by
              rw [hsl]
              exact ⟨d, l, x.1, x.2, en, rfl, rfl, kn, kd x hx, he1, he2, he3, fun v' H'' e' hv => ⟨e', by rw [hv, he4]⟩⟩)
          refine wpAny_call (codeAny_mono run fun r s' hq => ?_)
          cases r with
          | error er => exact False.elim hq
          | ok fl =>
            cases fl with
            | ret u =>
              obtain ⟨v', H'', os2, bare2, un2, hok2, rv2, e', hv⟩ := hq
              subst hv
              obtain ⟨t, rfl⟩ := rv2
              refine ⟨⟨_, t, rfl, rfl⟩, ⟨H'', U.trans un2, hok2, bare2, os2.trans os, ex.trans e', un2.free a' oa hoa na (by simp), un2.free kS ok' hok' nk (by simp)⟩, fun b o hb q => ?_⟩
              rcases hb with rfl | rfl
              · exact un2.keep _ o q na (nofrs I1 ha) (by simp)
              · exact un2.keep _ o q nk (nofrs I1 hkS) (by simp)
            | next => exact False.elim hq
            | brk => exact False.elim hq
            | cont => exact False.elim hq
        case fin =>
          rintro a' kS out cc s' ha hkS ⟨H', U, ok, bare, os, ex, na, nk⟩ hout hol hev
          have lt : ∀ {b : Addr} {o : HO}, H1 b = some o → b ≠ a' := fun q z => by
            have := ex _ _ q
            rw [z, na] at this
            cases this
          have hlt : ∀ {b : Addr} {o : HO}, H' b = some o → b ≠ a' := fun q z => by rw [z, na] at q; cases q
          have rvals := refs_eachK hev
          have U2 : Un (frs X.stack) [] H1 (upd H' a' (.lst ((ks.mergeSort (PySem.W.dataLe false fun k => .int (sz k.2))).map fun k => V.ref k.1))) s2.heap s'.heap := {
            keep := U.keep
            slot := U.slot
            free := fun b o q n hx => by
              rw [upd_ne (Nat.ne_of_lt (Nat.lt_of_lt_of_le (Heap.lt_size q) ha))]
              exact U.free b o q n hx
            there := U.there
            tups := fun b xs q => by
              rw [upd_ne (lt q)]
              exact U.tups b xs q
            frzs := fun b o u q => by
              rw [upd_ne (lt q)]
              exact U.frzs b o u q
            tbls := fun b ps q => by
              obtain ⟨more, z⟩ := U.tbls b ps q
              exact ⟨more, by rw [upd_ne (lt q)]; exact z⟩ }
          have ok2 : HOk X.prog X.w (upd H' a' (.lst ((ks.mergeSort (PySem.W.dataLe false fun k => .int (sz k.2))).map fun k => V.ref k.1))) s'.heap := fun b o q => by
            by_cases hb : b = a'
            · subst hb
              rw [upd_same] at q
              cases q
              refine ⟨?_, out, cc, rvals, hout⟩
              rw [List.length_map, List.length_mergeSort]
              exact Nat.le_trans hlen (by decide)
            · rw [upd_ne hb] at q
              exact (ok b o q).stay (fun c v _ y => y) (fun c z => by rw [upd_ne (hlt z)]; exact z) fun c xs z => by rw [upd_ne (hlt z)]; exact z
          have e12 : ExtN H0 (upd H' a' (.lst ((ks.mergeSort (PySem.W.dataLe false fun k => .int (sz k.2))).map fun k => V.ref k.1))) := fun b o q n => by
            have z := ex _ _ (e1 _ _ q n)
            rw [upd_ne (hlt z)]
            exact z
          refine ⟨.ref a', _, I1.call' (ch := []) os U2 ok2 bare (fun _ z => nomatch z), rfl, hQ _ a' _ e12 (t1.ext fun b o q => ?_) ?_ upd_same rfl⟩
          · rw [upd_ne (lt q)]
            exact ex _ _ q
          · intro o hz0
            refine Classical.byContradiction fun ht => ?_
            have z := ex _ _ (e1 _ _ hz0 fun ps y => ht ⟨ps, y⟩)
            rw [na] at z
            cases z
end
end K26
set_option Elab.async false
set_option linter.all false
set_option maxRecDepth 100000
set_option maxHeartbeats 2000000
/-! KMath1: what cheapest_row's search keeps: no program in sight. -/
namespace K26
open PySem PySem.Spec PyProof.Rows L2 Evl PySem.W
/-! ### sorted tuples of pairs -/
def leD (a b : Str × Str) : Bool := dataLe false (fun p : Str × Str => ePair p) a b
theorem toks_pair (p : Str × Str) : keyToks (ePair p) = [.inl 1, .inr p.1.cps.toList, .inl 1, .inr p.2.cps.toList, .inl 0] := by
  simp [keyToks, keyToksAll]
theorem toks_inj {p q : Str × Str} (h : keyToks (ePair p) = keyToks (ePair q)) : p = q := by
  rw [toks_pair, toks_pair] at h
  simp only [List.cons.injEq, Sum.inr.injEq] at h
  exact Prod.ext (str_of_cps h.2.1) (str_of_cps h.2.2.2.1)
theorem leD_anti {a b : Str × Str} (h1 : leD a b = true) (h2 : leD b a = true) : a = b := by
  have q1 : (listOrd itemOrd).blt (keyToks (ePair b)) (keyToks (ePair a)) = false := by simpa [leD, dataLe, sortLe] using h1
  have q2 : (listOrd itemOrd).blt (keyToks (ePair a)) (keyToks (ePair b)) = false := by simpa [leD, dataLe, sortLe] using h2
  exact toks_inj ((listOrd itemOrd).total _ _ q2 q1)
def tot : TotalLe (fun a b : Str × Str => leD a b) := sortLe_total (listOrd itemOrd) false fun p : Str × Str => keyToks (ePair p)
def sortP (l : Pairs) : Pairs := l.mergeSort leD
theorem sortP_perm (l : Pairs) : (sortP l).Perm l := List.mergeSort_perm l leD
theorem sortP_sorted (l : Pairs) : (sortP l).Pairwise (fun a b => leD a b = true) := List.pairwise_mergeSort tot.trans (fun a b => by rw [Bool.or_eq_true]; exact tot.total a b) l
def dedup : Pairs → Pairs
  | [] => []
  | p :: l => if p ∈ dedup l then dedup l else p :: dedup l
theorem mem_dedup {p : Str × Str} : ∀ {l : Pairs}, p ∈ dedup l ↔ p ∈ l
  | [] => Iff.rfl
  | q :: l => by
    unfold dedup
    split
    · rename_i h
      rw [mem_dedup, List.mem_cons]
      exact ⟨.inr, fun z => z.elim (fun e => by rw [e]; exact mem_dedup.mp h) id⟩
    · rw [List.mem_cons, List.mem_cons, mem_dedup]
theorem nodup_dedup : ∀ l : Pairs, (dedup l).Nodup
  | [] => .nil
  | q :: l => by
    unfold dedup
    split
    · exact nodup_dedup l
    · rename_i h
      exact List.nodup_cons.mpr ⟨h, nodup_dedup l⟩
abbrev pairsOf (c : Code) : Pairs := c.2.2.map fun p => (p.1, c.2.1)
/-- tuple(sorted(set(st) | set(pairs_of(c)))) -/
def stepOf (st : Pairs) (c : Code) : Pairs := sortP (dedup (st ++ pairsOf c))
theorem mem_step {st : Pairs} {c : Code} {p : Str × Str} : p ∈ stepOf st c ↔ p ∈ st ∨ p ∈ pairsOf c := by
  unfold stepOf
  rw [(sortP_perm _).mem_iff, mem_dedup, List.mem_append]
theorem nodup_step (st : Pairs) (c : Code) : (stepOf st c).Nodup := (sortP_perm _).symm.nodup (nodup_dedup _)
theorem sorted_unique {a b : Pairs} (ha : a.Pairwise (fun x y => leD x y = true)) (hb : b.Pairwise (fun x y => leD x y = true)) (h : a.Perm b) : a = b :=
  h.eq_of_pairwise (fun _ _ _ _ => leD_anti) ha hb
theorem step_is {st : Pairs} {c : Code} {L : Pairs} (nd : L.Nodup) (hm : ∀ p, p ∈ L ↔ p ∈ st ∨ p ∈ pairsOf c) (hs : L.Pairwise (fun x y => leD x y = true)) : L = stepOf st c := by
  refine sorted_unique hs (sortP_sorted _) ?_
  exact (List.perm_ext_iff_of_nodup nd (nodup_step st c)).mpr fun p => by rw [hm, mem_step]
/-- an ascending tuple without repetition -/
structure Can (st : Pairs) : Prop where
  nd : st.Nodup
  up : st.Pairwise (fun x y => leD x y = true)
theorem can_step (st : Pairs) (c : Code) : Can (stepOf st c) := ⟨nodup_step st c, sortP_sorted _⟩
theorem nd_leP {α : Type} [DecidableEq α] : ∀ {l ks : List α}, l.Nodup → (∀ x ∈ l, x ∈ ks) → l.length ≤ ks.length
  | [], _, _, _ => Nat.zero_le _
  | x :: l, ks, h, s => by
    have hx := s x List.mem_cons_self
    have hn := List.nodup_cons.mp h
    have q := nd_leP (l := l) (ks := ks.erase x) hn.2 fun y hy => (List.mem_erase_of_ne (fun z => hn.1 (by rw [← z]; exact hy))).mpr (s y (List.mem_cons_of_mem _ hy))
    rw [List.length_erase_of_mem hx] at q
    have := List.length_pos_of_mem hx
    rw [List.length_cons]
    omega
/-! ### the steps -/
inductive Rch (ws : List Wish) (fr : List Str) (cs : List Code) : Pairs → List Str → Prop
  | nil : Rch ws fr cs [] []
  | cons {st : Pairs} {row : List Str} {c : Code} : Rch ws fr cs st row → c ∈ cs → mayStand ws fr c st = true → stepOf st c ≠ st → Rch ws fr cs (stepOf st c) (c.1 :: row)
section
variable {ws : List Wish} {fr : List Str} {cs : List Code}
theorem Rch.can {st : Pairs} {row : List Str} (h : Rch ws fr cs st row) : Can st := by
  cases h with
  | nil => exact ⟨.nil, .nil⟩
  | cons => exact can_step _ _
theorem Rch.sub {U : Pairs} (hU : ∀ c ∈ cs, ∀ p ∈ pairsOf c, p ∈ U) {st : Pairs} {row : List Str} (h : Rch ws fr cs st row) : ∀ p ∈ st, p ∈ U := by
  induction h with
  | nil => intro p hp; cases hp
  | cons h hc _ _ ih =>
    intro p hp
    rcases mem_step.mp hp with hp | hp
    · exact ih p hp
    · exact hU _ hc p hp
theorem Rch.words {st : Pairs} {row : List Str} (h : Rch ws fr cs st row) : ∀ x ∈ row, x ∈ cs.map (·.1) := by
  induction h with
  | nil => intro x hx; cases hx
  | cons h hc _ _ ih =>
    intro x hx
    rcases List.mem_cons.mp hx with rfl | hx
    · exact List.mem_map.mpr ⟨_, hc, rfl⟩
    · exact ih x hx
/-- each step settles one pair at least -/
theorem Rch.len {st : Pairs} {row : List Str} (h : Rch ws fr cs st row) : row.length ≤ st.length := by
  induction h with
  | nil => exact Nat.le_refl _
  | @cons st row c h hc _ hne ih =>
    have nd := h.can.nd
    have : st.length < (stepOf st c).length := by
      refine Nat.lt_of_not_le fun hle => hne ?_
      have sb : ∀ p ∈ stepOf st c, p ∈ st := by
        refine fun p hp => Classical.byContradiction fun hn => ?_
        have q := nd_leP (l := p :: st) (ks := stepOf st c) (List.nodup_cons.mpr ⟨hn, nd⟩) fun y hy => by
          rcases List.mem_cons.mp hy with rfl | hy
          · exact hp
          · exact mem_step.mpr (.inl hy)
        rw [List.length_cons] at q
        omega
      exact (sorted_unique h.can.up (sortP_sorted _) ((List.perm_ext_iff_of_nodup nd (nodup_step st c)).mpr fun p => ⟨fun z => mem_step.mpr (.inl z), sb p⟩)).symm
    rw [List.length_cons]
    omega
end
/-! ### the states are few -/
def subs : Pairs → List Pairs
  | [] => [[]]
  | p :: l => subs l ++ (subs l).map (p :: ·)
theorem subs_len : ∀ l : Pairs, (subs l).length = 2 ^ l.length
  | [] => rfl
  | p :: l => by
    show (subs l ++ (subs l).map (p :: ·)).length = _
    rw [List.length_append, List.length_map, subs_len l, List.length_cons, Nat.pow_succ]
    omega
theorem filter_subs (q : Str × Str → Bool) : ∀ l : Pairs, l.filter q ∈ subs l
  | [] => List.mem_singleton.mpr rfl
  | p :: l => by
    rw [List.filter_cons]
    show _ ∈ subs l ++ (subs l).map (p :: ·)
    split
    · exact List.mem_append_right _ (List.mem_map.mpr ⟨_, filter_subs q l, rfl⟩)
    · exact List.mem_append_left _ (filter_subs q l)
theorem can_states {U st : Pairs} (hU : U.Nodup) (hc : Can st) (hs : ∀ p ∈ st, p ∈ U) : st ∈ (subs U).map sortP := by
  refine List.mem_map.mpr ⟨U.filter fun p => decide (p ∈ st), filter_subs _ U, ?_⟩
  refine sorted_unique (sortP_sorted _) hc.up ?_
  refine (sortP_perm _).trans ((List.perm_ext_iff_of_nodup (hU.sublist (List.filter_sublist)) hc.nd).mpr fun p => ?_)
  rw [List.mem_filter, decide_eq_true_eq]
  exact ⟨fun z => z.2, fun z => ⟨hs p z, z⟩⟩
theorem states_few {U : Pairs} (hU : U.Nodup) {sts : List Pairs} (nd : sts.Nodup) (h : ∀ st ∈ sts, Can st ∧ ∀ p ∈ st, p ∈ U) : sts.length ≤ 2 ^ U.length := by
  have q := nd_leP (ks := (subs U).map sortP) nd fun st hst => can_states hU (h st hst).1 (h st hst).2
  rw [List.length_map, subs_len] at q
  exact q
/-! ### sizes -/
theorem sizeR_cons (x : Str) (r : List Str) : sizeR (x :: r) = ((x.length : Nat) : Int) + 2 + sizeR r := by
  unfold sizeR
  rw [List.map_cons, List.sum_cons]
theorem sizeR_le (x : Str) (r : List Str) : sizeR r ≤ sizeR (x :: r) := by
  rw [sizeR_cons]
  omega
end K26
set_option Elab.async false
set_option linter.all false
set_option maxRecDepth 100000
set_option maxHeartbeats 2000000
/-! KMath2: the search's word between two turns, and what it gives at the end. -/
namespace K26
open PySem PySem.Spec PyProof.Rows L2 Evl PySem.W
theorem kPut_mem2 {l : List KEnt} {n e : KEnt} (h : e ∈ kPut l n) : (e ∈ l ∧ e.st ≠ n.st) ∨ (e.st = n.st ∧ e.row = n.row ∧ e.ra = n.ra ∧ (e.ka = n.ka ∨ ∃ x ∈ l, x.st = e.st ∧ x.ka = e.ka)) := by
  unfold kPut at h
  cases q : kAt l n.st with
  | none =>
    rw [q, if_neg (by simp)] at h
    rcases List.mem_append.mp h with h | h
    · exact .inl ⟨h, fun z => kAt_none q (by rw [← z]; exact List.mem_map.mpr ⟨e, h, rfl⟩)⟩
    · obtain rfl := List.mem_singleton.mp h
      exact .inr ⟨rfl, rfl, rfl, .inl rfl⟩
  | some e0 =>
    rw [q, if_pos (show (some e0).isSome = true from rfl)] at h
    obtain ⟨x, hx, e1⟩ := List.mem_map.mp h
    split at e1
    · rename_i hs
      subst e1
      exact .inr ⟨hs, rfl, rfl, .inr ⟨x, hx, rfl, rfl⟩⟩
    · rename_i hs
      subst e1
      exact .inl ⟨hx, hs⟩
theorem mem_kPut {l : List KEnt} {n e : KEnt} (h : e ∈ l) (hs : e.st ≠ n.st) : e ∈ kPut l n := by
  unfold kPut
  split
  · exact List.mem_map.mpr ⟨e, h, by rw [if_neg hs]⟩
  · exact List.mem_append_left _ h
theorem new_kPut (l : List KEnt) (n : KEnt) : ∃ e ∈ kPut l n, e.st = n.st ∧ e.row = n.row := by
  unfold kPut
  cases q : kAt l n.st with
  | none => exact ⟨n, by rw [if_neg (by simp)]; exact List.mem_append_right _ (List.mem_singleton.mpr rfl), rfl, rfl⟩
  | some e0 =>
    have := kAt_some q
    refine ⟨{ e0 with ra := n.ra, row := n.row }, ?_, this.2, rfl⟩
    rw [if_pos (show (some e0).isSome = true from rfl)]
    exact List.mem_map.mpr ⟨e0, this.1, by rw [if_pos this.2]⟩
theorem kAt_mem {l : List KEnt} (nd : (l.map (·.st)).Nodup) {e : KEnt} (h : e ∈ l) : kAt l e.st = some e := by
  cases q : kAt l e.st with
  | none => exact absurd (List.mem_map.mpr ⟨e, h, rfl⟩) (kAt_none q)
  | some e0 =>
    obtain ⟨h1, h2⟩ := kAt_some q
    congr 1
    obtain ⟨i, hi⟩ := List.getElem?_of_mem h
    obtain ⟨j, hj⟩ := List.getElem?_of_mem h1
    have a : (l.map (·.st))[i]? = some e.st := by rw [List.getElem?_map, hi]; rfl
    have b : (l.map (·.st))[j]? = some e.st := by rw [List.getElem?_map, hj, ← h2]; rfl
    have hij := (List.getElem?_inj (List.getElem?_eq_some_iff.mp a).1 nd).mp (a.trans b.symm)
    subst hij
    rw [hi] at hj
    exact (Option.some.inj hj).symm
section
variable (ws : List Wish) (fr : List Str) (cs : List Code)
/-- the entry's steps that go to the codes of done stand, each no dearer than by it -/
def Done (l : List KEnt) (done : List Code) (e : KEnt) : Prop := ∀ c ∈ done, mayStand ws fr c e.st = true → stepOf e.st c ≠ e.st → ∃ e' ∈ l, e'.st = stepOf e.st c ∧ sizeR e'.row ≤ sizeR (c.1 :: e.row)
/-- no row to its state is cheaper -/
def Best (e : KEnt) : Prop := ∀ row, Rch ws fr cs e.st row → sizeR e.row ≤ sizeR row
/-- u: the state that is being left (its codes' first ones done), if any -/
structure Dij (l : List KEnt) (opn : List Pairs) (u : Option Pairs) (done : List Code) : Prop where
  rch : ∀ e ∈ l, Rch ws fr cs e.st e.row
  start : [] ∈ l.map (·.st)
  sub : ∀ st ∈ opn, st ∈ l.map (·.st)
  ond : opn.Nodup
  lnd : (l.map (·.st)).Nodup
  clo : ∀ e ∈ l, e.st ∉ opn → isDone ws e.st = false ∧ Best ws fr cs e ∧ (some e.st ≠ u → Done ws fr l cs e) ∧ (some e.st = u → Done ws fr l done e)
  notu : ∀ st, u = some st → st ∉ opn
variable {ws fr cs} {l : List KEnt} {opn : List Pairs}
theorem ent_eq (nd : (l.map (·.st)).Nodup) {e e' : KEnt} (h : e ∈ l) (h' : e' ∈ l) (hs : e.st = e'.st) : e = e' := by
  have a := kAt_mem nd h
  have b := kAt_mem nd h'
  rw [hs] at a
  rw [a] at b
  exact Option.some.inj b
/-- a row leads to a state that is closed, or passes an open one that is no dearer -/
theorem Dij.way (D : Dij ws fr cs l opn none []) {st : Pairs} {row : List Str} (h : Rch ws fr cs st row) : (st ∉ opn ∧ ∃ e ∈ l, e.st = st) ∨ ∃ e ∈ l, e.st ∈ opn ∧ sizeR e.row ≤ sizeR row := by
  have key : ∀ st ∈ l.map (·.st), ∀ row, (∀ e ∈ l, e.st = st → sizeR e.row ≤ sizeR row) → (st ∉ opn ∧ ∃ e ∈ l, e.st = st) ∨ ∃ e ∈ l, e.st ∈ opn ∧ sizeR e.row ≤ sizeR row := by
    intro st hst row hr
    obtain ⟨e, he, rfl⟩ := List.mem_map.mp hst
    by_cases ho : e.st ∈ opn
    · exact .inr ⟨e, he, ho, hr e he rfl⟩
    · exact .inl ⟨ho, e, he, rfl⟩
  induction h with
  | nil =>
    refine key [] D.start [] fun e he hs => ?_
    by_cases ho : e.st ∈ opn
    · have := D.rch e he
      rw [hs] at this
      have z := this.len
      have : e.row = [] := List.length_eq_zero_iff.mp (by simpa using z)
      rw [this]
      exact Int.le_refl _
    · exact (D.clo e he ho).2.1 [] (by rw [hs]; exact .nil)
  | @cons st row c h hc hm hne ih =>
    rcases ih with ⟨ho, e, he, rfl⟩ | ⟨e, he, ho, hle⟩
    · obtain ⟨_, hb, hd, _⟩ := D.clo e he ho
      obtain ⟨e', he', hs', hle'⟩ := hd (by simp) c hc hm hne
      have h1 := hb row h
      rw [← hs']
      refine key e'.st (List.mem_map.mpr ⟨e', he', rfl⟩) _ fun x hx hxs => ?_
      rw [ent_eq D.lnd hx he' hxs]
      rw [sizeR_cons] at hle' ⊢
      omega
    · exact .inr ⟨e, he, ho, Int.le_trans hle (sizeR_le _ _)⟩
/-- nothing open is left: no state is done -/
theorem Dij.nothing (D : Dij ws fr cs l [] none []) {st : Pairs} {row : List Str} (h : Rch ws fr cs st row) : isDone ws st = false := by
  rcases D.way h with ⟨ho, e, he, rfl⟩ | ⟨e, he, ho, _⟩
  · exact (D.clo e he ho).1
  · cases ho
/-- the cheapest open one is best -/
theorem Dij.best (D : Dij ws fr cs l opn none []) {e : KEnt} (he : e ∈ l) (ho : e.st ∈ opn) (hmin : ∀ e' ∈ l, e'.st ∈ opn → sizeR e.row ≤ sizeR e'.row) : Best ws fr cs e := fun row h => by
  rcases D.way h with ⟨hn, _⟩ | ⟨e', he', ho', hle⟩
  · exact absurd ho hn
  · exact Int.le_trans (hmin e' he' ho') hle
/-- where the cheapest open one is done, no done state has a cheaper row -/
theorem Dij.ans (D : Dij ws fr cs l opn none []) {e : KEnt} (hmin : ∀ e' ∈ l, e'.st ∈ opn → sizeR e.row ≤ sizeR e'.row) {st : Pairs} {row : List Str} (h : Rch ws fr cs st row) (hd : isDone ws st = true) : sizeR e.row ≤ sizeR row := by
  rcases D.way h with ⟨hn, e', he', rfl⟩ | ⟨e', he', ho', hle⟩
  · have := (D.clo e' he' hn).1
    rw [hd] at this
    cases this
  · exact Int.le_trans (hmin e' he' ho') hle
/-- the cheapest open one is taken -/
theorem Dij.pop (D : Dij ws fr cs l opn none []) {e : KEnt} (he : e ∈ l) {opn' : List Pairs} (hp : (e.st :: opn').Perm opn) (hmin : ∀ e' ∈ l, e'.st ∈ opn → sizeR e.row ≤ sizeR e'.row) (hnd : isDone ws e.st = false) : Dij ws fr cs l opn' (some e.st) [] := by
  have nd : (e.st :: opn').Nodup := hp.symm.nodup D.ond
  obtain ⟨n1, n2⟩ := List.nodup_cons.mp nd
  have hb := D.best he (hp.mem_iff.mp List.mem_cons_self) hmin
  refine ⟨D.rch, D.start, fun st hst => D.sub st (hp.mem_iff.mp (List.mem_cons_of_mem _ hst)), n2, D.lnd, fun x hx ho => ?_, fun st hst => by cases hst; exact n1⟩
  by_cases hxe : x.st = e.st
  · have := ent_eq D.lnd hx he hxe
    subst this
    exact ⟨hnd, hb, fun z => absurd rfl z, fun _ c hc => by cases hc⟩
  · have ho2 : x.st ∉ opn := fun z => by
      rcases List.mem_cons.mp (hp.mem_iff.mpr z) with z | z
      · exact hxe z
      · exact ho z
    obtain ⟨a, b, c, d⟩ := D.clo x hx ho2
    exact ⟨a, b, fun _ => c (by simp), fun z => absurd (Option.some.inj z) hxe⟩
theorem Done.more {l : List KEnt} {done : List Code} {e : KEnt} {c : Code} (h : Done ws fr l done e) (hc : mayStand ws fr c e.st = true → stepOf e.st c ≠ e.st → ∃ e' ∈ l, e'.st = stepOf e.st c ∧ sizeR e'.row ≤ sizeR (c.1 :: e.row)) : Done ws fr l (done ++ [c]) e := fun d hd => by
  rcases List.mem_append.mp hd with hd | hd
  · exact h d hd
  · rw [List.mem_singleton.mp hd]
    exact hc
/-- a code that brings nothing new -/
theorem Dij.skip {eu : KEnt} {done : List Code} (D : Dij ws fr cs l opn (some eu.st) done) (hu : eu ∈ l) {c : Code} (hc : mayStand ws fr c eu.st = true → stepOf eu.st c ≠ eu.st → ∃ e' ∈ l, e'.st = stepOf eu.st c ∧ sizeR e'.row ≤ sizeR (c.1 :: eu.row)) : Dij ws fr cs l opn (some eu.st) (done ++ [c]) := by
  refine ⟨D.rch, D.start, D.sub, D.ond, D.lnd, fun x hx ho => ?_, D.notu⟩
  obtain ⟨a, b, h1, h2⟩ := D.clo x hx ho
  refine ⟨a, b, h1, fun z => ?_⟩
  have := ent_eq D.lnd hx hu (Option.some.inj z)
  subst this
  exact (h2 z).more hc
/-- a code that brings a new state, or a cheaper row to one that is open -/
theorem Dij.put {eu : KEnt} {done : List Code} (D : Dij ws fr cs l opn (some eu.st) done) (hu : eu ∈ l) {c : Code} (hcs : c ∈ cs) (hm : mayStand ws fr c eu.st = true) (hne : stepOf eu.st c ≠ eu.st) {n : KEnt} (hn : n.st = stepOf eu.st c) (hr : n.row = c.1 :: eu.row)
    (hlt : ∀ e ∈ l, e.st = n.st → sizeR n.row < sizeR e.row) : Dij ws fr cs (kPut l n) (opn.filter (fun st => decide (st ≠ n.st)) ++ [n.st]) (some eu.st) (done ++ [c]) ∧ eu ∈ kPut l n := by
  have hnu : eu.st ≠ n.st := fun z => hne (by rw [← hn, ← z])
  have nr : Rch ws fr cs n.st n.row := by
    rw [hn, hr]
    exact .cons (D.rch eu hu) hcs hm hne
  have keys := kPut_keys l n
  obtain ⟨en, hen, hen1, hen2⟩ := new_kPut l n
  have lnd : ((kPut l n).map (·.st)).Nodup := by
    rw [keys]
    split
    · exact D.lnd
    · rename_i h
      rw [List.nodup_append]
      exact ⟨D.lnd, by simp, fun a ha b hb z => h (by rw [← List.mem_singleton.mp hb, ← z]; exact ha)⟩
  -- a step's end that stood, stands
  have up : ∀ (done' : List Code) (x : KEnt), Done ws fr l done' x → Done ws fr (kPut l n) done' x := fun done' x h d hd h1 h2 => by
    obtain ⟨e', he', hs', hle⟩ := h d hd h1 h2
    by_cases q : e'.st = n.st
    · refine ⟨en, hen, by rw [hen1, ← q, hs'], ?_⟩
      have := hlt e' he' q
      rw [hen2]
      omega
    · exact ⟨e', mem_kPut he' q, hs', hle⟩
  refine ⟨⟨fun e he => ?_, ?_, fun st hst => ?_, ?_, lnd, fun x hx ho => ?_, fun st hst => ?_⟩, mem_kPut hu hnu⟩
  · rcases kPut_mem2 he with ⟨h, _⟩ | ⟨h1, h2, _⟩
    · exact D.rch e h
    · rw [h1, h2]
      exact nr
  · rw [keys]
    split
    · exact D.start
    · exact List.mem_append_left _ D.start
  · rw [keys]
    rcases List.mem_append.mp hst with h | h
    · have := D.sub st (List.mem_filter.mp h).1
      split
      · exact this
      · exact List.mem_append_left _ this
    · rw [List.mem_singleton.mp h]
      split
      · assumption
      · exact List.mem_append_right _ (List.mem_singleton.mpr rfl)
  · rw [List.nodup_append]
    refine ⟨D.ond.sublist List.filter_sublist, by simp, fun a ha b hb z => ?_⟩
    have := (List.mem_filter.mp ha).2
    rw [decide_eq_true_eq] at this
    exact this (z.trans (List.mem_singleton.mp hb))
  · have nx : x.st ≠ n.st := fun z => ho (List.mem_append_right _ (List.mem_singleton.mpr z))
    have xl : x ∈ l := by
      rcases kPut_mem2 hx with ⟨h, _⟩ | ⟨h, _⟩
      · exact h
      · exact absurd h nx
    have xo : x.st ∉ opn := fun z => ho (List.mem_append_left _ (List.mem_filter.mpr ⟨z, decide_eq_true nx⟩))
    obtain ⟨a, b, h1, h2⟩ := D.clo x xl xo
    refine ⟨a, b, fun z => up _ _ (h1 z), fun z => ?_⟩
    refine (up _ _ (h2 z)).more fun _ _ => ⟨en, hen, ?_, ?_⟩
    · rw [hen1, hn, Option.some.inj z]
    · have := ent_eq D.lnd xl hu (Option.some.inj z)
      rw [hen2, hr, this]
      exact Int.le_refl _
  · have := D.notu st hst
    cases hst
    intro z
    rcases List.mem_append.mp z with z | z
    · exact this (List.mem_filter.mp z).1
    · exact hnu (List.mem_singleton.mp z)
/-- a state that a cheaper row is found to is new or open -/
theorem Dij.isOpen {eu : KEnt} {done : List Code} (D : Dij ws fr cs l opn (some eu.st) done) {n : KEnt} (nr : Rch ws fr cs n.st n.row) {e : KEnt} (he : e ∈ l) (hs : e.st = n.st) (hlt : sizeR n.row < sizeR e.row) : e.st ∈ opn := by
  refine Classical.byContradiction fun ho => ?_
  have := (D.clo e he ho).2.1 n.row (by rw [hs]; exact nr)
  omega
/-- all codes done: the state is closed -/
theorem Dij.close {eu : KEnt} (D : Dij ws fr cs l opn (some eu.st) cs) : Dij ws fr cs l opn none [] := by
  refine ⟨D.rch, D.start, D.sub, D.ond, D.lnd, fun x hx ho => ?_, fun st hst => by cases hst⟩
  obtain ⟨a, b, h1, h2⟩ := D.clo x hx ho
  refine ⟨a, b, fun _ => ?_, fun z => by cases z⟩
  by_cases q : some x.st = some eu.st
  · exact h2 q
  · exact h1 q
end
end K26
set_option Elab.async false
set_option linter.all false
set_option maxRecDepth 100000
set_option maxHeartbeats 2000000
/-! KMath3: the search as one run: it answers one thing. -/
namespace K26
open PySem PySem.Spec PyProof.Rows L2 Evl PySem.W
abbrev SRow := Pairs × List Str
def sAt (l : List SRow) (st : Pairs) : Option SRow := l.find? fun e => decide (e.1 = st)
def sPut (l : List SRow) (n : SRow) : List SRow := if (sAt l n.1).isSome then l.map (fun e => if e.1 = n.1 then (e.1, n.2) else e) else l ++ [n]
def strip (l : List KEnt) : List SRow := l.map fun e => (e.st, e.row)
theorem sAt_strip (st : Pairs) : ∀ l : List KEnt, sAt (strip l) st = (kAt l st).map fun e => (e.st, e.row)
  | [] => rfl
  | e :: l => by
    have ih := sAt_strip st l
    unfold sAt kAt strip at ih ⊢
    rw [List.map_cons, List.find?_cons, List.find?_cons]
    by_cases h : e.st = st
    · simp [h]
    · simp only [h, decide_false]
      exact ih
theorem sPut_strip (l : List KEnt) (n : KEnt) : strip (kPut l n) = sPut (strip l) (n.st, n.row) := by
  unfold sPut kPut
  rw [sAt_strip]
  cases kAt l n.st with
  | none =>
    rw [if_neg (by simp), if_neg (by simp)]
    unfold strip
    rw [List.map_append]
    rfl
  | some e0 =>
    rw [if_pos (by simp), if_pos (by simp)]
    unfold strip
    rw [List.map_map, List.map_map]
    refine List.map_congr_left fun e _ => ?_
    dsimp only [Function.comp]
    by_cases h : e.st = n.st
    · rw [if_pos h, if_pos h]
    · rw [if_neg h, if_neg h]
def szOf (l : List SRow) (st : Pairs) : Int := ((sAt l st).map fun e => sizeR e.2).getD 0
theorem szOf_strip (l : List KEnt) (st : Pairs) : szOf (strip l) st = ((kAt l st).map fun e => sizeR e.row).getD 0 := by
  unfold szOf
  rw [sAt_strip, Option.map_map]
  rfl
def srt (l : List SRow) (opn : List Pairs) : List Pairs := opn.mergeSort (dataLe false fun st => .int (szOf l st))
def Better (l : List SRow) (b : Pairs) (row : List Str) : Prop := ∀ e, sAt l b = some e → sizeR row < sizeR e.2
open Classical in
noncomputable def relax (ws : List Wish) (fr : List Str) (st : Pairs) (row : List Str) (s : List SRow × List Pairs) (c : Code) : List SRow × List Pairs :=
  if mayStand ws fr c st = true ∧ stepOf st c ≠ st ∧ Better s.1 (stepOf st c) (c.1 :: row) then (sPut s.1 (stepOf st c, c.1 :: row), s.2.filter (fun y => decide (y ≠ stepOf st c)) ++ [stepOf st c]) else s
section
variable {ws : List Wish} {fr : List Str} {cs : List Code} {st : Pairs} {row : List Str} {s : List SRow × List Pairs} {c : Code}
theorem relax_put (h1 : mayStand ws fr c st = true) (h2 : stepOf st c ≠ st) (h3 : Better s.1 (stepOf st c) (c.1 :: row)) :
    relax ws fr st row s c = (sPut s.1 (stepOf st c, c.1 :: row), s.2.filter (fun y => decide (y ≠ stepOf st c)) ++ [stepOf st c]) := if_pos ⟨h1, h2, h3⟩
theorem relax_skip (h : mayStand ws fr c st = true → stepOf st c ≠ st → ¬ Better s.1 (stepOf st c) (c.1 :: row)) : relax ws fr st row s c = s := if_neg fun z => h z.1 z.2.1 z.2.2
end
inductive Run (ws : List Wish) (fr : List Str) (cs : List Code) : List SRow → List Pairs → Option (List Str) → Prop
  | stop {l : List SRow} : Run ws fr cs l [] none
  | ans {l : List SRow} {opn opn' : List Pairs} {st : Pairs} {e : SRow} : srt l opn = st :: opn' → sAt l st = some e → isDone ws st = true → Run ws fr cs l opn (some e.2)
  | go {l : List SRow} {opn opn' : List Pairs} {st : Pairs} {e : SRow} {r : Option (List Str)} : srt l opn = st :: opn' → sAt l st = some e → isDone ws st = false →
      Run ws fr cs (cs.foldl (relax ws fr st e.2) (l, opn')).1 (cs.foldl (relax ws fr st e.2) (l, opn')).2 r → Run ws fr cs l opn r
theorem Run.one {ws : List Wish} {fr : List Str} {cs : List Code} {l : List SRow} {opn : List Pairs} {r : Option (List Str)} (h : Run ws fr cs l opn r) : ∀ {r'}, Run ws fr cs l opn r' → r = r' := by
  have no : ∀ {l : List SRow} {st : Pairs} {opn' : List Pairs}, srt l [] = st :: opn' → False := fun {l st opn'} z => by
    have q : srt l [] = [] := List.mergeSort_nil
    rw [q] at z
    cases z
  induction h with
  | stop =>
    intro r' h'
    cases h' with
    | stop => rfl
    | ans e1 => exact (no e1).elim
    | go e1 => exact (no e1).elim
  | ans e1 e2 e3 =>
    intro r' h'
    cases h' with
    | stop => exact (no e1).elim
    | ans f1 f2 f3 =>
      obtain ⟨rfl, rfl⟩ := List.cons.inj (e1.symm.trans f1)
      cases e2.symm.trans f2
      rfl
    | go f1 f2 f3 =>
      obtain ⟨rfl, rfl⟩ := List.cons.inj (e1.symm.trans f1)
      rw [e3] at f3
      cases f3
  | go e1 e2 e3 _ ih =>
    intro r' h'
    cases h' with
    | stop => exact (no e1).elim
    | ans f1 f2 f3 =>
      obtain ⟨rfl, rfl⟩ := List.cons.inj (e1.symm.trans f1)
      rw [e3] at f3
      cases f3
    | go f1 f2 f3 f4 =>
      obtain ⟨rfl, rfl⟩ := List.cons.inj (e1.symm.trans f1)
      cases e2.symm.trans f2
      exact ih f4
end K26
set_option Elab.async false
set_option linter.all false
set_option maxRecDepth 100000
set_option maxHeartbeats 2000000
/-! KBeh: tuple(sorted(set(settled) | set(pairs_of(code)))). -/
namespace K26
open PySem PySem.Spec PyProof.Rows L2 Evl
abbrev encL (p : Str × Str) : List Str := [p.1, p.2]
theorem encL_inj {p q : Str × Str} (h : encL p = encL q) : p = q := by
  obtain ⟨a, b⟩ := List.cons.inj h
  exact Prod.ext a (List.cons.inj b).1
section
variable {K : PySem.W.Frag} {P : Program} {w : World} {H H' : Hp}
theorem pl_of : ∀ {st : Pairs} {xs : List V}, DpAll K H xs (st.map ePair) → ∃ ks : PL, xs = ks.map (fun p => V.ref p.1) ∧ (∀ p ∈ ks, SqT K H p.1 (p.2.map V.str)) ∧ ks.map (·.2) = st.map encL
  | [], _, h => by
    cases h
    exact ⟨[], rfl, fun p hp => by simp at hp, rfl⟩
  | q :: st, _, h => by
    cases h with
    | cons h1 t =>
      obtain ⟨ks, e1, e2, e3⟩ := pl_of t
      obtain ⟨a, ys, rfl, hs, hy⟩ := dp_tup h1
      obtain ⟨y1, y2, rfl, k1, k2⟩ := dp2 hy
      obtain rfl := dp_str k1
      obtain rfl := dp_str k2
      refine ⟨(a, encL q) :: ks, by rw [e1]; rfl, fun p hp => ?_, by rw [List.map_cons, e3]; rfl⟩
      rcases List.mem_cons.mp hp with rfl | hp
      · exact hs
      · exact e2 p hp
theorem dec_of : ∀ {L : PL} {st : Pairs}, (∀ p ∈ L, ∃ q ∈ st, p.2 = encL q) → ∃ M : Pairs, L.map (·.2) = M.map encL ∧ ∀ q ∈ M, q ∈ st
  | [], _, _ => ⟨[], rfl, fun q hq => by cases hq⟩
  | p :: L, st, h => by
    obtain ⟨M, e1, e2⟩ := dec_of (L := L) fun q hq => h q (List.mem_cons_of_mem _ hq)
    obtain ⟨q, hq, e⟩ := h p List.mem_cons_self
    refine ⟨q :: M, by rw [List.map_cons, List.map_cons, e1, e], fun r hr => ?_⟩
    rcases List.mem_cons.mp hr with rfl | hr
    · exact hq
    · exact e2 r hr
theorem nodup_dec {M : Pairs} {L : PL} (e : L.map (·.2) = M.map encL) (h : (L.map (·.2)).Nodup) : M.Nodup := by
  rw [e] at h
  exact (List.pairwise_map.mp h).imp fun hab z => hab (by rw [z])
/-- a set of these pairs -/
def isSet (K : PySem.W.Frag) (P : Program) (w : World) (M : Pairs) : V → Hp → Prop := fun v H => ∃ a L, v = .ref a ∧ H a = some (SetO P w a L) ∧ (∀ p ∈ L, SqT K H p.1 (p.2.map V.str)) ∧ L.map (·.2) = M.map encL
theorem isSet_mono {M : Pairs} : Mono (isSet K P w M) := fun v H H' e ⟨a, L, h1, h2, h3, h4⟩ => ⟨a, L, h1, e _ _ h2, fun p hp => ex_t e (h3 p hp), h4⟩
/-- set(xs) -/
theorem set_call_at {st : Pairs} {l : Addr} {xs : List V} {Q : VK} (hl : SqL K H l xs ∨ SqT K H l xs) (hx : DpAll K H xs (st.map ePair)) (hf : st.length ≤ 16)
    (h : ∀ v H2 M, Ex H H2 → isSet K P w M v H2 → (∀ a, v = .ref a → H a = none) → M.Nodup → (∀ q, q ∈ M ↔ q ∈ st) → M.length ≤ st.length → Q v H2) : rSetOf K P w [V.ref l] H Q := by
  obtain ⟨ks, e1, e2, e3⟩ := pl_of hx
  subst e1
  have hlen : ks.length = st.length := by
    have := congrArg List.length e3
    simpa using this
  refine ⟨l, ks, rfl, hl, e2, by omega, fun a L hn nd sub all hle => ?_⟩
  have inK : ∀ p ∈ ks, ∃ q ∈ st, p.2 = encL q := fun p hp => by
    have : p.2 ∈ st.map encL := by
      rw [← e3]
      exact List.mem_map.mpr ⟨p, hp, rfl⟩
    obtain ⟨q, hq, e⟩ := List.mem_map.mp this
    exact ⟨q, hq, e.symm⟩
  obtain ⟨M, m1, m2⟩ := dec_of (L := L) (st := st) fun p hp => inK p (sub p hp)
  have ml : M.length = L.length := by
    have := congrArg List.length m1
    simpa using this.symm
  refine h _ _ M (Ex.new hn) ⟨a, L, rfl, upd_same, fun p hp => ex_t (Ex.new hn) (e2 p (sub p hp)), m1⟩ (fun b hb => by cases hb; exact hn) (nodup_dec m1 nd) (fun q => ⟨m2 q, fun hq => ?_⟩) (by omega)
  have h1 : encL q ∈ ks.map (·.2) := by
    rw [e3]
    exact List.mem_map.mpr ⟨q, hq, rfl⟩
  obtain ⟨p, hp, hpe⟩ := List.mem_map.mp h1
  have h2 := all p hp
  rw [m1] at h2
  obtain ⟨r, hr, hre⟩ := List.mem_map.mp h2
  have : r = q := encL_inj (hre.trans hpe)
  rw [← this]
  exact hr
/-- a | b -/
theorem or_at {Ma Mb : Pairs} {x y : V} {Q : VK} (ha : isSet K P w Ma x H) (hb : isSet K P w Mb y H) (hne : ∀ a, x = .ref a → y ≠ .ref a) (hl : Ma.length + Mb.length ≤ 12)
    (h : ∀ v H2 M, Ex H H2 → isSet K P w M v H2 → M.Nodup → (∀ q, q ∈ M ↔ q ∈ Ma ∨ q ∈ Mb) → Q v H2) : rOrS K P w x y H Q := by
  obtain ⟨a, La, rfl, a1, a2, a3⟩ := ha
  obtain ⟨b, Lb, rfl, b1, b2, b3⟩ := hb
  have la : La.length = Ma.length := by
    have := congrArg List.length a3
    simpa using this
  have lb : Lb.length = Mb.length := by
    have := congrArg List.length b3
    simpa using this
  have inM : ∀ p, p ∈ La ∨ p ∈ Lb → ∃ q ∈ Ma ++ Mb, p.2 = encL q := fun p hp => by
    have : p.2 ∈ (Ma ++ Mb).map encL := by
      rw [List.map_append, ← a3, ← b3, ← List.map_append]
      exact List.mem_map.mpr ⟨p, List.mem_append.mpr hp, rfl⟩
    obtain ⟨q, hq, e⟩ := List.mem_map.mp this
    exact ⟨q, hq, e.symm⟩
  refine ⟨a, b, La, Lb, rfl, rfl, a1, b1, fun z => hne a rfl (by rw [z]), a2, b2, by omega, fun c L hn nd sub all => ?_⟩
  obtain ⟨M, m1, m2⟩ := dec_of (L := L) (st := Ma ++ Mb) fun p hp => inM p (sub p hp)
  refine h _ _ M (Ex.new hn) ⟨c, L, rfl, upd_same, fun p hp => ?_, m1⟩ (nodup_dec m1 nd) fun q => ⟨fun hq => List.mem_append.mp (m2 q hq), fun hq => ?_⟩
  · rcases sub p hp with hp | hp
    · exact ex_t (Ex.new hn) (a2 p hp)
    · exact ex_t (Ex.new hn) (b2 p hp)
  · have h1 : ∃ p, (p ∈ La ∨ p ∈ Lb) ∧ p.2 = encL q := by
      rcases hq with hq | hq
      · have : encL q ∈ La.map (·.2) := by rw [a3]; exact List.mem_map.mpr ⟨q, hq, rfl⟩
        obtain ⟨p, hp, e⟩ := List.mem_map.mp this
        exact ⟨p, .inl hp, e⟩
      · have : encL q ∈ Lb.map (·.2) := by rw [b3]; exact List.mem_map.mpr ⟨q, hq, rfl⟩
        obtain ⟨p, hp, e⟩ := List.mem_map.mp this
        exact ⟨p, .inr hp, e⟩
    obtain ⟨p, hp, hpe⟩ := h1
    have h2 := all p hp
    rw [m1] at h2
    obtain ⟨r, hr, hre⟩ := List.mem_map.mp h2
    have : r = q := encL_inj (hre.trans hpe)
    rw [← this]
    exact hr
theorem leP_enc {L : PL} {M : Pairs} (e : L.map (·.2) = M.map encL) (h : L.Pairwise (fun q r => leP q r = true)) : M.Pairwise (fun a b => leD a b = true) := by
  have q : (L.map (·.2)).Pairwise (fun a b => PySem.W.dataLe false encK a b = true) := List.pairwise_map.mpr h
  rw [e] at q
  exact List.pairwise_map.mp q
/-- sorted(s) -/
theorem srt_at {M : Pairs} {x : V} {Q : VK} (ha : isSet K P w M x H) (h : ∀ p H2 xs (M' : Pairs), Ex H H2 → H p = none → H2 p = some (.lst xs) → DpAll K H2 xs (M'.map ePair) → M'.Nodup → (∀ q, q ∈ M' ↔ q ∈ M) → M'.Pairwise (fun a b => leD a b = true) → Q (.ref p) H2) : rSrtS K P w [x] H Q := by
  obtain ⟨a, L, rfl, a1, a2, a3⟩ := ha
  have ne : ∀ p ∈ L, p.2 ≠ [] := fun p hp z => by
    have : p.2 ∈ M.map encL := by rw [← a3]; exact List.mem_map.mpr ⟨p, hp, rfl⟩
    obtain ⟨q, _, e⟩ := List.mem_map.mp this
    rw [z] at e
    cases e
  refine ⟨a, L, rfl, a1, fun p hp => ⟨a2 p hp, ne p hp⟩, fun L' p pm nd pw hn => ?_⟩
  have inM : ∀ p ∈ L', ∃ q ∈ M, p.2 = encL q := fun p hp => by
    have : p.2 ∈ M.map encL := by rw [← a3]; exact List.mem_map.mpr ⟨p, pm.mem_iff.mp hp, rfl⟩
    obtain ⟨q, hq, e⟩ := List.mem_map.mp this
    exact ⟨q, hq, e.symm⟩
  obtain ⟨M', m1, m2⟩ := dec_of inM
  refine h p _ (L'.map fun q => V.ref q.1) M' (Ex.new hn) hn upd_same ?_ (nodup_dec m1 nd) (fun q => ⟨m2 q, fun hq => ?_⟩) (leP_enc m1 pw)
  · have go : ∀ (N : PL) (M : Pairs), N.map (·.2) = M.map encL → (∀ r ∈ N, SqT K (upd H p (.lst (L'.map fun q => V.ref q.1))) r.1 (r.2.map V.str)) → DpAll K (upd H p (.lst (L'.map fun q => V.ref q.1))) (N.map fun q => V.ref q.1) (M.map ePair) := by
      intro N
      induction N with
      | nil =>
        intro M e _
        cases M with
        | nil => exact .nil
        | cons _ _ => cases e
      | cons r N ih =>
        intro M e hr
        cases M with
        | nil => cases e
        | cons m M =>
          rw [List.map_cons, List.map_cons] at e
          obtain ⟨e1, e2⟩ := List.cons.inj e
          have h1 := hr r List.mem_cons_self
          rw [show r.2 = encL m from e1] at h1
          exact .cons (.tup h1 (.cons (.str _) (.cons (.str _) .nil))) (ih M e2 fun x hx => hr x (List.mem_cons_of_mem _ hx))
    exact go L' M' m1 fun r hr => ex_t (Ex.new hn) (a2 r (pm.mem_iff.mp hr))
  · have h1 : encL q ∈ L.map (·.2) := by rw [a3]; exact List.mem_map.mpr ⟨q, hq, rfl⟩
    obtain ⟨r, hr, hre⟩ := List.mem_map.mp h1
    have h2 : r.2 ∈ L'.map (·.2) := List.mem_map.mpr ⟨r, pm.mem_iff.mpr hr, rfl⟩
    rw [m1] at h2
    obtain ⟨t, ht, hte⟩ := List.mem_map.mp h2
    have : t = q := encL_inj (hte.trans hre)
    rw [← this]
    exact ht
/-- the whole -/
theorem d_behind {σ : L2.St} {t1 t2 : TE} {st : Pairs} {c : Code} (h1 : EvD K t1 σ H (eCh st)) (h2 : EvN K t2 σ H ((pairsOf c).map ePair)) (l1 : st.length ≤ 9) (l2 : (pairsOf c).length ≤ 3) (nd : st.Nodup) :
    EvD K (tCB (rTupL K) (tCons (tCB (rSrtS K P w) (tCons (tOp (rOrS K P w) (tCB (rSetOf K P w) (tCons t1 tNil)) (tCB (rSetOf K P w) (tCons t2 tNil))) tNil)) tNil)) σ H (eCh (stepOf st c)) := by
  refine d_tupL fun H1 e Q q => ?_
  refine h1 H1 e _ fun v H2 e2 w1 => ?_
  obtain ⟨b, xs, rfl, hs, hx⟩ := dp_tup w1
  show rSetOf K P w [V.ref b] H2 (fun x H1 => tCB (rSetOf K P w) (tCons t2 tNil) σ H1 fun y H2 => rOrS K P w x y H2 fun x H1 => rSrtS K P w [x] H1 Q)
  refine set_call_at (.inr hs) hx (by omega) fun v H3 Ma e3 sa _ na ma la => ?_
  refine h2 H3 ((e.trans e2).trans e3) _ fun v2 H4 e4 w2 => ?_
  obtain ⟨p, ys, rfl, _, hp, hy⟩ := w2
  have sa4 := isSet_mono _ _ _ e4 sa
  show rSetOf K P w [_] H4 (fun y H2 => rOrS K P w v y H2 fun x H1 => rSrtS K P w [x] H1 Q)
  refine set_call_at (.inl (sq_of hp)) hy (by omega) fun v3 H5 Mb e5 sb fb nb mb lb => ?_
  refine or_at (isSet_mono _ _ _ e5 sa4) sb (fun a ha z => ?_) (by omega) fun v4 H6 M e6 sm nm mm => ?_
  · obtain ⟨a', L, h1', h2', _⟩ := sa4
    rw [ha] at h1'
    cases h1'
    rw [fb _ z] at h2'
    cases h2'
  · refine srt_at sm fun p' H7 zs M' e7 hn7 h7 hz nm' mm' pw => ?_
    have eM : M' = stepOf st c := step_is nm' (fun r => by rw [mm', mm, ma, mb]) pw
    subst eM
    refine q _ _ (((((e2.trans e3).trans e4).trans e5).trans e6).trans e7) ?_
    exact .lst (sq_of h7) hz
end
end K26
set_option Elab.async false
set_option linter.all false
set_option maxRecDepth 100000
set_option maxHeartbeats 2000000
/-! KExtN: what stands while only tables change. -/
namespace K26
open PySem PySem.Spec PyProof.Rows L2 Evl LamX NdefX
section
variable {K : PySem.W.Frag} {H H' H2 : Hp}
theorem exT_n (e : ExtN H H') : ExT H H' := ⟨fun a xs h => e a _ h nofun, fun a o xs h => e a _ h nofun⟩
theorem GK.n {β : Type} {R : β → V → Hp → Prop} {p : Addr} {l : List (Str × β)} (e : ExtN H H') (hr : ∀ b v, R b v H → R b v H') (h : GK R H p l) : GK R H' p l := by
  obtain ⟨kvs, h1, h2⟩ := h
  exact ⟨kvs, e _ _ h1 nofun, h2.imp fun d v => hr d v⟩
theorem isW.n {W : Addr} {ws : List Wish} {fr : List Str} {v : V} (e : ExtN H H') (h : isW K W ws fr v H) : isW K W ws fr v H' := by
  obtain ⟨a, dx, p, u, h1, h2, h3, h4⟩ := h
  exact ⟨a, dx, p, u, h1, e _ _ h2 nofun, h3.n e fun b v hb => hb.t (exT_n e), dp_t (exT_n e) _ _ (by simpa [noL] using noL_strs _) h4⟩
theorem KnH.n {P : Program} {w : World} {d : Addr} {l : List KEnt} (e : ExtN H H') (h : KnH K P w H d l) : KnH K P w H' d l := h.t (exT_n e) (e _ _ h.at_ knO_ne.2.2.1)
/-- nothing but a table stands at p -/
def Fre (H : Hp) (p : Addr) : Prop := ∀ o, H p = some o → ∃ ps, o = .tbl ps
theorem Fre.of {p : Addr} (h : H p = none) : Fre H p := fun o z => by rw [h] at z; cases z
theorem Fre.back {p : Addr} (e : ExtN H H') (h : Fre H' p) : Fre H p := fun o z => Classical.byContradiction fun n => n (h o (e _ _ z fun ps y => n ⟨ps, y⟩))
theorem ExtN.upd {p : Addr} {o : HO} (e : ExtN H H') (h : Fre H p) : ExtN H (upd H' p o) := fun b u hb n => by
  have nb : b ≠ p := fun z => by
    rw [z] at hb
    obtain ⟨ps, y⟩ := h u hb
    exact n ps y
  rw [upd_ne nb]
  exact e b u hb n
theorem tabs_ex {T : List (Addr × Str)} (t : Tabs T H) (e : Ex H H') : Tabs T H' := t.ext fun b o q => e b o q
theorem tabs_upd {T : List (Addr × Str)} {p : Addr} {o : HO} (t : Tabs T H) (h1 : ∀ ps, H p ≠ some (.tbl ps)) (h2 : ∀ c q, H c = some (CodeO c q) → c ≠ p) : Tabs T (upd H p o) := fun x hx => by
  obtain ⟨ps, a, b, c⟩ := t x hx
  refine ⟨ps, by rw [upd_ne fun z => h1 ps (by rw [← z]; exact a)]; exact a, b, fun pos cv hc => ?_⟩
  obtain ⟨k, e1, e2⟩ := c pos cv hc
  exact ⟨k, e1, by rw [upd_ne (h2 k _ e2)]; exact e2⟩
theorem codeO_lst {c : Addr} {q : Str} {xs : List V} : CodeO c q ≠ .lst xs := fun z => by unfold CodeO at z; cases z
theorem tabs_updL {T : List (Addr × Str)} {p : Addr} {o : HO} {xs : List V} (t : Tabs T H) (h : H p = some (.lst xs)) : Tabs T (upd H p o) :=
  tabs_upd t (fun ps z => by rw [h] at z; cases z) fun c q hc z => codeO_lst (Option.some.inj ((by rw [← z] at h; exact hc.symm.trans h)))
/-- tuples' addresses -/
theorem tags_of : ∀ {ps : List Pairs} {xs : List V}, DpAll K H xs (ps.map eCh) → ∃ ks : Tags, xs = ks.map (fun k => V.ref k.1) ∧ ks.map (·.2) = ps ∧ ∀ k ∈ ks, Dp K H (.ref k.1) (eCh k.2)
  | [], _, h => by
    cases h
    exact ⟨[], rfl, rfl, fun k hk => by cases hk⟩
  | p :: ps, _, h => by
    cases h with
    | cons h1 t =>
      obtain ⟨ks, e1, e2, e3⟩ := tags_of t
      have h1' := h1
      obtain ⟨a, ys, rfl, _⟩ := dp_tup h1
      refine ⟨(a, p) :: ks, by rw [e1]; rfl, by rw [List.map_cons, e2], fun k hk => ?_⟩
      rcases List.mem_cons.mp hk with rfl | hk
      · exact h1'
      · exact e3 k hk
theorem of_tags : ∀ {ks : Tags}, (∀ k ∈ ks, Dp K H (.ref k.1) (eCh k.2)) → DpAll K H (ks.map fun k => V.ref k.1) ((ks.map (·.2)).map eCh)
  | [], _ => .nil
  | k :: ks, h => .cons (h k List.mem_cons_self) (of_tags fun x hx => h x (List.mem_cons_of_mem _ hx))
theorem noL_ch (c : Pairs) : noL (eCh c) = true := by simpa [noL] using noL_pairs c
end
end K26
set_option Elab.async false
set_option linter.all false
set_option maxRecDepth 100000
set_option maxHeartbeats 2000000
/-! KW7a: the key by which cheapest_row sorts. -/
namespace K26
open PySem PySem.Spec PyProof.Rows L2 Evl LamX NdefX
def whileBody : Stmt → List Stmt
  | .While _ b _ _ => b
  | _ => []
def asgVal : Stmt → Expr
  | .Assign _ v _ => v
  | _ => .Name "x" ⟨0, 0, 0, 0⟩
def kwOf : Expr → Expr
  | .Call _ _ (k :: _) _ => k.value
  | e => e
def lamE : Expr := kwOf (asgVal ((whileBody ((defBody s_cheapest_row).getD 2 (.Pass ⟨0, 0, 0, 0⟩))).getD 0 (.Pass ⟨0, 0, 0, 0⟩)))
def laP : Arguments := match lamE with
  | .Lambda p _ _ _ => p
  | _ => defArgs s_cheapest_row
def laB : Expr := match lamE with
  | .Lambda _ b _ _ => b
  | e => e
def laS : Scope := match lamE with
  | .Lambda _ _ s _ => s
  | _ => defScope s_cheapest_row
theorem sc_key : NScope ["pairs", "known"] ["pairs"] ["known"] laS := ⟨rfl, rfl, rfl, by decide +kernel, rfl, by decide +kernel, by decide +kernel, by decide +kernel, by decide +kernel⟩
theorem d_knget {K : PySem.W.Frag} {P : Program} {w : World} {σ : L2.St} {H : Hp} {i j : Nat} {d b : Addr} {l : List KEnt} {st : Pairs} {e : KEnt} (h1 : σ[i]? = some (some (.ref d))) (h2 : σ[j]? = some (some (.ref b))) (kn : KnH K P w H d l) (hb : Dp K H (.ref b) (eCh st)) (he : kAt l st = some e) :
    EvD K (tKnGet K P w (tVar i) (tVar j)) σ H (eStrs e.row) := fun H1 ex Q q => ⟨.ref d, h1, .ref b, h2, d, l, b, st, e, rfl, rfl, kn.ex ex, dp_ex ex _ _ hb, he, q _ H1 (Ex.refl _) ((kn.ex ex).each e (kAt_some he).1).2⟩
section
variable {P : Program} {w : World} {K : PySem.W.Frag} {mg : Str → Option Value} {base : Heap}
theorem lo_key (T : TX K mg) (q : Str) (cl : List (Str × Addr)) (f c' : Addr) : LOk P w K mg base CX0 2 f ⟨q, laP, laB, laS, cl, c'⟩ ["pairs"] ["known"] (spKey K P w) := by
  refine lok_of sc_key (fun pm ctv us hl => match us, hl with | [_], _ => rfl) (fun ws vs H Q E h => by obtain ⟨d, l, b, st, e, _, rfl, _⟩ := h; rfl) fun A outer s H vs ws Q E hr hl h => ?_
  refine ⟨_, (pe_call (ok_size_in T) (hr.mono (by decide)) rfl T.size_in.g T.size_in.F.kp (bd_size_in T.size_in.F) .nil pass0 (pa_cons (pe_knget K P w hr.units (pv 1) (pv 0) (fun _ _ => rfl)) pa_nil)), ?_⟩
  obtain ⟨d, l, b, st, e, rfl, rfl, kn, hb, he, h1, h2, hQ⟩ := h
  refine d_call (K := K) (f := pSize) (ds := [eStrs e.row]) (d := .int (sizeR e.row)) (ds_cons (d_knget (i := 1) (j := 0) rfl rfl kn hb he) ds_nil) ⟨e.row, rfl, h1, h2, rfl⟩ H (Ex.refl H) _ fun v H2 e2 w2 => hQ v H2 e2 (dp_int w2)
end
end K26
set_option Elab.async false
set_option linter.all false
set_option maxRecDepth 100000
set_option maxHeartbeats 2000000
/-! KW7b: the loops' words of cheapest_row. -/
namespace K26
open PySem PySem.Spec PyProof.Rows L2 Evl LamX NdefX
abbrev tb (Pt : Addr) : List (Addr × Str) := [(Pt, "cheapest_row.<locals>.<lambda>")]
/-- few pairs -/
structure Few (cs : List Code) (U : Pairs) : Prop where
  nd : U.Nodup
  len : U.length ≤ 9
  sub : ∀ c ∈ cs, ∀ p ∈ pairsOf c, p ∈ U
  each : ∀ c ∈ cs, (pairsOf c).length ≤ 3
  words : ∀ c ∈ cs, c.1.length ≤ 1000
section
variable {ws : List Wish} {fr : List Str} {cs : List Code} {U : Pairs}
theorem Rch.from_ {st : Pairs} {row : List Str} (h : Rch ws fr cs st row) : ∀ p ∈ st, ∃ c ∈ cs, p ∈ pairsOf c := by
  induction h with
  | nil => intro p hp; cases hp
  | @cons st row c h hc _ _ ih =>
    intro p hp
    rcases mem_step.mp hp with hp | hp
    · exact ih p hp
    · exact ⟨c, hc, hp⟩
theorem Rch.okP (co : ∀ c ∈ cs, CodeOk c) {st : Pairs} {row : List Str} (h : Rch ws fr cs st row) : PairsOk st := fun p hp => by
  obtain ⟨c, hc, hp⟩ := h.from_ p hp
  obtain ⟨q, hq, rfl⟩ := List.mem_map.mp hp
  exact ⟨((co c hc).gives.marks q hq).1.lt, (co c hc).kind.lt⟩
theorem Rch.st9 (f : Few cs U) {st : Pairs} {row : List Str} (h : Rch ws fr cs st row) : st.length ≤ 9 := by
  have := nd_leP h.can.nd (h.sub f.sub)
  have := f.len
  omega
theorem Rch.row9 (f : Few cs U) {st : Pairs} {row : List Str} (h : Rch ws fr cs st row) : row.length ≤ 9 := Nat.le_trans h.len (h.st9 f)
theorem Rch.long (f : Few cs U) {st : Pairs} {row : List Str} (h : Rch ws fr cs st row) : ∀ x ∈ row, x.length ≤ 1000 := fun x hx => by
  obtain ⟨c, hc, rfl⟩ := List.mem_map.mp (h.words x hx)
  exact f.words c hc
theorem Dij.few {l : List KEnt} {opn : List Pairs} {u : Option Pairs} {done : List Code} (D : Dij ws fr cs l opn u done) (f : Few cs U) : l.length ≤ 512 := by
  have q := states_few f.nd D.lnd fun st hst => by
    obtain ⟨e, he, rfl⟩ := List.mem_map.mp hst
    exact ⟨(D.rch e he).can, (D.rch e he).sub f.sub⟩
  rw [List.length_map] at q
  have : 2 ^ U.length ≤ 2 ^ 9 := Nat.pow_le_pow_right (by decide) f.len
  omega
theorem Dij.ole {l : List KEnt} {opn : List Pairs} {u : Option Pairs} {done : List Code} (D : Dij ws fr cs l opn u done) : opn.length ≤ l.length := by
  have q := nd_leP D.ond D.sub
  rw [List.length_map] at q
  exact q
theorem filter_len {α : Type} [DecidableEq α] {x : α} : ∀ {l : List α}, l.Nodup → x ∈ l → (l.filter fun y => decide (y ≠ x)).length + 1 = l.length
  | y :: l, nd, h => by
    obtain ⟨n1, n2⟩ := List.nodup_cons.mp nd
    rw [List.filter_cons]
    by_cases e : y = x
    · subst e
      rw [if_neg (by simp), List.filter_eq_self.mpr fun (z : α) hz => (decide_eq_true (p := z ≠ y) fun q => n1 (by rw [← q]; exact hz))]
      rfl
    · rw [if_pos (decide_eq_true e)]
      rcases List.mem_cons.mp h with rfl | h
      · exact absurd rfl e
      · have := filter_len n2 h
        rw [List.length_cons, List.length_cons]
        omega
/-- the measure over a put -/
theorem Dij.meas {l : List KEnt} {opn : List Pairs} {eu n : KEnt} {done : List Code} (D : Dij ws fr cs l opn (some eu.st) done) (nr : Rch ws fr cs n.st n.row) (hlt : ∀ e ∈ l, e.st = n.st → sizeR n.row < sizeR e.row) :
    (opn.filter (fun st => decide (st ≠ n.st)) ++ [n.st]).length + l.length = opn.length + (kPut l n).length := by
  have hk := congrArg List.length (kPut_keys l n)
  rw [List.length_map] at hk
  rw [List.length_append, List.length_singleton]
  by_cases h : n.st ∈ l.map (·.st)
  · rw [if_pos h, List.length_map] at hk
    obtain ⟨e, he, hs⟩ := List.mem_map.mp h
    have ho := D.isOpen nr he hs (hlt e he hs)
    rw [hs] at ho
    have := filter_len D.ond ho
    omega
  · rw [if_neg h, List.length_append, List.length_map, List.length_singleton] at hk
    rw [List.filter_eq_self.mpr fun (st : Pairs) hst => (decide_eq_true (p := st ≠ n.st) fun z => h (by rw [← z]; exact D.sub st hst))]
    omega
end
theorem Dij.first {ws : List Wish} {fr : List Str} {cs : List Code} {ka ra : Addr} : Dij ws fr cs [⟨[], ka, ra, []⟩] [[]] none [] := by
  refine ⟨fun e he => ?_, List.mem_singleton.mpr rfl, fun st hst => by rw [List.mem_singleton.mp hst]; exact List.mem_singleton.mpr rfl, by simp, by simp, fun e he ho => ?_, fun st hst => by cases hst⟩
  · obtain rfl := List.mem_singleton.mp he
    exact .nil
  · obtain rfl := List.mem_singleton.mp he
    exact absurd (List.mem_singleton.mpr rfl) ho
/-- what stands at the loops' heads -/
structure StI (K : PySem.W.Frag) (P : Program) (w : World) (ws : List Wish) (fr : List Str) (cs : List Code) (Pt : Addr) (H0 H : Hp) (d wa : Addr) (l : List KEnt) (opn : List Pairs) (u : Option Pairs) (done : List Code) : Prop where
  n : ExtN H0 H
  t : Tabs (tb Pt) H
  kn : KnH K P w H d l
  w : ∃ xs, H wa = some (.lst xs) ∧ DpAll K H xs (opn.map eCh)
  D : Dij ws fr cs l opn u done
  fd : H0 d = none
section
variable {K : PySem.W.Frag} {P : Program} {w : World} {ws : List Wish} {fr : List Str} {cs : List Code} {U : Pairs} {Pt : Addr} {H0 H H' : Hp} {d wa : Addr} {l : List KEnt} {opn : List Pairs} {u : Option Pairs} {done : List Code}
theorem StI.ex (I : StI K P w ws fr cs Pt H0 H d wa l opn u done) (e : Ex H H') : StI K P w ws fr cs Pt H0 H' d wa l opn u done :=
  ⟨I.n.trans (ExtN.of e), tabs_ex I.t e, I.kn.ex e, by
    obtain ⟨xs, h1, h2⟩ := I.w
    exact ⟨xs, e _ _ h1, dpAll_ex e _ _ h2⟩, I.D, I.fd⟩
theorem tot_int (f : Addr × Pairs → Int) (l : Tags) : (l.mergeSort (PySem.W.dataLe false fun k => .int (f k))).Pairwise fun a b => f a ≤ f b := by
  rw [PySem.W.dataLe_int]
  have := List.pairwise_mergeSort (le := fun a b => decide (f a ≤ f b)) (fun a b c h1 h2 => by
    rw [decide_eq_true_eq] at h1 h2 ⊢
    omega) (fun a b => by
    rw [Bool.or_eq_true, decide_eq_true_eq, decide_eq_true_eq]
    omega) l
  exact this.imp fun h => of_decide_eq_true h
theorem s_sortpop {σ : L2.St} {tz : TS} {D : Ends} (f : Few cs U) (I : StI K P w ws fr cs Pt H0 H d wa l opn none []) (ne : opn ≠ []) (h2 : σ[2]? = some (some (.ref d))) (h3 : σ[3]? = some (some (.ref wa)))
    (k : ∀ H2 p b e opn', ExtN H0 H2 → Tabs (tb Pt) H2 → KnH K P w H2 d l → (∃ xs, H2 p = some (.lst xs) ∧ DpAll K H2 xs (opn'.map eCh)) → e ∈ l → (e.st :: opn').Perm opn → (∀ e' ∈ l, e'.st ∈ opn → sizeR e.row ≤ sizeR e'.row) →
      srt (strip l) opn = e.st :: opn' → Dp K H2 (.ref b) (eCh e.st) → tz D ((σ.set 3 (some (.ref p))).set 4 (some (.ref b))) H2) :
    tSeq (tAsg (tSortK K P w (tb Pt) 2 (tVar 3)) (gName 3)) (tSeq (tAsg (tBM K "list" rPopAt (tVar 3) (tCons (tC (.int 0)) tNil)) (gName 4)) tz) D σ H := by
  obtain ⟨xs, hwa, hx⟩ := I.w
  obtain ⟨ks, rfl, e2, hks⟩ := tags_of hx
  have ol := I.D.ole
  have lf := I.D.few f
  have kl : ks.length = opn.length := by rw [← e2, List.length_map]
  have len3 : 3 < σ.length := (List.getElem?_eq_some_iff.mp h3).1
  have inl : ∀ k ∈ ks, ∃ e ∈ l, e.st = k.2 := fun k hk => by
    have : k.2 ∈ opn := by rw [← e2]; exact List.mem_map.mpr ⟨k, hk, rfl⟩
    exact List.mem_map.mp (I.D.sub _ this)
  refine ⟨.ref wa, h3, wa, d, ks, l, fun st => ((kAt l st).map fun e => sizeR e.row).getD 0, rfl, sq_of hwa, by omega, h2, I.t, fun H1 e => ⟨I.kn.n e, fun k hk => dp_t (exT_n e) _ _ (noL_ch _) (hks k hk)⟩, fun k hk => ?_, fun H2 p ys e1 t1 fp hp hys => ?_⟩
  · obtain ⟨e, he, hs⟩ := inl k hk
    have ka := kAt_mem I.D.lnd he
    rw [hs] at ka
    have r := I.D.rch e he
    exact ⟨e, ka, Nat.le_trans (r.row9 f) (by decide), r.long f, by show ((kAt l k.2).map fun e => sizeR e.row).getD 0 = _; rw [ka]; rfl⟩
  · have pm : ys.Perm ks := by rw [hys]; exact List.mergeSort_perm _ _
    have sy : srt (strip l) opn = ys.map (·.2) := by
      rw [hys, ← e2]
      unfold srt
      refine (PySem.W.sort_maps (fun k : Addr × Pairs => k.2) fun a _ b _ => ?_).symm
      show PySem.W.dataLe false _ a b = PySem.W.dataLe false (fun st => PyData.int (szOf (strip l) st)) a.2 b.2
      have e := funext (szOf_strip l)
      rw [e]
      rfl
    have so := tot_int (fun k => ((kAt l k.2).map fun e => sizeR e.row).getD 0) ks
    rw [← hys] at so
    have yl := pm.length_eq
    cases ys with
    | nil =>
      have : opn.length ≠ 0 := fun z => ne (List.length_eq_zero_iff.mp z)
      simp at yl
      omega
    | cons y ys =>
      have pm2 : (y.2 :: ys.map (·.2)).Perm opn := by
        rw [← e2]
        exact pm.map (·.2)
      obtain ⟨e, he, hs⟩ := inl y (pm.mem_iff.mp List.mem_cons_self)
      have hkd : ∀ k ∈ y :: ys, Dp K H2 (.ref k.1) (eCh k.2) := fun k hk => dp_t (exT_n e1) _ _ (noL_ch _) (hks k (pm.mem_iff.mp hk))
      have fp0 : Fre H0 p := Fre.back I.n fp
      have g3 : (σ.set 3 (some (V.ref p)))[3]? = some (some (.ref p)) := by rw [List.getElem?_set_self len3]
      have eH : ExtN H0 (upd H2 p (.lst (ys.map fun k => V.ref k.1))) := ExtN.upd (I.n.trans e1) fp0
      have xt : ExT H2 (upd H2 p (.lst (ys.map fun k => V.ref k.1))) := ExT.put (fun xs z => by rw [hp] at z; cases z) (fun o xs z => by rw [hp] at z; cases z)
      have nd : d ≠ p := fun z => by
        have q := (I.kn.n e1).at_
        rw [z, hp] at q
        exact knO_ne.2.2.2 _ (Option.some.inj q).symm
      show tAsg (tBM K "list" rPopAt (tVar 3) (tCons (tC (V.int 0)) tNil)) (gName 4) { D with nx := tz D } (σ.set 3 (some (V.ref p))) H2
      refine ⟨.ref p, g3, .inl ⟨rfl, _, sq_of hp⟩, p, _, 0, 0, .ref y.1, rfl, rfl, hp, by decide, by decide, ?_, rfl, ?_⟩
      · show seqIndex? 0 _ = _
        rw [List.map_cons, List.length_cons]
        simp [seqIndex?]
      · refine k _ p y.1 e (ys.map (·.2)) eH (tabs_updL t1 hp) ((I.kn.n e1).t xt (by rw [upd_ne nd]; exact (I.kn.n e1).at_)) ⟨_, upd_same, ?_⟩ he (by rw [hs]; exact pm2) (fun e' he' ho => ?_) (by rw [sy, hs]; rfl) (dp_t xt _ _ (noL_ch _) (by rw [hs]; exact hkd y List.mem_cons_self))
        · exact dpAll_t xt _ _ (noLs_map fun _ _ => noL_ch _) (of_tags fun k hk => hkd k (List.mem_cons_of_mem _ hk))
        · have a1 := kAt_mem I.D.lnd he
          have a2 := kAt_mem I.D.lnd he'
          have : e'.st ∈ y.2 :: ys.map (·.2) := pm2.mem_iff.mpr ho
          rcases List.mem_cons.mp this with z | z
          · rw [ent_eq I.D.lnd he' he (z.trans hs.symm)]
            exact Int.le_refl _
          · obtain ⟨k', hk', hz⟩ := List.mem_map.mp z
            have := List.rel_of_pairwise_cons so hk'
            rw [hz, a2, ← hs, a1] at this
            exact this
end
end K26
set_option Elab.async false
set_option linter.all false
set_option maxRecDepth 100000
set_option maxHeartbeats 4000000
/-! KW7: cheapest_row. -/
namespace K26
open PySem PySem.Spec PyProof.Rows L2 Evl LamX NdefX
section
variable {P : Program} {w : World} {K : PySem.W.Frag} {mg : Str → Option Value} {base : Heap} {x qual : Str} {params : Arguments} {body : List Stmt} {scope : Scope} {dvs : List V} {kws : List (Str × V)} {f c : Addr} {fd : FuncData}
theorem ok_code {CX : CXT} {N ps : List Str} {k : Nat} {sp : Sp} (F : FunD K x qual params body scope dvs kws f fd) (hc : fd.code = .ref c) (S : FnScope N ps scope) (len : ∀ vs H Q E, sp vs H Q E → vs.length = ps.length)
    (hbody : ∀ (A : Around) (outer : List Env) (s : Shared) (H : Hp) (vs : List V) (Q : VK) (E : XK), Room k (A.deeper (envOfC qual scope s.heap.objs.size f (.ref c))) → sp vs H Q E →
      ∃ t, PSs (cxOf CX P w K mg base N qual scope f (.ref c) A outer s H E) body t ∧ t { nx := fun _ H' => Q .non H', rt := Q } (start N vs) H) : FnOk P w K mg base CX (k + 1) f fd ps sp := by
  obtain ⟨oc, od, dV, kV, doc, pm, an, cdv, ct, osl, rfl, lk, hcd, _, _⟩ := F.ex
  obtain rfl : cdv = .ref c := hc
  exact fn_of lk hcd S len fun A outer s H vs Q E hr hsp => hbody A outer s H vs Q E hr hsp
end
/-- what it answers -/
def eOR : Option (List Str) → PyData
  | none => .none
  | some r => eStrs r
def Found (ws : List Wish) (fr : List Str) (cs : List Code) : Option (List Str) → Prop
  | none => ∀ st row, Rch ws fr cs st row → isDone ws st = false
  | some row => ∃ st, Rch ws fr cs st row ∧ isDone ws st = true ∧ ∀ st' row', Rch ws fr cs st' row' → isDone ws st' = true → sizeR row ≤ sizeR row'
def Cheap (K : PySem.W.Frag) (ws : List Wish) (fr : List Str) (cs : List Code) (v : V) (H : Hp) : Prop :=
  ∃ r, Dp K H v (eOR r) ∧ Run ws fr cs [([], [])] [[]] r ∧ Found ws fr cs r
def spCheap (K : PySem.W.Frag) (W cT Pt : Addr) : Sp := fun vs H Q E => ∃ b ws fr vb self, vs = [vb, self] ∧ Dp K H vb (eBook b) ∧ isW K W ws fr self H ∧ WsOk ws ∧ Tabs (tb Pt) H ∧ (∀ c ∈ b.codes, CodeOk c) ∧
  ((10 < b.codes.length ∧ b.codes.length ≤ 100 ∧ ∀ d H', H d = none → Ex H H' → H' d = some (.xd [("most", .int 10)]) → E (.ref cT) (some d) H') ∨
   (b.codes.length ≤ 10 ∧ (∃ U, Few b.codes U) ∧ ∀ v H', ExtN H H' → Tabs (tb Pt) H' → Cheap K ws fr b.codes v H' → Q v H'))
theorem n_catL {K : PySem.W.Frag} {σ : L2.St} {H : Hp} {ta tb : TE} {ds es : List PyData} (ha : EvN K ta σ H ds) (hb : EvN K tb σ H es) (hl : ds.length + es.length ≤ 100000) : EvN K (tOp rCat ta tb) σ H (ds ++ es) := fun H1 e Q q =>
  ha H1 e _ fun v H2 e2 ⟨p, xs, hv, hn, hp, hx⟩ => hb H2 (e.trans e2) _ fun u H3 e3 ⟨p2, ys, hu, hn2, hp2, hy⟩ => ⟨p, p2, xs, ys, hv, hu, e3 _ _ hp, hp2, by
    rw [hx.len, hy.len]
    exact Nat.le_trans hl (by decide), fun t ht => q _ _ ((e2.trans e3).trans (Ex.new ht)) ⟨t, _, rfl, fresh_back ((e.trans e2).trans e3) ht, upd_same, DpAll.app (dpAll_ex (e3.trans (Ex.new ht)) _ _ hx) (dpAll_ex (Ex.new ht) _ _ hy)⟩⟩
theorem d_isdone {K : PySem.W.Frag} {W : Addr} {ws : List Wish} {fr : List Str} {st : Pairs} {σ : L2.St} {H : Hp} {i j : Nat} {self v : V} (h1 : σ[i]? = some (some self)) (h2 : σ[j]? = some (some v)) (hW : isW K W ws fr self H) (wo : WsOk ws) (ps : PairsOk st) (hv : Dp K H v (eCh st)) :
    EvD K (tCall (spDone K W) [] E0 (tCons (tVar i) (tCons (tVar j) tNil))) σ H (.bool (isDone ws st)) := fun H1 e Q q =>
  ⟨self, h1, v, h2, ws, fr, st, self, v, rfl, hW.ex e, wo, ps, dp_ex e _ _ hv, fun v' H' e' w => q v' H' e' w⟩
theorem d_stands {K : PySem.W.Frag} {W : Addr} {ws : List Wish} {fr : List Str} {st : Pairs} {c : Code} {σ : L2.St} {H : Hp} {i j k : Nat} {self v y : V} (h1 : σ[i]? = some (some self)) (h2 : σ[j]? = some (some y)) (h3 : σ[k]? = some (some v)) (hW : isW K W ws fr self H) (wo : WsOk ws) (co : CodeOk c) (ps : PairsOk st)
    (hy : Dp K H y (eCode c)) (hv : Dp K H v (eCh st)) : EvD K (tMeth W "may_stand" (spStand K W) [] E0 (tVar i) (tCons (tVar j) (tCons (tVar k) tNil))) σ H (.bool (mayStand ws fr c st)) :=
  p_meth (p_var h1 isW_mono hW) (ds_cons (d_var h2 hy) (ds_cons (d_var h3 hv) ds_nil)) fun self' vs H2 e2 hw hv Q E q => ⟨ws, fr, c, st, self', vs ++ [], rfl, hw, wo, co, ps, by
    rw [List.append_nil]
    exact hv, q⟩
theorem noL_book (b : Bk) : noL (eBook b) = true := by
  show noL (.tuple [eStrs b.asps, eStrs b.shown, eCodes b.codes]) = true
  simp only [noL, noLs, Bool.and_true, Bool.and_eq_true]
  exact ⟨noLs_map fun _ _ => rfl, noLs_map fun _ _ => rfl, noLs_map fun c _ => noL_code c⟩
theorem shaped_chs {ps : List Pairs} (h : ∀ st ∈ ps, PairsOk st) : SeqAt.shaped (.list (ps.map eCh)) = true := by
  have o : ∀ st ∈ ps, okD (eCh st) := fun st hst => okD_ch (h st hst)
  refine okD.shaped ⟨lay_map fun st hst => (o st hst).1, ?_⟩
  have dp : ∀ st : Pairs, (eCh st).depth ≤ 2 := fun st => by
    have := depth_map (e := ePair) (l := st) (n := 1) fun p _ => by rw [pair_depth]; exact Nat.le_refl _
    show PyData.depthAll (st.map ePair) + 1 ≤ 2
    omega
  have := depth_map (e := eCh) (l := ps) (n := 2) fun st _ => dp st
  show PyData.depthAll (ps.map eCh) + 1 ≤ 10
  omega
theorem fr_key : ∀ y ∈ laS.names, y.2 = .free → (defScope s_cheapest_row).names.lookup y.1 = some .cell ∨ (defScope s_cheapest_row).names.lookup y.1 = some .free := by decide +kernel
section
variable {P : Program} {w : World} {K : PySem.W.Frag} {mg : Str → Option Value} {base : Heap} {c Pt : Addr}
theorem ok_cheapest (T : TX K mg) (Y : SX K mg) (hc : T.cheapest_row.fd.code = .ref c) (TB : TabB base mg c Pt) : FnOk P w K mg base (CX P w) 8 T.cheapest_row.f T.cheapest_row.fd ["book", "wanted"] (spCheap K T.W T.xTooMany.C Pt) := by
  refine ok_code T.cheapest_row.F hc sc_cheapest_row (fun vs H Q E h => by obtain ⟨b, ws, fr, vb, self, rfl, _⟩ := h; rfl) (fun A outer s H vs Q E hr h => ?_)
  obtain ⟨tk_MOST_CODES_rows, gi_MOST_CODES_rows⟩ := T.i_MOST_CODES_rows
  refine ⟨_, (pss_cons (ps_if (pt_cmpR op_gt (qLen K T.b_len (pe_ix (ixT K) (pv 0) pe_int (fun _ _ => rfl))) (pe_glob rfl gi_MOST_CODES_rows (v := .int 10) ⟨_, rfl⟩) (nomark _)) (pss_one (psRaise rfl (takes_of rfl rfl rfl rfl) (pmk_oex T.xTooMany.low T.xTooMany.ini T.xTooMany.ty (ok_ini2 T.xTooMany Y.g Y.c) (hr.mono (by decide)) (bd_TooMany_init T.xTooMany.F) .nil pass0 rfl T.xTooMany.g (pa_cons (pe_glob rfl gi_MOST_CODES_rows (v := .int 10) ⟨_, rfl⟩) pa_nil)))) pss_nil) (pss_cons (ps_asg (pe_tup (pa_cons (pe_kn0 K P w hr.units (pps_cons (pe_tup pa_nil) (pe_tup pa_nil) pps_nil)) (pa_cons (pe_lst (pa_cons (pe_tup pa_nil) pa_nil)) pa_nil))) (pg_tup rfl (pgs_cons (pg_name (i := 2) sc_cheapest_row.nd rfl (Or.inr rfl)) (pgs_cons (pg_name (i := 3) sc_cheapest_row.nd rfl (Or.inl rfl)) pgs_nil)))) (pss_cons (ps_while (passes_of rfl) (pt_cmpR (opNe K hr.units) (pv 3) (pe_lst pa_nil) (nomark _)) (pss_cons (ps_set (i := 3) sc_cheapest_row.nd rfl (Or.inl rfl) (pe_sortK (T := tb Pt) (i := 2) (k := 2) rfl rfl rfl rfl (hr.mono (by decide)) (by rfl) T.b_sorted TB rfl (List.mem_singleton.mpr rfl) (fun p hp _ => by rw [List.mem_singleton.mp hp]; rfl) rfl (fun ok y hy e => (fr_key y hy e).elim (fun z => ok.has _ (.inl z)) fun z => ok.has _ (.inr z)) (fun ok => Caps.made ok fr_key (by decide +kernel) rfl) (fun f c2 => lo_key T _ _ f c2) (pv 3))) (pss_cons (ps_set (i := 4) sc_cheapest_row.nd rfl (Or.inl rfl) (pe_bm PySem.F.plainAttrs_list PySem.F.slot_list_pop PySem.F.type_list_pop mt_popAt (pv 3) (pa_cons pe_int pa_nil))) (pss_cons (ps_if (pt_val (pe_call (ok_is_done T) (hr.mono (by decide)) rfl T.is_done.g T.is_done.F.kp (bd_is_done T.is_done.F) .nil pass0 (pa_cons (pv 1) (pa_cons (pv 4) pa_nil)))) (pss_one (ps_ret (pe_knget K P w hr.units (pv 2) (pv 4) (fun _ _ => rfl)))) pss_nil) (pss_one (ps_for (passes_of rfl) rfl (piT K (pe_ix (ixT K) (pv 0) pe_int (fun _ _ => rfl))) (pg_name (i := 5) sc_cheapest_row.nd rfl (Or.inl rfl)) (pss_cons (ps_set (i := 6) sc_cheapest_row.nd rfl (Or.inr rfl) (qTup K T.b_tuple (pe_callB (cr_srtS rfl hr.units) rfl T.b_sorted PyProof.Rows.boot_sorted (pa_cons (pe_op (op_orS hr.units) (pe_callTy (cr_setOf rfl hr.units) rfl T.b_set PyProof.Rows.boot_set (pa_cons (pv 4) pa_nil)) (pe_callTy (cr_setOf rfl hr.units) rfl T.b_set PyProof.Rows.boot_set (pa_cons (pe_call (ok_pairs_of T) (hr.mono (by decide)) rfl T.pairs_of.g T.pairs_of.F.kp (bd_pairs_of T.pairs_of.F) .nil pass0 (pa_cons (pv 5) pa_nil)) pa_nil))) pa_nil)))) (pss_cons (ps_set (i := 7) sc_cheapest_row.nd rfl (Or.inl rfl) (pe_tup (pa_cons (pe_ix (ixT K) (pv 5) pe_int (fun _ _ => rfl)) (paStar K (pe_knget K P w hr.units (pv 2) (pv 4) (fun _ _ => rfl)) pa_nil)))) (pss_one (ps_if (PW.pt (pw_and (pt_val (pe_meth (pv 1) T.clsW T.may_stand.m (ok_may_stand T) (hr.mono (by decide)) (bd_Wanted_may_stand T.may_stand.F) .nil pass0 (pa_cons (pv 5) (pa_cons (pv 4) pa_nil)))) (pw_and1 (pt_cmpR (opNe K hr.units) (pv 6) (pv 4) (nomark _))))) (pss_one (ps_if (PW.pt (pw_or (pt_cmpR (opKnNi K P w hr.units) (pv 6) (pv 2) rfl) (pw_or1 (pt_cmpR op_lt (pe_call (ok_size_in T) (hr.mono (by decide)) rfl T.size_in.g T.size_in.F.kp (bd_size_in T.size_in.F) .nil pass0 (pa_cons (pv 7) pa_nil)) (pe_call (ok_size_in T) (hr.mono (by decide)) rfl T.size_in.g T.size_in.F.kp (bd_size_in T.size_in.F) .nil pass0 (pa_cons (pe_knget K P w hr.units (pv 2) (pv 6) (fun _ _ => rfl)) pa_nil)) (nomark _))))) (pss_cons (ps_knput K P w hr.units (pv 2) (pv 6) (pv 7)) (pss_one (ps_set (i := 3) sc_cheapest_row.nd rfl (Or.inl rfl) (pe_op op_cat (pe_lc (own := [("pairs", 8)]) rfl sc_cheapest_row.nd (piL K (pv 3)) (blkOk_by (N := ["book", "wanted", "known", "waiting", "settled", "code", "behind", "row", "pairs"]) (sc := defScope s_cheapest_row) (by decide +kernel)) (fun _ _ _ _ _ => (pg_name (i := 8) sc_cheapest_row.nd rfl (Or.inl rfl))) (fun _ _ _ _ _ => (pts_one (pt_cmpR (opNe K hr.units) (pv 8) (pv 6) (nomark _)))) (fun _ _ _ _ _ => (pv 8))) (pe_lst (pa_cons (pv 6) pa_nil)))))) pss_nil)) pss_nil)))))))))) (pss_one (ps_ret pe_non))))), ?_⟩
  obtain ⟨b, ws, fr, vb, self, rfl, hb, hW, wo, hT, co, hk⟩ := h
  rcases hk with ⟨hm, hl, hE⟩ | ⟨hl, ⟨U, few⟩, hQ⟩
  · refine s_ifT (t_of (K := K) (d_is (d_gt (d_lenT (d_ixT (d_var (i := 0) rfl hb) d_int (atI_of (j := 2) rfl))) d_int) (by rw [List.length_map, decide_eq_true (by omega)]))) fun H1 e1 => ?_
    exact mkO_of T.xTooMany.low T.xTooMany.noat (fun Q' q => q H1 (Ex.refl H1)) fun d H' hn he hx => hE d H' (fresh_back e1 hn) (e1.trans he) hx
  · refine s_ifF (t_of (K := K) (d_is (d_gt (d_lenT (d_ixT (d_var (i := 0) rfl hb) d_int (atI_of (j := 2) rfl))) d_int) (by rw [List.length_map, decide_eq_false (by omega)]))) fun H1 e1 => ?_
    have hb := dp_ex e1 _ _ hb
    have hW := hW.ex e1
    have hT := tabs_ex hT e1
    have hQ : ∀ v H', ExtN H1 H' → Tabs (tb Pt) H' → Cheap K ws fr b.codes v H' → Q v H' := fun v H' e => hQ v H' ((ExtN.of e1).trans e)
    clear e1
    intro d hd
    refine (d_tup (K := K) ds_nil (by decide) : EvD K (tTup tNil) _ _ (.tuple [])) _ (Ex.refl _) _ fun y H2 e2 hy => ?_
    refine (d_tup (K := K) ds_nil (by decide) : EvD K (tTup tNil) _ _ (.tuple [])) _ (Ex.refl _) _ fun z H3 e3 hz => ?_
    obtain ⟨ka, _, rfl, _⟩ := id (dp_tup hy)
    obtain ⟨ra, _, rfl, _⟩ := id (dp_tup hz)
    have hy3 := dp_ex e3 _ _ hy
    have hd3 : H3 d = some (KnO P w d []) := (e2.trans e3) d _ upd_same
    have nty : ∀ xs, H3 d ≠ some (.tup xs) := fun xs q => by rw [hd3] at q; exact knO_ne.1 _ (Option.some.inj q)
    have ntf : ∀ o xs, H3 d ≠ some (.frz o (.tup xs)) := fun o xs q => by rw [hd3] at q; exact knO_ne.2.1 _ _ (Option.some.inj q)
    refine ⟨⟨[], ka, ra, []⟩, rfl, hd3, hy3, ?_⟩
    have kn4 : KnH K P w (upd H3 d (KnO P w d [⟨[], ka, ra, []⟩])) d [⟨[], ka, ra, []⟩] := ⟨upd_same, fun e he => by
      obtain rfl := List.mem_singleton.mp he
      exact ⟨dp_t (ExT.put nty ntf) _ _ rfl hy3, dp_t (ExT.put nty ntf) _ _ rfl hz⟩, by simp, by simp⟩
    have e4 : Ex H1 (upd H3 d (KnO P w d [⟨[], ka, ra, []⟩])) := fun a o h => by
      have na : a ≠ d := fun q => by rw [q, hd] at h; cases h
      rw [upd_ne na]
      exact (e2.trans e3) a o (by rw [upd_ne na]; exact h)
    refine (n_lst (K := K) (ds_cons (d_tup ds_nil (by decide)) ds_nil) (by decide)) _ (Ex.refl _) _ fun u H5 e5 hu => ?_
    obtain ⟨wa, xs, rfl, hn5, hwa, hxs⟩ := hu
    refine ⟨by show (2 : Nat) ≤ sizeLine; decide, fun t ht => ?_⟩
    have e6 := e5.trans (Ex.new (o := .tup [V.ref d, V.ref wa]) ht)
    refine ⟨t, _, rfl, st_of upd_same, rfl, _, _, rfl, _, _, rfl, rfl, ?_⟩
    have I0 : StI K P w ws fr b.codes Pt H1 (upd H5 t (.tup [V.ref d, V.ref wa])) d wa [⟨[], ka, ra, []⟩] [[]] none [] := ⟨ExtN.of (e4.trans e6), tabs_ex hT (e4.trans e6), kn4.ex e6, ⟨xs, (Ex.new ht) _ _ hwa, dpAll_ex (Ex.new ht) _ _ hxs⟩, Dij.first, hd⟩
    refine q_while (fun m σ H' => ∃ wa l opn o4 o5 o6 o7 o8, σ = [some vb, some self, some (.ref d), some (.ref wa), o4, o5, o6, o7, o8] ∧ StI K P w ws fr b.codes Pt H1 H' d wa l opn none [] ∧ m + l.length = 512 + opn.length ∧ ∀ r, Run ws fr b.codes (strip l) opn r → Run ws fr b.codes [([], [])] [[]] r) 512 ⟨wa, _, _, none, none, none, none, none, rfl, I0, rfl, fun _ z => z⟩ ?_
    rintro m σ' H' ⟨wa, l, opn, o4, o5, o6, o7, o8, rfl, I, hm, hrun⟩
    obtain ⟨xs, hwa, hxs⟩ := id I.w
    have opk : ∀ st ∈ opn, PairsOk st := fun st hst => by
      obtain ⟨e, he, rfl⟩ := List.mem_map.mp (I.D.sub st hst)
      exact (I.D.rch e he).okP co
    refine ⟨!PyData.eqv (.list (opn.map eCh)) (.list []), t_of (K := K) (d_ne (d_var (i := 3) rfl (.lst (sq_of hwa) hxs)) (EvN.data (n_lst ds_nil (by decide))) (shaped_chs opk) (by decide)), fun hne H2 e2 => ?_, fun heq H2 e2 => ?_⟩
    · have ne : opn ≠ [] := fun z => by rw [z] at hne; exact absurd hne (by decide)
      have I := I.ex e2
      refine ⟨fun σ' H' => ∃ m', m' < m ∧ ∃ wa l opn o4 o5 o6 o7 o8, σ' = [some vb, some self, some (.ref d), some (.ref wa), o4, o5, o6, o7, o8] ∧ StI K P w ws fr b.codes Pt H1 H' d wa l opn none [] ∧ m' + l.length = 512 + opn.length ∧ ∀ r, Run ws fr b.codes (strip l) opn r → Run ws fr b.codes [([], [])] [[]] r, fun _ _ z => z, ?_⟩
      refine s_sortpop few I ne rfl rfl fun H3 p bb e opn' n3 t3 kn3 w3 he pm hmin hsrt hbb => ?_
      have he3 := kAt_mem I.D.lnd he
      have hes : sAt (strip l) e.st = some (e.st, e.row) := by rw [sAt_strip, he3]; rfl
      have re := I.D.rch e he
      have W3 := hW.n n3
      have b3 : Dp K H3 vb (eBook b) := dp_t (exT_n n3) _ _ (noL_book b) hb
      refine Evl.s_if (b := isDone ws e.st) (t_B (d_isdone (i := 1) (j := 4) rfl rfl W3 wo (re.okP co) hbb)) (fun hdn H4 e4 => ?_) fun hdn H4 e4 => ?_
      · refine s_retP (d_knget (i := 2) (j := 4) rfl rfl (kn3.ex e4) (dp_ex e4 _ _ hbb) he3) fun v H5 e5 hv => hQ v H5 (n3.trans (ExtN.of (e4.trans e5))) (tabs_ex t3 (e4.trans e5)) ⟨some e.row, hv, hrun _ (.ans hsrt hes hdn), e.st, re, hdn, fun st' row' r dn => I.D.ans hmin r dn⟩
      · have b4 := dp_ex e4 _ _ b3
        have ol := pm.length_eq
        rw [List.length_cons] at ol
        have I4 : StI K P w ws fr b.codes Pt H1 H4 d p l opn' (some e.st) [] := (StI.mk n3 t3 kn3 w3 (I.D.pop he pm hmin hdn) I.fd).ex e4
        refine s_forT (l := b.codes) (w_tupT (f := eCode) (d_ixT (d_var (i := 0) rfl b4) d_int (atI_of (j := 2) rfl)) fun c _ => noL_code c) (fun i σ' H' => ∃ wa l' opn'' o5 o6 o7 o8, σ' = [some vb, some self, some (.ref d), some (.ref wa), some (.ref bb), o5, o6, o7, o8] ∧ StI K P w ws fr b.codes Pt H1 H' d wa l' opn'' (some e.st) (b.codes.take i) ∧ e ∈ l' ∧ opn''.length + l.length + 1 = l'.length + opn.length ∧ (strip l', opn'') = (b.codes.take i).foldl (relax ws fr e.st e.row) (strip l, opn'))
          (fun H5 e5 => ⟨p, l, opn', _, _, _, _, rfl, I4.ex e5, he, by omega, rfl⟩) ?_ ?_
        · rintro Hb eb i c σ' H5 x H6 hci xt ⟨wa5, l5, opn5, o5, o6, o7, o8, rfl, I5, he5, hm5, hfold⟩ e6 hx
          have hcm : c ∈ b.codes := List.mem_of_getElem? hci
          have tk : b.codes.take (i + 1) = b.codes.take i ++ [c] := by rw [List.take_add_one, hci]; rfl
          have fskip : (mayStand ws fr c e.st = true → stepOf e.st c ≠ e.st → ¬ Better (strip l5) (stepOf e.st c) (c.1 :: e.row)) → (strip l5, opn5) = (b.codes.take (i + 1)).foldl (relax ws fr e.st e.row) (strip l, opn') := fun h => by
            rw [tk, List.foldl_append, ← hfold]
            exact (relax_skip h).symm
          have bb5 : Dp K H6 (.ref bb) (eCh e.st) := dp_ex e6 _ _ (dp_t xt _ _ (noL_ch _) (dp_ex eb _ _ (dp_ex e4 _ _ hbb)))
          have I6 := I5.ex e6
          have ke := kAt_mem I6.D.lnd he5
          have st9 := re.st9 few
          have row9 := re.row9 few
          have c3 := few.each c hcm
          have cl3 : c.2.2.length ≤ 3 := by simpa [pairsOf] using c3
          refine s_setP (d_behind (P := P) (w := w) (d_var (i := 4) rfl bb5) (n_call (ds_cons (d_var (i := 5) rfl hx) ds_nil) ⟨c, rfl, by omega, rfl⟩) st9 c3 re.can.nd) fun v6 H7 e7 h6 => ?_
          have x7 := dp_ex e7 _ _ hx
          have bb7 := dp_ex e7 _ _ bb5
          have I7 := I6.ex e7
          refine s_setP (d_is (d_tup (ds_cons (d_ixT (d_var (i := 5) rfl x7) d_int (atI_of (j := 0) rfl)) (ds_star (d_knget (i := 2) (j := 4) rfl rfl I7.kn bb7 ke) ds_nil)) (by rw [List.append_nil, List.length_cons, List.length_map]; omega)) (d' := eStrs (c.1 :: e.row)) (by rw [List.append_nil]; rfl)) fun v7 H8 e8 h7 => ?_
          have x8 := dp_ex e8 _ _ x7
          have bb8 := dp_ex e8 _ _ bb7
          have h6 := dp_ex e8 _ _ h6
          have I8 := I7.ex e8
          have W8 := hW.n I8.n
          have cp := co c hcm
          have ps := re.okP co
          have stepR : mayStand ws fr c e.st = true → stepOf e.st c ≠ e.st → Rch ws fr b.codes (stepOf e.st c) (c.1 :: e.row) := fun h1 h2 => .cons re hcm h1 h2
          have x58 : ExT Hb H8 := xt.trans (exT_of ((e6.trans e7).trans e8))
          have psn : PairsOk (stepOf e.st c) := fun q hq => by
            rcases mem_step.mp hq with hq | hq
            · exact ps q hq
            · obtain ⟨r, hr, rfl⟩ := List.mem_map.mp hq
              exact ⟨(cp.gives.marks r hr).1.lt, cp.kind.lt⟩
          refine Evl.s_if (b := mayStand ws fr c e.st && !decide (stepOf e.st c = e.st)) (et_and (t_B (d_stands (i := 1) (j := 5) (k := 4) rfl rfl rfl W8 wo cp ps x8 bb8)) fun _ => t_of (K := K) (d_is (d_ne (d_var (i := 6) rfl h6) (d_var (i := 4) rfl bb8) (okD_ch psn).shaped (okD_ch ps).shaped) (by rw [eqv_ch]))) (fun hb1 H9 e9 => ?_) fun hb1 H9 e9 => ?_
          · obtain ⟨hm1, hne1⟩ := Bool.and_eq_true_iff.mp hb1
            have hne1 : stepOf e.st c ≠ e.st := fun z => by rw [z] at hne1; simp at hne1
            have nr := stepR hm1 hne1
            have h69 := dp_ex e9 _ _ h6
            have h79 := dp_ex e9 _ _ h7
            have I9 := I8.ex e9
            obtain ⟨kb, _, rfl, _⟩ := id (dp_tup h69)
            obtain ⟨rb, _, rfl, _⟩ := id (dp_tup h79)
            have len2 : ∀ r : List Str, (∃ st, Rch ws fr b.codes st r) → r.length ≤ 1000 ∧ ∀ x ∈ r, x.length ≤ 1000 := fun r ⟨st, h⟩ => ⟨Nat.le_trans (h.row9 few) (by decide), h.long few⟩
            have lt2 : ∀ e', kAt l5 (stepOf e.st c) = some e' → EvT (tTest (tOp rLt (tCall (SpD K pSize) [] E0 (tCons (tVar 7) tNil)) (tCall (SpD K pSize) [] E0 (tCons (tKnGet K P w (tVar 2) (tVar 6)) tNil)))) [some vb, some self, some (.ref d), some (.ref wa5), some (.ref bb), some x, some (.ref kb), some (.ref rb), o8] H9 (decide (sizeR (c.1 :: e.row) < sizeR e'.row)) := fun e' hk' => by
              have hm' := kAt_some hk'
              have r' := I9.D.rch e' hm'.1
              exact t_of (K := K) (d_lt (d_call (ds_cons (d_var (i := 7) rfl h79) ds_nil) ⟨_, rfl, (len2 _ ⟨_, nr⟩).1, (len2 _ ⟨_, nr⟩).2, rfl⟩) (d_call (ds_cons (d_knget (i := 2) (j := 6) rfl rfl I9.kn h69 hk') ds_nil) ⟨_, rfl, (len2 _ ⟨_, r'⟩).1, (len2 _ ⟨_, r'⟩).2, rfl⟩))
            have nin : EvT (tTest (tOp (rKnIn K P w true) (tVar 6) (tVar 2))) [some vb, some self, some (.ref d), some (.ref wa5), some (.ref bb), some x, some (.ref kb), some (.ref rb), o8] H9 (!(kAt l5 (stepOf e.st c)).isSome) := fun H10 e10 Q' q' => ⟨_, rfl, _, rfl, d, l5, kb, _, rfl, rfl, I9.kn.ex e10, dp_ex e10 _ _ h69, _, rfl, q' H10 (Ex.refl _)⟩
            refine Evl.s_if (b := !(kAt l5 (stepOf e.st c)).isSome || ((kAt l5 (stepOf e.st c)).map fun e' => decide (sizeR (c.1 :: e.row) < sizeR e'.row)).getD false) (et_or nin fun hz => ?_) (fun hb2 H10 e10 => ?_) fun hb2 H10 e10 => ?_
            · cases hk' : kAt l5 (stepOf e.st c) with
              | none => rw [hk'] at hz; cases hz
              | some e' => exact lt2 e' hk'
            · have I10 := I9.ex e10
              have k10 := dp_ex e10 _ _ h69
              have r10 := dp_ex e10 _ _ h79
              have hlt : ∀ e' ∈ l5, e'.st = stepOf e.st c → sizeR (c.1 :: e.row) < sizeR e'.row := fun e' he' hs' => by
                have ha := kAt_mem I10.D.lnd he'
                rw [hs'] at ha
                rw [ha] at hb2
                simpa using hb2
              have put := I10.D.put (n := ⟨stepOf e.st c, kb, rb, c.1 :: e.row⟩) he5 hcm hm1 hne1 rfl rfl hlt
              have lf := I10.D.few few
              refine ⟨_, rfl, _, rfl, _, rfl, d, l5, ⟨stepOf e.st c, kb, rb, c.1 :: e.row⟩, rfl, rfl, rfl, I10.kn, k10, by omega, fun hco => ?_⟩
              have hd10 := I10.kn.at_
              have ntt : ∀ xs, H10 d ≠ some (.tup xs) := fun xs q => by rw [hd10] at q; exact knO_ne.1 _ (Option.some.inj q)
              have ntf : ∀ o xs, H10 d ≠ some (.frz o (.tup xs)) := fun o xs q => by rw [hd10] at q; exact knO_ne.2.1 _ _ (Option.some.inj q)
              have ntb : ∀ ps, H10 d ≠ some (.tbl ps) := fun xs q => by rw [hd10] at q; exact knO_ne.2.2.1 _ (Option.some.inj q)
              have ntl : ∀ xs, H10 d ≠ some (.lst xs) := fun xs q => by rw [hd10] at q; exact knO_ne.2.2.2 _ (Option.some.inj q)
              have xp : ExT H10 (upd H10 d (KnO P w d (kPut l5 ⟨stepOf e.st c, kb, rb, c.1 :: e.row⟩))) := ExT.put ntt ntf
              have kn11 : KnH K P w (upd H10 d (KnO P w d (kPut l5 ⟨stepOf e.st c, kb, rb, c.1 :: e.row⟩))) d (kPut l5 ⟨stepOf e.st c, kb, rb, c.1 :: e.row⟩) := ⟨upd_same, fun y hy => by
                rcases kPut_mem hy with hy | ⟨q1, q2, q3, q4⟩
                · exact ⟨dp_t xp _ _ (noL_ch _) (I10.kn.each y hy).1, dp_t xp _ _ (noLs_map fun _ _ => rfl) (I10.kn.each y hy).2⟩
                · refine ⟨?_, by rw [q2, q3]; exact dp_t xp _ _ (noLs_map fun _ _ => rfl) r10⟩
                  rcases q4 with q4 | ⟨z, hz, z1, z2⟩
                  · rw [q1, q4]
                    exact dp_t xp _ _ (noL_ch _) k10
                  · rw [← z1, ← z2]
                    exact dp_t xp _ _ (noL_ch _) (I10.kn.each z hz).1, put.1.lnd, by
                have := put.1.few few
                omega⟩
              obtain ⟨xs5, hw5, hx5⟩ := id I10.w
              have nwd : wa5 ≠ d := fun z => by rw [z] at hw5; exact ntl _ hw5
              have hw11 : (upd H10 d (KnO P w d (kPut l5 ⟨stepOf e.st c, kb, rb, c.1 :: e.row⟩))) wa5 = some (.lst xs5) := by rw [upd_ne nwd]; exact hw5
              have hx11 := dpAll_t xp _ _ (noLs_map fun _ _ => noL_ch _) hx5
              have k11 := dp_t xp _ _ (noL_ch _) k10
              have n11 : ExtN H1 (upd H10 d (KnO P w d (kPut l5 ⟨stepOf e.st c, kb, rb, c.1 :: e.row⟩))) := ExtN.upd I10.n (Fre.of I10.fd)
              have t11 : Tabs (tb Pt) (upd H10 d (KnO P w d (kPut l5 ⟨stepOf e.st c, kb, rb, c.1 :: e.row⟩))) := tabs_upd I10.t ntb hco
              have opl := I10.D.ole
              have opk5 : ∀ st ∈ opn5, PairsOk st := fun st hst => by
                obtain ⟨y, hy, rfl⟩ := List.mem_map.mp (I10.D.sub st hst)
                exact (I10.D.rch y hy).okP co
              refine s_setP1 (n_catL (n_lc (w_lst (l := opn5) (f := eCh) (d_var (i := 3) rfl (.lst (sq_of hw11) hx11))) (by omega) (fun st => decide (st ≠ stepOf e.st c)) eCh (fun _ _ => noL_ch _) fun st hst y H12 e12 hy => ⟨_, g_name, rfl, t_of (K := K) (d_is (d_ne (d_var (i := 8) rfl hy) (d_var (i := 6) rfl (dp_ex e12 _ _ k11)) (okD_ch (opk5 st hst)).shaped (okD_ch psn).shaped) (by rw [eqv_ch]; simp)), fun _ => d_var (i := 8) rfl hy⟩)
                (n_lst (ds_cons (d_var (i := 6) rfl k11) ds_nil) (by show (1 : Nat) ≤ 100000; decide)) (by rw [List.length_map]; have := List.length_filter_le (fun st => decide (st ≠ stepOf e.st c)) opn5; show _ + 1 ≤ _; omega)) fun u H12 e12 hu => ?_
              obtain ⟨wp, ys, rfl, _, hwp, hys⟩ := hu
              refine ⟨x58.trans ((exT_of (e9.trans e10)).trans (xp.trans (exT_of e12))), wp, _, opn5.filter (fun st => decide (st ≠ stepOf e.st c)) ++ [stepOf e.st c], _, _, _, _, rfl, ⟨n11.trans (ExtN.of e12), tabs_ex t11 e12, kn11.ex e12, ⟨ys, hwp, ?_⟩, ?_, I10.fd⟩, put.2, ?_, ?_⟩
              · rw [List.map_append]
                exact hys
              · rw [tk]
                exact put.1
              · have : (opn5.filter (fun st => decide (st ≠ stepOf e.st c)) ++ [stepOf e.st c]).length + l5.length = opn5.length + (kPut l5 ⟨stepOf e.st c, kb, rb, c.1 :: e.row⟩).length := I10.D.meas (n := ⟨stepOf e.st c, kb, rb, c.1 :: e.row⟩) nr hlt
                omega
              · rw [tk, List.foldl_append, ← hfold, sPut_strip]
                refine (relax_put (s := (strip l5, opn5)) hm1 hne1 fun e' h' => ?_).symm
                have h' : sAt (strip l5) (stepOf e.st c) = some e' := h'
                rw [sAt_strip] at h'
                obtain ⟨x', hx', rfl⟩ := Option.map_eq_some_iff.mp h'
                exact hlt x' (kAt_some hx').1 (kAt_some hx').2
            · have I10 := I9.ex e10
              obtain ⟨e', hk', hle⟩ : ∃ e', kAt l5 (stepOf e.st c) = some e' ∧ sizeR e'.row ≤ sizeR (c.1 :: e.row) := by
                cases hk' : kAt l5 (stepOf e.st c) with
                | none => rw [hk'] at hb2; cases hb2
                | some e' =>
                  rw [hk'] at hb2
                  refine ⟨e', rfl, ?_⟩
                  have hb3 : decide (sizeR (c.1 :: e.row) < sizeR e'.row) = false := by simpa using hb2
                  have := of_decide_eq_false hb3
                  omega
              have sk := I10.D.skip (c := c) he5 fun _ _ => ⟨e', (kAt_some hk').1, (kAt_some hk').2, hle⟩
              rw [← tk] at sk
              exact ⟨x58.trans (exT_of (e9.trans e10)), wa5, l5, opn5, _, _, _, _, rfl, ⟨I10.n, I10.t, I10.kn, I10.w, sk, I10.fd⟩, he5, hm5, fskip fun _ _ z => by
                have := z (e'.st, e'.row) (by rw [sAt_strip, hk']; rfl)
                have : sizeR (c.1 :: e.row) < sizeR e'.row := this
                omega⟩
          · have I9 := I8.ex e9
            have sk := I9.D.skip (c := c) he5 fun h1 h2 => by
              rw [h1, decide_eq_false h2] at hb1
              cases hb1
            rw [← tk] at sk
            exact ⟨x58.trans (exT_of e9), wa5, l5, opn5, _, _, _, _, rfl, ⟨I9.n, I9.t, I9.kn, I9.w, sk, I9.fd⟩, he5, hm5, fskip fun h1 h2 => by
              rw [h1, decide_eq_false h2] at hb1
              cases hb1⟩
        · rintro σ' H5 xt ⟨wa5, l5, opn5, o5, o6, o7, o8, rfl, I5, he5, hm5, hfold⟩
          have D5 := I5.D
          rw [List.take_length] at D5
          have lf := D5.few few
          have ol5 := D5.ole
          refine ⟨512 + opn5.length - l5.length, by omega, wa5, l5, opn5, _, _, _, _, _, rfl, ⟨I5.n, I5.t, I5.kn, I5.w, D5.close, I5.fd⟩, by omega, fun r hr => hrun r (.go hsrt hes hdn ?_)⟩
          rw [List.take_length] at hfold
          rw [← hfold]
          exact hr
    · have oe : opn = [] := by
        cases opn with
        | nil => rfl
        | cons a t => exact absurd heq (by show (!false) = false → False; decide)
      subst oe
      exact s_retP (d_non (K := K)) fun v H3 e3 hv => hQ v H3 (I.n.trans (ExtN.of (e2.trans e3))) (tabs_ex I.t (e2.trans e3)) ⟨none, hv, hrun _ .stop, fun st row r => I.D.nothing r⟩
end
end K26
set_option Elab.async false
set_option linter.all false
set_option maxRecDepth 100000
set_option maxHeartbeats 4000000
/-! KW8: shortest_row. -/
namespace K26
open PySem PySem.Spec PyProof.Rows L2 Evl LamX NdefX
theorem rise_tail {x : Str} {xs : List Str} (h : Rising (x :: xs)) : Rising xs := fun i a b h1 h2 => h (i + 1) a b h1 h2
theorem rise_all : ∀ {xs : List Str} {x : Str}, Rising (x :: xs) → ∀ y ∈ xs, sCp x < sCp y
  | [], _, _, y, hy => by cases hy
  | z :: zs, x, h, y, hy => by
    have h0 : sCp x < sCp z := h 0 x z rfl rfl
    rcases List.mem_cons.mp hy with rfl | hy
    · exact h0
    · exact List.lt_trans h0 (rise_all (rise_tail h) y hy)
theorem rise_nodup : ∀ {xs : List Str}, Rising xs → xs.Nodup
  | [], _ => .nil
  | x :: xs, h => List.nodup_cons.mpr ⟨fun hx => List.lt_irrefl _ (rise_all h x hx), rise_nodup (rise_tail h)⟩
theorem kfold_go {β : Type} : ∀ (ws acc : List (Str × β)), ((acc ++ ws).map (·.1)).Nodup → ws.foldl (fun acc q => pv2 acc q.1 q.2) acc = acc ++ ws
  | [], acc, _ => by rw [List.append_nil]; rfl
  | q :: ws, acc, h => by
    have hn : (acc.any fun p => decide (p.1 = q.1)) = false := by
      rw [List.any_eq_false]
      intro p hp hq
      rw [decide_eq_true_eq] at hq
      rw [List.map_append, List.map_cons] at h
      exact (List.nodup_append.mp h).2.2 p.1 (List.mem_map.mpr ⟨p, hp, rfl⟩) q.1 List.mem_cons_self hq
    have e : pv2 acc q.1 q.2 = acc ++ [q] := by
      unfold pv2
      rw [hn]
      rfl
    rw [List.foldl_cons, e, kfold_go ws (acc ++ [q]) (by rw [List.append_assoc]; exact h), List.append_assoc]
    rfl
theorem kfold_id {β : Type} {ws : List (Str × β)} (h : (ws.map (·.1)).Nodup) : kfold ws = ws := kfold_go ws [] h
theorem ws_ok {b : Bk} {ws : List Wish} (o : BookOk b) (h : WishOk b ws) : WsOk ws := ⟨h.few, fun q hq => ⟨(h.chain q hq).1.few, fun p hp => ⟨((h.chain q hq).1.marks p hp).1.lt, ((h.chain q hq).1.marks p hp).2.lt⟩, (o.asps _ (h.asp q hq)).lt⟩, rise_nodup h.rise⟩
def spShort (K : PySem.W.Frag) (cW cQ cT Pt : Addr) : Sp := fun vs H Q E => ∃ b vb vw vf fr, vs = [vb, vw, vf] ∧ BookOk b ∧ fr.length ≤ 1000 ∧ Dp K H vb (eBook b) ∧ Dp K H vf (eStrs fr) ∧ Tabs (tb Pt) H ∧
  ((vw = .non ∧ ∀ d H', H d = none → Ex H H' → H' d = some (.xd [("given", .non)]) → E (.ref cW) (some d) H') ∨
   ∃ ws, rWs K ws vw H ∧ WishOk b ws ∧
    ((¬ (∀ a ∈ fr, a ∈ b.asps) ∧ ∀ H', Ex H H' → E (.ref cQ) none H') ∨
     ((∀ a ∈ fr, a ∈ b.asps) ∧ Rising fr ∧ (∃ q ∈ ws, q.1 ∈ fr) ∧ ∀ H', Ex H H' → E (.ref cQ) none H') ∨
     (FreeOk b ws fr ∧ 10 < b.codes.length ∧ ∀ d H', H d = none → Ex H H' → H' d = some (.xd [("most", .int 10)]) → E (.ref cT) (some d) H') ∨
     (FreeOk b ws fr ∧ b.codes.length ≤ 10 ∧ (∃ U, Few b.codes U) ∧ ∀ v H', ExtN H H' → Tabs (tb Pt) H' → Cheap K ws fr b.codes v H' → Q v H')))
section
variable {P : Program} {w : World} {K : PySem.W.Frag} {mg : Str → Option Value} {base : Heap} {c Pt : Addr}
theorem ok_shortest (T : TX K mg) (Y : SX K mg) (Z : QX K mg) (hc : T.cheapest_row.fd.code = .ref c) (TB : TabB base mg c Pt) : FnOk P w K mg base (CX P w) 9 T.shortest_row.f T.shortest_row.fd ["book", "wishes", "free"] (spShort K T.xBadWishes.C Z.C T.xTooMany.C Pt) := by
  refine T.shortest_row.F.ok sc_shortest_row (fun vs H Q E h => by obtain ⟨b, vb, vw, vf, fr, rfl, _⟩ := h; rfl) (fun cdv A outer s H vs Q E hr h => ?_)
  obtain ⟨dn, vdn, bdn⟩ := bd_need_wishes T.need_wishes.F
  refine ⟨_, (pss_cons (ps_expr (pe_call (ok_need_wishes T Y Z) (hr.mono (by decide)) rfl T.need_wishes.g T.need_wishes.F.kp bdn vdn (passes_call (takes_of rfl rfl rfl rfl) (E := E) fun _ _ _ _ h => h) (pa_cons (pv 0) (pa_cons (pv 1) (pa_cons (pv 2) pa_nil)))))
    (pss_one (ps_ret (pe_call (ok_cheapest T Y hc TB) (hr.mono (by decide)) rfl T.cheapest_row.g T.cheapest_row.F.kp (bd_cheapest_row T.cheapest_row.F) .nil (passes_call (takes_of rfl rfl rfl rfl) (E := E) fun _ _ _ _ h => h) (pa_cons (pv 0) (pa_cons (pe_make T.wMk (ok_wInit T) (hr.mono (by decide)) rfl T.gW (bd_Wanted_init T.wF) .nil pass0 (pa_cons (pe_callTy (call_dictT rfl) rfl T.b_dict PyProof.Rows.boot_dict (pa_cons (pv 1) pa_nil)) (pa_cons (pv 2) pa_nil))) pa_nil)))))), ?_⟩
  obtain ⟨b, vb, vw, vf, fr, rfl, o, frl, hb, hf, hT, hk⟩ := h
  rcases hk with ⟨rfl, hE⟩ | ⟨ws, hw, wo, hk⟩
  · exact ⟨_, rfl, _, rfl, _, rfl, b, .none, fr, o, frl, .cons hb (.cons .non (.cons hf .nil)), .inl ⟨rfl, hE⟩⟩
  · refine ⟨_, rfl, _, rfl, _, rfl, b, eWs ws, fr, o, frl, .cons hb (.cons hw.dp (.cons hf .nil)), .inr ⟨ws, rfl, wo, ?_⟩⟩
    have go : ∀ H1, Ex H H1 → FreeOk b ws fr → ((10 < b.codes.length ∧ ∀ d H', H d = none → Ex H H' → H' d = some (.xd [("most", .int 10)]) → E (.ref T.xTooMany.C) (some d) H') ∨
        (b.codes.length ≤ 10 ∧ (∃ U, Few b.codes U) ∧ ∀ v H', ExtN H H' → Tabs (tb Pt) H' → Cheap K ws fr b.codes v H' → Q v H')) →
        tCall (spCheap K T.W T.xTooMany.C Pt) [] E (tCons (tVar 0) (tCons (tMake T.W (spWI T.W) [] E0 (tCons (tCB (rDictT K) (tCons (tVar 1) tNil)) (tCons (tVar 2) tNil))) tNil)) [some vb, some vw, some vf] H1 Q := by
      intro H1 e1 fo hk
      refine ⟨vb, rfl, ?_⟩
      refine k_dictT (p_var (i := 1) rfl rWs_mono (hw.t (exT_of e1))) H1 (Ex.refl _) _ fun p0 H2 e2 hp => ⟨vf, rfl, fun x dx hx hdx hne => ?_⟩
      obtain ⟨p, rfl, hp0, hg⟩ := hp
      rw [kfold_id (rise_nodup wo.rise)] at hg
      refine ⟨x, dx, _, _, rfl, upd_same, rfl, ?_⟩
      rw [upd_twice]
      have e3 : Ex H2 (upd (upd H2 dx (.own x)) x (.ins T.W dx [("wishes", .ref p), ("free", vf)])) := fun a u ha => by
        have n1 : a ≠ x := fun z => by rw [z, hx] at ha; cases ha
        have n2 : a ≠ dx := fun z => by rw [z, hdx] at ha; cases ha
        rw [upd_ne n1, upd_ne n2]
        exact ha
      have e13 := (e1.trans e2).trans e3
      refine ⟨b, ws, fr, vb, .ref x, rfl, dp_ex e13 _ _ hb, ⟨x, dx, p, vf, rfl, upd_same, hg.ex e3, dp_ex e13 _ _ hf⟩, ws_ok o wo, tabs_ex hT e13, o.codes.each, ?_⟩
      rcases hk with ⟨h10, hE⟩ | ⟨h10, hU, hQ⟩
      · exact .inl ⟨h10, Nat.le_trans o.codes.few (by decide), fun d H' hn he hx => hE d H' (fresh_back e13 hn) (e13.trans he) hx⟩
      · exact .inr ⟨h10, hU, fun v H' n t c => hQ v H' ((ExtN.of e13).trans n) t c⟩
    rcases hk with ⟨nf, hE⟩ | ⟨af, rf, hq, hE⟩ | ⟨fo, h10, hE⟩ | ⟨fo, h10, hU, hQ⟩
    · exact .inr (.inl ⟨nf, hE⟩)
    · exact .inr (.inr ⟨af, rf, hq, hE⟩)
    · exact .inl ⟨fo, fun v H1 e1 => go H1 e1 fo (.inl ⟨h10, hE⟩)⟩
    · exact .inl ⟨fo, fun v H1 e1 => go H1 e1 fo (.inr ⟨h10, hU, hQ⟩)⟩
end
end K26
set_option Elab.async false
set_option linter.all false
set_option maxRecDepth 100000
set_option maxHeartbeats 4000000
/-! KS1: the law's draws. -/
namespace K26
open PySem PySem.Spec PyProof.Rows L2 Evl LamX NdefX
/-- the draws' state: the dict at d, its lists at lc and ll; at most n draws were made -/
structure St (d lc ll : Addr) (n : Nat) (H : Hp) : Prop where
  at_ : ∃ a : Nat, a ≤ n ∧ H d = some (.dK [(.inr "cells", .ref lc), (.inr "lefts", .ref ll), (.inr "at", .int (a : Nat)), (.inr "room", .int 0)])
  ls : ∃ cs ls : List Int, H lc = some (.lst (cs.map V.int)) ∧ H ll = some (.lst (ls.map V.int)) ∧ cs.length = ls.length ∧ 1 ≤ cs.length ∧ cs.length ≤ 100
  ne : lc ≠ ll
/-- all but the state stands -/
def ExS (d ll : Addr) (H H' : Hp) : Prop := ∀ a o, a ≠ d → a ≠ ll → H a = some o → H' a = some o
theorem ExS.refl {d ll : Addr} (H : Hp) : ExS d ll H H := fun _ _ _ _ h => h
theorem ExS.trans {d ll : Addr} {H H1 H2 : Hp} (a : ExS d ll H H1) (b : ExS d ll H1 H2) : ExS d ll H H2 := fun x o h1 h2 h => b x o h1 h2 (a x o h1 h2 h)
theorem exS_of {d ll : Addr} {H H' : Hp} (e : Ex H H') : ExS d ll H H' := fun a o _ _ h => e a o h
theorem St.ex {d lc ll : Addr} {n : Nat} {H H' : Hp} (e : Ex H H') (h : St d lc ll n H) : St d lc ll n H' := by
  obtain ⟨⟨a, h1, h2⟩, ⟨cs, ls, h3, h4, h5⟩, h6⟩ := h
  exact ⟨⟨a, h1, e _ _ h2⟩, ⟨cs, ls, e _ _ h3, e _ _ h4, h5⟩, h6⟩
theorem St.le {d lc ll : Addr} {n m : Nat} {H : Hp} (h : St d lc ll n H) (k : n ≤ m) : St d lc ll m H := by
  obtain ⟨⟨a, h1, h2⟩, h3, h4⟩ := h
  exact ⟨⟨a, by omega, h2⟩, h3, h4⟩
theorem ExS.t {d lc ll : Addr} {n : Nat} {H H' : Hp} (h : St d lc ll n H) (e : ExS d ll H H') : ExT H H' := by
  obtain ⟨⟨a, h1, h2⟩, ⟨cs, ls, h3, h4, h5⟩, h6⟩ := h
  exact ⟨fun b xs hb => e _ _ (fun z => by rw [z, h2] at hb; cases hb) (fun z => by rw [z, h4] at hb; cases hb) hb, fun b o xs hb => e _ _ (fun z => by rw [z, h2] at hb; cases hb) (fun z => by rw [z, h4] at hb; cases hb) hb⟩
def spMix : Sp := fun vs H Q _ => ∃ c k : Int, vs = [.int c, .int k] ∧ -1000000 ≤ k ∧ k ≤ 1000000 ∧ ∀ (r : Int) H', Ex H H' → 0 ≤ r → r < 2147483648 → Q (.int r) H'
def spDraw : Sp := fun vs H Q _ => ∃ d lc ll n m, vs = [.ref d, .int (m : Nat)] ∧ St d lc ll n H ∧ n ≤ 100000 ∧ 0 < m ∧ m ≤ 100 ∧ ∀ r H', r < m → ExS d ll H H' → St d lc ll (n + 1) H' → Q (.int (r : Nat)) H'
section
variable {K : PySem.W.Frag} {σ : L2.St} {H : Hp} {ta tb te : TE} {d : PyData}
theorem d_rI {C : Int → Int → Prop} {g : Int → Int → V} {i j : Int} (ha : EvD K ta σ H (.int i)) (hb : EvD K tb σ H (.int j)) (c : C i j) (w : ∀ H1, Dp K H1 (g i j) d) : EvD K (tOp (rI C g) ta tb) σ H d := fun H1 e Q q =>
  ha H1 e _ fun x H2 e2 a => hb H2 (e.trans e2) _ fun y H3 e3 b => by
    obtain rfl := dp_int a
    obtain rfl := dp_int b
    exact ⟨i, j, rfl, rfl, c, q _ H3 (e2.trans e3) (w H3)⟩
theorem d_intOf {i : Int} (h : EvD K te σ H (.int i)) : EvD K (tCB (fun xs H Q => (∃ i, xs = [.int i] ∧ Q (.int i) H) ∨ ∃ k, xs = [.bl k] ∧ Q (.int (if k then 1 else 0)) H) (tCons te tNil)) σ H (.int i) := fun H1 e Q q =>
  h H1 e _ fun x H2 e2 a => by
    obtain rfl := dp_int a
    exact .inl ⟨i, rfl, q _ H2 e2 (.int i)⟩
end
section
variable {P : Program} {w : World} {K : PySem.W.Frag} {mg : Str → Option Value} {base : Heap}
theorem ok__law_mixed (T : TX K mg) : FnOk P w K mg base CX0 1 T._law_mixed.f T._law_mixed.fd ["cell", "k"] spMix := by
  refine T._law_mixed.F.ok sc__law_mixed (fun vs H Q E h => by obtain ⟨c, k, rfl, _⟩ := h; rfl) (fun cdv A outer s H vs Q E hr h => ?_)
  refine ⟨_, PSs.nox (pss_cons (ps_set (i := 0) sc__law_mixed.nd rfl (Or.inl rfl) (pe_op op_mod (pe_callTy call_int1 rfl T.b_int PyProof.Rows.boot_int (pa_cons (pv 0) pa_nil)) pe_int)) (pss_one (ps_ret (pe_op op_mod (pe_op op_mul (pe_op op_mod (pe_op op_add (pe_op op_add (pe_op op_mul (pv 0) (pe_op op_add pe_int (pe_op op_mul (pe_op op_mul pe_int (pv 1)) (pv 1)))) (pe_op op_mul pe_int (pv 1))) pe_int) pe_int) pe_int) pe_int)))), ?_⟩
  obtain ⟨c, k, rfl, h1, h2, hQ⟩ := h
  refine s_setP (d_rI (K := K) (i := c) (j := 2147483647) (d_intOf (d_var (i := 0) rfl (.int c))) d_int (by show (0 : Int) < 2147483647; decide) fun _ => .int _) fun v H1 e1 hv => ?_
  obtain rfl := dp_int hv
  have m0 : 0 ≤ c % 2147483647 := Int.emod_nonneg _ (by decide)
  have m1 : c % 2147483647 < 2147483647 := Int.emod_lt_of_pos _ (by decide)
  have kd : EvD K (tVar 1) [some (.int (c % 2147483647)), some (.int k)] H1 (.int k) := d_var rfl (.int k)
  refine s_retP (d_rI (K := K) (d_rI (d_rI (d_add (d_add (d_rI (d_var (i := 0) rfl (.int _)) (d_add d_int (d_rI (d_rI d_int kd (.inl (by decide)) fun _ => .int _) kd (.inr ⟨by omega, by omega⟩) fun _ => .int _)) (.inl ⟨by omega, by omega⟩) fun _ => .int _) (d_rI d_int kd (.inl (by decide)) fun _ => .int _)) d_int) d_int (by show (0 : Int) < 2147483647; decide) fun _ => .int _) d_int (.inr (by decide)) fun _ => .int _) d_int (by show (0 : Int) < 2147483629; decide) fun _ => .int _) fun v2 H2 e2 hv => ?_
  obtain rfl := dp_int hv
  exact hQ _ H2 (e1.trans e2) (Int.emod_nonneg _ (by decide)) (Int.lt_of_lt_of_le (Int.emod_lt_of_pos _ (by decide)) (by decide))
end
section
variable {K : PySem.W.Frag} {σ : L2.St} {H : Hp} {ta tb te : TE} {d lc ll : Addr} {n : Nat}
abbrev isI (lo hi : Int) : V → Hp → Prop := fun v _ => ∃ r, v = .int r ∧ lo ≤ r ∧ r < hi
theorem p_mix {k : Int} (ha : EvP ta σ H (isI (-1000000) (2 ^ 63))) (hb : EvD K tb σ H (.int k)) (h1 : -1000000 ≤ k) (h2 : k ≤ 1000000) : EvP (tCall spMix [] E0 (tCons ta (tCons tb tNil))) σ H (isI 0 2147483648) := fun H1 e Q q =>
  ha H1 e _ fun x H2 e2 ⟨r, hx, _⟩ => hb H2 (e.trans e2) _ fun y H3 e3 hy => by
    subst hx
    obtain rfl := dp_int hy
    exact ⟨r, k, rfl, h1, h2, fun r' H4 e4 a b => q _ H4 ((e2.trans e3).trans e4) ⟨r', rfl, a, b⟩⟩
theorem p_mixA {c k : Int} (ha : EvD K ta σ H (.int c)) (hb : EvD K tb σ H (.int k)) (h1 : -1000000 ≤ k) (h2 : k ≤ 1000000) : EvP (tCall spMix [] E0 (tCons ta (tCons tb tNil))) σ H (isI 0 2147483648) := fun H1 e Q q =>
  ha H1 e _ fun x H2 e2 hx => hb H2 (e.trans e2) _ fun y H3 e3 hy => by
    obtain rfl := dp_int hx
    obtain rfl := dp_int hy
    exact ⟨c, k, rfl, h1, h2, fun r' H4 e4 a b => q _ H4 ((e2.trans e3).trans e4) ⟨r', rfl, a, b⟩⟩
abbrev isP (A : Int → Prop) : V → Hp → Prop := fun v _ => ∃ r, v = .int r ∧ A r
theorem p_rI {C : Int → Int → Prop} {g : Int → Int → V} {A B R : Int → Prop} (ha : EvP ta σ H (isP A)) (hb : EvP tb σ H (isP B)) (h : ∀ i j, A i → B j → C i j ∧ ∃ r, g i j = .int r ∧ R r) : EvP (tOp (rI C g) ta tb) σ H (isP R) := fun H1 e Q q =>
  ha H1 e _ fun x H2 e2 ⟨i, hx, ai⟩ => hb H2 (e.trans e2) _ fun y H3 e3 ⟨j, hy, bj⟩ => ⟨i, j, hx, hy, (h i j ai bj).1, q _ H3 (e2.trans e3) (h i j ai bj).2⟩
theorem p_rI0 {g : Int → Int → V} {A B R : Int → Prop} (ha : EvP ta σ H (isP A)) (hb : EvP tb σ H (isP B)) (h : ∀ i j, A i → B j → ∃ r, g i j = .int r ∧ R r) : EvP (tOp (rI0 g) ta tb) σ H (isP R) := fun H1 e Q q =>
  ha H1 e _ fun x H2 e2 ⟨i, hx, ai⟩ => hb H2 (e.trans e2) _ fun y H3 e3 ⟨j, hy, bj⟩ => ⟨i, j, hx, hy, q _ H3 (e2.trans e3) (h i j ai bj)⟩
theorem p_intOf {A : Int → Prop} (h : EvP te σ H (isP A)) : EvP (tCB (fun xs H Q => (∃ i, xs = [.int i] ∧ Q (.int i) H) ∨ ∃ k, xs = [.bl k] ∧ Q (.int (if k then 1 else 0)) H) (tCons te tNil)) σ H (isP A) := fun H1 e Q q =>
  h H1 e _ fun x H2 e2 ⟨i, hx, ai⟩ => by
    subst hx
    exact .inl ⟨i, rfl, q _ H2 e2 ⟨i, rfl, ai⟩⟩
theorem EvP.isp {i : Int} (h : EvD K te σ H (.int i)) : EvP te σ H (isP fun r => r = i) := h.imp fun v _ _ w => ⟨i, dp_int w, rfl⟩
theorem dpAll_ints : ∀ (xs : List Int), DpAll K H (xs.map V.int) (xs.map PyData.int)
  | [] => .nil
  | x :: xs => .cons (.int x) (dpAll_ints xs)
theorem St.cells (s : St d lc ll n H) : DGet H d (.str "cells") (some (.ref lc)) := by
  obtain ⟨⟨a, _, h⟩, _⟩ := s
  exact DGet.k (k := .inr "cells") h
theorem St.lefts (s : St d lc ll n H) : DGet H d (.str "lefts") (some (.ref ll)) := by
  obtain ⟨⟨a, _, h⟩, _⟩ := s
  exact DGet.k (k := .inr "lefts") h
theorem p_cells {i : Nat} (h : σ[i]? = some (some (.ref d))) (s : St d lc ll n H) : EvP (tDGet (tVar i) (tC (.str "cells"))) σ H (fun v _ => v = .ref lc) := fun H1 e Q q => ⟨_, h, d, _, rfl, (s.ex e).cells, q _ H1 (Ex.refl _) rfl⟩
theorem p_lefts {i : Nat} (h : σ[i]? = some (some (.ref d))) (s : St d lc ll n H) : EvP (tDGet (tVar i) (tC (.str "lefts"))) σ H (fun v _ => v = .ref ll) := fun H1 e Q q => ⟨_, h, d, _, rfl, (s.ex e).lefts, q _ H1 (Ex.refl _) rfl⟩
end
section
variable {P : Program} {w : World} {K : PySem.W.Frag} {mg : Str → Option Value} {base : Heap}
theorem ok__law_draw (T : TX K mg) : FnOk P w K mg base CX0 2 T._law_draw.f T._law_draw.fd ["state", "many"] spDraw := by
  refine T._law_draw.F.ok sc__law_draw (fun vs H Q E h => by obtain ⟨d, lc, ll, n, m, rfl, _⟩ := h; rfl) (fun cdv A outer s H vs Q E hr h => ?_)
  refine ⟨_, PSs.nox (pss_cons (ps_set (i := 2) sc__law_draw.nd rfl (Or.inl rfl) (pe_dget (hu_of hr) (pv 0) pe_str (fun _ _ => rfl))) (pss_cons (ps_dput (hu_of hr) (pv 0) pe_str (pe_op op_add (pv 2) pe_int) rfl) (pss_cons (ps_set (i := 3) sc__law_draw.nd rfl (Or.inl rfl) (pe_op op_mod (pe_callTy call_int1 rfl T.b_int PyProof.Rows.boot_int (pa_cons (pv 2) pa_nil)) (qLen K T.b_len (pe_dget (hu_of hr) (pv 0) pe_str (fun _ _ => rfl))))) (pss_cons (ps_set (i := 4) sc__law_draw.nd rfl (Or.inl rfl) (pe_ix (ixL K) (pe_dget (hu_of hr) (pv 0) pe_str (fun _ _ => rfl)) (pv 3) (fun _ _ => rfl))) (pss_cons (ps_if (pt_cmpR op_gt (pv 4) pe_int (nomark _)) (pss_cons (ps_asg (pe_op op_fdiv (pv 4) (pv 1)) (pg_sub (pe_dget (hu_of hr) (pv 0) pe_str (fun _ _ => rfl)) (pv 3) set_list)) (pss_one (ps_ret (pe_op op_mod (pe_callTy call_int1 rfl T.b_int PyProof.Rows.boot_int (pa_cons (pv 4) pa_nil)) (pv 1))))) pss_nil) (pss_cons (ps_set (i := 5) sc__law_draw.nd rfl (Or.inl rfl) (pe_call (ok__law_mixed T) (hr.mono (by decide)) rfl T._law_mixed.g T._law_mixed.F.kp (bd__law_mixed T._law_mixed.F) .nil pass0 (pa_cons (pe_call (ok__law_mixed T) (hr.mono (by decide)) rfl T._law_mixed.g T._law_mixed.F.kp (bd__law_mixed T._law_mixed.F) .nil pass0 (pa_cons (pe_ix (ixL K) (pe_dget (hu_of hr) (pv 0) pe_str (fun _ _ => rfl)) (pv 3) (fun _ _ => rfl)) (pa_cons (pv 2) pa_nil))) (pa_cons (pe_op op_add pe_int (pv 2)) pa_nil)))) (pss_one (ps_ret (pe_op op_mod (pe_op op_fdiv (pe_callTy call_int1 rfl T.b_int PyProof.Rows.boot_int (pa_cons (pe_op op_add (pe_op op_mul (pv 5) pe_int) (pe_call (ok__law_mixed T) (hr.mono (by decide)) rfl T._law_mixed.g T._law_mixed.F.kp (bd__law_mixed T._law_mixed.F) .nil pass0 (pa_cons (pv 5) (pa_cons (pe_op op_add pe_int (pv 2)) pa_nil)))) pa_nil)) pe_int) (pv 1)))))))))), ?_⟩
  obtain ⟨d, lc, ll, n, m, rfl, S, hn, hm, hm2, hQ⟩ := h
  obtain ⟨⟨a, ha, hd⟩, ⟨cs, ls, hcs, hls, hll, h1, h100⟩, hne⟩ := id S
  have dl : d ≠ lc := fun z => by rw [z, hcs] at hd; cases hd
  have dl2 : d ≠ ll := fun z => by rw [z, hls] at hd; cases hd
  refine ⟨.ref d, rfl, d, .int a, rfl, DGet.k (k := .inr "at") hd, ?_⟩
  refine ⟨_, rfl, _, _, rfl, rfl, .ref d, rfl, d, _, rfl, DPut.k (k := .inr "at") hd (by show (4 : Nat) < sizeLine; decide), ?_⟩
  have hd' : upd H d (.dK (putK [(.inr "cells", .ref lc), (.inr "lefts", .ref ll), (.inr "at", .int (a : Nat)), (.inr "room", .int 0)] (.inr "at") (.int ((a : Int) + 1)))) d = some (.dK [(.inr "cells", .ref lc), (.inr "lefts", .ref ll), (.inr "at", .int ((a + 1 : Nat) : Int)), (.inr "room", .int 0)]) := upd_same
  have oth : ∀ b, b ≠ d → upd H d (.dK (putK [(.inr "cells", .ref lc), (.inr "lefts", .ref ll), (.inr "at", .int (a : Nat)), (.inr "room", .int 0)] (.inr "at") (.int ((a : Int) + 1)))) b = H b := fun b hb => upd_ne hb
  generalize upd H d (.dK (putK [(.inr "cells", .ref lc), (.inr "lefts", .ref ll), (.inr "at", .int (a : Nat)), (.inr "room", .int 0)] (.inr "at") (.int ((a : Int) + 1)))) = H1 at hd' oth
  have xs1 : ExS d ll H H1 := fun b o hb _ h => (oth b hb).trans h
  have hcs1 : H1 lc = some (.lst (cs.map V.int)) := (oth _ (Ne.symm dl)).trans hcs
  have hls1 : H1 ll = some (.lst (ls.map V.int)) := (oth _ (Ne.symm dl2)).trans hls
  have S1 : St d lc ll (n + 1) H1 := ⟨⟨a + 1, by omega, hd'⟩, ⟨cs, ls, hcs1, hls1, hll, h1, h100⟩, hne⟩
  have hj : a % cs.length < cs.length := Nat.mod_lt _ h1
  have cD : ∀ {σ : L2.St} {H2 : Hp}, σ[0]? = some (some (.ref d)) → Ex H1 H2 → EvD K (tDGet (tVar 0) (tC (.str "cells"))) σ H2 (.list (cs.map PyData.int)) := fun h0 e => (p_cells h0 (S1.ex e)).imp fun v H3 e3 hv => by
    rw [hv]
    exact .lst (sq_of (e3 _ _ (e _ _ hcs1))) (dpAll_ints cs)
  have lD : ∀ {σ : L2.St} {H2 : Hp}, σ[0]? = some (some (.ref d)) → Ex H1 H2 → EvD K (tDGet (tVar 0) (tC (.str "lefts"))) σ H2 (.list (ls.map PyData.int)) := fun h0 e => (p_lefts h0 (S1.ex e)).imp fun v H3 e3 hv => by
    rw [hv]
    exact .lst (sq_of (e3 _ _ (e _ _ hls1))) (dpAll_ints ls)
  refine s_setP (d_is (d_rI (K := K) (i := (a : Int)) (j := (cs.length : Int)) (d := PyData.int ((a % cs.length : Nat) : Int)) (d_intOf (d_var (i := 2) rfl (Dp.int _))) (d_is (d_lenL (cD rfl (Ex.refl _))) (d' := PyData.int (cs.length : Int)) (by rw [List.length_map])) (by show (0 : Int) < _; omega) fun _ => by rw [show ((a : Int) % (cs.length : Int)) = ((a % cs.length : Nat) : Int) from rfl]; exact .int _) rfl) fun v H2 e2 hv => ?_
  obtain rfl := dp_int hv
  obtain ⟨left, hleft⟩ : ∃ left, ls[a % cs.length]? = some left := ⟨_, List.getElem?_eq_getElem (by omega)⟩
  obtain ⟨cell, hcell⟩ : ∃ cell, cs[a % cs.length]? = some cell := ⟨_, List.getElem?_eq_getElem hj⟩
  refine s_setP (d_ixL (K := K) (lD rfl e2) (d_var (i := 3) rfl (.int _)) (atI_of (j := a % cs.length) (x := PyData.int left) (by rw [List.getElem?_map, hleft]; rfl))) fun v H3 e3 hv => ?_
  obtain rfl := dp_int hv
  have mz : (0 : Int) < (m : Int) := by omega
  refine Evl.s_if (b := decide (0 < left)) (t_of (K := K) (d_gt (d_var (i := 4) rfl (.int left)) d_int)) (fun hb H4 e4 => ?_) fun hb H4 e4 => ?_
  · have e14 := (e2.trans e3).trans e4
    have hb : 0 < left := of_decide_eq_true hb
    refine (d_rI (K := K) (i := left) (j := (m : Int)) (d_var (i := 4) rfl (Dp.int _)) (d_var (i := 1) rfl (Dp.int _)) ⟨mz, by omega⟩ fun _ => Dp.int (left / (m : Int))) H4 (Ex.refl _) _ fun v H5 e5 hv => ?_
    obtain rfl := dp_int hv
    have e15 := e14.trans e5
    have S5 := S1.ex e15
    have hls5 := e15 _ _ hls1
    have hcs5 := e15 _ _ hcs1
    have hd5 := e15 _ _ hd'
    refine ⟨.ref d, rfl, d, .ref ll, rfl, S5.lefts, _, rfl, ll, ls.map V.int, _, a % cs.length, rfl, rfl, hls5, ?_, ?_⟩
    · have hlt : a % cs.length < (ls.map V.int).length := by rw [List.length_map]; omega
      exact ixN_nat hlt
    have S6 : St d lc ll (n + 1) (upd H5 ll (.lst ((ls.map V.int).set (a % cs.length) (.int (left / (m : Int)))))) := by
      refine ⟨⟨a + 1, by omega, by rw [upd_ne dl2]; exact hd5⟩, ⟨cs, ls.set (a % cs.length) (left / (m : Int)), by rw [upd_ne hne]; exact hcs5, by rw [upd_same, List.map_set], by rw [List.length_set]; exact hll, h1, h100⟩, hne⟩
    have x6 : ExS d ll H (upd H5 ll (.lst ((ls.map V.int).set (a % cs.length) (.int (left / (m : Int)))))) := (xs1.trans (exS_of e15)).trans fun b o _ h2 h => by
      rw [upd_ne h2]
      exact h
    refine s_retP (d_rI (K := K) (i := left) (j := (m : Int)) (d_intOf (d_var (i := 4) rfl (Dp.int _))) (d_var (i := 1) rfl (Dp.int _)) mz fun _ => Dp.int (left % (m : Int))) fun v H6 e6 hv => ?_
    obtain rfl := dp_int hv
    have r0 := Int.emod_nonneg left (b := (m : Int)) (by omega)
    have r1 := Int.emod_lt_of_pos left mz
    have ex : left % (m : Int) = (((left % (m : Int)).toNat : Nat) : Int) := by omega
    rw [ex]
    exact hQ _ H6 (by omega) (x6.trans (exS_of e6)) (S6.ex e6)
  · have e14 := (e2.trans e3).trans e4
    have ad : EvD K (tVar 2) [some (V.ref d), some (V.int (m : Nat)), some (V.int (a : Nat)), some (V.int ((a % cs.length : Nat) : Int)), some (V.int left), none] H4 (.int (a : Nat)) := d_var rfl (.int _)
    refine s_setP (p_mix (k := 40 + (a : Int)) ((p_mixA (K := K) (c := cell) (k := (a : Int)) (d_ixL (cD rfl e14) (d_var (i := 3) rfl (.int _)) (atI_of (j := a % cs.length) (x := PyData.int cell) (by rw [List.getElem?_map, hcell]; rfl))) ad (by omega) (by omega)).imp fun v _ _ ⟨r, h1, h2, h3⟩ => ⟨r, h1, by omega, by omega⟩) (d_add d_int ad) (by omega) (by omega)) fun v H5 e5 hv => ?_
    obtain ⟨r, rfl, r0, r1⟩ := hv
    refine s_retP (p_rI (R := fun x => 0 ≤ x ∧ x < (m : Int)) (p_rI (R := fun _ => True) (p_intOf (A := fun _ => True) (p_rI0 (p_rI (R := fun _ => True) (EvP.isp (K := K) (d_var (i := 5) rfl (.int r))) (EvP.isp (K := K) d_int) fun i j hi hj => ⟨.inr (by subst hj; decide), _, rfl, trivial⟩) ((p_mixA (K := K) (c := r) (k := 7 + (a : Int)) (d_var (i := 5) rfl (.int r)) (d_add d_int (d_var (i := 2) rfl (.int _))) (by omega) (by omega)).imp fun v _ _ ⟨x, h1, _⟩ => (⟨x, h1, trivial⟩ : isP (fun _ => True) v H5)) fun i j _ _ => ⟨_, rfl, trivial⟩))
      (EvP.isp (K := K) d_int) fun i j _ hj => ⟨by subst hj; exact ⟨by decide, by decide⟩, _, rfl, trivial⟩) (EvP.isp (K := K) (d_var (i := 1) rfl (.int (m : Int)))) fun i j _ hj => ⟨by subst hj; exact mz, _, rfl, by subst hj; exact ⟨Int.emod_nonneg _ (by omega), Int.emod_lt_of_pos _ mz⟩⟩) fun v H6 e6 hv => ?_
    obtain ⟨x, rfl, x0, x1⟩ := hv
    have ex : x = ((x.toNat : Nat) : Int) := by omega
    rw [ex]
    exact hQ _ H6 (by omega) (xs1.trans (exS_of ((e14.trans e5).trans e6))) (S1.ex ((e14.trans e5).trans e6))
end
end K26
set_option Elab.async false
set_option linter.all false
set_option maxRecDepth 100000
set_option maxHeartbeats 4000000
/-! KS2: what draws: readings that change the state. -/
namespace K26
open PySem PySem.Spec PyProof.Rows L2 Evl LamX NdefX
abbrev vals : List Str := ["plain", "u", "v", "u"]
section
variable {K : PySem.W.Frag} {σ : L2.St} {H H' : Hp} {d lc ll : Addr} {n m : Nat} {Q : VK}
theorem St.nd (S : St d lc ll n H) {b : Addr} (h : H b = none) : b ≠ d ∧ b ≠ ll := by
  obtain ⟨⟨a, _, h1⟩, ⟨cs, ls, _, h2, _⟩, _⟩ := S
  exact ⟨fun z => (by rw [z, h1] at h; cases h), fun z => (by rw [z, h2] at h; cases h)⟩
theorem St.nt (S : St d lc ll n H) {b : Addr} {xs : List V} (h : H b = some (.tup xs)) : b ≠ d ∧ b ≠ ll := by
  obtain ⟨⟨a, _, h1⟩, ⟨cs, ls, _, h2, _⟩, _⟩ := S
  exact ⟨fun z => (by rw [z, h1] at h; cases h), fun z => (by rw [z, h2] at h; cases h)⟩
/-- a list of texts is not the state's -/
theorem St.nl (S : St d lc ll n H) {b : Addr} {x : Str} {xs : List V} (h : H b = some (.lst (.str x :: xs))) : b ≠ d ∧ b ≠ ll := by
  obtain ⟨⟨a, _, h1⟩, ⟨cs, ls, _, h2, _⟩, _⟩ := S
  refine ⟨fun z => (by rw [z, h1] at h; cases h), fun z => ?_⟩
  rw [z, h2] at h
  have h := HO.lst.inj (Option.some.inj h)
  cases ls with
  | nil => cases h
  | cons y ys => cases (List.cons.inj h).1
theorem e_draw {i : Nat} (h : σ[i]? = some (some (.ref d))) (S : St d lc ll n H) (hn : n ≤ 100000) (hm : 0 < m) (hm2 : m ≤ 100) (q : ∀ r H', r < m → ExS d ll H H' → St d lc ll (n + 1) H' → Q (.int (r : Nat)) H') : tCall spDraw [] E0 (tCons (tVar i) (tCons (tC (.int (m : Nat))) tNil)) σ H Q := ⟨_, h, d, lc, ll, n, m, rfl, S, hn, hm, hm2, q⟩
/-- of l's, in order, some, each as T says -/
inductive Picks {α β : Type} (T : α → β → Prop) : List α → List β → Prop
  | nil : Picks T [] []
  | skip {l : List α} {r : List β} {a : α} : Picks T l r → Picks T (l ++ [a]) r
  | take {l : List α} {r : List β} {a : α} {b : β} : Picks T l r → T a b → Picks T (l ++ [a]) (r ++ [b])
theorem Picks.len {α β : Type} {T : α → β → Prop} {l : List α} {r : List β} (h : Picks T l r) : r.length ≤ l.length := by
  induction h with
  | nil => exact Nat.le_refl _
  | skip _ ih => rw [List.length_append]; omega
  | take _ _ ih => rw [List.length_append, List.length_append, List.length_singleton, List.length_singleton]; omega
theorem Picks.mem {α β : Type} {T : α → β → Prop} {l : List α} {r : List β} (h : Picks T l r) : ∀ b ∈ r, ∃ a ∈ l, T a b := by
  induction h with
  | nil => intro b hb; cases hb
  | skip _ ih =>
    intro b hb
    obtain ⟨a, ha, t⟩ := ih b hb
    exact ⟨a, List.mem_append_left _ ha, t⟩
  | take _ t ih =>
    intro b hb
    rcases List.mem_append.mp hb with hb | hb
    · obtain ⟨a, ha, t⟩ := ih b hb
      exact ⟨a, List.mem_append_left _ ha, t⟩
    · rw [List.mem_singleton.mp hb]
      exact ⟨_, List.mem_append_right _ (List.mem_singleton.mpr rfl), t⟩
theorem Picks.sub {α β : Type} {T : α → β → Prop} (f : β → α) (hf : ∀ a b, T a b → f b = a) {l : List α} {r : List β} (h : Picks T l r) : (r.map f).Sublist l := by
  induction h with
  | nil => exact .refl _
  | skip _ ih => exact ih.trans (List.sublist_append_left _ _)
  | take _ t ih =>
    rw [List.map_append]
    refine ih.append ?_
    rw [show ([_] : List β).map f = [f _] from rfl, hf _ _ t]
    exact .refl _
variable {α β : Type} {l : List α} {R : α → V → Hp → Prop} {wi : TI} {g : TG} {tt : TT} {te : TE} {vs : List Nat} {T : α → β → Prop} {f : β → PyData}
theorem St.put {p : Addr} {o : HO} (S : St d lc ll n H) (h1 : p ≠ d) (h2 : p ≠ lc) (h3 : p ≠ ll) : St d lc ll n (upd H p o) := by
  obtain ⟨⟨a, a1, a2⟩, ⟨cs, ls, b1, b2, b3⟩, c⟩ := S
  exact ⟨⟨a, a1, by rw [upd_ne (Ne.symm h1)]; exact a2⟩, ⟨cs, ls, by rw [upd_ne (Ne.symm h2)]; exact b1, by rw [upd_ne (Ne.symm h3)]; exact b2, b3⟩, c⟩
theorem St.nd3 (S : St d lc ll n H) {b : Addr} (h : H b = none) : b ≠ lc := by
  obtain ⟨_, ⟨cs, ls, h1, _⟩, _⟩ := S
  exact fun z => (by rw [z, h1] at h; cases h)
/-- a comprehension whose turns draw -/
theorem n_lcS (k : Nat) (hw : WalkT wi σ H l R) (S : St d lc ll n H) (hl : l.length ≤ 50000) (nl : ∀ b, noL (f b) = true)
    (turn : ∀ i a x H1, l[i]? = some a → ExS d ll H H1 → St d lc ll (n + k * i) H1 → R a x H1 →
      ∃ σ2, Sets g x (wipe σ vs) H1 σ2 ∧ wipe σ2 vs = wipe σ vs ∧ ∀ (Z : Bool → Hp → Prop), (∀ H2, ExS d ll H1 H2 → St d lc ll (n + k * (i + 1)) H2 → Z false H2) →
        (∀ H2, ExS d ll H1 H2 → (∀ (Y : VK), (∀ y H3 b, ExS d ll H1 H3 → St d lc ll (n + k * (i + 1)) H3 → T a b → Dp K H3 y (f b) → Y y H3) → te σ2 H2 Y) → Z true H2) → tt σ2 H1 Z)
    (q : ∀ p xs r H2, ExS d ll H H2 → St d lc ll (n + k * l.length) H2 → H p = none → H2 p = some (.lst xs) → Picks T l r → DpAll K H2 xs (r.map f) → Q (.ref p) H2) : tLc wi g tt te vs σ H Q := by
  refine hw H (Ex.refl H) _ fun J H1 G Y e1 W hG hY => fun D hD => ?_
  have S1 := S.ex e1
  obtain ⟨nd1, nd2⟩ := S1.nd hD
  have nd3 := S1.nd3 hD
  have hDH : H D = none := fresh_back e1 hD
  have x0 : ExS d ll H1 (upd H1 D (.lst [])) := exS_of (Ex.new hD)
  refine lc_it W (fun i H' => ExS d ll H1 H' ∧ St d lc ll (n + k * i) H' ∧ ∃ acc r, H' D = some (.lst acc) ∧ Picks T (l.take i) r ∧ DpAll K H' acc (r.map f)) ⟨x0, by rw [Nat.mul_zero]; exact S1.ex (Ex.new hD), [], [], upd_same, .nil, .nil⟩ (fun i H' _ z => hG H' (ExS.t S1 z.1)) (fun i x H3 H4 hi z hy => ?_) fun H' z => ?_
  · obtain ⟨x3, S3, acc, r, hacc, pk, hdp⟩ := z
    obtain ⟨a, hai⟩ : ∃ a, l[i]? = some a := ⟨_, List.getElem?_eq_getElem hi⟩
    obtain ⟨e4, hr⟩ := hY i H3 x H4 a hai hy (ExS.t S1 x3)
    have S4 := S3.ex e4
    have tk : l.take (i + 1) = l.take i ++ [a] := by
      rw [List.take_add_one, hai]
      rfl
    have x4 := x3.trans (exS_of (d := d) (ll := ll) e4)
    have t4 : ExT H H4 := (exT_of e1).trans (ExS.t S1 x4)
    obtain ⟨σ2, s1, s2, s3⟩ := turn i a x H4 hai ((exS_of e1).trans x4) S4 hr
    have hacc4 := e4 _ _ hacc
    have hdp4 := dpAll_ex e4 _ _ hdp
    have rl := pk.len
    have al : acc.length ≤ i := by
      rw [hdp.len, List.length_map]
      rw [List.length_take] at rl
      omega
    refine s1 _ ⟨s2, s3 _ (fun H5 x5 S5 => ?_) fun H5 x5 hte => ?_⟩
    · show _ ∧ _
      exact ⟨x4.trans x5, S5, acc, r, x5 _ _ nd1 nd2 hacc4, by rw [tk]; exact .skip pk, dpAll_t (ExS.t S4 x5) _ _ (noLs_map fun b _ => nl b) hdp4⟩
    · show te σ2 H5 _
      refine hte _ fun y H6 b x6 S6 tb hy6 => ?_
      have hacc6 := x6 _ _ nd1 nd2 hacc4
      have px : ExT H6 (upd H6 D (.lst (acc ++ [y]))) := ExT.put (fun xs z => by rw [hacc6] at z; cases z) (fun o xs z => by rw [hacc6] at z; cases z)
      refine ⟨acc, hacc6, sz_lt (by omega), fun c o h1 h2 h => ?_, S6.put nd1 nd3 nd2, acc ++ [y], r ++ [b], upd_same, by rw [tk]; exact .take pk tb, ?_⟩
      · have nc : c ≠ D := fun z => (by rw [z, hD] at h; cases h)
        rw [upd_ne nc]
        exact (x4.trans x6) c o h1 h2 h
      · rw [List.map_append]
        exact DpAll.app (dpAll_t px _ _ (noLs_map fun b _ => nl b) (dpAll_t (ExS.t S4 x6) _ _ (noLs_map fun b _ => nl b) hdp4)) (.cons (dp_t px _ _ (nl b) hy6) .nil)
  · obtain ⟨x3, S3, acc, r, hacc, pk, hdp⟩ := z
    rw [List.take_length] at pk
    exact q D acc r H' ((exS_of e1).trans x3) S3 hDH hacc pk hdp
end
section
variable {P : Program} {w : World} {K : PySem.W.Frag} {mg : Str → Option Value} {base : Heap}
def spVal : Sp := fun vs H Q _ => ∃ d lc ll n, vs = [.ref d] ∧ St d lc ll n H ∧ n ≤ 100000 ∧ ∀ x H', x ∈ vals → ExS d ll H H' → St d lc ll (n + 1) H' → Q (.str x) H'
theorem ok__law_value (T : TX K mg) : FnOk P w K mg base CX0 3 T._law_value.f T._law_value.fd ["state"] spVal := by
  refine T._law_value.F.ok sc__law_value (fun vs H Q E h => by obtain ⟨d, lc, ll, n, rfl, _⟩ := h; rfl) (fun cdv A outer s H vs Q E hr h => ?_)
  refine ⟨_, PSs.nox (pss_one (ps_ret (pe_ix (ixL K) (pe_lst (pa_cons pe_str (pa_cons pe_str (pa_cons pe_str (pa_cons pe_str pa_nil))))) (pe_call (ok__law_draw T) (hr.mono (by decide)) rfl T._law_draw.g T._law_draw.F.kp (bd__law_draw T._law_draw.F) .nil pass0 (pa_cons (pv 0) (pa_cons pe_int pa_nil))) (fun _ _ => rfl)))), ?_⟩
  obtain ⟨d, lc, ll, n, rfl, S, hn, hQ⟩ := h
  refine ⟨by show (4 : Nat) ≤ sizeLine; decide, fun p hp => ?_⟩
  refine e_draw (m := 4) rfl (S.ex (Ex.new hp)) hn (by decide) (by decide) fun r H' hr4 x s' => ?_
  obtain ⟨n1, n2⟩ := S.nd hp
  have h1 := x p _ n1 n2 upd_same
  have hx : ∀ r : Nat, r < 4 → ∃ y, vals[r]? = some y := fun r h => ⟨_, List.getElem?_eq_getElem h⟩
  obtain ⟨y, hy⟩ := hx r hr4
  refine ⟨p, _, (r : Int), .str y, rfl, rfl, sq_of h1, atI_of (xs := vals.map V.str) (j := r) (by rw [List.getElem?_map, hy]; rfl), ?_⟩
  exact hQ y H' (List.mem_of_getElem? hy) ((exS_of (Ex.new hp)).trans x) s'
def spOf : Sp := fun vs H Q _ => ∃ d lc ll n b x xs, vs = [.ref d, .ref b] ∧ St d lc ll n H ∧ n ≤ 100000 ∧ H b = some (.lst ((x :: xs).map V.str)) ∧ xs.length < 100 ∧ ∀ y H', y ∈ x :: xs → ExS d ll H H' → St d lc ll (n + 1) H' → Q (.str y) H'
theorem ok__law_of (T : TX K mg) : FnOk P w K mg base CX0 3 T._law_of.f T._law_of.fd ["state", "some"] spOf := by
  refine T._law_of.F.ok sc__law_of (fun vs H Q E h => by obtain ⟨d, lc, ll, n, b, x, xs, rfl, _⟩ := h; rfl) (fun cdv A outer s H vs Q E hr h => ?_)
  refine ⟨_, PSs.nox (pss_one (ps_ret (pe_ix (ixL K) (pv 1) (pe_call (ok__law_draw T) (hr.mono (by decide)) rfl T._law_draw.g T._law_draw.F.kp (bd__law_draw T._law_draw.F) .nil pass0 (pa_cons (pv 0) (pa_cons (qLen K T.b_len (pv 1)) pa_nil))) (fun _ _ => rfl)))), ?_⟩
  obtain ⟨d, lc, ll, n, b, x, xs, rfl, S, hn, hb, hl, hQ⟩ := h
  obtain ⟨n1, n2⟩ := S.nl hb
  refine ⟨_, rfl, _, rfl, _, rfl, _, (x :: xs).length, rfl, .inl ⟨(x :: xs).map V.str, sq_of hb, by rw [List.length_map]⟩, ?_⟩
  refine ⟨d, lc, ll, n, (x :: xs).length, rfl, S, hn, by rw [List.length_cons]; omega, by rw [List.length_cons]; omega, fun r H' hr4 x' s' => ?_⟩
  obtain ⟨y, hy⟩ : ∃ y, (x :: xs)[r]? = some y := ⟨_, List.getElem?_eq_getElem hr4⟩
  exact ⟨b, _, (r : Int), .str y, rfl, rfl, sq_of (x' b _ n1 n2 hb), atI_of (xs := (x :: xs).map V.str) (j := r) (by rw [List.getElem?_map, hy]; rfl), hQ y H' (List.mem_of_getElem? hy) x' s'⟩
end
end K26
set_option Elab.async false
set_option linter.all false
set_option maxRecDepth 100000
set_option maxHeartbeats 4000000
/-! KS3: _law_book. -/
namespace K26
open PySem PySem.Spec PyProof.Rows L2 Evl LamX NdefX RZ
abbrev asps4 : List (List Str) := [["a"], ["a", "b"], ["a", "b", "c"], ["a", "b"]]
abbrev words8 : List Str := ["1", "2", "22", "3;4", "0", "38;5;1", "9", "44"]
abbrev kinds4 : List Str := ["j", "k", "k", "l"]
structure LawC (asps : List Str) (c : Code) : Prop where
  kind : c.2.1 ∈ kinds4
  ne : c.2.2 ≠ []
  asp : (c.2.2.map (·.1)).Sublist asps
  val : ∀ p ∈ c.2.2, p.2 ∈ vals
structure LawBk (b : Bk) : Prop where
  asps : b.asps ∈ asps4
  shown : b.shown.Sublist b.asps
  words : b.codes.map (·.1) = words8.take b.codes.length
  few : 1 ≤ b.codes.length ∧ b.codes.length ≤ 5
  each : ∀ c ∈ b.codes, LawC b.asps c
def spBook (K : PySem.W.Frag) : Sp := fun vs H Q _ => ∃ d lc ll n, vs = [.ref d, .int 5] ∧ St d lc ll n H ∧ n ≤ 50000 ∧ ∀ v b H', LawBk b → Dp K H' v (eBook b) → ExS d ll H H' → St d lc ll (n + 50) H' → Q v H'
section
variable {σ : L2.St} {H : Hp} {Q : VK} {te ta tb : TE} {g : TG} {tz : TS} {D : Ends} {r : R2} {rb : List V → Hp → VK → Prop} {t ts : TA} {Qs : List V → Hp → Prop} {Qb : Bool → Hp → Prop}
theorem go_asg (h : te σ H fun x H1 => g x σ H1 (tz D)) : tSeq (tAsg te g) tz D σ H := h
theorem go_asg1 (h : te σ H fun x H1 => g x σ H1 D.nx) : tAsg te g D σ H := h
theorem go_tup (h : t σ H fun xs H1 => xs.length ≤ sizeLine ∧ ∀ p, H1 p = none → Q (.ref p) (upd H1 p (.tup xs))) : tTup t σ H Q := h
theorem go_op (h : ta σ H fun x H1 => tb σ H1 fun y H2 => r x y H2 Q) : tOp r ta tb σ H Q := h
theorem go_cb (h : t σ H fun vs H1 => rb vs H1 Q) : tCB rb t σ H Q := h
theorem go_cons (h : te σ H fun v H1 => ts σ H1 fun vs H2 => Qs (v :: vs) H2) : tCons te ts σ H Qs := h
theorem go_test (h : te σ H fun v H1 => ∃ b, v = .bl b ∧ Qb b H1) : tTest te σ H Qb := h
end
theorem e_flip {σ : L2.St} {H : Hp} {d lc ll : Addr} {n : Nat} {Z : Bool → Hp → Prop} (h : σ[0]? = some (some (.ref d))) (S : St d lc ll n H) (hn : n ≤ 100000) (z : ∀ b H2, ExS d ll H H2 → St d lc ll (n + 1) H2 → Z b H2) :
    tTest (tOp rEq (tCall spDraw [] E0 (tCons (tVar 0) (tCons (tC (.int 2)) tNil))) (tC (.int 0))) σ H Z :=
  go_test (go_op (e_draw (m := 2) h S hn (by decide) (by decide) fun r H5 hr x5 S5 => ⟨rfl, _, rfl, z _ H5 x5 S5⟩))
/-- a value is drawn -/
theorem e_val {σ : L2.St} {H : Hp} {d lc ll : Addr} {n : Nat} {Q : VK} (h : σ[0]? = some (some (.ref d))) (S : St d lc ll n H) (hn : n ≤ 100000) (q : ∀ x H', x ∈ vals → ExS d ll H H' → St d lc ll (n + 1) H' → Q (.str x) H') :
    tCall spVal [] E0 (tCons (tVar 0) tNil) σ H Q := ⟨_, h, d, lc, ll, n, rfl, S, hn, q⟩
theorem lt_asp : ∀ a ∈ asps4, ∀ x ∈ a, PyData.strOk x = true := by decide +kernel
theorem lt_vals : ∀ x ∈ vals, PyData.strOk x = true := by decide +kernel
theorem asp_len {a : List Str} (h : a ∈ asps4) : 1 ≤ a.length ∧ a.length ≤ 3 := by
  revert a
  decide
section
variable {P : Program} {w : World} {K : PySem.W.Frag} {mg : Str → Option Value} {base : Heap}
theorem ok__law_book (T : TX K mg) : FnOk P w K mg base CX0 4 T._law_book.f T._law_book.fd ["state", "most"] (spBook K) := by
  refine T._law_book.F.ok sc__law_book (fun vs H Q E h => by obtain ⟨d, lc, ll, n, rfl, _⟩ := h; rfl) (fun cdv A outer s H vs Q E hr h => ?_)
  refine ⟨_, PSs.nox (pss_cons (ps_set (i := 2) sc__law_book.nd rfl (Or.inl rfl) (pe_ix (ixL K) (pe_lst (pa_cons (pe_tup (pa_cons pe_str pa_nil)) (pa_cons (pe_tup (pa_cons pe_str (pa_cons pe_str pa_nil))) (pa_cons (pe_tup (pa_cons pe_str (pa_cons pe_str (pa_cons pe_str pa_nil)))) (pa_cons (pe_tup (pa_cons pe_str (pa_cons pe_str pa_nil))) pa_nil))))) (pe_call (ok__law_draw T) (hr.mono (by decide)) rfl T._law_draw.g T._law_draw.F.kp (bd__law_draw T._law_draw.F) .nil pass0 (pa_cons (pv 0) (pa_cons pe_int pa_nil))) (fun _ _ => rfl))) (pss_cons (ps_set (i := 3) sc__law_book.nd rfl (Or.inl rfl) (qTup K T.b_tuple (pe_lc (own := [("aspect", 8)]) rfl sc__law_book.nd (piT K (pv 2)) (blkOk_by (N := ["state", "most", "aspects", "blank", "codes", "k", "gives", "word", "aspect"]) (sc := defScope s__law_book) (by decide +kernel)) (fun _ _ _ _ _ => (pg_name (i := 8) sc__law_book.nd rfl (Or.inl rfl))) (fun _ _ _ _ _ => (pts_one (pt_cmpR op_eq (pe_call (ok__law_draw T) (hr.mono (by decide)) rfl T._law_draw.g T._law_draw.F.kp (bd__law_draw T._law_draw.F) .nil pass0 (pa_cons (pv 0) (pa_cons pe_int pa_nil))) pe_int (nomark _)))) (fun _ _ _ _ _ => (pv 8))))) (pss_cons (ps_set (i := 4) sc__law_book.nd rfl (Or.inl rfl) (pe_lst pa_nil)) (pss_cons (ps_for PassesOwn.never rfl (pi_range1 rfl T.b_range (pa_cons (pe_op op_add pe_int (pe_call (ok__law_draw T) (hr.mono (by decide)) rfl T._law_draw.g T._law_draw.F.kp (bd__law_draw T._law_draw.F) .nil pass0 (pa_cons (pv 0) (pa_cons (pv 1) pa_nil)))) pa_nil)) (pg_name (i := 5) sc__law_book.nd rfl (Or.inl rfl)) (pss_cons (ps_set (i := 6) sc__law_book.nd rfl (Or.inl rfl) (qTup K T.b_tuple (pe_lc (own := [("aspect", 8)]) rfl sc__law_book.nd (piT K (pv 2)) (blkOk_by (N := ["state", "most", "aspects", "blank", "codes", "k", "gives", "word", "aspect"]) (sc := defScope s__law_book) (by decide +kernel)) (fun _ _ _ _ _ => (pg_name (i := 8) sc__law_book.nd rfl (Or.inl rfl))) (fun _ _ _ _ _ => (pts_one (pt_cmpR op_eq (pe_call (ok__law_draw T) (hr.mono (by decide)) rfl T._law_draw.g T._law_draw.F.kp (bd__law_draw T._law_draw.F) .nil pass0 (pa_cons (pv 0) (pa_cons pe_int pa_nil))) pe_int (nomark _)))) (fun _ _ _ _ _ => (pe_tup (pa_cons (pv 8) (pa_cons (pe_call (ok__law_value T) (hr.mono (by decide)) rfl T._law_value.g T._law_value.F.kp (bd__law_value T._law_value.F) .nil pass0 (pa_cons (pv 0) pa_nil)) pa_nil))))))) (pss_cons (ps_if (pt_cmpR (opEq K hr.units) (pv 6) (pe_tup pa_nil) (nomark _)) (pss_one (ps_set (i := 6) sc__law_book.nd rfl (Or.inl rfl) (pe_tup (pa_cons (pe_tup (pa_cons (pe_ix (ixT K) (pv 2) pe_int (fun _ _ => rfl)) (pa_cons (pe_call (ok__law_value T) (hr.mono (by decide)) rfl T._law_value.g T._law_value.F.kp (bd__law_value T._law_value.F) .nil pass0 (pa_cons (pv 0) pa_nil)) pa_nil))) pa_nil)))) pss_nil) (pss_cons (ps_set (i := 7) sc__law_book.nd rfl (Or.inl rfl) (pe_ix (ixL K) (pe_lst (pa_cons pe_str (pa_cons pe_str (pa_cons pe_str (pa_cons pe_str (pa_cons pe_str (pa_cons pe_str (pa_cons pe_str (pa_cons pe_str pa_nil))))))))) (pv 5) (fun _ _ => rfl))) (pss_one (ps_expr (pe_bm PySem.F.plainAttrs_list PySem.F.slot_list_append PySem.F.type_list_append mt_append (pv 4) (pa_cons (pe_tup (pa_cons (pv 7) (pa_cons (pe_ix (ixL K) (pe_lst (pa_cons pe_str (pa_cons pe_str (pa_cons pe_str (pa_cons pe_str pa_nil))))) (pe_call (ok__law_draw T) (hr.mono (by decide)) rfl T._law_draw.g T._law_draw.F.kp (bd__law_draw T._law_draw.F) .nil pass0 (pa_cons (pv 0) (pa_cons pe_int pa_nil))) (fun _ _ => rfl)) (pa_cons (pv 6) pa_nil)))) pa_nil)))))))) (pss_one (ps_ret (pe_tup (pa_cons (pv 2) (pa_cons (pv 3) (pa_cons (qTup K T.b_tuple (pv 4)) pa_nil)))))))))), ?_⟩
  obtain ⟨d, lc, ll, n, rfl, S, hn, hQ⟩ := h
  have sh : ∀ x : Str, ([.str x] : List PyData).length ≤ 100000 := fun _ => by show (1 : Nat) ≤ 100000; decide
  refine go_asg (go_op ?_)
  refine (n_lst (K := K) (ds := asps4.map eStrs) (ds_cons (d_tup (ds_cons d_str ds_nil) (by decide)) (ds_cons (d_tup (ds_cons d_str (ds_cons d_str ds_nil)) (by decide)) (ds_cons (d_tup (ds_cons d_str (ds_cons d_str (ds_cons d_str ds_nil))) (by decide)) (ds_cons (d_tup (ds_cons d_str (ds_cons d_str ds_nil)) (by decide)) ds_nil)))) (by decide)) H (Ex.refl H) _ fun x H1 e1 hx => ?_
  obtain ⟨p, xs, rfl, hp, hp1, hxs⟩ := hx
  refine e_draw (m := 4) rfl (S.ex e1) (by omega) (by decide) (by decide) fun r H2 hr4 x2 S2 => ?_
  obtain ⟨np1, np2⟩ := S.nd hp
  have hp2 := x2 p _ np1 np2 hp1
  have hxs2 := dpAll_t (ExS.t (S.ex e1) x2) _ _ (by decide) hxs
  obtain ⟨asp, hasp⟩ : ∃ a, asps4[r]? = some a := ⟨_, List.getElem?_eq_getElem hr4⟩
  have hma : asp ∈ asps4 := List.mem_of_getElem? hasp
  obtain ⟨va, hva⟩ : ∃ va, xs[r]? = some va := by
    have := hxs2.len
    exact ⟨_, List.getElem?_eq_getElem (by rw [this]; exact hr4)⟩
  obtain ⟨da, hda, hva2⟩ := hxs2.at_ hva
  rw [List.getElem?_map, hasp] at hda
  cases hda
  refine ⟨p, xs, (r : Int), va, rfl, rfl, sq_of hp2, atI_of hva, ?_⟩
  clear hxs2 hxs hp1 hp2 hva
  have x02 : ExS d ll H H2 := (exS_of e1).trans x2
  obtain ⟨al1, al3⟩ := asp_len hma
  refine go_asg (go_cb (go_cons ?_))
  have wA : ∀ {σ : L2.St} {H3 : Hp}, σ[2]? = some (some va) → Dp K H3 va (eStrs asp) → WalkT (iTup K (tVar 2)) σ H3 asp (fun a => isD K (.str a)) := fun h0 h3 => w_tupT (d_var h0 h3) fun _ _ => rfl
  refine n_lcS (K := K) (T := fun a b => b = a) (f := PyData.str) 1 (wA rfl hva2) S2 (by omega) (fun _ => rfl) (fun i a x H3 hi xt S3 hx => ⟨_, g_name, rfl, fun Z zf zt => ?_⟩) fun p3 xs3 sh H4 x4 S4 hn4 hp4 pk4 hd4 => ?_
  · obtain rfl := dp_str hx
    have := (List.getElem?_eq_some_iff.mp hi).1
    refine e_flip rfl S3 (by omega) fun b H5 x5 S5 => ?_
    have S5 := S5.le (m := n + 1 + 1 * (i + 1)) (by omega)
    cases b with
    | false => exact zf H5 x5 S5
    | true => exact zt H5 x5 fun Y hY => ⟨_, rfl, hY _ H5 a x5 S5 rfl (.str a)⟩
  refine ⟨p3, xs3, rfl, .inl ⟨sq_of hp4, fun bl hbl => ?_⟩⟩
  have shsub : sh.Sublist asp := by
    have := pk4.sub id fun a b h => h
    rw [List.map_id] at this
    exact this
  have S5 := S4.ex (Ex.new (o := .tup xs3) hbl)
  have x5 : ExS d ll H (upd H4 bl (.tup xs3)) := (x02.trans x4).trans (exS_of (Ex.new hbl))
  have hsh : Dp K (upd H4 bl (.tup xs3)) (.ref bl) (eStrs sh) := .tup (st_of upd_same) (dpAll_ex (Ex.new hbl) _ _ hd4)
  have hva5 : Dp K (upd H4 bl (.tup xs3)) va (eStrs asp) := dp_ex (Ex.new hbl) _ _ (dp_t (ExS.t S2 x4) _ _ (by simpa [noL] using noL_strs _) hva2)
  refine ⟨by show (0 : Nat) ≤ sizeLine; decide, fun cl hcl => ?_⟩
  obtain ⟨nc1, nc2⟩ := S5.nd hcl
  have nc3 := S5.nd3 hcl
  have hclH : H cl = none := by
    cases q : H cl with
    | none => rfl
    | some o =>
      have := x5 cl o nc1 nc2 q
      rw [hcl] at this
      cases this
  have S6 := S5.ex (Ex.new (o := .lst []) hcl)
  have x6 := x5.trans (exS_of (d := d) (ll := ll) (Ex.new (o := .lst []) hcl))
  have hsh6 := dp_ex (Ex.new (o := .lst []) hcl) _ _ hsh
  have hva6 := dp_ex (Ex.new (o := .lst []) hcl) _ _ hva5
  have hcl6 : upd (upd H4 bl (.tup xs3)) cl (.lst []) cl = some (.lst []) := upd_same
  generalize upd (upd H4 bl (.tup xs3)) cl (.lst []) = H6 at S6 x6 hsh6 hva6 hcl6
  clear S5 x5 hsh hva5 hcl hd4 hp4 hbl
  refine ⟨_, rfl, _, rfl, d, lc, ll, _, 5, rfl, S6, by omega, by decide, by decide, fun r H7 hr5 x7 S7 => ?_⟩
  have x07 := x6.trans x7
  have hsh7 := dp_t (ExS.t S6 x7) _ _ (by simpa [noL] using noL_strs _) hsh6
  have hva7 := dp_t (ExS.t S6 x7) _ _ (by simpa [noL] using noL_strs _) hva6
  have hcl7 := x7 _ _ nc1 nc2 hcl6
  have S7 := S7.le (m := n + 6) (by omega)
  have ej : ((1 : Int) + ((r : Nat) : Int)).toNat = r + 1 := by omega
  refine ⟨_, _, rfl, rfl, _, rfl, by omega, by omega, ?_⟩
  rw [ej]
  refine for_it walk_range (fun i σ' H' => ∃ (o5 o6 o7 o8 : Option V) (acc : List V) (cs : List Code), σ' = [some (.ref d), some (.int 5), some va, some (.ref bl), some (.ref cl), o5, o6, o7, o8] ∧ (ExS d ll H H' ∧ ExT H7 H') ∧ St d lc ll (n + 6 + 8 * i) H' ∧ H' cl = some (.lst acc) ∧ DpAll K H' acc (cs.map eCode) ∧ cs.map (·.1) = words8.take i ∧ cs.length = i ∧ ∀ c ∈ cs, LawC asp c)
    ⟨_, _, _, _, [], [], rfl, ⟨x07, ExT.refl _⟩, S7, hcl7, .nil, rfl, rfl, fun c hc => by cases hc⟩ (fun _ _ _ _ _ => trivial) ?_ ?_
  · rintro i x σ' H8 H9 hi ⟨o5, o6, o7, o8, acc, cs, rfl, ⟨x8, t8⟩, S8, hacc, hcs, hw, hcl8, hlc⟩ hy
    obtain ⟨rfl, rfl⟩ := hy
    have hi5 : i < 5 := by omega
    have hva8 : Dp K H9 va (eStrs asp) := dp_t t8 _ _ (by simpa [noL] using noL_strs _) hva7
    refine go_asg (go_cb (go_cons ?_))
    refine n_lcS (K := K) (T := fun (a : Str) (b : Str × Str) => b.1 = a ∧ b.2 ∈ vals) (f := ePair) 2 (wA rfl hva8) S8 (by omega) (fun _ => rfl) (fun j a x H3 hj xt S3 hx => ⟨_, g_name, rfl, fun Z zf zt => ?_⟩) fun p10 xs10 gv H10 x10 S10 hn10 hp10 pk10 hd10 => ?_
    · obtain rfl := dp_str hx
      have := (List.getElem?_eq_some_iff.mp hj).1
      refine e_flip rfl S3 (by omega) fun b H5 x5 S5 => ?_
      cases b with
      | false => exact zf H5 x5 (S5.le (by omega))
      | true =>
        refine zt H5 x5 fun Y hY => ?_
        refine ⟨_, rfl, ?_⟩
        refine e_val rfl S5 (by omega) fun y H11 hy x11 S11 => ⟨by show (2 : Nat) ≤ sizeLine; decide, fun q hq => hY _ _ (a, y) (x5.trans (x11.trans (exS_of (Ex.new hq)))) ((S11.ex (Ex.new hq)).le (by omega)) ⟨rfl, hy⟩ (.tup (st_of upd_same) (.cons (.str _) (.cons (.str _) .nil)))⟩
    refine ⟨p10, xs10, rfl, .inl ⟨sq_of hp10, fun gl hgl => ?_⟩⟩
    have gsub : (gv.map (·.1)).Sublist asp := pk10.sub (fun b : Str × Str => b.1) fun a b h => h.1
    have gval : ∀ p ∈ gv, p.2 ∈ vals := fun p hp => by
      obtain ⟨a, _, h⟩ := pk10.mem p hp
      exact h.2
    have S10' := (S10.ex (Ex.new (o := .tup xs10) hgl)).le (m := n + 6 + 8 * i + 6) (by omega)
    have x10' : ExS d ll H9 (upd H10 gl (.tup xs10)) := x10.trans (exS_of (Ex.new hgl))
    have hg10 : Dp K (upd H10 gl (.tup xs10)) (.ref gl) (eCh gv) := .tup (st_of upd_same) (dpAll_ex (Ex.new hgl) _ _ hd10)
    have hva10 := dp_t (ExS.t S8 x10') (eStrs asp) _ (by simpa [noL] using noL_strs _) hva8
    generalize upd H10 gl (.tup xs10) = H12 at S10' x10' hg10 hva10
    have fin : ∀ (u : V) (g2 : List (Str × Str)) (oz : Option V) (H14 : Hp), ExS d ll H9 H14 → St d lc ll (n + 6 + 8 * i + 7) H14 → Dp K H14 u (eCh g2) → g2 ≠ [] → (g2.map (·.1)).Sublist asp → (∀ p ∈ g2, p.2 ∈ vals) →
        ∀ (word : Str), words8[i]? = some word → ∀ (Z : L2.St → Hp → Prop), (∀ H15, (∃ (o5 o6 o7 o8 : Option V) (acc : List V) (cs : List Code), [some (.ref d), some (.int 5), some va, some (.ref bl), some (.ref cl), some (.int (0 + (i : Int))), some u, some (.str word), oz] = [some (.ref d), some (.int 5), some va, some (.ref bl), some (.ref cl), o5, o6, o7, o8] ∧ (ExS d ll H H15 ∧ ExT H7 H15) ∧ St d lc ll (n + 6 + 8 * (i + 1)) H15 ∧ H15 cl = some (.lst acc) ∧ DpAll K H15 acc (cs.map eCode) ∧ cs.map (·.1) = words8.take (i + 1) ∧ cs.length = i + 1 ∧ ∀ c ∈ cs, LawC asp c) → Z [some (.ref d), some (.int 5), some va, some (.ref bl), some (.ref cl), some (.int (0 + (i : Int))), some u, some (.str word), oz] H15) →
        tBM K "list" rAppend (tVar 4) (tCons (tTup (tCons (tVar 7) (tCons (tOp (rIxL K) (tLst (tCons (tC (.str "j")) (tCons (tC (.str "k")) (tCons (tC (.str "k")) (tCons (tC (.str "l")) tNil))))) (tCall spDraw [] E0 (tCons (tVar 0) (tCons (tC (.int 4)) tNil)))) (tCons (tVar 6) tNil)))) tNil) [some (.ref d), some (.int 5), some va, some (.ref bl), some (.ref cl), some (.int (0 + (i : Int))), some u, some (.str word), oz] H14 (fun _ H15 => Z [some (.ref d), some (.int 5), some va, some (.ref bl), some (.ref cl), some (.int (0 + (i : Int))), some u, some (.str word), oz] H15) := by
      intro u g2 oz H14 x14 S14 hu hne hsub hval word hword Z hZ
      have hacc14 := x14 _ _ nc1 nc2 hacc
      have hcs14 := dpAll_t (ExS.t S8 x14) _ _ (noLs_map fun c _ => noL_code c) hcs
      refine ⟨_, rfl, .inl ⟨rfl, _, sq_of hacc14⟩, _, rfl, ?_⟩
      refine ⟨by show (4 : Nat) ≤ sizeLine; decide, fun p hp => ?_⟩
      refine e_draw (m := 4) rfl (S14.ex (Ex.new hp)) (by omega) (by decide) (by decide) fun r' H16 hr4 x16 S16 => ?_
      obtain ⟨n1, n2⟩ := S14.nd hp
      have h1 := x16 p _ n1 n2 upd_same
      obtain ⟨y, hy⟩ : ∃ y, kinds4[r']? = some y := ⟨_, List.getElem?_eq_getElem hr4⟩
      refine ⟨p, _, (r' : Int), .str y, rfl, rfl, sq_of h1, atI_of (xs := kinds4.map V.str) (j := r') (by rw [List.getElem?_map, hy]; rfl), ?_⟩
      refine ⟨_, rfl, by show (3 : Nat) ≤ sizeLine; decide, fun q hq => ?_⟩
      have x1416 : ExS d ll H14 H16 := (exS_of (Ex.new hp)).trans x16
      have hacc16 := x1416 _ _ nc1 nc2 hacc14
      have e17 : Ex H16 (upd H16 q (.tup [.str word, .str y, u])) := Ex.new hq
      have hacc17 := e17 _ _ hacc16
      have hcode : Dp K (upd H16 q (.tup [.str word, .str y, u])) (.ref q) (eCode (word, y, g2)) := .tup (st_of upd_same) (.cons (.str _) (.cons (.str _) (.cons (dp_ex e17 _ _ (dp_t (ExS.t S14 x1416) _ _ (noL_ch _) hu)) .nil)))
      have hcs17 := dpAll_ex e17 _ _ (dpAll_t (ExS.t S14 x1416) _ _ (noLs_map fun c _ => noL_code c) hcs14)
      have al : acc.length < sizeLine := by
        rw [hcs.len, List.length_map, hcl8]
        exact sz_lt (by omega)
      refine ⟨cl, acc, .ref q, rfl, rfl, hacc17, al, ?_⟩
      have px : ExT (upd H16 q (.tup [.str word, .str y, u])) (upd (upd H16 q (.tup [.str word, .str y, u])) cl (.lst (acc ++ [.ref q]))) := ExT.put (fun xs z => by rw [hacc17] at z; cases z) (fun o xs z => by rw [hacc17] at z; cases z)
      refine hZ _ ⟨_, _, _, _, acc ++ [.ref q], cs ++ [(word, y, g2)], rfl, ⟨fun c o h1 h2 h => ?_, ((t8.trans (ExS.t S8 (x14.trans x1416))).trans (exT_of e17)).trans px⟩, ((S16.ex e17).put nc1 nc3 nc2).le (by omega), upd_same, ?_, ?_, by rw [List.length_append, hcl8]; rfl, fun c hc => ?_⟩
      · have nc : c ≠ cl := fun z => (by rw [z, hclH] at h; cases h)
        rw [upd_ne nc]
        exact e17 _ _ ((x8.trans (x14.trans x1416)) c o h1 h2 h)
      · rw [List.map_append]
        exact DpAll.app (dpAll_t px _ _ (noLs_map fun c _ => noL_code c) hcs17) (.cons (dp_t px _ _ (noL_code _) hcode) .nil)
      · rw [List.map_append, hw, List.take_add_one, hword]
        rfl
      · rcases List.mem_append.mp hc with hc | hc
        · exact hlc c hc
        · rw [List.mem_singleton.mp hc]
          exact ⟨List.mem_of_getElem? hy, hne, hsub, hval⟩
    obtain ⟨word, hword⟩ : ∃ word, words8[i]? = some word := ⟨_, List.getElem?_eq_getElem (by show i < 8; omega)⟩
    have wd : ∀ {σ : L2.St} {H14 : Hp}, σ[5]? = some (some (.int (0 + (i : Int)))) → EvD K (tOp (rIxL K) (tLst (tCons (tC (.str "1")) (tCons (tC (.str "2")) (tCons (tC (.str "22")) (tCons (tC (.str "3;4")) (tCons (tC (.str "0")) (tCons (tC (.str "38;5;1")) (tCons (tC (.str "9")) (tCons (tC (.str "44")) tNil))))))))) (tVar 5)) σ H14 (.str word) := fun h5 =>
      d_ixL (EvN.data (n_lst (ds := words8.map PyData.str) (ds_cons d_str (ds_cons d_str (ds_cons d_str (ds_cons d_str (ds_cons d_str (ds_cons d_str (ds_cons d_str (ds_cons d_str ds_nil)))))))) (by decide))) (d_var h5 (.int _)) (by rw [Int.zero_add]; exact atI_of (by rw [List.getElem?_map, hword]; rfl))
    refine Evl.s_if (b := decide (gv = [])) (t_of (K := K) (d_is (d_eq (d_var (i := 6) rfl hg10) (d_tup (ds := ([] : List (Str × Str)).map ePair) ds_nil (by decide)) ?_ ?_) (by rw [eqv_ch]))) (fun hb H13 e13 => ?_) fun hb H13 e13 => ?_
    · exact (okD_ch fun p hp => ⟨lt_asp asp hma _ (gsub.subset (List.mem_map.mpr ⟨p, hp, rfl⟩)), lt_vals _ (gval p hp)⟩).shaped
    · decide
    · have x13 := x10'.trans (exS_of (d := d) (ll := ll) e13)
      have S13 := S10'.ex e13
      refine go_asg1 (go_tup (go_cons (go_tup (go_cons ?_))))
      obtain ⟨a0, ha0⟩ : ∃ a0, asp[0]? = some a0 := ⟨_, List.getElem?_eq_getElem (by omega)⟩
      refine (d_ixT (K := K) (i := 0) (d_var (i := 2) rfl (dp_ex e13 _ _ hva10)) d_int (atI_of (j := 0) (x := PyData.str a0) (by rw [List.getElem?_map, ha0]; rfl))) H13 (Ex.refl _) _ fun x0 H14 e14 hx0 => ?_
      obtain rfl := dp_str hx0
      refine go_cons (e_val rfl (S13.ex e14) (by omega) fun y H15 hy x15 S15 => ⟨by show (2 : Nat) ≤ sizeLine; decide, fun q hq => ⟨by show (1 : Nat) ≤ sizeLine; decide, fun q2 hq2 => ?_⟩⟩)
      have e17 := (Ex.new (o := .tup [.str a0, .str y]) hq).trans (Ex.new (o := .tup [.ref q]) hq2)
      have S17 := (S15.ex e17).le (m := n + 6 + 8 * i + 7) (by omega)
      have x17 := (x13.trans (exS_of e14)).trans (x15.trans (exS_of (d := d) (ll := ll) e17))
      have hg17 : Dp K (upd (upd H15 q (.tup [.str a0, .str y])) q2 (.tup [.ref q])) (.ref q2) (eCh [(a0, y)]) := .tup (st_of upd_same) (.cons (.tup (st_of ((Ex.new hq2) _ _ upd_same)) (.cons (.str _) (.cons (.str _) .nil))) .nil)
      generalize upd (upd H15 q (.tup [.str a0, .str y])) q2 (.tup [.ref q]) = H17 at S17 x17 hg17
      refine s_setP (wd rfl) fun v H18 e18 hv => ?_
      obtain rfl := dp_str hv
      exact fin _ [(a0, y)] _ H18 (x17.trans (exS_of e18)) (S17.ex e18) (dp_ex e18 _ _ hg17) (by simp) (by
        rw [show ([(a0, y)] : List (Str × Str)).map (·.1) = [a0] from rfl, List.singleton_sublist]
        exact List.mem_of_getElem? ha0) (fun p hp => by rw [List.mem_singleton.mp hp]; exact hy) word hword _ fun H15 h => h
    · have S13 := (S10'.ex e13).le (m := n + 6 + 8 * i + 7) (by omega)
      have x13 := x10'.trans (exS_of (d := d) (ll := ll) e13)
      refine s_setP (wd rfl) fun v H18 e18 hv => ?_
      obtain rfl := dp_str hv
      exact fin _ gv _ H18 (x13.trans (exS_of e18)) (S13.ex e18) (dp_ex e18 _ _ (dp_ex e13 _ _ hg10)) (of_decide_eq_false hb) gsub gval word hword _ fun H15 h => h
  · rintro σ' H8 ⟨o5, o6, o7, o8, acc, cs, rfl, ⟨x8, t8⟩, S8, hacc, hcs, hw, hcl8, hlc⟩
    refine s_retP (d_tup (K := K) (ds_cons (d_var (i := 2) rfl (dp_t t8 _ _ (by simpa [noL] using noL_strs _) hva7)) (ds_cons (d_var (i := 3) rfl (dp_t t8 _ _ (by simpa [noL] using noL_strs _) hsh7)) (ds_cons (d_tupL (d_var (i := 4) rfl (.lst (sq_of hacc) hcs))) ds_nil))) (by show (3 : Nat) ≤ 100000; decide)) fun v H9 e9 hv => ?_
    have lw := congrArg List.length hw
    rw [List.length_map, List.length_take] at lw
    exact hQ v ⟨asp, sh, cs⟩ H9 ⟨hma, shsub, by rw [hcl8]; exact hw, ⟨by show 1 ≤ cs.length; omega, by show cs.length ≤ 5; omega⟩, hlc⟩ hv (x8.trans (exS_of e9)) ((S8.ex e9).le (by omega))
end
end K26
set_option Elab.async false
set_option linter.all false
set_option maxRecDepth 100000
set_option maxHeartbeats 4000000
/-! KS4: _law_begin. -/
namespace K26
open PySem PySem.Spec PyProof.Rows L2 Evl LamX NdefX RZ
section
variable {σ : L2.St} {H : Hp} {Q : VK} {tk tv : TE} {r : List (TE × TE)} {Qp : List (V × V) → Hp → Prop}
theorem go_pair (h : tk σ H fun x H1 => tv σ H1 fun y H2 => tPairs r σ H2 fun ps H3 => Qp ((x, y) :: ps) H3) : tPairs ((tk, tv) :: r) σ H Qp := h
theorem go_c {v : V} (h : Q v H) : tC v σ H Q := h
theorem go_var {i : Nat} {v : V} (hi : σ[i]? = some (some v)) (h : Q v H) : tVar i σ H Q := ⟨v, hi, h⟩
end
def spBegin (K : PySem.W.Frag) : Sp := fun vs H Q _ => ∃ (l : Addr) (ns : List Int), vs = [.ref l] ∧ SqL K H l (ns.map V.int) ∧ ns.length ≤ 63 ∧ ∀ d lc ll H', Ex H H' → H d = none → St d lc ll 0 H' → Q (.ref d) H'
section
variable {P : Program} {w : World} {K : PySem.W.Frag} {mg : Str → Option Value} {base : Heap}
theorem ok__law_begin (T : TX K mg) : FnOk P w K mg base CX0 1 T._law_begin.f T._law_begin.fd ["script"] (spBegin K) := by
  refine T._law_begin.F.ok sc__law_begin (fun vs H Q E h => by obtain ⟨l, ns, rfl, _⟩ := h; rfl) (fun cdv A outer s H vs Q E hr h => ?_)
  refine ⟨_, PSs.nox (pss_cons (ps_set (i := 1) sc__law_begin.nd rfl (Or.inl rfl) (pe_ifExp (pt_cmpR (opNe K hr.units) (pv 0) (pe_lst pa_nil) (nomark _)) (pe_callTy call_list_of rfl T.b_list PyProof.Rows.boot_list (pa_cons (pv 0) pa_nil)) (pe_lst (pa_cons pe_int pa_nil)))) (pss_one (ps_ret (pe_disp (pps_cons pe_str (pv 1) (pps_cons pe_str (pe_lc (own := [("cell", 2)]) rfl sc__law_begin.nd (piL K (pv 1)) (blkOk_by (N := ["script", "cells", "cell"]) (sc := defScope s__law_begin) (by decide +kernel)) (fun _ _ _ _ _ => (pg_name (i := 2) sc__law_begin.nd rfl (Or.inl rfl))) (fun _ _ _ _ _ => pts_nil) (fun _ _ _ _ _ => (pe_ifExp (pt_cmpR op_ge (pv 2) (pe_op op_pow pe_int pe_int) (nomark _)) (pv 2) pe_int))) (pps_cons pe_str pe_int (pps_cons pe_str pe_int pps_nil)))) (by rfl) (by rfl) (fun z => by cases z) (by decide))))), ?_⟩
  obtain ⟨l, ns, rfl, hl, hn, hQ⟩ := h
  have hint : ∀ (xs : List Int) (H1 : Hp), DpAll K H1 (xs.map V.int) (xs.map PyData.int) := fun xs H1 => dpAll_ints xs
  have shi : ∀ xs : List Int, SeqAt.shaped (.list (xs.map PyData.int)) = true := fun xs => okD.shaped ⟨lay_map fun _ _ => rfl, by
    have := depth_map (e := PyData.int) (l := xs) (n := 0) fun _ _ => Nat.le_refl _
    show PyData.depthAll (xs.map PyData.int) + 1 ≤ 10
    omega⟩
  obtain ⟨cs, hcs⟩ : ∃ cs : List Int, cs = if ns = [] then [0] else ns := ⟨_, rfl⟩
  have cl : 1 ≤ cs.length ∧ cs.length ≤ 100 := by
    rw [hcs]
    split
    · exact ⟨by decide, by decide⟩
    · rename_i h
      have : ns.length ≠ 0 := fun z => h (List.length_eq_zero_iff.mp z)
      omega
  refine s_setP (R := isL K H (cs.map PyData.int)) (p_if (t_of (K := K) (d_ne (d_var (i := 0) rfl (.lst hl (hint ns H))) (EvN.data (n_lst ds_nil (by decide))) (shi ns) (by decide))) (fun hb => ?_) fun hb => ?_) fun v H1 e1 hv => ?_
  · have hne : ns ≠ [] := fun z => by rw [z] at hb; exact absurd hb (by decide)
    rw [if_neg hne] at hcs
    subst hcs
    exact fun H1 e Q q => ⟨_, rfl, l, _, rfl, .inl (ex_l e hl), fun p hp => q _ _ (Ex.new hp) ⟨p, _, rfl, fresh_back e hp, upd_same, hint _ _⟩⟩
  · have he : ns = [] := by
      cases ns with
      | nil => rfl
      | cons a t => exact absurd hb (by show (!false) = false → False; decide)
    rw [if_pos he] at hcs
    subst hcs
    exact n_lst (ds_cons d_int ds_nil) (by decide)
  · obtain ⟨lc, xs, rfl, hn1, hlc, hxs⟩ := hv
    obtain rfl := hxs.ints
    intro d hd
    have hdlc : lc ≠ d := fun z => by rw [z, hd] at hlc; cases hlc
    have e2 : Ex H1 (upd H1 d (.dK [])) := Ex.new hd
    have hlc2 := e2 _ _ hlc
    refine go_pair (go_c (go_var (v := .ref lc) rfl (go_pair (go_c ?_))))
    refine (n_lc (K := K) (l := cs) (w_lst (f := PyData.int) (d_var (i := 1) rfl (.lst (sq_of hlc2) (hint cs _)))) (by omega) (fun _ => true) (fun c => PyData.int (if 10 ^ 18 ≤ c then c else 0)) (fun _ _ => rfl) fun a ha y H3 e3 hy => ⟨_, g_name, rfl, et_yes, fun _ => ?_⟩) _ (Ex.refl _) _ fun v H3 e3 hv => ?_
    · obtain rfl := dp_int hy
      refine p_if (b := decide ((10 : Int) ^ 18 ≤ a)) (t_of (K := K) (d_int2 (i := a) (j := 10 ^ 18) (d_var (i := 2) rfl (.int a)) (d_rI (i := 10) (j := 18) d_int d_int ⟨by decide, by decide, by decide⟩ fun _ => .int _) fun _ => .bl _)) (fun hb => ?_) fun hb => ?_
      · rw [if_pos (of_decide_eq_true hb)]
        exact d_var (i := 2) rfl (.int a)
      · rw [if_neg (of_decide_eq_false hb)]
        exact d_int
    · obtain ⟨ll, xs, rfl, hn3, hll, hxs⟩ := hv
      rw [List.filter_eq_self.mpr fun _ _ => rfl, show (cs.map fun c => PyData.int (if 10 ^ 18 ≤ c then c else 0)) = (cs.map fun c => if 10 ^ 18 ≤ c then c else 0).map PyData.int from by rw [List.map_map]; rfl] at hxs
      obtain rfl := hxs.ints
      refine go_pair (go_c (go_c (go_pair (go_c (go_c ?_)))))
      have hd3 : H3 d = some (.dK []) := e3 _ _ upd_same
      refine ⟨hd3, [(.inr "cells", .ref lc), (.inr "lefts", .ref ll), (.inr "at", .int 0), (.inr "room", .int 0)], rfl, by show (4 : Nat) ≤ 15; decide, ?_⟩
      have hdll : ll ≠ d := fun z => by rw [z, upd_same] at hn3; cases hn3
      have hcl : lc ≠ ll := fun z => by rw [← z, hlc2] at hn3; cases hn3
      refine hQ d lc ll _ (fun a o h => ?_) (fresh_back e1 hd) ⟨⟨0, Nat.le_refl _, upd_same⟩, ⟨cs, _, by rw [upd_ne hdlc]; exact e3 _ _ hlc2, by rw [upd_ne hdll]; exact hll, by rw [List.length_map], cl⟩, hcl⟩
      have h1 := e1 a o h
      have na : a ≠ d := fun z => by rw [z, hd] at h1; cases h1
      rw [upd_ne na]
      exact e3 a o (by rw [upd_ne na]; exact h1)
end
end K26
set_option Elab.async false
set_option linter.all false
set_option maxRecDepth 100000
set_option maxHeartbeats 4000000
/-! KS5: dict of a list of pairs; _law_codes. -/
namespace K26
open PySem PySem.Spec PyProof.Rows L2 Evl LamX NdefX RZ
section
variable {K : PySem.W.Frag} {H : Hp} {σ : L2.St} {te : TE}
theorem g3 {i j k : Nat} {a : Addr} {x y z : V} (h : SqT K H a [x, y, z]) : Sets (gTup K 3 (gCons (gName i) (gCons (gName j) (gCons (gName k) gNil)))) (.ref a) σ H (((σ.set i (some x)).set j (some y)).set k (some z)) := fun _ q => ⟨a, _, rfl, h, rfl, _, _, rfl, _, _, rfl, _, _, rfl, rfl, q⟩
theorem mergeG {β : Type} {R : β → V → Hp → Prop} : ∀ {ws : List (Str × β)} {kvs : List (Key × V)} {acc : List (Str × β)} {base : List (Key × V)}, PrR R H base acc → Paired (fun (kv : Key × V) (q : Str × β) => kv.1 = Sum.inr q.1 ∧ R q.2 kv.2 H) kvs ws →
    PrR R H (mergeK base kvs) (ws.foldl (fun acc q => pv2 acc q.1 q.2) acc)
  | _, _, _, _, h, .nil => h
  | q :: ws, kv :: kvs, acc, base, h, .cons a t => by
    show PrR R H (mergeK (putK base kv.1 kv.2) kvs) (ws.foldl _ (pv2 acc q.1 q.2))
    rw [a.1]
    exact mergeG (PrR.put h a.2) t
theorem pairsD : ∀ {xs : List V} {ws : List (Str × PyData)}, DpAll K H xs (ws.map fun q => .tuple [.str q.1, q.2]) → ∃ (ps : List Addr) (kvs : List (Key × V)), xs = ps.map V.ref ∧ Paired (fun p kv => SqT K H p [kV kv.1, kv.2]) ps kvs ∧ Paired (fun (kv : Key × V) (q : Str × PyData) => kv.1 = Sum.inr q.1 ∧ isD K q.2 kv.2 H) kvs ws
  | _, [], h => by
    cases h
    exact ⟨[], [], rfl, .nil, .nil⟩
  | _, q :: ws, h => by
    cases h with
    | cons h1 t =>
      obtain ⟨ps, kvs, e1, p1, p2⟩ := pairsD t
      obtain ⟨b, ys, rfl, hs, hy⟩ := dp_tup h1
      obtain ⟨y1, y2, rfl, k1, k2⟩ := dp2 hy
      obtain rfl := dp_str k1
      exact ⟨b :: ps, (Sum.inr q.1, y2) :: kvs, by rw [e1]; rfl, .cons hs p1, .cons ⟨rfl, k2⟩ p2⟩
theorem k_dictP {ws : List (Str × PyData)} (h : EvN K te σ H (ws.map fun q => .tuple [.str q.1, q.2])) : EvP (tCB (fun xs H Q => ∃ (a : Addr) (ps : List Addr) (kvs : List (Key × V)), xs = [.ref a] ∧ SqL K H a (ps.map V.ref) ∧ Paired (fun p kv => SqT K H p [kV kv.1, kv.2]) ps kvs ∧ ∀ p, H p = none → Q (.ref p) (upd H p (.dK (mergeK [] kvs)))) (tCons te tNil)) σ H (isRN (isD K) H (kfold ws)) := fun H1 e Q q =>
  h H1 e _ fun v H2 e2 ⟨a, xs, hv, hn, ha, hx⟩ => by
    subst hv
    obtain ⟨ps, kvs, e1, p1, p2⟩ := pairsD hx
    subst e1
    refine ⟨a, ps, kvs, rfl, sq_of ha, p1, fun p hn => q _ _ (e2.trans (Ex.new hn)) ⟨p, rfl, fresh_back e (fresh_back e2 hn), _, upd_same, ?_⟩⟩
    exact (mergeG (R := isD K) (acc := []) (base := []) .nil p2).imp fun d v w => KR.ex (Ex.new hn) w
end
def codesD (cs : List Code) : List (Str × PyData) := cs.map fun c => (c.1, .tuple [.str c.2.1, eCh c.2.2])
def spCodesD (K : PySem.W.Frag) : Sp := fun vs H Q _ => ∃ b vb, vs = [vb] ∧ Dp K H vb (eBook b) ∧ b.codes.length ≤ 16 ∧ (b.codes.map (·.1)).Nodup ∧ ∀ v H', Ex H H' → isRN (isD K) H (codesD b.codes) v H' → Q v H'
section
variable {P : Program} {w : World} {K : PySem.W.Frag} {mg : Str → Option Value} {base : Heap}
theorem ok__law_codes (T : TX K mg) : FnOk P w K mg base CX0 1 T._law_codes.f T._law_codes.fd ["book"] (spCodesD K) := by
  refine T._law_codes.F.ok sc__law_codes (fun vs H Q E h => by obtain ⟨b, vb, rfl, _⟩ := h; rfl) (fun cdv A outer s H vs Q E hr h => ?_)
  refine ⟨_, PSs.nox (pss_one (ps_ret (pe_callTy (call_dictP rfl) rfl T.b_dict PyProof.Rows.boot_dict (pa_cons (pe_lc (own := [("word", 1), ("kind", 2), ("gives", 3)]) rfl sc__law_codes.nd (piT K (pe_ix (ixT K) (pv 0) pe_int (fun _ _ => rfl))) (blkOk_by (N := ["book", "word", "kind", "gives"]) (sc := defScope s__law_codes) (by decide +kernel)) (fun _ _ _ _ _ => (pgTup K (n := 3) rfl (pgs_cons (pg_name (i := 1) sc__law_codes.nd rfl (Or.inl rfl)) (pgs_cons (pg_name (i := 2) sc__law_codes.nd rfl (Or.inl rfl)) (pgs_cons (pg_name (i := 3) sc__law_codes.nd rfl (Or.inl rfl)) pgs_nil))))) (fun _ _ _ _ _ => pts_nil) (fun _ _ _ _ _ => pe_tup (pa_cons (pv 1) (pa_cons (pe_tup (pa_cons (pv 2) (pa_cons (pv 3) pa_nil))) pa_nil)))) pa_nil)))), ?_⟩
  obtain ⟨b, vb, rfl, hb, h16, hnd, hQ⟩ := h
  refine s_retP (k_dictP (K := K) (ws := codesD b.codes) (n_is (n_lcA (w_tup (l := b.codes) (f := eCode) (d_ixT (d_var (i := 0) rfl hb) d_int (atI_of (j := 2) rfl))) (by omega) (fun c => .tuple [.str c.1, .tuple [.str c.2.1, eCh c.2.2]]) (fun c _ => ?_) fun c hc y H3 e3 hy => ?_) (by unfold codesD; rw [List.map_map]; rfl))) fun v H1 e1 hv => ?_
  · show noL (.tuple [.str c.1, .tuple [.str c.2.1, eCh c.2.2]]) = true
    simp only [noL, noLs, Bool.true_and, Bool.and_true]
    exact noL_ch c.2.2
  · obtain ⟨a, xs, rfl, hs, hx⟩ := dp_tup hy
    obtain ⟨y1, y2, y3, rfl, k1, k2, k3⟩ := dp3 hx
    exact ⟨_, g3 hs, rfl, d_tup (ds_cons (d_var (i := 1) rfl k1) (ds_cons (d_tup (ds_cons (d_var (i := 2) rfl k2) (ds_cons (d_var (i := 3) rfl k3) ds_nil)) (by show (2 : Nat) ≤ 100000; decide)) ds_nil)) (by show (2 : Nat) ≤ 100000; decide)⟩
  · rw [kfold_id (by unfold codesD; rw [List.map_map]; exact hnd)] at hv
    exact hQ v H1 e1 hv
end
end K26
set_option Elab.async false
set_option linter.all false
set_option maxRecDepth 100000
set_option maxHeartbeats 4000000
/-! KS6: _law_worth. -/
namespace K26
open PySem PySem.Spec PyProof.Rows L2 Evl LamX NdefX RZ
def worth (c : Chain) (t : List Str) : Option Str := ((c.filter fun p => decide (p.1 ∈ t)).map (·.2)).head?
def eOpt : Option Str → PyData
  | none => .none
  | some x => .str x
abbrev pWorth : List PyData → PyData → Prop := fun ds d => ∃ c t, ds = [eCh c, eStrs t] ∧ c.length ≤ 1000 ∧ (∀ p ∈ c, Lt p.2) ∧ d = eOpt (worth c t)
section
variable {P : Program} {w : World} {K : PySem.W.Frag} {mg : Str → Option Value} {base : Heap}
theorem ok__law_worth (T : TX K mg) : FnOk P w K mg base CX0 1 T._law_worth.f T._law_worth.fd ["chain", "terminal"] (SpD K pWorth) := by
  refine T._law_worth.F.ok sc__law_worth (fun vs H Q E h => by obtain ⟨ds, d, hd, ⟨c, t, rfl, _⟩, _⟩ := h; rw [hd.len]; rfl) (fun cdv A outer s H vs Q E hr h => ?_)
  refine ⟨_, PSs.nox (pss_cons (ps_setLc (i := 2) (own := [("kind", 3), ("value", 4)]) rfl sc__law_worth.nd rfl rfl (sw_true rfl rfl rfl (by decide +kernel)) (piT K (pv 0)) (blkOk_by (N := ["chain", "terminal", "some", "kind", "value"]) (sc := defScope s__law_worth) (by decide +kernel)) (fun _ _ _ _ _ => (pgTup K (n := 2) rfl (pgs_cons (pg_name (i := 3) sc__law_worth.nd rfl (Or.inl rfl)) (pgs_cons (pg_name (i := 4) sc__law_worth.nd rfl (Or.inl rfl)) pgs_nil)))) (fun _ _ _ _ _ => (pts_one (pt_cmpR (opIn K) (pv 3) (pv 1) rfl))) (fun _ _ _ _ _ => (pv 4))) (pss_one (ps_ret (pe_ifExp (pt_cmpR (opNe K hr.units) (pv 2) (pe_lst pa_nil) (nomark _)) (pe_ix (ixL K) (pv 2) pe_int (fun _ _ => rfl)) pe_non)))), ?_⟩
  obtain ⟨ds, d, hd, ⟨c, t, rfl, hl, hlt, rfl⟩, hQ⟩ := h
  obtain ⟨u, v, rfl, h1, h2⟩ := dp2 hd
  refine s_setP (n_lc (K := K) (l := c) (w_tup (f := ePair) (d_var (i := 0) rfl h1)) (by omega) (fun p => decide (p.1 ∈ t)) (fun p => .str p.2) (fun _ _ => rfl) fun p hp y H3 e3 hy => ?_) fun x H1 e1 hx => ?_
  · obtain ⟨a, xs, rfl, hs, hxs⟩ := dp_tup hy
    obtain ⟨y1, y2, rfl, k1, k2⟩ := dp2 hxs
    exact ⟨_, g_two hs, rfl, t_of (K := K) (d_in1 (d_var (i := 3) rfl k1) (d_var (i := 1) rfl (dp_ex e3 _ _ h2))), fun _ => d_var (i := 4) rfl k2⟩
  · obtain ⟨p, xs, rfl, _, hp, hxs⟩ := hx
    have ew : ((c.filter fun p => decide (p.1 ∈ t)).map fun p => PyData.str p.2) = ((c.filter fun p => decide (p.1 ∈ t)).map (·.2)).map PyData.str := by rw [List.map_map]; rfl
    rw [ew] at hxs
    have lt : ∀ x ∈ (c.filter fun p => decide (p.1 ∈ t)).map (·.2), Lt x := fun x hx => by
      obtain ⟨q, hq, rfl⟩ := List.mem_map.mp hx
      exact hlt q (List.mem_filter.mp hq).1
    unfold worth at hQ
    generalize (c.filter fun p => decide (p.1 ∈ t)).map (·.2) = ws at hxs lt hQ
    have sh : SeqAt.shaped (.list (ws.map PyData.str)) = true := okD.shaped ⟨lay_map lt, by
      have := depth_map (e := PyData.str) (l := ws) (n := 0) fun _ _ => Nat.le_refl _
      show PyData.depthAll (ws.map PyData.str) + 1 ≤ 10
      omega⟩
    have xd : EvD K (tVar 2) [some u, some v, some (.ref p), none, none] H1 (.list (ws.map PyData.str)) := d_var rfl (.lst (sq_of hp) hxs)
    refine s_retP (p_if (R := isD K (eOpt ws.head?)) (t_of (K := K) (d_ne xd (EvN.data (n_lst ds_nil (by decide))) sh (by decide))) (fun hb => ?_) fun hb => ?_) fun v' H2 e2 w2 => hQ v' H2 (e1.trans e2) w2
    · cases ws with
      | nil => exact absurd hb (by decide)
      | cons a l => exact d_ixL xd d_int (atI_of (j := 0) rfl)
    · cases ws with
      | nil => exact d_non
      | cons a l => exact absurd hb (by show (!false) = false → False; decide)
end
end K26
set_option Elab.async false
set_option linter.all false
set_option maxRecDepth 100000
set_option maxHeartbeats 4000000
/-! KS7: _law_wide. -/
namespace K26
open PySem PySem.Spec PyProof.Rows L2 Evl LamX NdefX RZ
theorem w_rng2 {K : PySem.W.Frag} {σ : L2.St} {H : Hp} {ta : TA} {lo : Int} {n : Nat} (h : EvDs K ta σ H [.int lo, .int (lo + (n : Int))]) (hn : n ≤ 100000) (hl : -100000 ≤ lo ∧ lo ≤ 100000) : WalkD (iRng2 ta) σ H (List.range n) (fun i x _ => x = .int (lo + (i : Nat))) := fun H1 e Z z =>
  h H1 e _ fun vs H2 e2 w => by
    obtain ⟨x, y, rfl, w1, w2⟩ := dp2 w
    obtain rfl := dp_int w1
    obtain rfl := dp_int w2
    have en : (lo + (n : Int) - lo).toNat = n := by omega
    refine ⟨lo, lo + (n : Int), rfl, ⟨by omega, by omega, by omega, by omega⟩, z (Itr lo (lo + (n : Int) - lo).toNat) H2 _ _ e2 (by rw [List.length_range, en]; exact walk_range) (fun _ _ => trivial) fun j H3 x H4 b hb hy e3 => ?_⟩
    obtain ⟨rfl, rfl⟩ := hy
    obtain ⟨h1, h2⟩ := List.getElem?_eq_some_iff.mp hb
    simp at h2
    subst h2
    exact ⟨Ex.refl _, rfl⟩
def wideC (k : Nat) : Code := (toString ((10 : Int) + (k : Nat)), "k", [("a", if ((10 : Int) + (k : Nat)) % 2 = 0 then "u" else "v")])
def wideB (m : Nat) : Bk := ⟨["a"], [], (List.range m).map wideC⟩
abbrev pWide : List PyData → PyData → Prop := fun ds d => ∃ m : Nat, ds = [.int (m : Nat)] ∧ m ≤ 11 ∧ d = eBook (wideB m)
section
variable {P : Program} {w : World} {K : PySem.W.Frag} {mg : Str → Option Value} {base : Heap}
theorem ok__law_wide (T : TX K mg) : FnOk P w K mg base CX0 1 T._law_wide.f T._law_wide.fd ["many"] (SpD K pWide) := by
  refine T._law_wide.F.ok sc__law_wide (fun vs H Q E h => by obtain ⟨ds, d, hd, ⟨m, rfl, _⟩, _⟩ := h; rw [hd.len]; rfl) (fun cdv A outer s H vs Q E hr h => ?_)
  refine ⟨_, PSs.nox (pss_one (ps_ret (pe_tup (pa_cons (pe_tup (pa_cons pe_str pa_nil)) (pa_cons (pe_tup pa_nil) (pa_cons (qTup K T.b_tuple (pe_lc (own := [("k", 1)]) rfl sc__law_wide.nd (pi_range2 rfl T.b_range (pa_cons pe_int (pa_cons (pe_op op_add pe_int (pv 0)) pa_nil))) (blkOk_by (N := ["many", "k"]) (sc := defScope s__law_wide) (by decide +kernel)) (fun _ _ _ _ _ => (pg_name (i := 1) sc__law_wide.nd rfl (Or.inl rfl))) (fun _ _ _ _ _ => pts_nil) (fun _ _ _ _ _ => (pe_tup (pa_cons (pe_callTy call_str_int rfl T.b_str PyProof.Rows.boot_str (pa_cons (pv 1) pa_nil)) (pa_cons pe_str (pa_cons (pe_tup (pa_cons (pe_tup (pa_cons pe_str (pa_cons (pe_ifExp (pt_cmpR op_eq (pe_op op_mod (pv 1) pe_int) pe_int (nomark _)) pe_str pe_str) pa_nil))) pa_nil)) pa_nil))))))) pa_nil)))))), ?_⟩
  obtain ⟨ds, d, hd, ⟨m, rfl, hm, rfl⟩, hQ⟩ := h
  obtain ⟨v, rfl, h1⟩ := dp1 hd
  have sm : (2 : Nat) ≤ 100000 := by decide
  refine s_retP (d_tup (K := K) (ds_cons (d_tup (ds_cons d_str ds_nil) (by decide)) (ds_cons (d_tup ds_nil (by decide)) (ds_cons (d_tupL (EvN.data (n_lcA (w_rng2 (lo := 10) (n := m) (ds_cons d_int (ds_cons (d_add d_int (d_var (i := 0) rfl h1)) ds_nil)) (by omega) (by decide)) (by rw [List.length_range]; omega) (fun k => eCode (wideC k)) (fun k _ => noL_code _) fun k hk y H3 e3 hy => ?_))) ds_nil))) (by show (3 : Nat) ≤ 100000; decide)) fun v' H2 e2 w2 => hQ v' H2 e2 ?_
  · subst hy
    refine ⟨_, g_name, rfl, ?_⟩
    have kv : ∀ {H4 : Hp}, EvD K (tVar 1) [some v, some (.int (10 + (k : Nat)))] H4 (.int (10 + (k : Nat))) := d_var rfl (.int _)
    have hk11 : k < 11 := by have := List.mem_range.mp hk; omega
    have small : ((10 : Int) + (k : Nat)).natAbs.log2 < 1920 := by
      have e : ((10 : Int) + (k : Nat)).natAbs = 10 + k := by omega
      rw [e]
      have : (10 + k).log2 < 5 := (Nat.log2_lt (by omega)).mpr (by omega)
      omega
    have sv : EvD K (tCB (fun xs H Q => ∃ i, xs = [V.int i] ∧ i.natAbs.log2 < 1920 ∧ Q (.str (toString i)) H) (tCons (tVar 1) tNil)) [some v, some (.int (10 + (k : Nat)))] H3 (.str (toString ((10 : Int) + (k : Nat)))) := fun H4 e Q q => ⟨_, rfl, _, rfl, small, q _ H4 (Ex.refl _) (.str _)⟩
    refine d_tup (ds_cons sv (ds_cons d_str (ds_cons (d_tup (ds_cons (d_tup (ds_cons d_str (ds_cons (p_if (R := isD K (.str (if ((10 : Int) + (k : Nat)) % 2 = 0 then "u" else "v"))) (t_of (K := K) (d_eqI (d_rI kv d_int (by show (0 : Int) < 2; decide) fun _ => .int _) d_int)) (fun hb => ?_) fun hb => ?_) ds_nil)) (by show (2 : Nat) ≤ 100000; decide)) ds_nil) (by show (1 : Nat) ≤ 100000; decide)) ds_nil))) (by show (3 : Nat) ≤ 100000; decide)
    · rw [if_pos (of_decide_eq_true hb)]
      exact d_str
    · rw [if_neg (of_decide_eq_false hb)]
      exact d_str
  · show Dp K H2 v' (.tuple [eStrs ["a"], eStrs [], .tuple (((List.range m).map wideC).map eCode)])
    rw [List.map_map]
    exact w2
end
end K26
set_option Elab.async false
set_option linter.all false
set_option maxRecDepth 100000
set_option maxHeartbeats 4000000
/-! KR1: sorted(xs, key=len) of tuples; repr of a tuple of texts, of None. -/
namespace K26
open PySem PySem.Spec PyProof.Rows L2 Evl
abbrev TagL := List (Addr × List V)
def rSortLen (K : PySem.W.Frag) (x : V) (H : Hp) (Q : VK) : Prop := ∃ (a : Addr) (ks : TagL), x = .ref a ∧ SqL K H a (ks.map fun k => V.ref k.1) ∧ ks.length ≤ 100000 ∧ (∀ k ∈ ks, SqT K H k.1 k.2) ∧
  ∀ p (ys : TagL), ys.Perm ks → H p = none → Q (.ref p) (upd H p (.lst (ys.map fun k => V.ref k.1)))
def tSortLen (K : PySem.W.Frag) (te : TE) : TE := fun σ H Q => te σ H fun x H1 => rSortLen K x H1 Q
theorem each_tags {β : Type} : ∀ {ks : List (Addr × β)} {vs : List Value}, Vals (ks.map fun k => V.ref k.1) vs → PySem.W.EachIs (fun (v : Value) (k : Addr × β) => v = .ref k.1) vs ks
  | [], _, .nil => .nil
  | _ :: _, _, .cons r t => .cons r (each_tags t)
theorem tags_each {β : Type} : ∀ {ks : List (Addr × β)} {vs : List Value}, PySem.W.EachIs (fun (v : Value) (k : Addr × β) => v = .ref k.1) vs ks → Vals (ks.map fun k => V.ref k.1) vs
  | _, _, .nil => .nil
  | _, _, .cons r t => .cons r (tags_each t)
section
variable {X : Cx}
theorem pe_sortLen (K : PySem.W.Frag) {e : Expr} {te : TE} {p p2 kp pos : Pos} (hr : X.A.units + 64 < cLine) (hg : Gl X "sorted") (hmn : X.mg "sorted" = none) (hg2 : Gl X "len") (hml : X.mg "len" = none) (he : PE X e te) (hk : X.K = K := by rfl)
    (hs : backTo pos (starEach [e] X.env) = (false, eval e X.env) :: backTo pos (starEach [] X.env) := by rfl) (hpl : (backTo pos (starEach [e] X.env)).any (·.1) = false := by rfl) (hss : starEach [e] X.env = (false, eval e X.env) :: starEach [] X.env := by rfl)
    (hall : (backToKw pos (keywordEach [⟨some "key", .Name "len" p2, kp⟩] X.env)).all (·.1.isSome) = true := by rfl) (hnone : (backToKw pos (keywordEach [⟨some "key", .Name "len" p2, kp⟩] X.env)).any (·.1.isNone) = false := by rfl)
    (hks : (backToKw pos (keywordEach [⟨some "key", .Name "len" p2, kp⟩] X.env)).filterMap (·.1) = [Str.ofString "key"] := by rfl) :
    PE X (.Call (.Name "sorted" p) [e] [⟨some "key", .Name "len" p2, kp⟩] pos) (tSortLen K te) := by
  subst hk
  refine ⟨fun pins s σ H Q I h => ?_⟩
  refine wpAny_Call_Name_kw (ld_blt I hg hmn (u := .builtin "sorted") (by decide +kernel) ?_ (by decide) (by decide))
  refine PyProof.Rows.callWith_kw (thn ((pa_cons he pa_nil hss).run pos pins s σ H (oneV fun x H1 => rSortLen X.K x H1 Q) I h) fun us s1 ⟨vs, H0, I0, r0, q0⟩ => ?_) hs hpl hall hnone
  show wpAny _ _ (evalAll ((do let v ← eval (.Name "len" p2) X.env; standAt pos; pure v) :: (backToKw pos (keywordEach [] X.env)).map (·.2))) _ _ s1
  refine wpAny_evalAll_cons (wpAny_bind (ld_blt I0 hg2 hml (u := .builtin "len") (by decide +kernel) (wpAny_bind (wpAny_standAt (wpAny_pure (wpAny_evalAll_nil ?_))))))
  rw [hks]
  obtain ⟨x0, ev, a, ks, rfl, hl, hlen, htup, hQ⟩ := oneV_of q0
  subst ev
  cases r0 with
  | @cons _ u _ _ ra rt =>
    cases rt
    obtain rfl : u = Value.ref a := ra
    obtain ⟨its, rv, pl, hz⟩ := I0.list hl
    have ez : sizeLine = 16777216 := sizeLine_eq
    show wpAny _ _ (call (.builtin "sorted") [.ref a] [(Str.ofString "key", .builtin "len")]) _ _ _
    refine PySem.W.sorted_key_data (b := false) (bs := ks) (fun k => PyData.int (k.2.length : Nat)) pl.isList (each_tags rv) (PySem.W.AllAlike.of fun _ _ => by simp [PySem.W.alike]) (PySem.W.Sortable.others fun _ => ⟨nofun, nofun⟩) (by omega) (fun _ _ => by show X.A.units + 2 + 0 < cLine; omega) (ksk_s1 _ _) (fun _ => ksk_l1 _ _) (fun _ => ksk_t4 _ _) (fun v k hv hk h tk old => ?_) fun out cc h' tk old _ hout hol hev => ?_
    · subst hv
      obtain ⟨ys, ry, py, hy⟩ := I0.tuple (htup k hk)
      have ly := ry.length
      have py2 : IsTup h k.1 ys.toArray := py.keeps old
      refine len_tuple (s := { s1 with heap := h, toks := tk }) py2 (by simp only [List.size_toArray]; omega) ⟨h, _, rfl, fun _ _ e => e, ?_⟩
      simp only [List.size_toArray]
      rw [← ly]
      exact .int _ _
    · have pm : (ks.mergeSort (PySem.W.dataLe false fun k => PyData.int (k.2.length : Nat))).Perm ks := List.mergeSort_perm _ _
      have nl : ((ks.mergeSort (PySem.W.dataLe false fun k => PyData.int (k.2.length : Nat))).map fun k => V.ref k.1).length ≤ sizeLine := by
        rw [List.length_map, pm.length_eq]
        omega
      exact ⟨.ref _, upd H0 (s1.heap.objs.size + 1) (.lst ((ks.mergeSort (PySem.W.dataLe false fun k => PyData.int (k.2.length : Nat))).map fun k => V.ref k.1)), I0.laid (t' := tk) old (Nat.le_succ _) ⟨nl, out, cc, tags_each hev, hout⟩, rfl, hQ _ _ pm (I0.hok.fresh (Nat.le_succ _))⟩
/-- repr of a tuple of texts, of None -/
def rRepr (K : PySem.W.Frag) : List V → Hp → VK → Prop := fun vs H Q => ∃ x d t, vs = [x] ∧ Dp K H x d ∧ ((d = .none ∧ t = ("None" : Str)) ∨ ((∃ ds, d = .tuple ds) ∧ d.showable = true ∧ d.hasDict = false ∧ d.depth ≤ 10 ∧ d.shown.length ≤ sizeLine ∧ t = d.shown)) ∧ Q (.str t) H
theorem cr_repr (hg : X.A.guards = some []) (hu : X.A.units + 64 < cLine) : CallR X (.builtin "repr") (rRepr X.K) := by
  intro pins s σ H xs us Q I r h
  obtain ⟨x, d, t, rfl, hd, hc, q⟩ := h
  obtain ⟨u, rfl, rx⟩ := vals1 r
  rcases hc with ⟨rfl, rfl⟩ | ⟨⟨ds, rfl⟩, h1, h2, h3, h4, rfl⟩
  · cases hd
    obtain rfl : u = Value.none := rx
    exact P.repr_of_none ⟨.str _, H, I.tok _, ⟨_, rfl⟩, q⟩
  · obtain ⟨as, r1⟩ := Dp.reads I (.tuple ds) x u hd rx
    obtain ⟨a, ys, rfl, _⟩ := dp_tup hd
    obtain rfl : u = Value.ref a := rx
    exact repr_of_reads' r1 h1 (fun z => by rw [h2] at z; cases z) hg (by omega) (fun _ _ e => e) (fun h' v tk hk => ⟨.str _, H, I.kept (t' := tk) hk, ⟨_, rfl⟩, q⟩) h4
end
end K26
set_option Elab.async false
set_option linter.all false
set_option maxRecDepth 100000
set_option maxHeartbeats 4000000
/-! KR2: defs whose frame stands where no repr is under way. -/
namespace K26
open PySem PySem.Spec PyProof.Rows L2 Evl
structure FnG (P : Program) (w : World) (K : PySem.W.Frag) (mg : Str → Option Value) (base : Heap) (C : CXT) (k : Nat) (f : Addr) (fd : FuncData) (ps : List Str) (sp : Sp) : Prop where
  len : ∀ vs H Q E, sp vs H Q E → vs.length = ps.length
  run : ∀ (B : Around) (outer : List Env) (s : Shared) (H : Hp) (args : Args) (us : List Value) (vs : List V) (Q : VK) (E : XK), B.guards = some [] → Room k B → Env0 P w K mg base B outer s H → BindsTo s fd args (ps.zip us) → Vals vs us → sp vs H Q E →
    codeAny (model P w) B (.call (.ref f) args) (CR C outer P w H s Q E) s
section
variable {P : Program} {w : World} {K : PySem.W.Frag} {mg : Str → Option Value} {base : Heap} {x qual : Str} {params : Arguments} {body : List Stmt} {scope : Scope} {dvs : List V} {kws : List (Str × V)} {f : Addr} {fd : FuncData}
/-- a def's body walked where no repr is under way -/
theorem ok_quiet {C : CXT} {N ps : List Str} {k : Nat} {sp : Sp} (F : FunD K x qual params body scope dvs kws f fd) (S : FnScope N ps scope) (len : ∀ vs H Q E, sp vs H Q E → vs.length = ps.length)
    (walk : ∀ (cv : Value) (B : Around) (outer : List Env) (s : Shared) (H : Hp) (vs : List V) (Q : VK) (E : XK), B.guards = some [] → Room k (B.deeper (envOfC qual scope s.heap.objs.size f cv)) → sp vs H Q E →
      ∃ t, PSs (cxOf C P w K mg base N qual scope f cv B outer s H E) body t ∧ t { nx := fun _ H' => Q .non H', rt := Q } (start N vs) H) : FnG P w K mg base C (k + 1) f fd ps sp := by
  obtain ⟨oc, od, dV, kV, doc, pm, an, cv, ct, osl, rfl, lk, hcode, _, _⟩ := F.ex
  constructor
  · exact len
  · intro B outer s H args us vs Q E quiet room env0 binds vals promise
    have lenv := len _ _ _ _ promise
    have kin : K.In s.heap := env0.mod.kin.keeps fun b o e => (env0.bs b o e).1
    have free : s.heap.NoLimit := env0.mod.nolimit.keeps fun b o e => (env0.bs b o e).1
    have kinds : ∀ y ∈ ps.zip us, scope.names.lookup y.1 = some .local ∨ (scope.names.lookup y.1 = some .cell ∧ ((cellsFrom (s.heap.objs.size + 1) scope.names []).lookup y.1).isSome = true) := by
      rintro ⟨n, v⟩ hy
      rcases S.par n (List.of_mem_zip hy).1 with q | q
      · exact .inl q
      · exact .inr ⟨q, PySem.W.cellsFrom_some _ _ _ (.inl q)⟩
    refine codeAny_call_function room.depth (kin _ _ lk) rfl S.co S.gen rfl (PySem.W.codeRec_of kin hcode) (binds _ _ _ _ (wpAny_newFunctionEnv_cells S.kind kinds ?_))
    rintro env rfl s1 laid
    obtain ⟨t, rule, goal⟩ := walk cv B outer s H vs Q E quiet (room.deeper _) promise
    have J := inv_start (CX := C) (E := E) S room.hd env0 lenv vals laid
    refine ⟨free.keeps laid.toInCall.keep, codeAny_func (wpAny_mono (rule.run [] s1 (start N vs) H _ J goal) (fun fl s' got => ?_) fun e s' got => got)⟩
    cases fl with
    | ret u =>
      obtain ⟨v, σ', H', J', rv, q⟩ := got
      exact ⟨v, H', J'.os, J'.bare, J'.base, J'.hok, rv, q⟩
    | next =>
      obtain ⟨σ', H', J', q⟩ := got
      exact ⟨V.non, H', J'.os, J'.bare, J'.base, J'.hok, rfl, q⟩
    | brk =>
      obtain ⟨_, _, _, none_⟩ := got
      exact none_.elim
    | cont =>
      obtain ⟨_, _, _, none_⟩ := got
      exact none_.elim
end
section
variable {X : Cx} {C : CXT} {k : Nat} {f : Addr} {fd : FuncData} {ps : List Str} {sp : Sp} {E : XK} {x : Str} {p pos : Pos} {e : Expr} {es : List Expr} {t : TA}
/-- such a def called from such a frame -/
theorem pe_quiet (F : FnG X.prog X.w X.K X.mg X.base C k f fd ps sp) (quiet : X.A.guards = some []) (room : Room k X.A) (gl : Gl X x) (at_ : X.mg x = some (.ref f)) (keep : PySem.W.keepIn X.K (.ref f) = true) (binds : Binds X.K fd ps []) (pass : Passes C X E)
    (ha : PA X (e :: es) t) (hdb : (x == ("__debug__" : Str)) = false := by decide) (he : starEach (e :: es) X.env = (false, eval e X.env) :: starEach es X.env := by rfl) (hpl : (backTo pos (starEach es X.env)).any (·.1) = false := by rfl) :
    PE X (.Call (.Name x p) (e :: es) [] pos) (tCall sp [] E t) := by
  constructor
  intro pins s σ H Q I h
  refine wpAny_Call_Name_kw (ld_glob I gl at_ (PySem.W.callWith_K (h₀ := X.base) I.ok.mod.kin keep (thn (ha.run pos pins s σ H _ I h) ?_) he hpl) hdb)
  rintro us s1 ⟨vs, H1, I1, r, promise⟩
  rw [List.append_nil] at promise
  have hl : us.length = ps.length := by rw [← r.length]; exact F.len _ _ _ _ promise
  have bd := binds s1 us I1.kIn (by rw [List.append_nil]; exact hl)
  rw [List.append_nil] at bd
  refine ⟨I1.kIn, wpAny_call (codeAny_mono (F.run X.A X.stack s1 H1 ⟨us, []⟩ us vs Q E quiet room I1.env0 bd r promise) ?_)⟩
  rintro (err | fl) s' got
  · exact pass pins σ H1 s1 err s' I1 got
  · cases fl with
    | ret u => exact I1.after got
    | next => exact got.elim
    | brk => exact got.elim
    | cont => exact got.elim
end
end K26
set_option Elab.async false
set_option linter.all false
set_option maxRecDepth 100000
set_option maxHeartbeats 4000000
/-! KR3: sorted(d.items()) of a dict whose keys are texts that ascend. -/
namespace K26
open PySem PySem.Spec PyProof.Rows L2 Evl L2.DX
def rItemsK : V → List V → Hp → VK → Prop := fun x xs H Q => ∃ (a : Addr) (kvs : List (L2.Key × V)), x = .ref a ∧ xs = [] ∧ H a = some (.dK kvs) ∧ ∀ p, H p = none → Q (.ref p) (upd H p (itemsO p a))
abbrev Ent := Addr × Wish
abbrev encE (b : Ent) : PyData := .tuple [.str b.2.1, eCh b.2.2]
def rSortItems (K : PySem.W.Frag) : List V → Hp → VK → Prop := fun vs H Q => ∃ (p a : Addr) (ws : List Wish), vs = [.ref p] ∧ H p = some (itemsO p a) ∧ GK (rC K) H a ws ∧ ws.length ≤ 60 ∧ ws.Pairwise (fun x y => sCp x.1 < sCp y.1) ∧
  ∀ (H' : Hp) (l : Addr) (xs : List V), Ex H H' → H l = none → H' l = some (.lst xs) → Paired (fun x q => rP K q x H') xs ws → Q (.ref l) H'
mutual
theorem reads_flat {h : Heap} : ∀ (d : PyData) (v : Value) (as : List Addr), noL d = true → Reads h v d as → as = []
  | .none, _, _, _, r => by cases r; rfl
  | .bool _, _, _, _, r => by cases r; rfl
  | .int _, _, _, _, r => by cases r; rfl
  | .str _, _, _, _, r => by cases r; rfl
  | .list _, _, _, n, _ => by simp [noL] at n
  | .dict _, _, _, n, _ => by simp [noL] at n
  | .tuple xs, _, _, n, r => by
    cases r with
    | tuple h1 h2 h3 h4 => exact reads_flats xs _ _ (by simpa [noL] using n) h4
theorem reads_flats {h : Heap} : ∀ (ds : List PyData) (vs : List Value) (as : List Addr), noLs ds = true → ReadsAll h vs ds as → as = []
  | [], _, _, _, r => by cases r; rfl
  | d :: ds, _, _, n, r => by
    have n2 : noL d = true ∧ noLs ds = true := by simpa [noLs] using n
    cases r with
    | cons h1 h2 => rw [reads_flat d _ _ n2.1 h1, reads_flats ds _ _ n2.2 h2]; rfl
end
theorem alike_pairs : ∀ c e : List (Str × Str), PySem.W.alikeAll (c.map ePair) (e.map ePair) = true
  | [], _ => by simp [PySem.W.alikeAll]
  | _ :: _, [] => by simp [PySem.W.alikeAll]
  | p :: c, q :: e => by
    rw [List.map_cons, List.map_cons, PySem.W.alikeAll, alike_pairs c e]
    simp [PySem.W.alike, PySem.W.alikeAll]
theorem alike_chs (c e : List (Str × Str)) : PySem.W.alike (eCh c) (eCh e) = true := by
  show PySem.W.alikeAll (c.map ePair) (e.map ePair) = true
  exact alike_pairs c e
theorem alike_ents (b b' : Ent) : PySem.W.alike (encE b) (encE b') = true := by
  show PySem.W.alikeAll [_, _] [_, _] = true
  rw [PySem.W.alikeAll, PySem.W.alikeAll, alike_chs]
  simp [PySem.W.alike, PySem.W.alikeAll]
theorem ents_le {a b : Ent} (h : sCp a.2.1 < sCp b.2.1) : PySem.W.dataLe false encE a b = true := by
  show (!PySem.W.dataLt (encE b) (encE a)) = true
  have ne : ¬ b.2.1 = a.2.1 := fun z => by
    rw [z] at h
    exact List.lt_irrefl _ h
  rw [PySem.W.dataLt_pair rfl (alike_chs _ _), eqv_str, if_neg (by simp [ne]), PySem.W.dataLt_str]
  have : ¬ sCp b.2.1 < sCp a.2.1 := fun z => List.lt_irrefl _ (List.lt_trans h z)
  simp [this]
theorem depth_ch (c : List (Str × Str)) : (eCh c).depth ≤ 2 := by
  have := depth_map (e := ePair) (l := c) (n := 1) fun p _ => by rw [pair_depth]; exact Nat.le_refl _
  show PyData.depthAll (c.map ePair) + 1 ≤ 2
  omega
theorem depth_ent (b : Ent) : (encE b).depth ≤ 3 := by
  show PyData.depthAll [.str b.2.1, eCh b.2.2] + 1 ≤ 3
  have := depth_ch b.2.2
  simp only [PyData.depthAll, PyData.depth] at this ⊢
  omega
theorem paired_at {α β γ : Type} {F : γ → β → Prop} {f : α → γ} : ∀ {as : List α} {bs : List β}, as.length = bs.length → (∀ (j : Nat) (a : α) (b : β), as[j]? = some a → bs[j]? = some b → F (f a) b) → Paired F (as.map f) bs
  | [], [], _, _ => .nil
  | [], _ :: _, h, _ => by cases h
  | _ :: _, [], h, _ => by cases h
  | a :: as, b :: bs, h, k => .cons (k 0 a b rfl rfl) (paired_at (Nat.succ.inj h) fun j x y h1 h2 => k (j + 1) x y h1 h2)
theorem prsAt {K : Type} [DecidableEq K] {prog : Program} {w : World} {knd : PySem.KeyKind prog w K} : ∀ {es : List DictEntry} {kvs : List (K × Value)}, PySem.Pairs knd es kvs → es.length = kvs.length ∧ ∀ (j : Nat) (e : DictEntry), es[j]? = some e → ∃ kv, kvs[j]? = some kv ∧ knd.is kv.1 e.key = true ∧ e.val = kv.2
  | _, _, .nil => ⟨rfl, fun j e h => by simp at h⟩
  | _, _, .cons a b t => by
    obtain ⟨l, k⟩ := prsAt t
    refine ⟨congrArg Nat.succ l, fun j e h => ?_⟩
    cases j with
    | zero => cases h; exact ⟨_, rfl, a, b⟩
    | succ j => exact k j e h
section
variable {X : Cx}
theorem mt_itemsK : MtR X "dict.items" rItemsK := by
  intro pins s σ H x xs v us Q I rx rxs h
  obtain ⟨a, kvs, rfl, rfl, ha, q⟩ := h
  cases rx
  cases rxs
  obtain ⟨_, hd, _, _, o, es, ep, ho, hx, hdat, _⟩ := dk_of I.hok ha
  exact DT.callItems (es := es) (ep := ep) hd ⟨o, ho, hx, hdat⟩ ⟨.ref s.heap.objs.size, upd H s.heap.objs.size (itemsO s.heap.objs.size a), I.laid (t' := s.toks) (fun _ _ e => Heap.get?_push_of_some _ e) (Nat.le_refl _) (itemsO_ok (Heap.get?_push_size _ rfl)), rfl, q _ (I.hok.fresh (Nat.le_refl _))⟩
theorem cr_sortItems (hc : X.calm = true) (hu : X.A.units + 64 < cLine) : CallR X (.builtin "sorted") (rSortItems X.K) := by
  intro pins s σ H xs us Q I r h
  obtain ⟨p, a, ws, rfl, hp, ⟨kvs, hka, hpr⟩, h60, hup, q⟩ := h
  obtain rfl := Vals.ref1 r
  have view : s.heap.IsItemsView p a := (show ObjOk X.prog X.w H s.heap p (itemsO p a) from I.hok p _ hp).1
  obtain ⟨z, hd, vs, kv, o, es, ep, ho, hx, hdat, _, prs, _⟩ := dk_of I.hok hka
  have l1 : kvs.length = ws.length := hpr.len
  have l2 : kvs.length = vs.length := Paired.length kv
  obtain ⟨l3, prs⟩ := prsAt prs
  rw [Array.length_toList] at l3
  have ez : sizeLine = 16777216 := sizeLine_eq
  refine DT.sortedI (es := es) (ep := ep) (I.ok.hd hc) view ⟨o, ho, hx, hdat⟩ (by omega) fun h' tk as hk hlt hl hG => ?_
  have lak : as.length = ws.length := by omega
  have nd : as.Nodup := List.Pairwise.imp (fun h => Nat.ne_of_lt h) hG.rise
  have pr : ∀ (j : Nat) (b : Addr), as[j]? = some b → ∃ (q : Wish) (v : V) (u : Value) (t : Tok), ws[j]? = some q ∧ rC X.K q.2 v H ∧ RelV v u ∧ h'.get? b = some { cls := .type "tuple", data := .seq #[Value.str q.1 t, u] } := by
    intro j b hj
    obtain ⟨e, he, hb⟩ := hG.pairs j b hj
    obtain ⟨kv1, hkv1, k1, k2⟩ := prs j e (by rw [Array.getElem?_toList]; exact he)
    obtain ⟨jl, _⟩ := List.getElem?_eq_some_iff.mp hkv1
    obtain ⟨kv0, hkv0⟩ : ∃ kv0, kvs[j]? = some kv0 := ⟨_, List.getElem?_eq_getElem (by omega)⟩
    obtain ⟨q, hq, r1, r2⟩ := PrR.at_ hpr hkv0
    obtain ⟨kv2, hkv2, r3, r4⟩ := LiI.paired_get kv hkv0
    rw [hkv1] at hkv2
    cases hkv2
    have k1' : keyIs kv1.1 e.key = true := k1
    rw [← r3, r1] at k1'
    rcases keyIs_shape k1' with ⟨i, t, e1, _⟩ | ⟨x, t, e1, e2⟩
    · cases e1
    · cases e1
      refine ⟨q, kv0.2, kv1.2, t, hq, r2, r4, ?_⟩
      rw [hb, e2, k2]
  have hob : (h'.push { cls := .type "list", data := .seq (as.map Value.ref).toArray }).get? h'.objs.size = some (seqObj "list" (as.map Value.ref).toArray 0) := Heap.get?_push_size _ rfl
  have kb : ∀ b o, s.heap.get? b = some o → (h'.push { cls := .type "list", data := .seq (as.map Value.ref).toArray }).get? b = some o := fun b o e => Heap.get?_push_of_some _ (hk b o e)
  have ka : ∀ b o, h'.get? b = some o → (h'.push { cls := .type "list", data := .seq (as.map Value.ref).toArray }).get? b = some o := fun b o e => Heap.get?_push_of_some _ e
  generalize hh2 : h'.push { cls := .type "list", data := .seq (as.map Value.ref).toArray } = h2 at hob kb ka ⊢
  have ne0 : ∀ b o, h'.get? b = some o → b ≠ h'.objs.size := fun b o e => Nat.ne_of_lt (Heap.lt_size e)
  have zs : (as.zip ws).map Prod.fst = as := List.map_fst_zip (by omega)
  have zw : (as.zip ws).map Prod.snd = ws := List.map_snd_zip (by omega)
  have each : PySem.W.EachIs (fun (v : Value) (b : Ent) => v = .ref b.1) (as.map Value.ref) (as.zip ws) := by
    refine PySem.W.EachIs.of_zip (by rw [List.length_map, List.length_zip]; omega) fun y hy => ?_
    obtain ⟨j, hj⟩ := List.mem_iff_getElem?.mp hy
    obtain ⟨h1, h2⟩ := List.getElem?_zip_eq_some.mp hj
    obtain ⟨h3, h4⟩ := List.getElem?_zip_eq_some.mp h2
    rw [List.getElem?_map, h3] at h1
    exact (Option.some.inj h1).symm
  have reads : PySem.W.EachIs (fun (v : Value) (b : Ent) => ∃ xs, Reads h2 v (encE b) xs ∧ h'.objs.size ∉ xs) (as.map Value.ref) (as.zip ws) := by
    refine PySem.W.EachIs.of_zip (by rw [List.length_map, List.length_zip]; omega) fun y hy => ?_
    obtain ⟨j, hj⟩ := List.mem_iff_getElem?.mp hy
    obtain ⟨h1, h2'⟩ := List.getElem?_zip_eq_some.mp hj
    obtain ⟨h3, h4⟩ := List.getElem?_zip_eq_some.mp h2'
    rw [List.getElem?_map, h3] at h1
    have ev : y.1 = Value.ref y.2.1 := (Option.some.inj h1).symm
    obtain ⟨q', v, u, t, hq, hc1, hr, hb⟩ := pr j _ h3
    rw [h4] at hq
    cases hq
    obtain ⟨xs, rx⟩ := Dp.reads I (eCh y.2.2.2) v u hc1.1 hr
    have e0 : xs = [] := reads_flat _ _ _ (noL_ch _) rx
    subst e0
    have rx2 : Reads h2 u (eCh y.2.2.2) [] := PyProof.Rows.Reads.keeps kb rx
    refine ⟨[], ?_, by simp⟩
    rw [ev]
    exact .tuple (ka _ _ hb) rfl rfl (show ReadsAll h2 [Value.str y.2.2.1 t, u] [.str y.2.2.1, eCh y.2.2.2] ([] ++ ([] ++ [])) from .cons (.str _ _) (.cons rx2 .nil))
  have pw : (as.zip ws).Pairwise (fun b b' => PySem.W.dataLe false encE b b' = true) := by
    have e1 : ((as.zip ws).map Prod.snd).Pairwise (fun x y : Wish => sCp x.1 < sCp y.1) := by rw [zw]; exact hup
    exact (List.pairwise_map.mp e1).imp fun h => ents_le h
  refine PySem.W.list_sort_data (s := { s with heap := h2, toks := tk }) (bs := as.zip ws) (enc := encE) (R := fun v b => v = Value.ref b.1) hob each reads (PySem.W.AllAlike.of alike_ents) (PySem.W.Sortable.tuples fun _ => ⟨_, _, rfl⟩) (by rw [List.length_zip]; omega) (fun b _ => by
    have := depth_ent b
    show X.A.units + 1 + 1 + (encE b).depth < cLine
    omega) fun out hol hev => ?_
  rw [List.mergeSort_of_pairwise pw] at hev
  have hev := tags_each hev
  have em : (as.zip ws).map (fun k => V.ref k.1) = as.map V.ref := by
    rw [show (fun k : Ent => V.ref k.1) = V.ref ∘ Prod.fst from rfl, ← List.map_map, zs]
  rw [em] at hev
  have kF : ∀ b o, b ≠ h'.objs.size → h2.get? b = some o → (sortedHeap h2 h'.objs.size (as.map Value.ref) (List.toArray out)).get? b = some o := fun b o hb e => (PyProof.Rows.sortedHeap_old hb (Heap.lt_size e)).trans e
  have kS : ∀ b o, s.heap.get? b = some o → (sortedHeap h2 h'.objs.size (as.map Value.ref) (List.toArray out)).get? b = some o := fun b o e => kF b o (ne0 _ _ (hk b o e)) (kb b o e)
  obtain ⟨eF, heF⟩ := PyProof.Rows.sortedHeap_at (vs := as.map Value.ref) (out := List.toArray out) hob
  have I1 : Inv X pins σ H { s with heap := sortedHeap h2 h'.objs.size (as.map Value.ref) (List.toArray out), toks := tk } := I.kept (t' := tk) kS
  have hn0 : H h'.objs.size = none := I.hok.fresh (Nat.le_of_lt hlt)
  have I2 : Inv X pins σ (upd H h'.objs.size (.lst (as.map V.ref))) { s with heap := sortedHeap h2 h'.objs.size (as.map Value.ref) (List.toArray out), toks := tk } :=
    I1.take (t' := tk) (fun _ _ _ e => e) (I.fpOk (Nat.le_of_lt hlt) hn0) ⟨by rw [List.length_map]; omega, out, eF, hev, heF⟩
  obtain ⟨H2, I3, g, qt⟩ := takeT (P := fun b vs => ∃ (j : Nat) (q : Wish) (v : V), as[j]? = some b ∧ ws[j]? = some q ∧ vs = [.str q.1, v] ∧ rC X.K q.2 v H) I as _ I2 nd fun b hb => by
    obtain ⟨j, hj⟩ := List.mem_iff_getElem?.mp hb
    obtain ⟨q', v, u, t, hq, hc1, hr, hgb⟩ := pr j b hj
    have hbl : s.heap.objs.size ≤ b := Nat.le_of_lt (hG.above b hb)
    refine ⟨hbl, by rw [upd_ne (ne0 _ _ hgb)]; exact I.hok.fresh hbl, [.str q'.1, v], ⟨j, q', v, hj, hq, rfl, hc1⟩, fun H3 => ⟨by show 2 ≤ sizeLine; omega, [Value.str q'.1 t, u], .cons ⟨t, rfl⟩ (.cons hr .nil), ⟨_, kF _ _ (ne0 _ _ hgb) (ka _ _ hgb), rfl, 0, rfl⟩⟩⟩
  have gr : ∀ b o, H b = some o → H2 b = some o := fun b o e => g b o (by rw [upd_ne (fun z => by rw [z, hn0] at e; cases e)]; exact e)
  refine ⟨.ref h'.objs.size, H2, I3, rfl, q H2 h'.objs.size (as.map V.ref) gr hn0 (g _ _ upd_same) (paired_at lak fun j b q' hj hq => ?_)⟩
  obtain ⟨vs', ⟨i, q2, v, i1, i2, ev, hc1⟩, hH⟩ := qt b (List.mem_of_getElem? hj)
  have eij : i = j := (List.getElem?_inj (List.getElem?_eq_some_iff.mp i1).1 nd).mp (i1.trans hj.symm)
  subst eij
  rw [hq] at i2
  cases i2
  subst ev
  exact ⟨b, v, rfl, st_of hH, hc1.t (exT_of gr)⟩
end
end K26
set_option Elab.async false
set_option linter.all false
set_option maxRecDepth 100000
set_option maxHeartbeats 4000000
/-! KR4: try with several clauses, with and without a name. -/
namespace K26
open PySem PySem.Spec PyProof.Rows L2 Evl
/-- a clause: its class, the slot of its name, what its suite does -/
structure Cl where
  c : Value
  i : Option Nat
  ts : Addr → Value → Option Addr → TS
def endsOff (i : Nat) (D : Ends) : Ends := { nx := fun τ G => D.nx (τ.set i none) G, rt := D.rt, bk := fun τ G => D.bk (τ.set i none) G, ct := fun τ G => D.ct (τ.set i none) G }
def Cl.go (k : Cl) (a : Addr) (cls : Value) (d : Option Addr) (D : Ends) (σ : L2.St) (H : Hp) : Prop := match k.i with
  | none => k.ts a cls d D σ H
  | some i => k.ts a cls d (endsOff i D) (σ.set i (some (.ref a))) H
def wCls (K : PySem.W.Frag) (W : WX) (D : Ends) : List Cl → WX
  | [] => W
  | k :: ks => fun cls d σ H => ∃ b, PySem.W.exmOne K cls k.c = some b ∧ (b = true → ∀ a, H a = none → k.go a cls d D σ H) ∧ (b = false → wCls K W D ks cls d σ H)
inductive ClsOk (X : Cx) : List ExceptHandler → List Cl → Prop
  | nil : ClsOk X [] []
  | bare {x : Str} {c : Value} {ts : Addr → Value → Option Addr → TS} {st : Stmt} {sts : List Stmt} {p1 p2 : Pos} {hs : List ExceptHandler} {ks : List Cl} (nm : Names X x c)
      (su : ∀ (a : Addr) (ob : Obj) (cls : Value) (d : Option Addr) (pn : List (Addr × Obj)), Zc cls d ob → (∃ vs, ob.data = .fields vs) → PSs (X.suite a ((a, ob) :: pn)) (st :: sts) (ts a cls d)) (r : ClsOk X hs ks) :
      ClsOk X (.ExceptHandler (some (.Name x p1)) none (st :: sts) p2 :: hs) (⟨c, none, ts⟩ :: ks)
  | named {x n : Str} {c : Value} {i : Nat} {ts : Addr → Value → Option Addr → TS} {st : Stmt} {sts : List Stmt} {p1 p2 : Pos} {hs : List ExceptHandler} {ks : List Cl} (ix : X.N[i]? = some n) (lo : X.env.kindOf n = some .local) (nm : Names X x c)
      (su : ∀ (a : Addr) (ob : Obj) (cls : Value) (d : Option Addr) (pn : List (Addr × Obj)), Zc cls d ob → (∃ vs, ob.data = .fields vs) → PSs (X.suite a ((a, ob) :: pn)) (st :: sts) (ts a cls d)) (r : ClsOk X hs ks) :
      ClsOk X (.ExceptHandler (some (.Name x p1)) (some n) (st :: sts) p2 :: hs) (⟨c, some i, ts⟩ :: ks)
section
variable {X : Cx} {body : List Stmt} {hd0 : ExceptHandler} {hs : List ExceptHandler} {ks : List Cl} {pos : Pos} {tb : WX → TS} {W0 : WX}
theorem ps_try_cls (stk : X.stack = X.env :: X.outer) (fr : X.env.frame = some X.env.locals) (ndN : X.N.Nodup) (tk0 : Takes X W0)
    (inner : ∀ (W : WX) (pn : List (Addr × Obj)) (xe : Value → Shared → Prop), Takes (X.tr pn xe) W → PassesOwn (model X.prog X.w) X.A X.env xe → PSs (X.tr pn xe) body (tb W))
    (cl : ClsOk X (hd0 :: hs) ks) : PS X (.Try body (hd0 :: hs) [] [] pos) (fun D σ H => tb (wCls X.K W0 D ks) D σ H) := by
  constructor
  intro pins s σ H D I goal
  have okX := I.ok
  have frames : X.A.frames = some (X.env :: X.outer) := by rw [okX.frames, stk]
  refine wpAny_Try_except (wpAny_mono ((inner (wCls X.K W0 D ks) (X.pn ++ pins) (fun e t1 => wpAny (model X.prog X.w) X.A (noteFrame e X.env) (fun _ t2 => wpAny (model X.prog X.w) X.A (setFlight e none) (fun _ t3 =>
    wpAny (model X.prog X.w) X.A (handleBy e X.env (hd0 :: hs)) (SP X pins D) X.xe t3) X.xe t2) X.xe t1) (fun u s' raised => ?_) PassesOwn.looking).run [] s σ H D (I.toTry _) goal) (fun fl s1 done => ?_) fun e s1 he => he)
  · obtain ⟨a, B, sI, pins', τ, G, cls, d, rfl, J', nb, up, sky, na, osEq, ag, wish⟩ := raised
    have J : Inv X pins τ G sI := J'.ofTry okX
    rw [stk] at sky
    show wpAny (model X.prog X.w) X.A (noteFrame (.ref a) X.env) _ _ _
    refine Sky.land Zc.steady frames fr sky fun h3 fl3 up3 => ?_
    have J3 : Inv X pins τ G { s' with heap := h3 } := J.landed nb fl3.1 (up.trans up3) osEq ag
    obtain ⟨ob3, vs3, at3, z3, dat3⟩ := fl3.there
    have notFrame : a ∉ frs (X.env :: X.outer) := fun hm => by
      obtain ⟨_, ob', at', bad⟩ := fl3.2.2.1.mem hm
      rw [at3] at at'
      cases at'
      exact bad _ dat3
    have notLocals : a ≠ X.env.locals := fun z => notFrame (List.mem_filterMap.mpr ⟨X.env, List.mem_cons_self, by rw [fr, z]⟩)
    have notOuter : a ∉ X.fs := fun hm => by
      obtain ⟨e, he, q⟩ := List.mem_filterMap.mp hm
      exact notFrame (List.mem_filterMap.mpr ⟨e, List.mem_cons_of_mem _ he, q⟩)
    have S3 := J3.suite at3 dat3 na notLocals notOuter
    -- the class that a clause names is looked at in the state of the raise
    have look : ∀ {x : Str} {c : Value} {p1 : Pos} {Q : Value → Shared → Prop} {E : Value → Shared → Prop}, Names X x c → Q c { s' with heap := h3 } → wpAny (model X.prog X.w) (X.A.mark (some (.ref a))) (eval (.Name x p1) X.env) Q E { s' with heap := h3 } := by
      rintro x c p1 Q E ⟨gl, nd, here | ⟨here, bt, nn⟩⟩ q
      · exact ld_glob (X := X.suite a ((a, ob3) :: (X.pn ++ pins))) S3 gl here q nd
      · exact ld_blt (X := X.suite a ((a, ob3) :: (X.pn ++ pins))) S3 gl here bt q nn nd
    have typed : PySem.W.Looks (model X.prog X.w) h3 (typeOf (.ref a)) cls := fun A Q E s k q => wpAny_typeOf_ref (k _ _ at3) (by rw [z3.1]; exact q)
    have walk : ∀ {hs' : List ExceptHandler} {ks' : List Cl}, ClsOk X hs' ks' → wCls X.K W0 D ks' cls d τ G → wpAny (model X.prog X.w) X.A (handleBy (.ref a) X.env hs') (SP X pins D) X.xe { s' with heap := h3 } := by
      intro hs' ks' okC
      induction okC with
      | nil =>
        intro w
        refine wpAny_handleBy_nil ?_
        obtain ⟨_, _, _, ob, vs, T, oT, ts', e1, _, e2, e3, _⟩ := id fl3
        unfold PySem.passOn
        refine wpAny_bind (wpAny_field e1 e2 e3 ?_)
        rw [if_neg (show ¬ ((Value.ref T == Value.none) = true) by simp)]
        have leave : wpAny (model X.prog X.w) X.A (setFlight (.ref a) X.env.frame) (fun _ t4 => wpAny (model X.prog X.w) X.A (throw (.ref a) : Sem Flow) (SP X pins D) X.xe t4) X.xe { s' with heap := h3 } := by
          rw [fr]
          exact HandSPX.setFlight_upZ fl3 fun h4 sky4 up4 => wpAny_throw (tk0 _ _ ⟨a, B, sI, pins, τ, G, cls, d, rfl, J, nb, (up.trans up3).trans up4, .inr (.inr (by rw [stk]; exact sky4)), na, osEq, ag, w⟩)
        first
          | exact wpAny_bind (wpAny_pure (wpAny_bind leave))
          | exact wpAny_bind leave
      | @bare x c ts st sts p1 p2 hs2 ks2 nm su r ih =>
        rintro ⟨b, kind, yes, no⟩
        refine wpAny_handleBy_cons (codeAny_handlers_test (look nm ((PySem.W.exm_one (M := model X.prog X.w) J3.kIn typed kind).here ?_))) (by intro q; cases q)
        cases b with
        | false => exact ih (no rfl)
        | true =>
          refine codeAny_handlers_suite (HandSPX.lands_againZ fl3 fun h4 fl4 up4 => ?_)
          have J4 : Inv X pins τ G { s' with heap := h4 } := J.landed nb fl4.1 ((up.trans up3).trans up4) osEq ag
          obtain ⟨ob4, vs4, at4, z4, dat4⟩ := fl4.there
          have S4 := J4.suite at4 dat4 na notLocals notOuter
          refine wpAny_mono ((su a ob4 cls d (X.pn ++ pins) z4 ⟨_, dat4⟩).run [] _ τ G _ S4 (yes rfl a na)) (fun f t6 got => ?_) fun _ _ z => False.elim z
          cases f with
          | ret u =>
            obtain ⟨v6, τ6, G6, S6, r6, q6⟩ := got
            exact ⟨v6, τ6, G6, S6.unsuite okX, r6, q6⟩
          | next =>
            obtain ⟨τ6, G6, S6, q6⟩ := got
            exact ⟨τ6, G6, S6.unsuite okX, q6⟩
          | brk =>
            obtain ⟨τ6, G6, S6, q6⟩ := got
            exact ⟨τ6, G6, S6.unsuite okX, q6⟩
          | cont =>
            obtain ⟨τ6, G6, S6, q6⟩ := got
            exact ⟨τ6, G6, S6.unsuite okX, q6⟩
      | @named x n c i ts st sts p1 p2 hs2 ks2 ix lo nm su r ih =>
        rintro ⟨b, kind, yes, no⟩
        refine wpAny_handleBy_cons (codeAny_handlers_test (look nm ((PySem.W.exm_one (M := model X.prog X.w) J3.kIn typed kind).here ?_))) (by intro q; cases q)
        cases b with
        | false => exact ih (no rfl)
        | true =>
          refine codeAny_handlers_suite_as (HandSPX.lands_againZ fl3 fun h4 fl4 up4 => ?_)
          have J4 : Inv X pins τ G { s' with heap := h4 } := J.landed nb fl4.1 ((up.trans up3).trans up4) osEq ag
          obtain ⟨ob4, vs4, at4, z4, dat4⟩ := fl4.there
          have S4 := J4.suite at4 dat4 na notLocals notOuter
          refine store_ok (X := X.suite a ((a, ob4) :: (X.pn ++ pins))) (v := .ref a) S4 ndN ix (.inl lo) rfl (fun t5 S5 => ?_) (.inr lo)
          refine wpAny_mono ((su a ob4 cls d (X.pn ++ pins) z4 ⟨_, dat4⟩).run [] t5 _ G _ S5 (yes rfl a na)) (fun f t6 got => ?_) fun _ _ z => False.elim z
          have drop : ∀ {τ6 : L2.St} {G6 : Hp} {Q : Shared → Prop}, Inv (X.suite a ((a, ob4) :: (X.pn ++ pins))) [] τ6 G6 t6 → (∀ t7, Inv X pins (τ6.set i none) G6 t7 → Q t7) →
              wpAny (model X.prog X.w) X.A (do bindName X.env n .none; unbindBehindTheSuite X.env n p2) (fun _ t7 => Q t7) X.xe t6 := fun {τ6 G6 Q} S6 hq => gone_ok (S6.unsuite okX) ndN ix lo hq
          cases f with
          | ret u =>
            obtain ⟨v6, τ6, G6, S6, r6, q6⟩ := got
            exact drop S6 fun t7 J7 => ⟨_, _, _, J7, r6, q6⟩
          | next =>
            obtain ⟨τ6, G6, S6, q6⟩ := got
            exact drop S6 fun t7 J7 => ⟨_, _, J7, q6⟩
          | brk =>
            obtain ⟨τ6, G6, S6, q6⟩ := got
            exact drop S6 fun t7 J7 => ⟨_, _, J7, q6⟩
          | cont =>
            obtain ⟨τ6, G6, S6, q6⟩ := got
            exact drop S6 fun t7 J7 => ⟨_, _, J7, q6⟩
    exact walk cl wish
  · cases fl with
    | ret u =>
      obtain ⟨v, τ, G, J', r, q⟩ := done
      exact ⟨v, τ, G, J'.ofTry okX, r, q⟩
    | next =>
      obtain ⟨τ, G, J', q⟩ := done
      exact wpAny_execs_nil ⟨τ, G, J'.ofTry okX, q⟩
    | brk =>
      obtain ⟨τ, G, J', q⟩ := done
      exact ⟨τ, G, J'.ofTry okX, q⟩
    | cont =>
      obtain ⟨τ, G, J', q⟩ := done
      exact ⟨τ, G, J'.ofTry okX, q⟩
end
end K26
set_option Elab.async false
set_option linter.all false
set_option maxRecDepth 100000
set_option maxHeartbeats 4000000
/-! KR5: free=..; walks over a list or a tuple; walks while one dict changes. -/
namespace K26
open PySem PySem.Spec PyProof.Rows L2 Evl RZ
def gFree {α : Type} : List α → List α → List α
  | [a, b], [c] => [a, b, c]
  | _, _ => []
theorem kb_shortest_row {K : PySem.W.Frag} {x q : Str} {d : V} {f : Addr} {fd : FuncData} (F : FnP K x q s_shortest_row [d] f fd) : KBinds K fd ["book", "wishes", "free"] ["free"] gFree gFree := by
  obtain ⟨oc, od, dV, kV, doc, pm, an, cdv, ct, osl, rfl, lk, hcd, hD, hK⟩ := F.ex
  rcases hD with ⟨e, _⟩ | ⟨_, T, o, its, m, rfl, lT, oT, rT⟩
  · cases e
  · obtain ⟨u, hu⟩ : ∃ u, its = [u] := by
      match its, rT with
      | [u], _ => exact ⟨u, rfl⟩
    subst hu
    refine ⟨fun s us ws X hl => ?_, fun {vs us zs ws} r rz => ?_⟩
    · match us, ws, hl with
      | [a, b], [c], _ =>
        refine BindsTo.of_looks fun M => ?_
        have e : ∃ k, bindArgs (PySem.W.fnOf x q (defArgs s_shortest_row) (defBody s_shortest_row) (defScope s_shortest_row) (.ref T) kV doc pm an cdv ct) ⟨[a, b], (["free"] : List Str).zip [c]⟩ = seqItems? (.ref T) >>= k ∧ k (some [u].toArray) = pure ((["book", "wishes", "free"] : List Str).zip [a, b, c]) := ⟨_, rfl, rfl⟩
        obtain ⟨k, e1, e2⟩ := e
        rw [show gFree [a, b] [c] = [a, b, c] from rfl, e1]
        exact looks_items X lT oT (.of_pure e2)
    · cases r with
      | nil => exact .nil
      | cons r1 r =>
        cases r with
        | nil => exact .nil
        | cons r2 r =>
          cases r with
          | cons r3 r => exact .nil
          | nil =>
            cases rz with
            | nil => exact .nil
            | cons z1 rz =>
              cases rz with
              | nil => exact .cons r1 (.cons r2 (.cons z1 .nil))
              | cons z2 rz => exact .nil
/-- two rules for one iterable -/
def iOr (a b : TI) : TI := fun σ H R => a σ H R ∨ b σ H R
theorem pi_or {X : Cx} {tg l : Expr} {a b : TI} (ha : PI X tg l a) (hb : PI X tg l b) : PI X tg l (iOr a b) := ⟨fun pins s σ H R I h => h.elim (ha.run pins s σ H R I) (hb.run pins s σ H R I)⟩
theorem piS (K : PySem.W.Frag) {X : Cx} {tg l : Expr} {tl : TE} (hl : PE X l tl) (h : X.K = K := by rfl) : PI X tg l (iOr (iList K tl) (iTup K tl)) := pi_or (piL K hl h) (piT K hl h)
/-- a list or a tuple of texts -/
def isS (K : PySem.W.Frag) (xs : List Str) : V → Hp → Prop := fun v H => ∃ a, v = .ref a ∧ (SqL K H a (xs.map V.str) ∨ SqT K H a (xs.map V.str))
section
variable {K : PySem.W.Frag} {σ : L2.St} {H H' : Hp} {xs : List Str} {v : V}
theorem isS.ex (e : Ex H H') (h : isS K xs v H) : isS K xs v H' := by
  obtain ⟨a, h1, h2 | h2⟩ := h
  · exact ⟨a, h1, .inl (ex_l e h2)⟩
  · exact ⟨a, h1, .inr (ex_t e h2)⟩
theorem isS_mono : Mono (isS K xs) := fun _ _ _ e h => h.ex e
theorem isS_tup (h : Dp K H v (eStrs xs)) : isS K xs v H := by
  obtain ⟨a, ys, rfl, hs, hy⟩ := dp_tup h
  obtain rfl := hy.strs
  exact ⟨a, rfl, .inr hs⟩
theorem isS_lst (h : Dp K H v (.list (xs.map PyData.str))) : isS K xs v H := by
  obtain ⟨a, ys, rfl, hs, hy⟩ := dp_lst h
  obtain rfl := hy.strs
  exact ⟨a, rfl, .inl hs⟩
/-- what is walked while the dict at p changes -/
def WalkX (p : Addr) (wi : TI) (σ : L2.St) (H : Hp) {α : Type} (l : List α) (R : α → V → Hp → Prop) : Prop := ∀ Z : It → Hp → Prop,
  (∀ J H2 (G : Hp → Prop) (Y : Nat → Hp → V → Hp → Prop), Ex H H2 → Walk J l.length G Y → (∀ H3, Xb p H2 H3 → G H3) → (∀ i H3 x H4 a, l[i]? = some a → Y i H3 x H4 → Xb p H2 H3 → Ex H3 H4 ∧ R a x H4) → Z J H2) → wi σ H Z
theorem w_isX {p : Addr} {i : Nat} {kvs : List (L2.Key × V)} (hp : H p = some (.dK kvs)) (hi : σ[i]? = some (some v)) (h : isS K xs v H) : WalkX p (iOr (iList K (tVar i)) (iTup K (tVar i))) σ H xs (fun a x _ => x = .str a) := fun Z z => by
  obtain ⟨a, rfl, hs | hs⟩ := h
  · refine .inl ⟨_, hi, a, rfl, ⟨_, hs⟩, z (Itl K a) H _ _ (Ex.refl H) (by rw [show xs.length = (xs.map V.str).length by rw [List.length_map]]; exact walk_list) (fun H3 e3 => sqL_xb hp e3 hs) fun j H3 x H4 b hb hy e3 => ?_⟩
    obtain ⟨rfl, hj⟩ := hy
    rw [List.getElem?_map, hb] at hj
    exact ⟨Ex.refl _, (Option.some.inj hj).symm⟩
  · refine .inr ⟨_, hi, a, rfl, ⟨_, hs⟩, z (Itt K a) H _ _ (Ex.refl H) (by rw [show xs.length = (xs.map V.str).length by rw [List.length_map]]; exact walk_tup) (fun H3 e3 => sqT_xb hp e3 hs) fun j H3 x H4 b hb hy e3 => ?_⟩
    obtain ⟨rfl, hj⟩ := hy
    rw [List.getElem?_map, hb] at hj
    exact ⟨Ex.refl _, (Option.some.inj hj).symm⟩
theorem w_tupX {p : Addr} {α : Type} {l : List α} {f : α → PyData} {kvs : List (L2.Key × V)} {tl : TE} (hp : H p = some (.dK kvs)) (h : EvD K tl σ H (.tuple (l.map f))) : WalkX p (iTup K tl) σ H l (fun a => isD K (f a)) := fun Z z =>
  h H (Ex.refl H) _ fun v H2 e2 w => by
    obtain ⟨a, xs, rfl, hs, hx⟩ := dp_tup w
    have hl : xs.length = l.length := by rw [hx.len, List.length_map]
    have hp2 := e2 _ _ hp
    refine ⟨a, rfl, ⟨xs, hs⟩, z (Itt K a) H2 _ _ e2 (by rw [← hl]; exact walk_tup) (fun H3 e3 => sqT_xb hp2 e3 hs) fun i H3 x H4 b hb hy e3 => ?_⟩
    obtain ⟨rfl, hi⟩ := hy
    obtain ⟨d, hd, hv⟩ := hx.at_ hi
    rw [List.getElem?_map, hb] at hd
    cases hd
    exact ⟨Ex.refl _, dp_xb hp2 e3 _ _ hv⟩
theorem s_forX {p : Addr} {α : Type} {l : List α} {R : α → V → Hp → Prop} {wi : TI} {g : TG} {tb : TS} {D : Ends} (hw : WalkX p wi σ H l R) (Pv : Nat → L2.St → Hp → Prop) (h0 : ∀ H1, Ex H H1 → Pv 0 σ H1)
    (turn : ∀ Hb, Ex H Hb → ∀ i a σ' H' x H1, l[i]? = some a → Xb p Hb H' → Pv i σ' H' → Ex H' H1 → R a x H1 →
      g x σ' H1 fun σ2 H2 => tb { D with nx := fun σ3 H3 => Xb p Hb H3 ∧ Pv (i + 1) σ3 H3, ct := fun σ3 H3 => Xb p Hb H3 ∧ Pv (i + 1) σ3 H3, bk := D.nx } σ2 H2)
    (hd : ∀ σ' H', Xb p H H' → Pv l.length σ' H' → D.nx σ' H') : tFor wi g tb D σ H :=
  hw _ fun J H2 G Y e2 W hG hY => for_it W (fun i σ' H' => Xb p H2 H' ∧ Pv i σ' H') ⟨Xb.refl p H2, h0 H2 e2⟩ (fun i σ' H' _ z => hG H' z.1) (fun i x σ' H3 H4 hi z hy => by
    obtain ⟨a, ha⟩ : ∃ a, l[i]? = some a := ⟨_, List.getElem?_eq_getElem hi⟩
    obtain ⟨e4, hr⟩ := hY i H3 x H4 a ha hy z.1
    exact turn H2 e2 i a σ' H3 x H4 ha z.1 z.2 e4 hr) fun σ' H' z => hd σ' H' ((Xb.of e2).trans z.1) z.2
end
end K26
set_option Elab.async false
set_option linter.all false
set_option maxRecDepth 100000
set_option maxHeartbeats 4000000
/-! KS8: _law_sets. -/
namespace K26
open PySem PySem.Spec PyProof.Rows L2 Evl LamX NdefX RZ
def setsOf (xs : List Str) : List (List Str) := xs.foldl (fun f w => f ++ f.map (· ++ [w])) [[]]
theorem setsOf_snoc (xs : List Str) (w : Str) : setsOf (xs ++ [w]) = setsOf xs ++ (setsOf xs).map (· ++ [w]) := by
  unfold setsOf
  rw [List.foldl_append]
  rfl
theorem setsOf_len : ∀ n (xs : List Str), xs.length = n → (setsOf xs).length = 2 ^ n
  | 0, xs, h => by
    rw [List.length_eq_zero_iff.mp h]
    rfl
  | n + 1, xs, h => by
    have ne : xs ≠ [] := fun z => by rw [z] at h; cases h
    rw [← List.dropLast_concat_getLast ne, setsOf_snoc, List.length_append, List.length_map, setsOf_len n _ (by rw [List.length_dropLast]; omega), Nat.pow_succ]
    omega
theorem setsOf_filter (p : Str → Bool) : ∀ n (xs : List Str), xs.length = n → xs.filter p ∈ setsOf xs
  | 0, xs, h => by
    rw [List.length_eq_zero_iff.mp h]
    exact List.mem_singleton.mpr rfl
  | n + 1, xs, h => by
    have ne : xs ≠ [] := fun z => by rw [z] at h; cases h
    have ih := setsOf_filter p n xs.dropLast (by rw [List.length_dropLast]; omega)
    rw [← List.dropLast_concat_getLast ne, setsOf_snoc, List.filter_append]
    by_cases hp : p (xs.getLast ne) = true
    · rw [List.filter_cons, if_pos hp]
      exact List.mem_append_right _ (List.mem_map.mpr ⟨_, ih, rfl⟩)
    · rw [List.filter_cons, if_neg hp, List.filter_nil, List.append_nil]
      exact List.mem_append_left _ ih
theorem setsOf_small : ∀ n (xs : List Str), xs.length = n → ∀ t ∈ setsOf xs, t.length ≤ n
  | 0, xs, h, t, ht => by
    rw [List.length_eq_zero_iff.mp h] at ht
    rw [List.mem_singleton.mp ht]
    exact Nat.le_refl _
  | n + 1, xs, h, t, ht => by
    have ne : xs ≠ [] := fun z => by rw [z] at h; cases h
    have ih := setsOf_small n xs.dropLast (by rw [List.length_dropLast]; omega)
    rw [← List.dropLast_concat_getLast ne, setsOf_snoc] at ht
    rcases List.mem_append.mp ht with ht | ht
    · have := ih t ht
      omega
    · obtain ⟨u, hu, rfl⟩ := List.mem_map.mp ht
      have := ih u hu
      rw [List.length_append, List.length_singleton]
      omega
def spSets (K : PySem.W.Frag) : Sp := fun vs H Q _ => ∃ (a : Addr) (xs : List Str), vs = [.ref a] ∧ SqL K H a (xs.map V.str) ∧ xs.length ≤ 10 ∧ ∀ (rows : List (List Str)) v H', rows.Perm (setsOf xs) → Ex H H' → isL K H (rows.map eStrs) v H' → Q v H'
/-- a list object of data -/
abbrev isLst (K : PySem.W.Frag) (ds : List PyData) : V → Hp → Prop := fun v H => ∃ p xs, v = .ref p ∧ H p = some (.lst xs) ∧ DpAll K H xs ds
theorem n_catLst {K : PySem.W.Frag} {σ : L2.St} {H : Hp} {ta tb : TE} {ds es : List PyData} (ha : EvP ta σ H (isLst K ds)) (hb : EvP tb σ H (isLst K es)) (hl : ds.length + es.length ≤ 100000) : EvN K (tOp rCat ta tb) σ H (ds ++ es) := fun H1 e Q q =>
  ha H1 e _ fun v H2 e2 ⟨p, xs, hv, hp, hx⟩ => hb H2 (e.trans e2) _ fun u H3 e3 ⟨p2, ys, hu, hp2, hy⟩ => ⟨p, p2, xs, ys, hv, hu, e3 _ _ hp, hp2, by
    rw [hx.len, hy.len]
    exact Nat.le_trans hl (by decide), fun t ht => q _ _ ((e2.trans e3).trans (Ex.new ht)) ⟨t, _, rfl, fresh_back ((e.trans e2).trans e3) ht, upd_same, DpAll.app (dpAll_ex (e3.trans (Ex.new ht)) _ _ hx) (dpAll_ex (Ex.new ht) _ _ hy)⟩⟩
theorem isL_lst {K : PySem.W.Frag} {H0 H : Hp} {ds : List PyData} {v : V} (h : isL K H0 ds v H) : isLst K ds v H := by
  obtain ⟨p, xs, h1, _, h3, h4⟩ := h
  exact ⟨p, xs, h1, h3, h4⟩
theorem isLst_mono {K : PySem.W.Frag} {ds : List PyData} : Mono (isLst K ds) := fun _ _ _ e ⟨p, xs, h1, h3, h4⟩ => ⟨p, xs, h1, e _ _ h3, dpAll_ex e _ _ h4⟩
theorem isLst_dp {K : PySem.W.Frag} {H : Hp} {ds : List PyData} {v : V} (h : isLst K ds v H) : Dp K H v (.list ds) := by
  obtain ⟨p, xs, rfl, h3, h4⟩ := h
  exact .lst (sq_of h3) h4
section
variable {P : Program} {w : World} {K : PySem.W.Frag} {mg : Str → Option Value} {base : Heap}
theorem tagsS : ∀ {H : Hp} {rows : List (List Str)} {xs : List V}, DpAll K H xs (rows.map eStrs) → ∃ ks : TagL, xs = ks.map (fun k => V.ref k.1) ∧ (∀ k ∈ ks, SqT K H k.1 k.2) ∧ ks.map (fun k => k.2) = rows.map fun r => r.map V.str
  | _, [], _, h => by
    cases h
    exact ⟨[], rfl, (fun k hk => by cases hk), rfl⟩
  | _, r :: rows, _, h => by
    cases h with
    | cons h1 t =>
      obtain ⟨ks, e1, e2, e3⟩ := tagsS t
      obtain ⟨a, ys, rfl, hs, hy⟩ := dp_tup h1
      obtain rfl := hy.strs
      refine ⟨(a, r.map V.str) :: ks, by rw [e1]; rfl, fun k hk => ?_, by rw [List.map_cons, e3]; rfl⟩
      rcases List.mem_cons.mp hk with rfl | hk
      · exact hs
      · exact e2 k hk
theorem tagsBack {H : Hp} : ∀ {ys : TagL} {rows : List (List Str)}, (∀ k ∈ ys, SqT K H k.1 k.2) → ys.map (fun k => k.2) = rows.map (fun r => r.map V.str) → DpAll K H (ys.map fun k => V.ref k.1) (rows.map eStrs)
  | [], [], _, _ => .nil
  | [], _ :: _, _, h => by cases h
  | _ :: _, [], _, h => by cases h
  | k :: ys, r :: rows, h, e => by
    obtain ⟨e1, e2⟩ := List.cons.inj e
    have e1 : k.2 = r.map V.str := e1
    refine .cons (.tup (h k List.mem_cons_self) ?_) (tagsBack (fun x hx => h x (List.mem_cons_of_mem _ hx)) e2)
    rw [e1]
    exact dpAll_strs r
theorem mapStr_inj : ∀ {a b : List Str}, a.map V.str = b.map V.str → a = b
  | [], [], _ => rfl
  | [], _ :: _, h => by cases h
  | _ :: _, [], h => by cases h
  | x :: a, y :: b, h => by
    obtain ⟨h1, h2⟩ := List.cons.inj h
    cases h1
    rw [mapStr_inj h2]
theorem permBack {ys ks : TagL} {rows : List (List Str)} (pm : ys.Perm ks) (e : ks.map (fun k => k.2) = rows.map fun r => r.map V.str) : ∃ rows' : List (List Str), rows'.Perm rows ∧ ys.map (fun k => k.2) = rows'.map fun r => r.map V.str := by
  have p1 := pm.map fun k => k.2
  rw [e] at p1
  have lift : ∀ (l : List (List V)), (∀ x ∈ l, ∃ r : List Str, x = r.map V.str) → ∃ rs : List (List Str), l = rs.map fun r => r.map V.str := by
    intro l
    induction l with
    | nil => exact fun _ => ⟨[], rfl⟩
    | cons x l ih =>
      intro h
      obtain ⟨r, hr⟩ := h x List.mem_cons_self
      obtain ⟨rs, hrs⟩ := ih fun y hy => h y (List.mem_cons_of_mem _ hy)
      exact ⟨r :: rs, by rw [hr, hrs]; rfl⟩
  obtain ⟨rs, hrs⟩ := lift (ys.map fun k => k.2) fun x hx => by
    obtain ⟨r, _, hr⟩ := List.mem_map.mp (p1.mem_iff.mp hx)
    exact ⟨r, hr.symm⟩
  refine ⟨rs, ?_, hrs⟩
  rw [hrs] at p1
  have back : ∀ l : List (List Str), ((l.map fun r => r.map V.str).map fun x => x.map fun v => match v with | V.str s => s | _ => ("" : Str)) = l := by
    intro l
    rw [List.map_map]
    have : (fun x : List V => x.map fun v => match v with | V.str s => s | _ => ("" : Str)) ∘ (fun r : List Str => r.map V.str) = id := by
      funext r
      show (r.map V.str).map _ = r
      rw [List.map_map]
      exact List.map_id r
    rw [this, List.map_id]
  have p2 := p1.map fun x => x.map fun v => match v with | V.str s => s | _ => ("" : Str)
  rw [back, back] at p2
  exact p2
theorem ok__law_sets (T : TX K mg) : FnOk P w K mg base CX0 1 T._law_sets.f T._law_sets.fd ["words"] (spSets K) := by
  refine T._law_sets.F.ok sc__law_sets (fun vs H Q E h => by obtain ⟨a, xs, rfl, _⟩ := h; rfl) (fun cdv A outer s H vs Q E hr h => ?_)
  refine ⟨_, PSs.nox (pss_cons (ps_set (i := 1) sc__law_sets.nd rfl (Or.inl rfl) (pe_lst (pa_cons (pe_tup pa_nil) pa_nil))) (pss_cons (ps_for PassesOwn.never rfl (piL K (pv 0)) (pg_name (i := 2) sc__law_sets.nd rfl (Or.inr rfl)) (pss_one (ps_set (i := 1) sc__law_sets.nd rfl (Or.inl rfl) (pe_op op_cat (pv 1) (pe_lc (own := [("row", 3)]) rfl sc__law_sets.nd (piL K (pv 1)) (blkOk_by (N := ["words", "found", "word", "row"]) (sc := defScope s__law_sets) (by decide +kernel)) (fun _ _ _ _ _ => (pg_name (i := 3) sc__law_sets.nd rfl (Or.inl rfl))) (fun _ _ _ _ _ => pts_nil) (fun _ _ _ _ _ => (pe_op (catT K) (pv 3) (pe_tup (pa_cons (pv 2) pa_nil))))))))) (pss_one (ps_ret (pe_sortLen K hr.units (by rfl) T.b_sorted (by rfl) T.b_len (pv 1)))))), ?_⟩
  obtain ⟨a, xs, rfl, ha, hl, hQ⟩ := h
  have ha0 : Dp K H (.ref a) (.list (xs.map PyData.str)) := .lst ha (dpAll_strs xs)
  refine s_setP (n_lst (K := K) (ds := (setsOf []).map eStrs) (ds_cons (d_tup ds_nil (by decide)) ds_nil) (by decide)) fun v H1 e1 hv => ?_
  refine s_forE (l := xs) (w_lst (f := PyData.str) (d_var (i := 0) rfl (dp_ex e1 _ _ ha0))) (fun i σ' H' => ∃ u o2 o3, σ' = [some (.ref a), some u, o2, o3] ∧ isL K H ((setsOf (xs.take i)).map eStrs) u H') (fun H2 e2 => ⟨v, none, none, rfl, isL_mono _ _ _ e2 hv⟩) ?_ ?_
  · rintro Hb eb i word σ' H2 x H3 hw e2 ⟨u, o2, o3, rfl, hu⟩ e3 hx
    obtain rfl := dp_str hx
    have hu3 := isL_mono _ _ _ e3 hu
    have hi := (List.getElem?_eq_some_iff.mp hw).1
    have l2 : (setsOf (xs.take i)).length ≤ 1024 := by
      rw [setsOf_len _ _ rfl, List.length_take]
      exact Nat.pow_le_pow_right (n := 2) (j := 10) (by decide) (by omega)
    have tk : xs.take (i + 1) = xs.take i ++ [word] := by rw [List.take_add_one, hw]; rfl
    refine s_setP1 (n_catLst (K := K) (es := ((setsOf (xs.take i)).map (· ++ [word])).map eStrs) (p_var (i := 1) rfl isLst_mono (isL_lst hu3)) ?_ (by rw [List.length_map, List.length_map, List.length_map]; omega)) fun u' H4 e4 hu' => ?_
    · refine (n_is (n_lcA (w_lst (l := setsOf (xs.take i)) (f := eStrs) (d_var (i := 1) rfl (isLst_dp (isL_lst hu3)))) (by omega) (fun r => eStrs (r ++ [word])) (fun r _ => by simpa [noL] using noL_strs (r ++ [word])) fun r hr y H5 e5 hy => ⟨_, g_name, rfl, ?_⟩) (by rw [List.map_map]; rfl)).imp fun _ _ _ => isL_lst
      have rl := setsOf_small _ _ rfl r hr
      rw [List.length_take] at rl
      exact d_is (d_catA (d_var (i := 3) rfl hy) (d_tup (ds_cons (d_var (i := 2) rfl (.str word)) ds_nil) (by show (1 : Nat) ≤ 100000; decide)) (by rw [List.length_map]; show _ + 1 ≤ _; omega)) (by
        show PyData.tuple _ = PyData.tuple _
        rw [List.map_append]
        rfl)
    · refine ⟨(e2.trans e3).trans e4, u', _, _, rfl, ?_⟩
      rw [tk, setsOf_snoc, List.map_append]
      obtain ⟨p, zs, h1, h2, h3, h4⟩ := hu'
      exact ⟨p, zs, h1, fresh_back (((e1.trans eb).trans (e2.trans e3))) h2, h3, h4⟩
  · rintro σ' H2 e2 ⟨u, o2, o3, rfl, hu⟩
    rw [List.take_length] at hu
    obtain ⟨p, ys, rfl, hpn, hp, hys⟩ := hu
    obtain ⟨ks, rfl, hks, he⟩ := tagsS hys
    have kl : ks.length ≤ 1024 := by
      have := congrArg List.length he
      rw [List.length_map, List.length_map, setsOf_len _ _ rfl] at this
      rw [this]
      exact Nat.pow_le_pow_right (n := 2) (j := 10) (by decide) hl
    refine ⟨_, rfl, p, ks, rfl, sq_of hp, by omega, hks, fun p2 zs pm hn => ?_⟩
    obtain ⟨rows, pr, er⟩ := permBack pm he
    have e3 : Ex H2 (upd H2 p2 (.lst (zs.map fun k => V.ref k.1))) := Ex.new hn
    exact hQ rows _ _ pr ((e1.trans e2).trans e3) ⟨p2, _, rfl, fresh_back (e1.trans e2) hn, upd_same, tagsBack (fun k hk => ex_t e3 (hks k (pm.mem_iff.mp hk))) er⟩
end
end K26
set_option Elab.async false
set_option linter.all false
set_option maxRecDepth 100000
set_option maxHeartbeats 4000000
/-! KS9: _law_front. -/
namespace K26
open PySem PySem.Spec PyProof.Rows L2 Evl LamX NdefX RZ
abbrev Chs := List (Str × Chain)
def putC (k : Str) (f : Chs) (g : Str × Str) : Chs := pv2 f g.1 ((k, g.2) :: ((gv f g.1).getD []).filter fun p => !decide (p.1 = k))
def stepF (cs : List Code) (f : Chs) (w : Str) : Chs := match cs.find? (fun c => decide (c.1 = w)) with
  | some c => c.2.2.foldl (putC c.2.1) f
  | none => f
def frontOf (b : Bk) (ws : List Str) : Chs := ws.foldl (stepF b.codes) (b.asps.map fun a => (a, []))
structure FrOk (b : Bk) : Prop where
  nda : b.asps.Nodup
  la : b.asps.length ≤ 1000
  ndw : (b.codes.map (·.1)).Nodup
  lc : b.codes.length ≤ 16
  gl : ∀ c ∈ b.codes, c.2.2.length ≤ 1000
  ga : ∀ c ∈ b.codes, ∀ p ∈ c.2.2, p.1 ∈ b.asps
structure ChsOk (b : Bk) (f : Chs) : Prop where
  keys : f.map (·.1) = b.asps
  nd : ∀ q ∈ f, (q.2.map (·.1)).Nodup
  from_ : ∀ q ∈ f, ∀ p ∈ q.2, ∃ c ∈ b.codes, c.2.1 = p.1 ∧ ∃ g ∈ c.2.2, g.2 = p.2
section
variable {b : Bk} {f : Chs}
theorem chs0 : ChsOk b (b.asps.map fun a => (a, [])) := ⟨by rw [List.map_map]; exact List.map_id _, fun q hq => by
  obtain ⟨a, _, rfl⟩ := List.mem_map.mp hq
  exact .nil, fun q hq p hp => by
  obtain ⟨a, _, rfl⟩ := List.mem_map.mp hq
  cases hp⟩
theorem ChsOk.at_ (h : ChsOk b f) {a : Str} (ha : a ∈ b.asps) : ∃ c, gv f a = some c ∧ (a, c) ∈ f := by
  have : (gv f a).isSome = true := by rw [gv_isSome, h.keys]; exact decide_eq_true ha
  obtain ⟨c, hc⟩ := Option.isSome_iff_exists.mp this
  exact ⟨c, hc, gv_some hc⟩
theorem ChsOk.len (h : ChsOk b f) {q : Str × Chain} (hq : q ∈ f) : q.2.length ≤ b.codes.length := by
  have := nd_le (h.nd q hq) (ks := b.codes.map fun c => c.2.1) fun x hx => by
    obtain ⟨p, hp, rfl⟩ := List.mem_map.mp hx
    obtain ⟨c, hc, e, _⟩ := h.from_ q hq p hp
    exact List.mem_map.mpr ⟨c, hc, e⟩
  rw [List.length_map, List.length_map] at this
  exact this
theorem ChsOk.put (h : ChsOk b f) (o : FrOk b) {c : Code} (hc : c ∈ b.codes) {g : Str × Str} (hg : g ∈ c.2.2) : ChsOk b (putC c.2.1 f g) := by
  have ha := o.ga c hc g hg
  obtain ⟨ch, e, hm⟩ := h.at_ ha
  unfold putC
  rw [e]
  refine ⟨by rw [pv2_keys, h.keys, if_pos ha], fun q hq => ?_, fun q hq p hp => ?_⟩
  · rcases pv2_mem hq with hq | rfl
    · exact h.nd q hq
    · refine List.nodup_cons.mpr ⟨fun hz => ?_, (h.nd _ hm).sublist (List.Sublist.map _ List.filter_sublist)⟩
      obtain ⟨p, hp, e⟩ := List.mem_map.mp hz
      have := (List.mem_filter.mp hp).2
      simp [e] at this
  · rcases pv2_mem hq with hq | rfl
    · exact h.from_ q hq p hp
    · rcases List.mem_cons.mp hp with rfl | hp
      · exact ⟨c, hc, rfl, g, hg, rfl⟩
      · exact h.from_ _ hm p (List.mem_filter.mp hp).1
theorem ChsOk.puts (o : FrOk b) {c : Code} (hc : c ∈ b.codes) : ∀ (gs : List (Str × Str)) {f : Chs}, (∀ g ∈ gs, g ∈ c.2.2) → ChsOk b f → ChsOk b (gs.foldl (putC c.2.1) f)
  | [], _, _, h => h
  | g :: gs, _, hs, h => ChsOk.puts o hc gs (fun x hx => hs x (List.mem_cons_of_mem _ hx)) (h.put o hc (hs g List.mem_cons_self))
theorem putC_at {k : Str} {f : Chs} {g : Str × Str} {ch : Chain} (h : gv f g.1 = some ch) : putC k f g = pv2 f g.1 ((k, g.2) :: ch.filter fun p => !decide (p.1 = k)) := by
  unfold putC
  rw [h]
  rfl
theorem find_word {cs : List Code} {w : Str} {c : Code} (h : cs.find? (fun c => decide (c.1 = w)) = some c) : c ∈ cs ∧ c.1 = w := ⟨List.mem_of_find?_eq_some h, of_decide_eq_true (List.find?_some (p := fun c : Code => decide (c.1 = w)) h)⟩
theorem ChsOk.step (h : ChsOk b f) (o : FrOk b) (w : Str) : ChsOk b (stepF b.codes f w) := by
  unfold stepF
  cases e : b.codes.find? (fun c => decide (c.1 = w)) with
  | none => exact h
  | some c => exact ChsOk.puts o (find_word e).1 _ (fun _ hg => hg) h
theorem front_ok (o : FrOk b) (ws : List Str) : ChsOk b (frontOf b ws) := by
  have go : ∀ (ws : List Str) {f : Chs}, ChsOk b f → ChsOk b (ws.foldl (stepF b.codes) f) := by
    intro ws
    induction ws with
    | nil => exact fun h => h
    | cons w ws ih => exact fun h => ih (h.step o w)
  exact go ws chs0
end
theorem codesD_gv {cs : List Code} {w : Str} {c : Code} (h : cs.find? (fun c => decide (c.1 = w)) = some c) : gv (codesD cs) w = some (.tuple [.str c.2.1, eCh c.2.2]) := by
  induction cs with
  | nil => cases h
  | cons d cs ih =>
    unfold codesD at ih ⊢
    rw [List.map_cons, gv_cons]
    rw [List.find?_cons] at h
    by_cases e : d.1 = w
    · rw [if_pos e]
      rw [decide_eq_true e] at h
      cases h
      rfl
    · rw [if_neg e]
      rw [decide_eq_false e] at h
      exact ih h
section
variable {K : PySem.W.Frag} {σ : L2.St} {H H' : Hp} {ta tb : TA} {t1 t2 : TE} {ds es : List PyData}
abbrev isPl (K : PySem.W.Frag) (ds : List PyData) : V → Hp → Prop := fun v H => Dp K H v (.tuple ds) ∧ PlT H v
theorem p_tupF (h : EvDs K ta σ H ds) (hl : ds.length ≤ 100000) : EvP (tTupF ta) σ H (isPl K ds) := fun H1 e Q q =>
  h H1 e _ fun vs H2 e2 ws => ⟨sz_of (by rw [ws.len]; exact hl), fun p H3 hp ⟨o, o1, o2, o3⟩ => by
    subst o3
    have e3 : Ex H2 (upd H2 p (.frz o (.tup vs))) := Ex.new hp
    exact q _ _ (e2.trans e3) ⟨.tup (.inl (.inr ⟨o, upd_same⟩)) (dpAll_ex e3 ds vs ws), p, vs, rfl, o, upd_same, o1, o2⟩⟩
theorem catF_at {x y : V} {Q : VK} (w1 : Dp K H x (.tuple ds)) (pl : PlT H x) (w2 : Dp K H y (.tuple es)) (ne : ds ≠ []) (hl : ds.length + es.length ≤ 100000) (q : ∀ v H', Ex H H' → isPl K (ds ++ es) v H' → Q v H') : rCatF K x y H Q := by
  obtain ⟨a, xs, rfl, hs, hx⟩ := dp_tup w1
  obtain ⟨b, ys, rfl, hs', hy⟩ := dp_tup w2
  have l1 := hx.len
  have l2 := hy.len
  refine ⟨a, b, xs, ys, rfl, rfl, hs, hs', fun z => ne ?_, sz_of (by omega), fun z => ?_, fun z p H4 hp ⟨o, o1, o2, o3⟩ => ?_⟩
  · rw [z] at l1
    exact List.length_eq_zero_iff.mp l1.symm
  · subst z
    cases hy
    rw [List.append_nil] at q
    exact q _ H (Ex.refl H) ⟨.tup hs hx, pl⟩
  · subst o3
    have e4 : Ex H (upd H p (.frz o (.tup (xs ++ ys)))) := Ex.new hp
    exact q _ _ e4 ⟨.tup (.inl (.inr ⟨o, upd_same⟩)) (dpAll_ex e4 _ _ (hx.app hy)), p, _, rfl, o, upd_same, o1, o2⟩
theorem p_catF (h1 : EvP t1 σ H (isPl K ds)) (h2 : EvD K t2 σ H (.tuple es)) (ne : ds ≠ []) (hl : ds.length + es.length ≤ 100000) : EvP (tOp (rCatF K) t1 t2) σ H (isPl K (ds ++ es)) := fun H1 e Q q =>
  h1 H1 e _ fun v H2 e2 ⟨w1, pl⟩ => h2 H2 (e.trans e2) _ fun u H3 e3 w2 => catF_at (dp_ex e3 _ _ w1) (pl.ex e3) w2 ne hl fun v' H4 e4 w => q v' H4 ((e2.trans e3).trans e4) w
theorem prR_conv {β γ : Type} {R : β → V → Hp → Prop} {R' : γ → V → Hp → Prop} {f : γ → β} : ∀ {kvs : List (L2.Key × V)} {l : List (Str × γ)}, (∀ q ∈ l, ∀ v, R (f q.2) v H → R' q.2 v H) → PrR R H kvs (l.map fun q => (q.1, f q.2)) → PrR R' H kvs l
  | _, [], _, h => by cases h; exact .nil
  | _, q :: l, i, h => by
    cases h with
    | cons h1 t => exact .cons ⟨h1.1, i q List.mem_cons_self _ h1.2⟩ (prR_conv (fun x hx => i x (List.mem_cons_of_mem _ hx)) t)
end
def spFront (K : PySem.W.Frag) : Sp := fun vs H Q _ => ∃ b vb vw ws, vs = [vb, vw] ∧ Dp K H vb (eBook b) ∧ FrOk b ∧ isS K ws vw H ∧ (∀ x ∈ ws, x ∈ b.codes.map (·.1)) ∧ ∀ v H', Ex H H' → isRN (rC K) H (frontOf b ws) v H' → Q v H'
theorem s_un2S {K : PySem.W.Frag} {σ : L2.St} {H : Hp} {te : TE} {tz : TS} {D : Ends} {i j : Nat} {d1 d2 : PyData} (h : EvD K te σ H (.tuple [d1, d2])) (k : ∀ x y H1, Ex H H1 → Dp K H1 x d1 → Dp K H1 y d2 → tz D ((σ.set i (some x)).set j (some y)) H1) :
    tSeq (tAsg te (gTup K 2 (gCons (gName i) (gCons (gName j) gNil)))) tz D σ H := s_un2 (D := { D with nx := tz D }) h k
section
variable {P : Program} {w : World} {K : PySem.W.Frag} {mg : Str → Option Value} {base : Heap}
theorem ok__law_front (T : TX K mg) : FnOk P w K mg base CX0 2 T._law_front.f T._law_front.fd ["book", "words"] (spFront K) := by
  refine T._law_front.F.ok sc__law_front (fun vs H Q E h => by obtain ⟨b, vb, vw, ws, rfl, _⟩ := h; rfl) (fun cdv A outer s H vs Q E hr h => ?_)
  refine ⟨_, PSs.nox (pss_cons (ps_par (i := 2) (j := 3) rfl sc__law_front.nd rfl rfl (by decide) rfl rfl (pa_cons (pe_call (ok__law_codes T) (hr.mono (by decide)) rfl T._law_codes.g T._law_codes.F.kp (bd__law_codes T._law_codes.F) .nil pass0 (pa_cons (pv 0) pa_nil)) (pa_cons (pe_callTy (call_dictP rfl) (by rfl) T.b_dict (by decide +kernel) (pa_cons (pe_lc (own := [("aspect", 7)]) rfl sc__law_front.nd (piT K (pe_ix (ixT K) (pv 0) pe_int (fun _ _ => rfl))) (blkOk_by (N := ["book", "words", "codes", "found", "word", "kind", "gives", "aspect", "value", "pair"]) (sc := defScope s__law_front) (by decide +kernel)) (fun _ _ _ _ _ => (pg_name (i := 7) sc__law_front.nd rfl (Or.inl rfl))) (fun _ _ _ _ _ => pts_nil) (fun _ _ _ _ _ => (pe_tup (pa_cons (pv 7) (pa_cons (pe_tup pa_nil) pa_nil))))) pa_nil)) pa_nil)) (by rfl)) (pss_cons (ps_for PassesOwn.never rfl (piS K (pv 1)) (pg_name (i := 4) sc__law_front.nd rfl (Or.inl rfl)) (pss_cons (ps_asg (pe_dget (hu_of hr) (pv 2) (pv 4) (fun _ _ => rfl)) (pg_tup rfl (pgs_cons (pg_name (i := 5) sc__law_front.nd rfl (Or.inr rfl)) (pgs_cons (pg_name (i := 6) sc__law_front.nd rfl (Or.inl rfl)) pgs_nil)))) (pss_one (ps_for PassesOwn.never rfl (piT K (pv 6)) (pg_tup rfl (pgs_cons (pg_name (i := 7) sc__law_front.nd rfl (Or.inl rfl)) (pgs_cons (pg_name (i := 8) sc__law_front.nd rfl (Or.inl rfl)) pgs_nil))) (pss_one (ps_dput (hu_of hr) (pv 3) (pv 7) (pe_op (opCatF K) (pe_tupF (pa_cons (pe_tup (pa_cons (pv 5) (pa_cons (pv 8) pa_nil))) pa_nil)) (qTup K T.b_tuple (pe_lc (own := [("pair", 9)]) rfl sc__law_front.nd (piT K (pe_dget (hu_of hr) (pv 3) (pv 7) (fun _ _ => rfl))) (blkOk_by (N := ["book", "words", "codes", "found", "word", "kind", "gives", "aspect", "value", "pair"]) (sc := defScope s__law_front) (by decide +kernel)) (fun _ _ _ _ _ => (pg_name (i := 9) sc__law_front.nd rfl (Or.inl rfl))) (fun _ _ _ _ _ => (pts_one (pt_cmpR op_ne (pe_ix (ixT K) (pv 9) pe_int (fun _ _ => rfl)) (pv 5) (nomark _)))) (fun _ _ _ _ _ => (pv 9))))) rfl)))))) (pss_one (ps_ret (pv 3))))), ?_⟩
  obtain ⟨b, vb, vw, ws, rfl, hb, o, hw, hin, hQ⟩ := h
  refine ⟨_, rfl, b, vb, rfl, hb, o.lc, o.ndw, fun vc H1 e1 hc => ?_⟩
  have hb1 := dp_ex e1 _ _ hb
  refine (k_dictP (K := K) (ws := b.asps.map fun a => (a, eCh [])) (n_is (n_lcA (w_tup (l := b.asps) (f := PyData.str) (d_ixT (d_var (i := 0) rfl hb1) d_int (atI_of (j := 0) rfl))) (by have := o.la; omega) (fun a => .tuple [.str a, eCh []]) (fun _ _ => rfl) fun a ha y H3 e3 hy => ?_) (by rw [List.map_map]; rfl))) _ (Ex.refl _) _ fun vf H2 e2 hf => ?_
  · obtain rfl := dp_str hy
    exact ⟨_, g_name, rfl, d_tup (ds_cons (d_var (i := 7) rfl (.str a)) (ds_cons (d_tup ds_nil (by decide)) ds_nil)) (by show (2 : Nat) ≤ 100000; decide)⟩
  · refine ⟨vc, vf, rfl, ?_⟩
    rw [kfold_id (by rw [List.map_map, show ((fun x : Str × PyData => x.1) ∘ fun a : Str => (a, eCh [])) = id from rfl, List.map_id]; exact o.nda)] at hf
    obtain ⟨p, rfl, hpn, kvs, hp, hpr⟩ := hf
    obtain ⟨pc, rfl, hcn, hgc⟩ := hc
    have npc : pc ≠ p := fun z => by
      obtain ⟨kc, h1, _⟩ := hgc
      rw [z, hpn] at h1
      cases h1
    have gk0 : GK (rC K) H2 p (frontOf b []) := ⟨kvs, hp, prR_conv (R := isD K) (R' := rC K) (f := eCh) (l := b.asps.map fun a => (a, ([] : Chain))) (fun q hq v h => by
      obtain ⟨a, _, rfl⟩ := List.mem_map.mp hq
      exact ⟨h, fun ne => absurd rfl ne⟩) (by rw [List.map_map]; exact hpr)⟩
    have hgc2 : GK (isD K) H2 pc (codesD b.codes) := hgc.ex e2
    have hw2 := hw.ex (e1.trans e2)
    have hnH : H p = none := fresh_back e1 hpn
    refine s_forX (p := p) (l := ws) (w_isX (i := 1) hp rfl hw2) (fun i σ' H' => ∃ o4 o5 o6 o7 o8 o9, σ' = [some vb, some vw, some (.ref pc), some (.ref p), o4, o5, o6, o7, o8, o9] ∧ GK (rC K) H' p (frontOf b (ws.take i)) ∧ GK (isD K) H' pc (codesD b.codes))
      (fun H3 e3 => ⟨_, _, _, _, _, _, rfl, gk0.ex e3, hgc2.ex e3⟩) ?_ ?_
    · rintro Hb eb i word σ' H3 x H4 hwi xb ⟨o4, o5, o6, o7, o8, o9, rfl, gk, gc⟩ e4 rfl
      have fo : ChsOk b (frontOf b (ws.take i)) := front_ok o _
      obtain ⟨c, hc⟩ : ∃ c, b.codes.find? (fun c => decide (c.1 = word)) = some c := by
        obtain ⟨c, hc, e⟩ := List.mem_map.mp (hin word (List.mem_of_getElem? hwi))
        cases q : b.codes.find? (fun c => decide (c.1 = word)) with
        | some d => exact ⟨d, rfl⟩
        | none =>
          have := List.find?_eq_none.mp q c hc
          exact absurd (decide_eq_true e) this
      obtain ⟨hcm, hcw⟩ := find_word hc
      have nx : frontOf b (ws.take (i + 1)) = c.2.2.foldl (putC c.2.1) (frontOf b (ws.take i)) := by
        rw [List.take_add_one, hwi]
        show List.foldl _ _ (ws.take i ++ [word]) = _
        rw [List.foldl_append]
        show stepF b.codes (frontOf b (ws.take i)) word = _
        unfold stepF
        rw [hc]
      refine s_un2S (K := K) (d1 := .str c.2.1) (d2 := eCh c.2.2) (d_dget (p_var (i := 2) rfl isK_mono ⟨pc, rfl, gc.ex e4⟩) (d_var (i := 4) rfl (.str word)) (codesD_gv hc)) fun y1 y2 H5 e5 h1 h2 => ?_
      obtain rfl := dp_str h1
      have gk5 := gk.ex (e4.trans e5)
      have gc5 := gc.ex (e4.trans e5)
      obtain ⟨kv5, hp5, _⟩ := id gk5
      refine s_forX (p := p) (l := c.2.2) (w_tupX hp5 (f := ePair) (d_var (i := 6) rfl h2)) (fun j σ' H' => ∃ o7 o8 o9, σ' = [some vb, some vw, some (.ref pc), some (.ref p), some (.str word), some (.str c.2.1), some y2, o7, o8, o9] ∧ GK (rC K) H' p ((c.2.2.take j).foldl (putC c.2.1) (frontOf b (ws.take i))) ∧ GK (isD K) H' pc (codesD b.codes))
        (fun H6 e6 => ⟨_, _, _, rfl, gk5.ex e6, gc5.ex e6⟩) ?_ ?_
      · rintro Hd ed j g σ' H6 x H7 hgj xd ⟨o7', o8', o9', rfl, gk6, gc6⟩ e7 hx
        have hgm : g ∈ c.2.2 := List.mem_of_getElem? hgj
        have fj : ChsOk b ((c.2.2.take j).foldl (putC c.2.1) (frontOf b (ws.take i))) := ChsOk.puts o hcm _ (fun y hy => List.mem_of_mem_take hy) fo
        obtain ⟨ch, hch, hchm⟩ := fj.at_ (o.ga c hcm g hgm)
        have cl : ch.length ≤ b.codes.length := fj.len hchm
        have lc := o.lc
        obtain ⟨a, xs, rfl, hs, hxs⟩ := dp_tup hx
        obtain ⟨z1, z2, rfl, k1, k2⟩ := dp2 hxs
        obtain rfl := dp_str k1
        obtain rfl := dp_str k2
        have gk7 := gk6.ex e7
        have gc7 := gc6.ex e7
        have fl : ((ch.filter fun p => !decide (p.1 = c.2.1)).map ePair).length ≤ 16 := by
          rw [List.length_map]
          exact Nat.le_trans (List.length_filter_le _ _) (by omega)
        have nxt : (c.2.2.take (j + 1)).foldl (putC c.2.1) (frontOf b (ws.take i)) = pv2 ((c.2.2.take j).foldl (putC c.2.1) (frontOf b (ws.take i))) g.1 ((c.2.1, g.2) :: ch.filter fun p => !decide (p.1 = c.2.1)) := by
          rw [List.take_add_one, hgj]
          show List.foldl _ _ (c.2.2.take j ++ [g]) = _
          rw [List.foldl_append]
          exact putC_at hch
        refine g_two hs _ ?_
        refine s_dput (K := K) (R := rC K) (p := p) (s := g.1) (d := (c.2.1, g.2) :: ch.filter fun p => !decide (p.1 = c.2.1)) ?_ (p_var (i := 3) (v := .ref p) rfl (fun _ _ _ _ h => h) rfl) (d_var (i := 7) rfl (.str g.1)) gk7 (by
          have e := congrArg List.length fj.keys
          have la := o.la
          rw [List.length_map] at e
          omega) fun H8 x8 gk8 => ?_
        · refine (p_catF (K := K) (ds := [ePair (c.2.1, g.2)]) (es := (ch.filter fun (p : Str × Str) => !decide (p.1 = c.2.1)).map ePair) (p_tupF (ds_cons (d_tup (ds_cons (d_var (i := 5) rfl (.str _)) (ds_cons (d_var (i := 8) rfl (.str _)) ds_nil)) (by show (2 : Nat) ≤ 100000; decide)) ds_nil) (by show (1 : Nat) ≤ 100000; decide)) (d_tupL (EvN.data (n_lc (w_tup (l := ch) (f := ePair) (EvP.imp (p_dget (K := K) (R := rC K) (p_var (i := 3) rfl isR_mono ⟨p, rfl, gk7⟩) (d_var (i := 7) rfl (.str g.1)) hch) fun _ _ _ h => h.1)) (by omega) (fun (p : Str × Str) => !decide (p.1 = c.2.1)) ePair (fun _ _ => rfl) fun q hq y H9 e9 hy => ⟨_, g_name, rfl, t_of (K := K) (d_neT (d_ixT (d_var (i := 9) rfl hy) d_int (atI_of (j := 0) rfl)) (d_var (i := 5) rfl (.str _))), fun _ => d_var (i := 9) rfl hy⟩))) (by simp) (by show 1 + _ ≤ _; omega)).imp fun v H9 e9 h => ⟨h.1, fun _ => h.2⟩
        · obtain ⟨kv7, hp7, _⟩ := id gk7
          exact ⟨(xd.trans (Xb.of e7)).trans x8, _, _, _, rfl, by rw [nxt]; exact gk8, gc7.xb hp7 npc x8⟩
      · rintro σ' H6 xd ⟨o7', o8', o9', rfl, gk6, gc6⟩
        rw [List.take_length, ← nx] at gk6
        exact ⟨(xb.trans (Xb.of (e4.trans e5))).trans xd, _, _, _, _, _, _, rfl, gk6, gc6⟩
    · rintro σ' H3 xb ⟨o4, o5, o6, o7, o8, o9, rfl, gk, gc⟩
      rw [List.take_length] at gk
      exact ⟨_, rfl, hQ _ H3 (Xb.ex (e1.trans e2) hnH xb) ⟨p, rfl, hnH, gk⟩⟩
end
end K26
set_option Elab.async false
set_option linter.all false
set_option maxRecDepth 100000
set_option maxHeartbeats 4000000
/-! KS10: _law_meets. -/
namespace K26
open PySem PySem.Spec PyProof.Rows L2 Evl LamX NdefX RZ
def SameW (c d : Chain) : Prop := ∀ t : List Str, worth c t = worth d t
def frAt (b : Bk) (row : List Str) (a : Str) : Chain := (gv (frontOf b row) a).getD []
def wsAt (ws : List Wish) (a : Str) : Chain := (gv ws a).getD []
def Meets (b : Bk) (ws : List Wish) (row fr : List Str) : Prop := ∀ a ∈ b.asps, a ∉ fr → SameW (frAt b row a) (wsAt ws a)
theorem worth_congr {c : Chain} {t u : List Str} (h : ∀ p ∈ c, p.1 ∈ t ↔ p.1 ∈ u) : worth c t = worth c u := by
  unfold worth
  have e : (c.filter fun p => decide (p.1 ∈ t)) = c.filter fun p => decide (p.1 ∈ u) := List.filter_congr fun p hp => by
    rw [decide_eq_decide]
    exact h p hp
  rw [e]
theorem same_of {c d : Chain} {ys : List Str} {rows : List (List Str)} (hr : rows.Perm (setsOf ys)) (hy : ∀ p ∈ c ++ d, p.1 ∈ ys) (h : ∀ t ∈ rows, worth c t = worth d t) : SameW c d := fun t => by
  have hm : ys.filter (fun y => decide (y ∈ t)) ∈ rows := hr.mem_iff.mpr (setsOf_filter _ _ ys rfl)
  have e : ∀ {x : Chain}, (∀ p ∈ x, p.1 ∈ ys) → worth x t = worth x (ys.filter fun y => decide (y ∈ t)) := fun {x} hx => worth_congr fun p hp => by
    rw [List.mem_filter, decide_eq_true_eq]
    exact ⟨fun z => ⟨hx p hp, z⟩, fun z => z.2⟩
  rw [e fun p hp => hy p (List.mem_append_left _ hp), e fun p hp => hy p (List.mem_append_right _ hp)]
  exact h _ hm
theorem kfold_keys {β : Type} : ∀ l : List (Str × β), ((kfold l).map (·.1)).Nodup ∧ ∀ x, x ∈ (kfold l).map (·.1) ↔ x ∈ l.map (·.1) := by
  have go : ∀ n (l : List (Str × β)), l.length = n → ((kfold l).map (·.1)).Nodup ∧ ∀ x, x ∈ (kfold l).map (·.1) ↔ x ∈ l.map (·.1) := by
    intro n
    induction n with
    | zero =>
      intro l h
      rw [List.length_eq_zero_iff.mp h]
      exact ⟨.nil, fun x => Iff.rfl⟩
    | succ n ih =>
      intro l h
      have ne : l ≠ [] := fun z => by rw [z] at h; cases h
      obtain ⟨i1, i2⟩ := ih l.dropLast (by rw [List.length_dropLast]; omega)
      rw [← List.dropLast_concat_getLast ne, kfold_snoc, pv2_keys]
      split
      · rename_i hm
        refine ⟨i1, fun x => ?_⟩
        rw [List.map_append, List.mem_append, i2]
        refine ⟨.inl, fun z => z.elim id fun z => ?_⟩
        rw [List.map_cons, List.map_nil, List.mem_singleton] at z
        rw [z]
        exact (i2 _).mp hm
      · rename_i hm
        refine ⟨List.nodup_append.mpr ⟨i1, by simp, fun a ha b' hb z => hm (by rw [← List.mem_singleton.mp hb, ← z]; exact ha)⟩, fun x => ?_⟩
        rw [List.map_append, List.mem_append, List.mem_append, i2]
        rfl
  exact fun l => go _ l rfl
theorem eqv_opt : ∀ a b : Option Str, (eOpt a).eqv (eOpt b) = decide (a = b)
  | none, none => rfl
  | none, some _ => rfl
  | some _, none => rfl
  | some x, some y => by
    show (PyData.str x).eqv (.str y) = _
    rw [eqv_str]
    by_cases h : x = y
    · simp [h]
    · simp [h]
theorem worth_lt {c : Chain} (h : ∀ p ∈ c, Lt p.2) (t : List Str) : SeqAt.shaped (eOpt (worth c t)) = true := by
  cases e : worth c t with
  | none => decide
  | some x =>
    unfold worth at e
    have hx : x ∈ (c.filter fun p => decide (p.1 ∈ t)).map (·.2) := List.mem_of_mem_head? e
    obtain ⟨p, hp, rfl⟩ := List.mem_map.mp hx
    exact (okD_str (h p (List.mem_filter.mp hp).1)).shaped
section
variable {K : PySem.W.Frag} {σ : L2.St} {H : Hp} {te : TE} {g : TG} {tb : TS} {D : Ends}
/-- sorted(d) -/
theorem p_sortD {l : List (Str × PyData)} (h : EvP te σ H (isRN (isD K) H l)) (hl : l.length < 64) : EvP (tCB (fun xs H Q => ∃ (a : Addr) (kvs : List (L2.Key × V)) (ks : List Str), xs = [.ref a] ∧ Rd H a (.dK kvs) ∧ kvs.map (·.1) = ks.map Sum.inr ∧ ks.length < 64 ∧ ∀ ys p, ys.Perm ks → sortedS ys = true → H p = none → Q (.ref p) (upd H p (.lst (ys.map V.str)))) (tCons te tNil)) σ H
    (fun v H' => ∃ (p : Addr) (ys : List Str), v = .ref p ∧ ys.Perm (l.map (·.1)) ∧ H' p = some (.lst (ys.map V.str))) := fun H1 e Q q =>
  h H1 e _ fun v H2 e2 ⟨a, hv, _, kvs, ha, hpr⟩ => by
    subst hv
    have ek : ∀ {kvs : List (L2.Key × V)} {l : List (Str × PyData)}, PrR (isD K) H2 kvs l → kvs.map (·.1) = (l.map (·.1)).map Sum.inr := fun {kvs l} hp => by
      induction hp with
      | nil => rfl
      | cons x _ ih => rw [List.map_cons, List.map_cons, List.map_cons, ih, x.1]
    exact ⟨a, kvs, l.map (·.1), rfl, .inl ha, ek hpr, by rw [List.length_map]; exact hl, fun ys p pm _ hn => q _ _ (e2.trans (Ex.new hn)) ⟨p, ys, rfl, pm, upd_same⟩⟩
theorem s_forAt (h : te σ H fun x H1 => tFor (iList K (tC x)) g tb D σ H1) : tFor (iList K te) g tb D σ H := h
end
structure MtOk (b : Bk) (ws : List Wish) (row fr : List Str) : Prop where
  fo : FrOk b
  nd : (ws.map (·.1)).Nodup
  row : ∀ x ∈ row, x ∈ b.codes.map (·.1)
  cv : ∀ c ∈ b.codes, ∀ p ∈ c.2.2, Lt p.2
  few : ∀ q ∈ ws, q.2.length ≤ 12
  wv : ∀ q ∈ ws, ∀ p ∈ q.2, Lt p.2
  ks : ∃ ks : List Str, ks.length ≤ 10 ∧ (∀ c ∈ b.codes, c.2.1 ∈ ks) ∧ ∀ q ∈ ws, ∀ p ∈ q.2, p.1 ∈ ks
def spMeets (K : PySem.W.Frag) : Sp := fun vs H Q _ => ∃ b vb vw vr vl ws row fr, vs = [vb, vw, vr, vl] ∧ Dp K H vb (eBook b) ∧ rWs K ws vw H ∧ isS K row vr H ∧ Dp K H vl (eStrs fr) ∧ MtOk b ws row fr ∧ ∀ k : Bool, (k = true ↔ Meets b ws row fr) → RetD K (.bool k) H Q
section
variable {P : Program} {w : World} {K : PySem.W.Frag} {mg : Str → Option Value} {base : Heap}
theorem ok__law_meets (T : TX K mg) : FnOk P w K mg base CX0 3 T._law_meets.f T._law_meets.fd ["book", "wishes", "words", "left"] (spMeets K) := by
  refine T._law_meets.F.ok sc__law_meets (fun vs H Q E h => by obtain ⟨b, vb, vw, vr, vl, ws, row, fr, rfl, _⟩ := h; rfl) (fun cdv A outer s H vs Q E hr h => ?_)
  refine ⟨_, PSs.nox (pss_cons (ps_par (i := 4) (j := 5) rfl sc__law_meets.nd rfl rfl (by decide) rfl rfl (pa_cons (pe_callTy (call_dictT rfl) (by rfl) T.b_dict (by decide +kernel) (pa_cons (pv 1) pa_nil)) (pa_cons (pe_call (ok__law_front T) (hr.mono (by decide)) rfl T._law_front.g T._law_front.F.kp (bd__law_front T._law_front.F) .nil pass0 (pa_cons (pv 0) (pa_cons (pv 2) pa_nil))) pa_nil)) (by rfl)) (pss_cons (ps_for PassesOwn.never rfl (piT K (pe_ix (ixT K) (pv 0) pe_int (fun _ _ => rfl))) (pg_name (i := 6) sc__law_meets.nd rfl (Or.inl rfl)) (pss_cons (ps_par (i := 7) (j := 8) rfl sc__law_meets.nd rfl rfl (by decide) rfl rfl (pa_cons (pe_dget (hu_of hr) (pv 5) (pv 6) (fun _ _ => rfl)) (pa_cons (pe_dget2 (hu_of hr) (pv 4) (pv 6) (pe_tup pa_nil) ⟨rfl, rfl, rfl, rfl⟩) pa_nil)) (by rfl)) (pss_cons (ps_set (i := 9) sc__law_meets.nd rfl (Or.inl rfl) (pe_callB (call_sortedD rfl) (by rfl) T.b_sorted (by decide +kernel) (pa_cons (pe_callTy (call_dictP rfl) (by rfl) T.b_dict (by decide +kernel) (pa_cons (pe_lc (own := [("kind", 11), ("value", 12)]) rfl sc__law_meets.nd (piT K (pe_op (catT K) (pv 7) (pv 8))) (blkOk_by (N := ["book", "wishes", "words", "left", "wanted", "found", "aspect", "one", "other", "some", "terminal", "kind", "value"]) (sc := defScope s__law_meets) (by decide +kernel)) (fun _ _ _ _ _ => (pgTup K (n := 2) rfl (pgs_cons (pg_name (i := 11) sc__law_meets.nd rfl (Or.inl rfl)) (pgs_cons (pg_name (i := 12) sc__law_meets.nd rfl (Or.inl rfl)) pgs_nil)))) (fun _ _ _ _ _ => pts_nil) (fun _ _ _ _ _ => (pe_tup (pa_cons (pv 11) (pa_cons pe_int pa_nil))))) pa_nil)) pa_nil))) (pss_one (ps_if (pt_cmpR (opNi K) (pv 6) (pv 3) rfl) (pss_one (ps_for PassesOwn.never rfl (piL K (pe_call (ok__law_sets T) (hr.mono (by decide)) rfl T._law_sets.g T._law_sets.F.kp (bd__law_sets T._law_sets.F) .nil pass0 (pa_cons (pv 9) pa_nil))) (pg_name (i := 10) sc__law_meets.nd rfl (Or.inl rfl)) (pss_one (ps_if (pt_cmpR (opNe K hr.units) (pe_call (ok__law_worth T) (hr.mono (by decide)) rfl T._law_worth.g T._law_worth.F.kp (bd__law_worth T._law_worth.F) .nil pass0 (pa_cons (pv 7) (pa_cons (pv 10) pa_nil))) (pe_call (ok__law_worth T) (hr.mono (by decide)) rfl T._law_worth.g T._law_worth.F.kp (bd__law_worth T._law_worth.F) .nil pass0 (pa_cons (pv 8) (pa_cons (pv 10) pa_nil))) (nomark _)) (pss_one (ps_ret pe_bl)) pss_nil)))) pss_nil))))) (pss_one (ps_ret pe_bl)))), ?_⟩
  obtain ⟨b, vb, vw, vr, vl, ws, row, fr, rfl, hb, hw, hrow, hfr, o, hQ⟩ := h
  have fo := front_ok o.fo row
  have lc := o.fo.lc
  obtain ⟨ks, k10, kc, kw⟩ := o.ks
  refine (k_dictT (K := K) (p_var (i := 1) rfl rWs_mono hw)) H (Ex.refl _) _ fun vd H1 e1 hd => ?_
  rw [kfold_id o.nd] at hd
  refine ⟨vb, rfl, vr, rfl, b, vb, vr, row, rfl, dp_ex e1 _ _ hb, o.fo, hrow.ex e1, o.row, fun vf H2 e2 hf => ⟨vd, vf, rfl, ?_⟩⟩
  obtain ⟨pd, rfl, _, hd⟩ := hd
  obtain ⟨pf, rfl, _, hf⟩ := hf
  have hd2 := hd.ex e2
  have hb2 := dp_ex (e1.trans e2) _ _ hb
  have hl2 := dp_ex (e1.trans e2) _ _ hfr
  refine s_forE (l := b.asps) (w_tup (f := PyData.str) (d_ixT (d_var (i := 0) rfl hb2) d_int (atI_of (j := 0) rfl))) (fun i σ' H' => ∃ o6 o7 o8 o9 o10 o11 o12, σ' = [some vb, some vw, some vr, some vl, some (.ref pd), some (.ref pf), o6, o7, o8, o9, o10, o11, o12] ∧ ∀ a ∈ b.asps.take i, a ∉ fr → SameW (frAt b row a) (wsAt ws a))
    (fun H3 e3 => ⟨_, _, _, _, _, _, _, rfl, fun a ha => by cases ha⟩) ?_ ?_
  · rintro Hb eb i a σ' H3 x H4 hai e3 ⟨o6, o7, o8, o9, o10, o11, o12, rfl, hsm⟩ e4 hx
    obtain rfl := dp_str hx
    have ham := List.mem_of_getElem? hai
    obtain ⟨ch, hch, hchm⟩ := fo.at_ ham
    have e24 := (eb.trans e3).trans e4
    have hf4 := hf.ex e24
    have hd4 := hd2.ex e24
    have ech : frAt b row a = ch := by unfold frAt; rw [hch]; rfl
    have cl : ch.length ≤ b.codes.length := fo.len hchm
    have wl : (wsAt ws a).length ≤ 12 := by
      unfold wsAt
      cases q : gv ws a with
      | none => exact Nat.zero_le _
      | some c => exact o.few (a, c) (gv_some q)
    have chl : ∀ p ∈ ch, Lt p.2 := fun p hp => by
      obtain ⟨c, hc, _, g, hg, e⟩ := fo.from_ _ hchm p hp
      rw [← e]
      exact o.cv c hc g hg
    have wcl : ∀ p ∈ wsAt ws a, Lt p.2 ∧ p.1 ∈ ks := fun p hp => by
      unfold wsAt at hp
      cases q : gv ws a with
      | none => rw [q] at hp; cases hp
      | some c =>
        rw [q] at hp
        exact ⟨o.wv (a, c) (gv_some q) p hp, kw (a, c) (gv_some q) p hp⟩
    have chk : ∀ p ∈ ch, p.1 ∈ ks := fun p hp => by
      obtain ⟨c, hc, e, _⟩ := fo.from_ _ hchm p hp
      rw [← e]
      exact kc c hc
    refine (p_dget (K := K) (R := rC K) (p_var (i := 5) rfl isR_mono ⟨pf, rfl, hf4⟩) (d_var (i := 6) rfl (.str a)) hch) H4 (Ex.refl _) _ fun v1 H5 e5 h1 => ?_
    refine (p_dget2 (K := K) (R := rC K) (dx := []) (p_var (i := 4) rfl isR_mono ⟨pd, rfl, hd4.ex e5⟩) (d_var (i := 6) rfl (.str a)) ((d_tup (K := K) (ds := ([] : List (Str × Str)).map ePair) ds_nil (by decide)).imp fun v H' _ h => ⟨h, fun z => absurd rfl z⟩)) H5 (Ex.refl _) _ fun v2 H6 e6 h2 => ⟨v1, v2, rfl, ?_⟩
    have h1 := dp_ex e6 _ _ h1.1
    have h2 : Dp K H6 v2 (eCh (wsAt ws a)) := h2.1
    have kl : (kfold ((ch ++ wsAt ws a).map fun p => (p.1, PyData.int 0))).length < 64 := by
      have := nd_le (kfold_keys ((ch ++ wsAt ws a).map fun p => (p.1, PyData.int 0))).1 (ks := ks) fun x hx => by
        have := ((kfold_keys _).2 x).mp hx
        rw [List.map_map] at this
        obtain ⟨p, hp, rfl⟩ := List.mem_map.mp this
        rcases List.mem_append.mp hp with hp | hp
        · exact chk p hp
        · exact (wcl p hp).2
      rw [List.length_map] at this
      omega
    refine s_setP (p_sortD (k_dictP (K := K) (ws := (ch ++ wsAt ws a).map fun p => (p.1, PyData.int 0)) (n_is (n_lcA (w_tup (l := ch ++ wsAt ws a) (f := ePair) (d_is (d_catA (d_var (i := 7) rfl h1) (d_var (i := 8) rfl h2) (by rw [List.length_map, List.length_map]; omega)) (by rw [List.map_append]))) (by rw [List.length_append]; omega) (fun p => .tuple [.str p.1, .int 0]) (fun _ _ => rfl) fun p hp y H7 e7 hy => ?_) (by rw [List.map_map]; rfl))) kl) fun v9 H7 e7 h9 => ?_
    · obtain ⟨ad, xs, rfl, hs, hxs⟩ := dp_tup hy
      obtain ⟨y1, y2, rfl, k1, k2⟩ := dp2 hxs
      exact ⟨_, g_two hs, rfl, d_tup (ds_cons (d_var (i := 11) rfl k1) (ds_cons d_int ds_nil)) (by show (2 : Nat) ≤ 100000; decide)⟩
    · obtain ⟨p9, ys, rfl, pm, h9⟩ := h9
      have ysm : ∀ p ∈ ch ++ wsAt ws a, p.1 ∈ ys := fun p hp => pm.mem_iff.mpr (((kfold_keys _).2 _).mpr (by
        rw [List.map_map]
        exact List.mem_map.mpr ⟨p, hp, rfl⟩))
      have yl : ys.length ≤ 10 := by
        have := nd_le (pm.symm.nodup (kfold_keys _).1) (ks := ks) fun x hx => by
          have := ((kfold_keys _).2 x).mp (pm.mem_iff.mp hx)
          rw [List.map_map] at this
          obtain ⟨p, hp, rfl⟩ := List.mem_map.mp this
          rcases List.mem_append.mp hp with hp | hp
          · exact chk p hp
          · exact (wcl p hp).2
        omega
      have tk : b.asps.take (i + 1) = b.asps.take i ++ [a] := by rw [List.take_add_one, hai]; rfl
      have nxt : (a ∉ fr → SameW ch (wsAt ws a)) → ∀ a' ∈ b.asps.take (i + 1), a' ∉ fr → SameW (frAt b row a') (wsAt ws a') := fun h a' ha' => by
        rw [tk] at ha'
        rcases List.mem_append.mp ha' with ha' | ha'
        · exact hsm a' ha'
        · rw [List.mem_singleton.mp ha', ech]
          exact h
      have h17 := dp_ex e7 _ _ h1
      have h27 := dp_ex e7 _ _ h2
      have e27 := ((e24.trans e5).trans e6).trans e7
      refine Evl.s_if (b := !decide (a ∈ fr)) (t_of (K := K) (d_ni1 (d_var (i := 6) rfl (.str a)) (d_var (i := 3) rfl (dp_ex e27 _ _ hl2)))) (fun hb8 H8 e8 => ?_) fun hb8 H8 e8 => ?_
      · have naf : a ∉ fr := by simpa using hb8
        refine s_forAt ⟨_, rfl, p9, ys, rfl, sq_of (e8 _ _ h9), yl, fun rows vs H9 pr ex9 hv => ?_⟩
        have h19 := dp_ex (e8.trans ex9) _ _ h17
        have h29 := dp_ex (e8.trans ex9) _ _ h27
        have rl : rows.length ≤ 1024 := by
          rw [pr.length_eq, setsOf_len _ _ rfl]
          exact Nat.pow_le_pow_right (n := 2) (j := 10) (by decide) yl
        refine s_forE (l := rows) (w_lst (f := eStrs) (p_c isD_mono (isLst_dp (isL_lst hv)))) (fun j σ' H' => ∃ o10 o11 o12, σ' = [some vb, some vw, some vr, some vl, some (.ref pd), some (.ref pf), some (.str a), some v1, some v2, some (.ref p9), o10, o11, o12] ∧ ∀ t ∈ rows.take j, worth ch t = worth (wsAt ws a) t)
          (fun H10 e10 => ⟨_, _, _, rfl, fun t ht => by cases ht⟩) ?_ ?_
        · rintro Hd ed j t σ' H10 x H11 htj e10 ⟨p10, p11, p12, rfl, hsm2⟩ e11 hx
          have e911 := (ed.trans e10).trans e11
          have h111 := dp_ex e911 _ _ h19
          have h211 := dp_ex e911 _ _ h29
          refine Evl.s_if (b := !decide (worth ch t = worth (wsAt ws a) t)) (t_of (K := K) (d_is (d_ne (d_call (ds_cons (d_var (i := 7) rfl h111) (ds_cons (d_var (i := 10) rfl hx) ds_nil)) ⟨ch, t, rfl, by omega, chl, rfl⟩) (d_call (ds_cons (d_var (i := 8) rfl h211) (ds_cons (d_var (i := 10) rfl hx) ds_nil)) ⟨wsAt ws a, t, rfl, by omega, fun p hp => (wcl p hp).1, rfl⟩) (worth_lt chl t) (worth_lt (fun p hp => (wcl p hp).1) t)) (by rw [eqv_opt]))) (fun hb12 H12 e12 => ?_) fun hb12 H12 e12 => ?_
          · refine s_retP (d_bl (K := K) (b := false)) fun v H13 e13 hv => hQ false ⟨(fun z => by cases z), fun z => ?_⟩ v H13 ((((((e1.trans e2).trans e27).trans e8).trans ex9).trans e911).trans (e12.trans e13)) hv
            have := z a ham naf
            rw [ech] at this
            rw [this t, decide_eq_true rfl] at hb12
            cases hb12
          · refine ⟨(e10.trans e11).trans e12, _, _, _, rfl, fun t' ht' => ?_⟩
            have tk2 : rows.take (j + 1) = rows.take j ++ [t] := by rw [List.take_add_one, htj]; rfl
            rw [tk2] at ht'
            rcases List.mem_append.mp ht' with ht' | ht'
            · exact hsm2 t' ht'
            · rw [List.mem_singleton.mp ht']
              simpa using hb12
        · rintro σ' H10 e10 ⟨p10, p11, p12, rfl, hsm2⟩
          rw [List.take_length] at hsm2
          exact ⟨((((((e3.trans e4).trans e5).trans e6).trans e7).trans e8).trans ex9).trans e10, _, _, _, _, _, _, _, rfl, nxt fun _ => same_of pr ysm hsm2⟩
      · exact ⟨((((e3.trans e4).trans e5).trans e6).trans e7).trans e8, _, _, _, _, _, _, _, rfl, nxt fun naf => absurd naf (by simpa using hb8)⟩
  · rintro σ' H3 e3 ⟨o6, o7, o8, o9, o10, o11, o12, rfl, hsm⟩
    rw [List.take_length] at hsm
    show tRet (tC (V.bl true)) { nx := fun _ H' => Q V.non H', rt := Q } [some vb, some vw, some vr, some vl, some (.ref pd), some (.ref pf), o6, o7, o8, o9, o10, o11, o12] H3
    refine s_retP (d_bl (K := K) (b := true)) fun v H4 e4 hv => ?_
    exact hQ true ⟨fun _ => hsm, fun _ => rfl⟩ v H4 (((e1.trans e2).trans e3).trans e4) hv
end
end K26
set_option Elab.async false
set_option linter.all false
set_option maxRecDepth 100000
set_option maxHeartbeats 4000000
/-! KS11: _law_all_rows. -/
namespace K26
open PySem PySem.Spec PyProof.Rows L2 Evl LamX NdefX RZ
def ext1 (ws r : List Str) : List (List Str) := (ws.filter fun o => !decide (o ∈ r)).map fun o => r ++ [o]
def lvl (ws : List Str) : Nat → List (List Str)
  | 0 => [[]]
  | n + 1 => (lvl ws n).flatMap (ext1 ws)
def foundR (ws : List Str) : Nat → List (List Str)
  | 0 => [[]]
  | n + 1 => foundR ws n ++ lvl ws (n + 1)
theorem flat_len {α β : Type} {f : α → List β} {n : Nat} : ∀ {l : List α}, (∀ a ∈ l, (f a).length ≤ n) → (l.flatMap f).length ≤ n * l.length
  | [], _ => by simp
  | a :: l, h => by
    rw [List.flatMap_cons, List.length_append, List.length_cons, Nat.mul_succ]
    have h1 := h a List.mem_cons_self
    have h2 := flat_len (l := l) fun x hx => h x (List.mem_cons_of_mem _ hx)
    omega
theorem ext1_len (ws r : List Str) : (ext1 ws r).length ≤ ws.length := by
  unfold ext1
  rw [List.length_map]
  exact List.length_filter_le _ _
theorem lvl_len (ws : List Str) (h : ws.length ≤ 5) : ∀ n, (lvl ws n).length ≤ 5 ^ n
  | 0 => Nat.le_refl _
  | n + 1 => by
    have := flat_len (l := lvl ws n) (f := ext1 ws) (n := 5) fun r _ => Nat.le_trans (ext1_len ws r) h
    have ih := lvl_len ws h n
    show ((lvl ws n).flatMap (ext1 ws)).length ≤ _
    rw [Nat.pow_succ]
    omega
theorem foundR_len (ws : List Str) (h : ws.length ≤ 5) : ∀ n, (foundR ws n).length ≤ 2 * 5 ^ n
  | 0 => by show (1 : Nat) ≤ 2 * 1; omega
  | n + 1 => by
    have ih := foundR_len ws h n
    have := lvl_len ws h (n + 1)
    show (foundR ws n ++ lvl ws (n + 1)).length ≤ _
    rw [List.length_append]
    rw [Nat.pow_succ] at this ⊢
    omega
theorem lvl_row (ws : List Str) : ∀ n, ∀ r ∈ lvl ws n, r.length = n
  | 0, r, h => by rw [List.mem_singleton.mp h]; rfl
  | n + 1, r, h => by
    obtain ⟨r0, h0, h1⟩ := List.mem_flatMap.mp h
    obtain ⟨o, _, rfl⟩ := List.mem_map.mp h1
    rw [List.length_append, lvl_row ws n r0 h0]
    rfl
theorem pow5 {n : Nat} (h : n ≤ 5) : 5 ^ n ≤ 3125 := Nat.pow_le_pow_right (n := 5) (j := 5) (by decide) h
section
variable {K : PySem.W.Frag} {σ : L2.St} {H H' : Hp}
theorem xb_t {p : Addr} {acc : List V} (hp : H p = some (.lst acc)) (b : Xb p H H') : ExT H H' :=
  ⟨fun a xs h => b a _ (fun z => by rw [z, hp] at h; cases h) h, fun a o u h => b a _ (fun z => by rw [z, hp] at h; cases h) h⟩
theorem w_lstX {p q : Addr} {i : Nat} {α : Type} {l : List α} {f : α → PyData} {acc xs : List V} (hp : H p = some (.lst acc)) (ne : q ≠ p) (hi : σ[i]? = some (some (.ref q))) (hq : H q = some (.lst xs)) (hx : DpAll K H xs (l.map f)) (nl : ∀ a ∈ l, noL (f a) = true) :
    WalkX p (iList K (tVar i)) σ H l (fun a => isD K (f a)) := fun Z z => by
  have hl : xs.length = l.length := by rw [hx.len, List.length_map]
  refine ⟨_, hi, q, rfl, ⟨_, sq_of hq⟩, z (Itl K q) H _ _ (Ex.refl H) (by rw [← hl]; exact walk_list) (fun H3 e3 => sq_of (e3 _ _ ne hq)) fun j H3 x H4 b hb hy e3 => ?_⟩
  obtain ⟨rfl, hj⟩ := hy
  obtain ⟨d, hd, hv⟩ := hx.at_ hj
  rw [List.getElem?_map, hb] at hd
  cases hd
  exact ⟨Ex.refl _, dp_t (xb_t hp e3) _ _ (nl b (List.mem_of_getElem? hb)) hv⟩
end
theorem go_par {σ : L2.St} {H : Hp} {D : Ends} {tz : TS} {i j : Nat} {ta : TA} (h : ta σ H fun vs H1 => ∃ v w, vs = [v, w] ∧ tz D ((σ.set i (some v)).set j (some w)) H1) : tSeq (tPar i j ta) tz D σ H := h
theorem go_par1 {σ : L2.St} {H : Hp} {D : Ends} {i j : Nat} {ta : TA} (h : ta σ H fun vs H1 => ∃ v w, vs = [v, w] ∧ D.nx ((σ.set i (some v)).set j (some w)) H1) : tPar i j ta D σ H := h
abbrev bWords (b : Bk) : List Str := b.codes.map (·.1)
abbrev pRows : List PyData → List PyData → Prop := fun ds es => ∃ b, ds = [eBook b] ∧ b.codes.length ≤ 5 ∧ es = (foundR (bWords b) b.codes.length).map eStrs
section
variable {P : Program} {w : World} {K : PySem.W.Frag} {mg : Str → Option Value} {base : Heap}
theorem ok__law_all_rows (T : TX K mg) : FnOk P w K mg base CX0 1 T._law_all_rows.f T._law_all_rows.fd ["book"] (SpN K pRows) := by
  refine T._law_all_rows.F.ok sc__law_all_rows (fun vs H Q E h => spN_len (by rintro ds es ⟨b, rfl, _⟩; rfl) h) (fun cdv A outer s H vs Q E hr h => ?_)
  refine ⟨_, PSs.nox (pss_cons (ps_setLc (i := 1) (own := [("code", 7)]) rfl sc__law_all_rows.nd rfl rfl (sw_true rfl rfl rfl (by decide +kernel)) (piT K (pe_ix (ixT K) (pv 0) pe_int (fun _ _ => rfl))) (blkOk_by (N := ["book", "words", "found", "last", "word", "longer", "row", "code", "one"]) (sc := defScope s__law_all_rows) (by decide +kernel)) (fun _ _ _ _ _ => (pg_name (i := 7) sc__law_all_rows.nd rfl (Or.inl rfl))) (fun _ _ _ _ _ => pts_nil) (fun _ _ _ _ _ => (pe_ix (ixT K) (pv 7) pe_int (fun _ _ => rfl)))) (pss_cons (ps_par (i := 2) (j := 3) rfl sc__law_all_rows.nd rfl rfl (by decide) rfl rfl (pa_cons (pe_lst (pa_cons (pe_tup pa_nil) pa_nil)) (pa_cons (pe_lst (pa_cons (pe_tup pa_nil) pa_nil)) pa_nil)) (by rfl)) (pss_cons (ps_for PassesOwn.never rfl (piL K (pv 1)) (pg_name (i := 4) sc__law_all_rows.nd rfl (Or.inl rfl)) (pss_cons (ps_set (i := 5) sc__law_all_rows.nd rfl (Or.inl rfl) (pe_lst pa_nil)) (pss_cons (ps_for PassesOwn.never rfl (piL K (pv 3)) (pg_name (i := 6) sc__law_all_rows.nd rfl (Or.inr rfl)) (pss_one (ps_expr (pe_bm PySem.F.plainAttrs_list PySem.F.slot_list_extend PySem.F.type_list_extend mt_extend (pv 5) (pa_cons (pe_lc (own := [("one", 8)]) rfl sc__law_all_rows.nd (piL K (pv 1)) (blkOk_by (N := ["book", "words", "found", "last", "word", "longer", "row", "code", "one"]) (sc := defScope s__law_all_rows) (by decide +kernel)) (fun _ _ _ _ _ => (pg_name (i := 8) sc__law_all_rows.nd rfl (Or.inl rfl))) (fun _ _ _ _ _ => (pts_one (pt_cmpR (opNi K) (pv 8) (pv 6) rfl))) (fun _ _ _ _ _ => (pe_op (catT K) (pv 6) (pe_tup (pa_cons (pv 8) pa_nil))))) pa_nil))))) (pss_one (ps_par (i := 3) (j := 2) rfl sc__law_all_rows.nd rfl rfl (by decide) rfl rfl (pa_cons (pv 5) (pa_cons (pe_op op_cat (pv 2) (pv 5)) pa_nil)) (by rfl)))))) (pss_one (ps_ret (pv 2)))))), ?_⟩
  obtain ⟨ds, es, hd, ⟨b, rfl, h5, rfl⟩, hQ⟩ := h
  obtain ⟨vb, rfl, hb⟩ := dp1 hd
  have wl : (bWords b).length = b.codes.length := List.length_map _
  refine s_setP (n_lcA (K := K) (w_tup (l := b.codes) (f := eCode) (d_ixT (d_var (i := 0) rfl hb) d_int (atI_of (j := 2) rfl))) (by omega) (fun c => .str c.1) (fun _ _ => rfl) fun c hc y H3 e3 hy => ⟨_, g_name, rfl, d_ixT (d_var (i := 7) rfl hy) d_int (atI_of (j := 0) rfl)⟩) fun vw H1 e1 hw => ?_
  rw [show (b.codes.map fun c => PyData.str c.1) = (bWords b).map PyData.str by rw [List.map_map]; rfl] at hw
  have sing : ∀ {σ : L2.St} {H : Hp}, EvN K (tLst (tCons (tTup tNil) tNil)) σ H ((lvl (bWords b) 0).map eStrs) := n_lst (ds_cons (d_tup ds_nil (by decide)) ds_nil) (by show (1 : Nat) ≤ 100000; decide)
  refine go_par (go_cons ?_)
  refine sing H1 (Ex.refl _) _ fun vf H2 e2 hf => ?_
  refine go_cons ?_
  refine sing H2 (Ex.refl _) _ fun vl H3 e3 hl => ⟨vf, vl, rfl, ?_⟩
  have hw3 := isLst_mono _ _ _ (e2.trans e3) (isL_lst hw)
  have ff : isL K H ((foundR (bWords b) 0).map eStrs) vf H3 := by
    obtain ⟨p, zs, h1, h2, h3, h4⟩ := hf
    exact ⟨p, zs, h1, fresh_back e1 h2, e3 _ _ h3, dpAll_ex e3 _ _ h4⟩
  refine s_forE (l := bWords b) (w_lst (f := PyData.str) (d_var (i := 1) rfl (isLst_dp hw3))) (fun i σ' H' => ∃ vf vl o4 o5 o6 o7 o8, σ' = [some vb, some vw, some vf, some vl, o4, o5, o6, o7, o8] ∧ isL K H ((foundR (bWords b) i).map eStrs) vf H' ∧ isLst K ((lvl (bWords b) i).map eStrs) vl H')
    (fun H4 e4 => ⟨vf, vl, none, none, none, none, none, rfl, isL_mono _ _ _ e4 ff, isLst_mono _ _ _ e4 (isL_lst hl)⟩) ?_ ?_
  · rintro Hb eb i word σ' H4 x H5 hwi e4 ⟨vf, vl, o4, o5, o6, o7, o8, rfl, hf4, hl4⟩ e5 hx
    have hi := (List.getElem?_eq_some_iff.mp hwi).1
    obtain rfl := dp_str hx
    refine s_setP (n_lst (K := K) ds_nil (by decide)) fun v5 H6 e6 h6 => ?_
    obtain ⟨pl, xs0, rfl, hpn, hpl, hx0⟩ := h6
    cases hx0
    have e46 := e5.trans e6
    obtain ⟨q, xl, rfl, hq4, hxl4⟩ := hl4
    have hq := e46 _ _ hq4
    have hxl := dpAll_ex e46 _ _ hxl4
    have hf6 := isL_mono _ _ _ e46 hf4
    have hw6 := isLst_mono _ _ _ ((eb.trans e4).trans e46) hw3
    have nq : q ≠ pl := fun z => by
      have := e5 _ _ hq4
      rw [z, hpn] at this
      cases this
    have nlR : ∀ rs : List (List Str), noLs (rs.map eStrs) = true := fun rs => noLs_map fun r _ => by simpa [noL] using noL_strs r
    have fr6 : H4 pl = none := fresh_back e5 hpn
    have ll := lvl_len (bWords b) (by omega) i
    have p5 := pow5 (n := i) (by omega)
    refine s_forX (p := pl) (l := lvl (bWords b) i) (w_lstX (f := eStrs) hpl nq (i := 3) rfl hq hxl fun r _ => by simpa [noL] using noL_strs r) (fun j σ' H' => ∃ o6 o7 o8 acc, σ' = [some vb, some vw, some vf, some (.ref q), some (.str word), some (.ref pl), o6, o7, o8] ∧ H' pl = some (.lst acc) ∧ DpAll K H' acc ((((lvl (bWords b) i).take j).flatMap (ext1 (bWords b))).map eStrs))
      (fun H7 e7 => ⟨_, _, _, [], rfl, e7 _ _ hpl, .nil⟩) ?_ ?_
    · rintro Hd ed j r σ' H7 x H8 hrj xd ⟨p6, p7, p8, acc, rfl, hacc, hdp⟩ e8 hx
      have hrm := List.mem_of_getElem? hrj
      have rl := lvl_row _ _ r hrm
      have hj := (List.getElem?_eq_some_iff.mp hrj).1
      have hacc8 := e8 _ _ hacc
      have hdp8 := dpAll_ex e8 _ _ hdp
      have hw8 : isLst K ((bWords b).map PyData.str) vw H8 := by
        obtain ⟨a, ys, h1, h2, h3⟩ := isLst_mono _ _ _ ed hw6
        have na : a ≠ pl := fun z => by
          obtain ⟨a', ys', h1', h2', h3'⟩ := isLst_mono _ _ _ ((eb.trans e4).trans e5) hw3
          rw [h1] at h1'
          cases h1'
          rw [z, hpn] at h2'
          cases h2'
        exact ⟨a, ys, h1, e8 _ _ (xd _ _ na h2), dpAll_ex e8 _ _ (dpAll_t (xb_t (ed _ _ hpl) xd) _ _ (noL_strs _) h3)⟩
      refine ⟨_, rfl, .inl ⟨rfl, _, sq_of hacc8⟩, ?_⟩
      refine go_cons ?_
      refine (n_lc (K := K) (w_lst (l := bWords b) (f := PyData.str) (d_var (i := 1) rfl (isLst_dp hw8))) (by omega) (fun o => !decide (o ∈ r)) (fun o => eStrs (r ++ [o])) (fun o _ => by simpa [noL] using noL_strs (r ++ [o])) fun o ho y H9 e9 hy => ⟨_, g_name, rfl, t_of (K := K) (d_ni1 (d_var (i := 8) rfl hy) (d_var (i := 6) rfl (dp_ex e9 _ _ hx))), fun _ => ?_⟩) _ (Ex.refl _) _ fun vz H9 e9 hz => ?_
      · exact d_is (d_catA (d_var (i := 6) rfl (dp_ex e9 _ _ hx)) (d_tup (ds_cons (d_var (i := 8) rfl hy) ds_nil) (by show (1 : Nat) ≤ 100000; decide)) (by rw [List.length_map]; show _ + 1 ≤ _; omega)) (by
          show PyData.tuple _ = PyData.tuple _
          rw [List.map_append]
          rfl)
      · obtain ⟨bz, zs, rfl, hzn, hbz, hzs⟩ := hz
        have hacc9 := e9 _ _ hacc8
        have nbz : bz ≠ pl := fun z => by rw [z, hacc8] at hzn; cases hzn
        have al : acc.length ≤ 3125 * 5 := by
          rw [hdp.len, List.length_map]
          have := flat_len (l := (lvl (bWords b) i).take j) (f := ext1 (bWords b)) (n := 5) fun r _ => Nat.le_trans (ext1_len _ r) (by omega)
          rw [List.length_take] at this
          omega
        have zl : zs.length ≤ 5 := by
          rw [hzs.len, List.length_map]
          exact Nat.le_trans (List.length_filter_le _ _) (by omega)
        refine ⟨pl, bz, acc, zs, rfl, rfl, hacc9, hbz, sz_of (by omega), ?_⟩
        have px : ExT H9 (upd H9 pl (.lst (acc ++ zs))) := xb_t hacc9 Xb.put
        have tk : (lvl (bWords b) i).take (j + 1) = (lvl (bWords b) i).take j ++ [r] := by rw [List.take_add_one, hrj]; rfl
        refine ⟨((xd.trans (Xb.of e8)).trans (Xb.of e9)).trans Xb.put, _, _, _, acc ++ zs, rfl, upd_same, ?_⟩
        rw [tk, List.flatMap_append, List.map_append]
        refine DpAll.app (dpAll_t px _ _ (nlR _) (dpAll_ex e9 _ _ hdp8)) ?_
        have e0 : ([r].flatMap (ext1 (bWords b))).map eStrs = (((bWords b).filter fun o => !decide (o ∈ r)).map fun o => eStrs (r ++ [o])) := by
          rw [List.flatMap_cons, List.flatMap_nil, List.append_nil]
          unfold ext1
          rw [List.map_map]
          rfl
        rw [e0]
        rw [← e0]
        rw [← e0] at hzs
        exact dpAll_t px _ _ (nlR _) hzs
    · rintro σ' H7 xd ⟨p6, p7, p8, acc, rfl, hacc, hdp⟩
      rw [List.take_length] at hdp
      have t7 := xb_t hpl xd
      have hlong : isLst K ((lvl (bWords b) (i + 1)).map eStrs) (.ref pl) H7 := ⟨pl, acc, rfl, hacc, hdp⟩
      have hf7 : isL K H ((foundR (bWords b) i).map eStrs) vf H7 := by
        obtain ⟨a, ys, h1, h2, h3, h4⟩ := hf6
        have na : a ≠ pl := fun z => by
          obtain ⟨a', ys', h1', h2', h3', h4'⟩ := isL_mono _ _ _ e5 hf4
          rw [h1] at h1'
          cases h1'
          rw [z, hpn] at h3'
          cases h3'
        exact ⟨a, ys, h1, h2, xd _ _ na h3, dpAll_t t7 _ _ (nlR _) h4⟩
      have fl := foundR_len (bWords b) (by omega) i
      have ll1 := lvl_len (bWords b) (by omega) (i + 1)
      have p51 := pow5 (n := i + 1) (by omega)
      show tPar 3 2 (tCons (tVar 5) (tCons (tOp rCat (tVar 2) (tVar 5)) tNil)) _ _ _
      refine go_par1 (go_cons ?_)
      refine ⟨_, rfl, ?_⟩
      refine go_cons ?_
      refine (n_catLst (K := K) (p_var (i := 2) rfl isLst_mono (isL_lst hf7)) (p_var (i := 5) rfl isLst_mono hlong) (by rw [List.length_map, List.length_map]; omega)) H7 (Ex.refl _) _ fun vf' H8 e8 hf8 => ⟨_, _, rfl, ?_⟩
      have e48 : Ex H4 H8 := (Xb.ex e46 fr6 xd).trans e8
      refine ⟨e4.trans e48, vf', .ref pl, _, _, _, _, _, rfl, ?_, isLst_mono _ _ _ e8 hlong⟩
      rw [← List.map_append] at hf8
      obtain ⟨a, ys, h1, h2, h3, h4⟩ := hf8
      exact ⟨a, ys, h1, fresh_back ((((e1.trans e2).trans e3).trans (eb.trans e4)).trans (Xb.ex e46 fr6 xd)) h2, h3, h4⟩
  · rintro σ' H4 e4 ⟨vf, vl, o4, o5, o6, o7, o8, rfl, hf4, hl4⟩
    rw [wl] at hf4
    exact ⟨_, rfl, hQ _ H4 (((e1.trans e2).trans e3).trans e4) hf4⟩
end
end K26
set_option Elab.async false
set_option linter.all false
set_option maxRecDepth 100000
set_option maxHeartbeats 4000000
/-! KS12: _law_wishes. -/
namespace K26
open PySem PySem.Spec PyProof.Rows L2 Evl LamX NdefX RZ
structure LCh (c : Chain) : Prop where
  nd : (c.map (·.1)).Nodup
  each : ∀ p ∈ c, p.1 ∈ kinds4 ∧ p.2 ∈ vals
structure LawWs (b : Bk) (ws : List Wish) : Prop where
  sub : (ws.map (·.1)).Sublist b.asps
  ne : ∀ q ∈ ws, q.2 ≠ []
  ch : ∀ q ∈ ws, LCh q.2
structure LawFr (b : Bk) (ws : List Wish) (fr : List Str) : Prop where
  sub : fr.Sublist b.asps
  off : ∀ a ∈ fr, a ∉ ws.map (·.1)
theorem asps_up : ∀ a ∈ asps4, a.Pairwise (fun x y => sCp x < sCp y) := by decide +kernel
theorem lt_kinds : ∀ x ∈ kinds4, PyData.strOk x = true := by decide +kernel
theorem words8_nd : words8.Nodup := by decide +kernel
theorem asps4_nd : ∀ a ∈ asps4, a.Nodup := by decide +kernel
theorem LawBk.fr {b : Bk} (h : LawBk b) : FrOk b := by
  obtain ⟨f1, f5⟩ := h.few
  have al := asp_len h.asps
  have g3 : ∀ c ∈ b.codes, c.2.2.length ≤ 3 := fun c hc => by
    have := (h.each c hc).asp.length_le
    rw [List.length_map] at this
    omega
  refine ⟨asps4_nd _ h.asps, by omega, ?_, by omega, fun c hc => Nat.le_trans (g3 c hc) (by decide), fun c hc p hp => (h.each c hc).asp.subset (List.mem_map.mpr ⟨p, hp, rfl⟩)⟩
  rw [h.words]
  exact words8_nd.sublist (List.take_sublist _ _)
theorem LawBk.ch {b : Bk} (h : LawBk b) {f : Chs} (fo : ChsOk b f) {q : Str × Chain} (hq : q ∈ f) : LCh q.2 := ⟨fo.nd q hq, fun p hp => by
  obtain ⟨c, hc, e1, g, hg, e2⟩ := fo.from_ q hq p hp
  rw [← e1, ← e2]
  exact ⟨(h.each c hc).kind, (h.each c hc).val g hg⟩⟩
theorem LCh.nil : LCh [] := ⟨.nil, fun p hp => by cases hp⟩
theorem LCh.rev {c : Chain} (h : LCh c) : LCh c.reverse := ⟨by rw [List.map_reverse]; exact (List.reverse_perm _).symm.nodup h.nd, fun p hp => h.each p (List.mem_reverse.mp hp)⟩
theorem LCh.head {p : Str × Str} {c : Chain} {y : Str} (h : LCh (p :: c)) (hy : y ∈ vals) : LCh ((p.1, y) :: c) := ⟨h.nd, fun q hq => by
  rcases List.mem_cons.mp hq with rfl | hq
  · exact ⟨(h.each p List.mem_cons_self).1, hy⟩
  · exact h.each q (List.mem_cons_of_mem _ hq)⟩
theorem kinds4_len {c : Chain} (h : LCh c) : c.length ≤ 4 := by
  have := nd_le h.nd (ks := kinds4) fun x hx => by
    obtain ⟨p, hp, rfl⟩ := List.mem_map.mp hx
    exact (h.each p hp).1
  rw [List.length_map] at this
  exact this
section
variable {K : PySem.W.Frag} {σ : L2.St} {H H' H1 : Hp} {d lc ll p : Addr} {n : Nat}
theorem GK.s {l : List (Str × Chain)} (S : St d lc ll n H) (x : ExS d ll H H') (h1 : p ≠ d) (h2 : p ≠ ll) (h : GK (rC K) H p l) : GK (rC K) H' p l := by
  obtain ⟨kvs, k1, k2⟩ := h
  exact ⟨kvs, x _ _ h1 h2 k1, k2.imp fun c v hc => hc.t (ExS.t S x)⟩
theorem ExS.xb (x : ExS d ll H H') (hp : H p = none) (b : Xb p H' H1) : ExS d ll H H1 := fun a o h1 h2 h => b a o (fun z => by rw [z, hp] at h; cases h) (x a o h1 h2 h)
theorem St.xb (S : St d lc ll n H) (h1 : p ≠ d) (h2 : p ≠ lc) (h3 : p ≠ ll) (b : Xb p H H') : St d lc ll n H' := by
  obtain ⟨⟨a, a1, a2⟩, ⟨cs, ls, b1, b2, b3⟩, c⟩ := S
  exact ⟨⟨a, a1, b _ _ (Ne.symm h1) a2⟩, ⟨cs, ls, b _ _ (Ne.symm h2) b1, b _ _ (Ne.symm h3) b2, b3⟩, c⟩
/-- t[::-1] -/
theorem c_rev {te : TE} {c : Chain} (h : EvP te σ H (rC K c)) : EvP (tRevF K te) σ H (rC K c.reverse) := fun H1 e Q q =>
  h H1 e _ fun v H2 e2 w => by
    obtain ⟨a, xs, rfl, hs, hx⟩ := dp_tup w.1
    refine ⟨a, xs, rfl, hs, fun p H3 hp ⟨o, o1, o2, o3⟩ => ?_⟩
    subst o3
    have e3 : Ex H2 (upd H2 p (.frz o (.tup xs.reverse))) := Ex.new hp
    refine q _ _ (e2.trans e3) ⟨.tup (.inl (.inr ⟨o, upd_same⟩)) ?_, fun _ => ⟨p, _, rfl, o, upd_same, o1, o2⟩⟩
    rw [List.map_reverse]
    exact dpAll_ex e3 _ _ hx.rev
theorem lc_rngAt {te : TE} {g : TG} {tt : TT} {tb : TE} {vs : List Nat} {Q : VK} (h : te σ H fun x H1 => tLc (iRng1 (tCons (tC x) tNil)) g tt tb vs σ H1 Q) : tLc (iRng1 (tCons te tNil)) g tt tb vs σ H Q := h
theorem ExS.back (x : ExS d ll H H') (h1 : p ≠ d) (h2 : p ≠ ll) (h : H' p = none) : H p = none := by
  cases q : H p with
  | none => rfl
  | some o =>
    have := x p o h1 h2 q
    rw [h] at this
    cases this
theorem rC_mono {c : Chain} : Mono (rC K c) := fun _ _ _ e h => h.t (exT_of e)
theorem go_call {sp : Sp} {dvs : List V} {E : XK} {t : TA} {Q : VK} (h : t σ H fun vs H1 => sp (vs ++ dvs) H1 Q E) : tCall sp dvs E t σ H Q := h
theorem go_tupF {t : TA} {Q : VK} (h : t σ H fun xs H1 => xs.length ≤ sizeLine ∧ ∀ p H2, H1 p = none → (∃ o : Obj, o.dict = none ∧ o.cls = .type "tuple" ∧ H2 = upd H1 p (.frz o (.tup xs))) → Q (.ref p) H2) : tTupF t σ H Q := h
theorem go_ret {te : TE} {D : Ends} (h : te σ H D.rt) : tRet te D σ H := h
/-- an if, and what follows it -/
theorem s_ifJ {tt : TT} {tu tw tz : TS} {D : Ends} (J : L2.St → Hp → Prop) (h : ∀ N : L2.St → Hp → Prop, (∀ σ' H', J σ' H' → N σ' H') → tIfS tt tu tw { D with nx := N } σ H) (k : ∀ σ' H', J σ' H' → tz D σ' H') : tSeq (tIfS tt tu tw) tz D σ H := h (tz D) k
theorem rc_nil {v : V} (h : Dp K H v (eCh [])) : rC K [] v H := ⟨h, fun z => absurd rfl z⟩
end
def spLWish (K : PySem.W.Frag) : Sp := fun vs H Q _ => ∃ d lc ll n b vb, vs = [.ref d, vb] ∧ Dp K H vb (eBook b) ∧ LawBk b ∧ St d lc ll n H ∧ n ≤ 50000 ∧
  ∀ t vw vl ws fr H', SqT K H' t [vw, vl] → rWs K ws vw H' → Dp K H' vl (eStrs fr) → LawWs b ws → LawFr b ws fr → ExS d ll H H' → St d lc ll (n + 50) H' → Q (.ref t) H'
section
variable {P : Program} {w : World} {K : PySem.W.Frag} {mg : Str → Option Value} {base : Heap}
theorem ok__law_wishes (T : TX K mg) : FnOk P w K mg base CX0 4 T._law_wishes.f T._law_wishes.fd ["state", "book"] (spLWish K) := by
  refine T._law_wishes.F.ok sc__law_wishes (fun vs H Q E h => by obtain ⟨d, lc, ll, n, b, vb, rfl, _⟩ := h; rfl) (fun cdv A outer s H vs Q E hr h => ?_)
  refine ⟨_, PSs.nox (pss_cons (ps_set (i := 2) sc__law_wishes.nd rfl (Or.inr rfl) (pe_lc (own := [("code", 9)]) rfl sc__law_wishes.nd (piT K (pe_ix (ixT K) (pv 1) pe_int (fun _ _ => rfl))) (blkOk_by (N := ["state", "book", "words", "found", "wanted", "aspect", "chain", "way", "left", "code", "k"]) (sc := defScope s__law_wishes) (by decide +kernel)) (fun _ _ _ _ _ => (pg_name (i := 9) sc__law_wishes.nd rfl (Or.inl rfl))) (fun _ _ _ _ _ => pts_nil) (fun _ _ _ _ _ => (pe_ix (ixT K) (pv 9) pe_int (fun _ _ => rfl))))) (pss_cons (ps_set (i := 3) sc__law_wishes.nd rfl (Or.inl rfl) (pe_call (ok__law_front T) (hr.mono (by decide)) rfl T._law_front.g T._law_front.F.kp (bd__law_front T._law_front.F) .nil pass0 (pa_cons (pv 1) (pa_cons (pe_lc (own := [("k", 10)]) rfl sc__law_wishes.nd (pi_range1 rfl T.b_range (pa_cons (pe_op op_add pe_int (pe_call (ok__law_draw T) (hr.mono (by decide)) rfl T._law_draw.g T._law_draw.F.kp (bd__law_draw T._law_draw.F) .nil pass0 (pa_cons (pv 0) (pa_cons pe_int pa_nil)))) pa_nil)) (blkOk_by (N := ["state", "book", "words", "found", "wanted", "aspect", "chain", "way", "left", "code", "k"]) (sc := defScope s__law_wishes) (by decide +kernel)) (fun _ _ _ _ _ => (pg_name (i := 10) sc__law_wishes.nd rfl (Or.inl rfl))) (fun _ _ _ _ _ => pts_nil) (fun _ _ _ _ _ => (pe_call (ok__law_of T) (hr.mono (by decide)) rfl T._law_of.g T._law_of.F.kp (bd__law_of T._law_of.F) .nil pass0 (pa_cons (pv 0) (pa_cons (pv 2) pa_nil))))) pa_nil)))) (pss_cons (ps_set (i := 4) sc__law_wishes.nd rfl (Or.inr rfl) pe_dnewK) (pss_cons (ps_for PassesOwn.never rfl (piT K (pe_ix (ixT K) (pv 1) pe_int (fun _ _ => rfl))) (pg_name (i := 5) sc__law_wishes.nd rfl (Or.inl rfl)) (pss_cons (ps_par (i := 6) (j := 7) rfl sc__law_wishes.nd rfl rfl (by decide) rfl rfl (pa_cons (pe_dget (hu_of hr) (pv 3) (pv 5) (fun _ _ => rfl)) (pa_cons (pe_call (ok__law_draw T) (hr.mono (by decide)) rfl T._law_draw.g T._law_draw.F.kp (bd__law_draw T._law_draw.F) .nil pass0 (pa_cons (pv 0) (pa_cons pe_int pa_nil))) pa_nil)) (by rfl)) (pss_cons (ps_if (pt_cmpR op_eq (pv 7) pe_int (nomark _)) (pss_one (ps_set (i := 6) sc__law_wishes.nd rfl (Or.inl rfl) (pe_tup pa_nil))) pss_nil) (pss_cons (ps_if (pt_cmpR op_eq (pv 7) pe_int (nomark _)) (pss_one (ps_set (i := 6) sc__law_wishes.nd rfl (Or.inl rfl) (pe_revF K (pv 6)))) pss_nil) (pss_cons (ps_if (PW.pt (pw_and (pt_cmpR op_eq (pv 7) pe_int (nomark _)) (pw_and1 (pt_cmpR (opNe K hr.units) (pv 6) (pe_tup pa_nil) (nomark _))))) (pss_one (ps_set (i := 6) sc__law_wishes.nd rfl (Or.inl rfl) (pe_op (opCatF K) (pe_tupF (pa_cons (pe_tup (pa_cons (pe_ix (ixT K) (pe_ix (ixT K) (pv 6) pe_int (fun _ _ => rfl)) pe_int (fun _ _ => rfl)) (pa_cons (pe_call (ok__law_value T) (hr.mono (by decide)) rfl T._law_value.g T._law_value.F.kp (bd__law_value T._law_value.F) .nil pass0 (pa_cons (pv 0) pa_nil)) pa_nil))) pa_nil)) (pe_slice (slT K) (pv 6) (po_some pe_int) po_none)))) pss_nil) (pss_one (ps_if (pt_cmpR (opNe K hr.units) (pv 6) (pe_tup pa_nil) (nomark _)) (pss_one (ps_dput (hu_of hr) (pv 4) (pv 5) (pv 6) rfl)) pss_nil))))))) (pss_cons (ps_set (i := 8) sc__law_wishes.nd rfl (Or.inl rfl) (qTup K T.b_tuple (pe_lc (own := [("aspect", 5)]) rfl sc__law_wishes.nd (piT K (pe_ix (ixT K) (pv 1) pe_int (fun _ _ => rfl))) (blkOk_by (N := ["state", "book", "words", "found", "wanted", "aspect", "chain", "way", "left", "code", "k"]) (sc := defScope s__law_wishes) (by decide +kernel)) (fun _ _ _ _ _ => (pg_name (i := 5) sc__law_wishes.nd rfl (Or.inl rfl))) (fun _ _ _ _ _ => (pts_one (PW.pt (pw_and (pt_cmp (pc_dnotin (hu_of hr) (pv 5) (pv 4))) (pw_and1 (pt_cmpR op_eq (pe_call (ok__law_draw T) (hr.mono (by decide)) rfl T._law_draw.g T._law_draw.F.kp (bd__law_draw T._law_draw.F) .nil pass0 (pa_cons (pv 0) (pa_cons pe_int pa_nil))) pe_int (nomark _))))))) (fun _ _ _ _ _ => (pv 5))))) (pss_one (ps_ret (pe_tup (pa_cons (pe_callTy call_tupF (by rfl) T.b_tuple (by decide +kernel) (pa_cons (pe_callB (cr_sortItems rfl hr.units) (by rfl) T.b_sorted (by decide +kernel) (pa_cons (pe_bm0 PySem.F.plainAttrs_dict PySem.F.slot_dict_items PySem.F.type_dict_items mt_itemsK (pv 4)) pa_nil)) pa_nil)) (pa_cons (pv 8) pa_nil)))))))))), ?_⟩
  obtain ⟨d, lc, ll, n, b, vb, rfl, hb, o, S, hn, hQ⟩ := h
  have fo := o.fr
  obtain ⟨f1, f5⟩ := o.few
  have al := asp_len o.asps
  have bwl : (bWords b).length = b.codes.length := List.length_map _
  refine s_setP (n_lcA (K := K) (w_tup (l := b.codes) (f := eCode) (d_ixT (d_var (i := 1) rfl hb) d_int (atI_of (j := 2) rfl))) (by omega) (fun c => .str c.1) (fun _ _ => rfl) fun c hc y H3 e3 hy => ⟨_, g_name, rfl, d_ixT (d_var (i := 9) rfl hy) d_int (atI_of (j := 0) rfl)⟩) fun v2 H1 e1 hw => ?_
  rw [show (b.codes.map fun c => PyData.str c.1) = (bWords b).map PyData.str by rw [List.map_map]; rfl] at hw
  obtain ⟨pw0, xs, rfl, hpn, hpw, hxs⟩ := hw
  obtain rfl := hxs.strs
  obtain ⟨x0, xs0, hbw⟩ : ∃ x0 xs0, bWords b = x0 :: xs0 := by
    cases q : bWords b with
    | nil => rw [q] at bwl; simp at bwl; omega
    | cons x0 xs0 => exact ⟨x0, xs0, rfl⟩
  have S1 := S.ex e1
  have hpw1 : H1 pw0 = some (.lst ((x0 :: xs0).map V.str)) := by rw [← hbw]; exact hpw
  obtain ⟨nw1, nw2⟩ := S1.nl hpw1
  have xl : xs0.length < 100 := by
    have := congrArg List.length hbw
    rw [List.length_cons] at this
    omega
  refine go_asg (go_call (go_cons ⟨vb, rfl, go_cons (lc_rngAt (go_op (go_c ?_)))⟩))
  refine e_draw (m := 4) rfl S1 (by omega) (by decide) (by decide) fun r H2 hr4 x2 S2 => ⟨_, _, rfl, rfl, ?_⟩
  dsimp only
  rw [show (1 : Int) + ((r : Nat) : Int) = ((r + 1 : Nat) : Int) by omega]
  refine n_lcS (K := K) (l := List.range (r + 1)) (T := fun _ y => y ∈ bWords b) (f := PyData.str) 1 (w_rngT (K := K) (ds_cons d_int ds_nil) (by omega)) S2 (by rw [List.length_range]; omega) (fun _ => rfl) (fun i a x H3 hi xs3 S3 hx => ⟨_, g_name, rfl, fun Z zf zt => zt H3 (exS_of (Ex.refl H3)) fun Y hY => ?_⟩) fun p3 ys3 r' H4 x4 S4 hn4 hp4 pk hd4 => ?_
  · have hi4 := (List.getElem?_eq_some_iff.mp hi).1
    rw [List.length_range] at hi4
    have hpw3 := xs3 _ _ nw1 nw2 (x2 _ _ nw1 nw2 hpw1)
    exact ⟨_, rfl, _, rfl, d, lc, ll, _, pw0, x0, xs0, rfl, S3, by omega, hpw3, xl, fun y H' hy x' s' => hY _ H' y x' (s'.le (by omega)) (by rw [hbw]; exact hy) (.str y)⟩
  · rw [List.length_range] at S4
    have S4 := S4.le (m := n + 5) (by omega)
    have x04 : ExS d ll H H4 := ((exS_of e1).trans x2).trans x4
    have hb4 := dp_t (ExS.t S x04) _ _ (noL_book b) hb
    obtain rfl := hd4.strs
    have hin : ∀ x ∈ r', x ∈ b.codes.map (·.1) := fun x hx => by
      obtain ⟨_, _, h⟩ := pk.mem x hx
      exact h
    refine ⟨b, vb, .ref p3, r', rfl, hb4, fo, ⟨p3, rfl, .inl (sq_of hp4)⟩, hin, fun vf H5 e5 hf => ?_⟩
    obtain ⟨pf, rfl, hpfn, gf⟩ := hf
    have S5 := S4.ex e5
    obtain ⟨nf1, nf2⟩ := S4.nd hpfn
    refine s_setP (p_new (R := rC K)) fun vw H6 e6 hw6 => ?_
    obtain ⟨pw, rfl, hpwn, gw⟩ := hw6
    obtain ⟨nv1, nv2⟩ := S5.nd hpwn
    have nv3 := S5.nd3 hpwn
    have nfw : pf ≠ pw := fun z => by
      obtain ⟨kf, h1, _⟩ := gf
      rw [z, hpwn] at h1
      cases h1
    have S6 := S5.ex e6
    have x06 : ExS d ll H H6 := (x04.trans (exS_of e5)).trans (exS_of e6)
    have hpwH : H pw = none := ExS.back ((x04.trans (exS_of e5))) nv1 nv2 hpwn
    have hb6 := dp_t (ExS.t S x06) _ _ (noL_book b) hb
    have gf6 := gf.ex e6
    have fok := front_ok fo r'
    refine s_forT (l := b.asps) (w_tupT (f := PyData.str) (d_ixT (d_var (i := 1) rfl hb6) d_int (atI_of (j := 0) rfl)) fun _ _ => rfl) (fun i σ' H' => ∃ o5 o6 o7 o8 o9 o10, σ' = [some (.ref d), some vb, some (.ref pw0), some (.ref pf), some (.ref pw), o5, o6, o7, o8, o9, o10] ∧ ExS d ll H H' ∧ St d lc ll (n + 5 + 2 * i) H' ∧ GK (rC K) H' pf (frontOf b r') ∧
        ∃ acc : List Wish, GK (rC K) H' pw acc ∧ (acc.map (·.1)).Sublist (b.asps.take i) ∧ ∀ q ∈ acc, q.2 ≠ [] ∧ LCh q.2)
      (fun H7 e7 => ⟨_, _, _, _, _, _, rfl, x06.trans (exS_of e7), S6.ex e7, gf6.ex e7, [], gw.ex e7, List.nil_sublist _, fun q hq => by cases hq⟩) ?_ ?_
    · rintro Hb eb i a σ' H7 x H8 hai t7 ⟨o5, o6, o7, o8, o9, o10, rfl, x7, S7, gf7, acc, gw7, sb, ac⟩ e8 hx
      obtain rfl := dp_str hx
      have ham := List.mem_of_getElem? hai
      have hi3 := (List.getElem?_eq_some_iff.mp hai).1
      obtain ⟨ch, hch, hchm⟩ := fok.at_ ham
      have lch : LCh ch := o.ch fok hchm
      refine go_par (go_cons ?_)
      refine (p_dget (K := K) (R := rC K) (p_var (i := 3) rfl isR_mono ⟨pf, rfl, gf7.ex e8⟩) (d_var (i := 5) rfl (.str a)) hch) H8 (Ex.refl _) _ fun v6 H9 e9 h6 => ?_
      have S9 := S7.ex (e8.trans e9)
      refine go_cons (e_draw (m := 6) rfl S9 (by omega) (by decide) (by decide) fun way Hc hway xc Sc => ⟨v6, _, rfl, ?_⟩)
      have x8c : ExS d ll H7 Hc := (exS_of (e8.trans e9)).trans xc
      have h6c : rC K ch v6 Hc := h6.t (ExS.t S9 xc)
      -- chain = ()
      refine s_ifJ (fun σ' H' => ∃ c v, LCh c ∧ rC K c v H' ∧ σ' = [some (.ref d), some vb, some (.ref pw0), some (.ref pf), some (.ref pw), some (.str a), some v, some (.int (way : Nat)), o8, o9, o10] ∧ ExS d ll Hc H' ∧ St d lc ll (n + 5 + 2 * i + 1) H') (fun N hN => ?_) ?_
      · refine Evl.s_if (b := decide (((way : Nat) : Int) = 0)) (t_of (K := K) (d_eqI (d_var (i := 7) rfl (.int _)) d_int)) (fun hb9 Hd ed => ?_) fun hb9 Hd ed => ?_
        · exact s_setP1 (d_tup (K := K) (ds := ([] : List (Str × Str)).map ePair) ds_nil (by decide)) fun v He ee hv => hN _ _ ⟨[], v, LCh.nil, rc_nil hv, rfl, exS_of (ed.trans ee), Sc.ex (ed.trans ee)⟩
        · exact hN _ _ ⟨ch, v6, lch, h6c.t (exT_of ed), rfl, exS_of ed, Sc.ex ed⟩
      rintro σ' Hd ⟨c, v, lc1, hc1, rfl, xd, Sd⟩
      -- chain[::-1]
      refine s_ifJ (fun σ' H' => ∃ c v, LCh c ∧ rC K c v H' ∧ σ' = [some (.ref d), some vb, some (.ref pw0), some (.ref pf), some (.ref pw), some (.str a), some v, some (.int (way : Nat)), o8, o9, o10] ∧ ExS d ll Hc H' ∧ St d lc ll (n + 5 + 2 * i + 1) H') (fun N hN => ?_) ?_
      · refine Evl.s_if (b := decide (((way : Nat) : Int) = 1)) (t_of (K := K) (d_eqI (d_var (i := 7) rfl (.int _)) d_int)) (fun hb9 He ee => ?_) fun hb9 He ee => ?_
        · exact s_setP1 (c_rev (K := K) (p_var (i := 6) rfl rC_mono (hc1.t (exT_of ee)))) fun v' Hf ef hv => hN _ _ ⟨c.reverse, v', lc1.rev, hv, rfl, xd.trans (exS_of (ee.trans ef)), Sd.ex (ee.trans ef)⟩
        · exact hN _ _ ⟨c, v, lc1, hc1.t (exT_of ee), rfl, xd.trans (exS_of ee), Sd.ex ee⟩
      clear hc1 lc1 xd Sd c v Hd
      rintro σ' Hd ⟨c, v, lc1, hc1, rfl, xd, Sd⟩
      have lts : ∀ {c : Chain}, LCh c → okD (eCh c) := fun {c} h => okD_ch fun p hp => ⟨lt_kinds _ (h.each p hp).1, lt_vals _ (h.each p hp).2⟩
      have tne : ∀ {c : Chain} {v : V} {H' : Hp} {w7 o8 o9 o10 : Option V}, LCh c → rC K c v H' → EvT (tTest (tOp (rNeD K) (tVar 6) (tTup tNil))) [some (.ref d), some vb, some (.ref pw0), some (.ref pf), some (.ref pw), some (.str a), some v, w7, o8, o9, o10] H' (!decide (c = [])) := fun {c v H' w7 o8 o9 o10} h1 h2 => t_of (K := K) (d_is (d_ne (d_var (i := 6) rfl h2.1) (d_tup (ds := ([] : List (Str × Str)).map ePair) ds_nil (by decide)) (lts h1).shaped (by decide)) (by rw [eqv_ch]))
      -- another value in front
      refine s_ifJ (fun σ' H' => ∃ c v, LCh c ∧ rC K c v H' ∧ σ' = [some (.ref d), some vb, some (.ref pw0), some (.ref pf), some (.ref pw), some (.str a), some v, some (.int (way : Nat)), o8, o9, o10] ∧ ExS d ll Hc H' ∧ St d lc ll (n + 5 + 2 * i + 2) H') (fun N hN => ?_) ?_
      · refine Evl.s_if (b := decide (((way : Nat) : Int) = 2) && !decide (c = [])) (et_and (t_of (K := K) (d_eqI (d_var (i := 7) rfl (.int _)) d_int)) fun _ => tne lc1 hc1) (fun hb9 He ee => ?_) fun hb9 He ee => ?_
        · cases c with
          | nil => simp at hb9
          | cons p c =>
            have hce := hc1.t (exT_of ee)
            refine go_asg1 (go_op (go_tupF (go_cons (go_tup (go_cons ?_)))))
            refine (d_ixT (K := K) (d_ixT (d_var (i := 6) rfl hce.1) d_int (atI_of (j := 0) rfl)) d_int (atI_of (j := 0) (x := PyData.str p.1) rfl)) He (Ex.refl _) _ fun x1 Hf ef hx1 => ?_
            obtain rfl := dp_str hx1
            have Sf := Sd.ex (ee.trans ef)
            refine go_cons (e_val rfl Sf (by omega) fun y Hg hy xg Sg => ⟨by show (2 : Nat) ≤ sizeLine; decide, fun q hq => ⟨by show (1 : Nat) ≤ sizeLine; decide, fun q2 Hh hq2 ⟨ob, ob1, ob2, ob3⟩ => ?_⟩⟩)
            have eq1 : Ex Hg (upd Hg q (.tup [.str p.1, .str y])) := Ex.new hq
            have eq2 : Ex (upd Hg q (.tup [.str p.1, .str y])) Hh := by rw [ob3]; exact Ex.new hq2
            have hat2 : Hh q2 = some (.frz ob (.tup [.ref q])) := by rw [ob3, upd_same]
            have eq12 := eq1.trans eq2
            have hch2 := (hce.t (exT_of ef)).t (ExS.t Sf xg)
            have hch3 := hch2.t (exT_of eq12)
            have dq2 : Dp K Hh (.ref q2) (.tuple [ePair (p.1, y)]) := .tup (.inl (.inr ⟨ob, hat2⟩)) (.cons (.tup (st_of (eq2 _ _ upd_same)) (.cons (.str _) (.cons (.str _) .nil))) .nil)
            refine (d_tail (K := K) (ds := (p :: c).map ePair) (d_var (i := 6) rfl hch3.1)) Hh (Ex.refl _) _ fun vt Hi ei ht => ?_
            have cl4 := kinds4_len lc1
            refine catF_at (dp_ex ei _ _ dq2) (PlT.ex ei ⟨q2, _, rfl, ob, hat2, ob1, ob2⟩) ht (by simp) (by
              show 1 + (c.map ePair).length ≤ _
              rw [List.length_map]
              rw [List.length_cons] at cl4
              omega) fun v' Hj ej hv => ?_
            exact hN _ _ ⟨(p.1, y) :: c, v', lc1.head hy, ⟨hv.1, fun _ => hv.2⟩, rfl, ((xd.trans (exS_of (ee.trans ef))).trans xg).trans (exS_of ((eq12.trans ei).trans ej)), (Sg.ex ((eq12.trans ei).trans ej)).le (by omega)⟩
        · exact hN _ _ ⟨c, v, lc1, hc1.t (exT_of ee), rfl, xd.trans (exS_of ee), (Sd.ex ee).le (by omega)⟩
      clear hc1 lc1 xd Sd c v Hd
      rintro σ' Hd ⟨c, v, lc1, hc1, rfl, xd, Sd⟩
      have x7d : ExS d ll H7 Hd := x8c.trans xd
      have gfd := gf7.s S7 x7d nf1 nf2
      have gwd := gw7.s S7 x7d nv1 nv2
      have t7d := t7.trans (ExS.t S7 x7d)
      have tk : b.asps.take (i + 1) = b.asps.take i ++ [a] := by rw [List.take_add_one, hai]; rfl
      have Sd' : St d lc ll (n + 5 + 2 * (i + 1)) Hd := Sd.le (by omega)
      refine Evl.s_if (tne lc1 hc1) (fun hb9 He ee => ?_) fun hb9 He ee => ?_
      · have hne : c ≠ [] := by simpa using hb9
        have gwe := gwd.ex ee
        have accl := sb.length_le
        rw [List.length_map, List.length_take] at accl
        have na : a ∉ acc.map (·.1) := fun z => by
          have h1 := sb.subset z
          have nd : (b.asps.take (i + 1)).Nodup := fo.nda.sublist (List.take_sublist _ _)
          rw [tk, List.nodup_append] at nd
          exact nd.2.2 a h1 a (by simp) rfl
        refine s_dput (K := K) (R := rC K) (p := pw) (s := a) (d := c) (p_var (i := 6) rfl rC_mono (hc1.t (exT_of ee))) (p_var (i := 4) (v := .ref pw) rfl (fun _ _ _ _ h => h) rfl) (d_var (i := 5) rfl (.str a)) gwe (by omega) fun Hf xf gk => ?_
        obtain ⟨kvw, hkvw, _⟩ := id gwe
        rw [pv2_new na] at gk
        refine ⟨t7d.trans ((exT_of ee).trans (Xb.exT hkvw xf)), _, _, _, _, _, _, rfl, ExS.xb (x7.trans (x7d.trans (exS_of ee))) hpwH xf, (Sd'.ex ee).xb nv1 nv3 nv2 xf, (gfd.ex ee).xb hkvw nfw xf, _, gk, ?_, fun q hq => ?_⟩
        · rw [tk, List.map_append]
          exact sb.append (List.Sublist.refl _)
        · rcases List.mem_append.mp hq with hq | hq
          · exact ac q hq
          · rw [List.mem_singleton.mp hq]
            exact ⟨hne, lc1⟩
      · refine ⟨t7d.trans (exT_of ee), _, _, _, _, _, _, rfl, x7.trans (x7d.trans (exS_of ee)), Sd'.ex ee, gfd.ex ee, acc, gwd.ex ee, ?_, ac⟩
        rw [tk]
        exact sb.trans (List.sublist_append_left _ _)
    · rintro σ' H7 t7 ⟨o5, o6, o7, o8, o9, o10, rfl, x7, S7, gf7, acc, gw7, sb, ac⟩
      rw [List.take_length] at sb
      have S7 := S7.le (m := n + 20) (by omega)
      have hb7 := dp_t (ExS.t S x7) _ _ (noL_book b) hb
      have accl := sb.length_le
      rw [List.length_map] at accl
      dsimp only
      refine go_asg (go_cb (go_cons ?_))
      refine n_lcS (K := K) (l := b.asps) (T := fun a b' => b' = a ∧ a ∉ acc.map (·.1)) (f := PyData.str) 1 (w_tupT (f := PyData.str) (d_ixT (d_var (i := 1) rfl hb7) d_int (atI_of (j := 0) rfl)) fun _ _ => rfl) S7 (by omega) (fun _ => rfl) (fun i a x H8 hi x8 S8 hx => ⟨_, g_name, rfl, fun Z zf zt => ?_⟩) fun p3 xs3 fr H8 x8 S8 hn8 hp8 pk8 hd8 => ?_
      · obtain rfl := dp_str hx
        have hi3 := (List.getElem?_eq_some_iff.mp hi).1
        have gw8 := gw7.s S7 x8 nv1 nv2
        refine (t_B (K := K) (d_dni (R := rC K) (d_var (i := 5) rfl (.str a)) (p_var (i := 4) rfl isR_mono ⟨pw, rfl, gw8⟩))) H8 (Ex.refl _) _ fun H9 e9 => ?_
        cases hq : (gv acc a).isSome with
        | true => exact zf H9 (exS_of e9) ((S8.ex e9).le (by omega))
        | false =>
          have na : a ∉ acc.map (·.1) := fun z => by
            rw [gv_isSome, decide_eq_true z] at hq
            cases hq
          rw [if_pos (show (!false) = true from rfl)]
          refine e_flip rfl (S8.ex e9) (by omega) fun bb Hx xx Sx => ?_
          have xx := (exS_of (d := d) (ll := ll) e9).trans xx
          have Sx := Sx.le (m := n + 20 + 1 * (i + 1)) (by omega)
          cases bb with
          | false => exact zf Hx xx Sx
          | true => exact zt Hx xx fun Y hY => ⟨_, rfl, hY _ Hx a xx Sx ⟨rfl, na⟩ (.str a)⟩
      refine ⟨p3, xs3, rfl, .inl ⟨sq_of hp8, fun bl hbl => ?_⟩⟩
      have frs : fr.Sublist b.asps := by
        have := pk8.sub id fun a b h => h.1
        rw [List.map_id] at this
        exact this
      have fro : ∀ a ∈ fr, a ∉ acc.map (·.1) := fun a ha => by
        obtain ⟨a', _, h1, h2⟩ := pk8.mem a ha
        rw [h1]
        exact h2
      have e9 : Ex H8 (upd H8 bl (.tup xs3)) := Ex.new hbl
      have hfr9 : Dp K (upd H8 bl (.tup xs3)) (.ref bl) (eStrs fr) := .tup (st_of upd_same) (dpAll_ex e9 _ _ hd8)
      have gw9 := (gw7.s S7 x8 nv1 nv2).ex e9
      obtain ⟨kvw, hkvw, hprw⟩ := id gw9
      have S9 := S8.ex e9
      have x9 : ExS d ll H (upd H8 bl (.tup xs3)) := (x7.trans x8).trans (exS_of e9)
      generalize upd H8 bl (.tup xs3) = H9 at e9 hfr9 gw9 hkvw hprw S9 x9
      refine go_ret (go_tup (go_cons (go_cb (go_cons (go_cb (go_cons ?_))))))
      refine ⟨_, rfl, .inr (.inr (.inl ⟨rfl, .inl ⟨kvw, hkvw⟩⟩)), pw, kvw, rfl, rfl, hkvw, fun pv hpv => ?_⟩
      have e10 : Ex H9 (upd H9 pv (L2.DX.itemsO pv pw)) := Ex.new hpv
      have up := (asps_up _ o.asps).sublist sb
      rw [List.pairwise_map] at up
      refine ⟨pv, pw, acc, rfl, upd_same, gw9.ex e10, by omega, up, fun Ha l xs ea hln hl hxs => ?_⟩
      refine ⟨l, xs, rfl, sq_of hl, fun tl Hc htl ⟨ob, ob1, ob2, ob3⟩ => ?_⟩
      have ec : Ex Ha Hc := by rw [ob3]; exact Ex.new htl
      have hat : Hc tl = some (.frz ob (.tup xs)) := by rw [ob3, upd_same]
      refine go_cons ⟨_, rfl, by show (2 : Nat) ≤ sizeLine; decide, fun t ht => ?_⟩
      have ed : Ex Hc (upd Hc t (.tup [.ref tl, .ref bl])) := Ex.new ht
      have eall := ((e10.trans ea).trans ec).trans ed
      refine hQ t (.ref tl) (.ref bl) acc fr _ (st_of upd_same) ⟨tl, xs, rfl, ⟨ob, ed _ _ hat, ob1, ob2⟩, ?_⟩ (dp_ex eall _ _ hfr9) ⟨sb, fun q hq => (ac q hq).1, fun q hq => (ac q hq).2⟩ ⟨frs, fro⟩ (x9.trans (exS_of eall)) ((S9.ex eall).le (by omega))
      have up2 : ∀ {xs : List V} {ws : List Wish}, Paired (fun x q => rP K q x Ha) xs ws → Paired (fun x q => rP K q x (upd Hc t (.tup [.ref tl, .ref bl]))) xs ws := fun {xs ws} h => by
        induction h with
        | nil => exact .nil
        | cons a _ ih => exact .cons (a.t (exT_of (ec.trans ed))) ih
      exact up2 hxs
end
end K26
set_option Elab.async false
set_option linter.all false
set_option maxRecDepth 100000
set_option maxHeartbeats 2000000
/-! KMath4: the rows that the search reaches are those that meet the wishes. -/
namespace K26
open PySem PySem.Spec PyProof.Rows L2 Evl
abbrev kin (c : Chain) : List Str := c.map (·.1)
def act (a : Str) (ch : Chain) (c : Code) : Chain := match gv c.2.2 a with
  | some v => (c.2.1, v) :: ch.filter (fun p => !decide (p.1 = c.2.1))
  | none => ch
def frC (a : Str) (cs : List Code) : Chain := cs.foldl (act a) []
def over (f ch : Chain) : Chain := f ++ ch.filter fun p => !decide (p.1 ∈ kin f)
def rowC (b : Bk) (row : List Str) : List Code := row.filterMap fun w => b.codes.find? fun c => decide (c.1 = w)
theorem over_nil (ch : Chain) : over [] ch = ch := by
  unfold over
  rw [List.nil_append]
  exact List.filter_eq_self.mpr fun p _ => by simp
theorem kin_filter {k : Str} {f : Chain} {x : Str} : x ∈ kin (f.filter fun p => !decide (p.1 = k)) ↔ x ∈ kin f ∧ x ≠ k := by
  constructor
  · intro h
    obtain ⟨p, hp, rfl⟩ := List.mem_map.mp h
    obtain ⟨h1, h2⟩ := List.mem_filter.mp hp
    exact ⟨List.mem_map.mpr ⟨p, h1, rfl⟩, by simpa using h2⟩
  · rintro ⟨h, hn⟩
    obtain ⟨p, hp, rfl⟩ := List.mem_map.mp h
    exact List.mem_map.mpr ⟨p, List.mem_filter.mpr ⟨hp, by simpa using hn⟩, rfl⟩
theorem act_over (a : Str) (f ch : Chain) (c : Code) : act a (over f ch) c = over (act a f c) ch := by
  unfold act
  cases gv c.2.2 a with
  | none => rfl
  | some v =>
    dsimp only
    unfold over
    rw [List.cons_append, List.filter_append, List.filter_filter]
    congr 2
    refine List.filter_congr fun p _ => ?_
    have e : (p.1 ∈ kin ((c.2.1, v) :: f.filter fun p => !decide (p.1 = c.2.1))) ↔ (p.1 ∈ kin f ∨ p.1 = c.2.1) := by
      rw [show kin ((c.2.1, v) :: f.filter fun p => !decide (p.1 = c.2.1)) = c.2.1 :: kin (f.filter fun p => !decide (p.1 = c.2.1)) from rfl, List.mem_cons, kin_filter]
      by_cases h : p.1 = c.2.1
      · simp [h]
      · simp [h]
    by_cases h1 : p.1 = c.2.1
    · have : p.1 ∈ kin ((c.2.1, v) :: f.filter fun p => !decide (p.1 = c.2.1)) := e.mpr (.inr h1)
      rw [decide_eq_true this, decide_eq_true h1]
      rfl
    · by_cases h2 : p.1 ∈ kin f
      · rw [decide_eq_true (e.mpr (.inl h2)), decide_eq_true h2]
        simp
      · have : ¬ p.1 ∈ kin ((c.2.1, v) :: f.filter fun p => !decide (p.1 = c.2.1)) := fun z => (e.mp z).elim h2 h1
        rw [decide_eq_false this, decide_eq_false h2, decide_eq_false h1]
        rfl
theorem foldl_over (a : Str) : ∀ (cs : List Code) (f ch : Chain), cs.foldl (act a) (over f ch) = over (cs.foldl (act a) f) ch
  | [], _, _ => rfl
  | c :: cs, f, ch => by rw [List.foldl_cons, List.foldl_cons, act_over, foldl_over a cs]
theorem frC_append (a : Str) (pre suf : List Code) : frC a (pre ++ suf) = over (frC a suf) (frC a pre) := by
  unfold frC
  rw [List.foldl_append]
  have := foldl_over a suf [] (pre.foldl (act a) [])
  rw [over_nil] at this
  exact this
theorem frC_cons (a : Str) (c : Code) (cs : List Code) : frC a (c :: cs) = over (frC a cs) (act a [] c) := frC_append a [c] cs
theorem frC_none {a : Str} {c : Code} {cs : List Code} (h : gv c.2.2 a = none) : frC a (c :: cs) = frC a cs := by
  rw [frC_cons]
  unfold act over
  rw [h]
  simp
theorem frC_old {a v : Str} {c : Code} {cs : List Code} (h : gv c.2.2 a = some v) (hk : c.2.1 ∈ kin (frC a cs)) : frC a (c :: cs) = frC a cs := by
  rw [frC_cons]
  unfold act over
  rw [h]
  have hk' : c.2.1 ∈ kin (frC a cs) := hk
  simp only [List.filter_nil, List.filter_cons, decide_eq_true hk', Bool.not_true, Bool.false_eq_true, if_false, List.append_nil]
theorem frC_new {a v : Str} {c : Code} {cs : List Code} (h : gv c.2.2 a = some v) (hk : c.2.1 ∉ kin (frC a cs)) : frC a (c :: cs) = frC a cs ++ [(c.2.1, v)] := by
  rw [frC_cons]
  unfold act over
  rw [h]
  have hk' : ¬ c.2.1 ∈ kin (frC a cs) := hk
  simp only [List.filter_nil, List.filter_cons, decide_eq_false hk', Bool.not_false, if_true]
theorem gv_of_mem {a v : Str} : ∀ {g : List (Str × Str)}, (g.map (·.1)).Nodup → (a, v) ∈ g → gv g a = some v
  | q :: g, nd, h => by
    rw [gv_cons]
    obtain ⟨n1, n2⟩ := List.nodup_cons.mp nd
    rcases List.mem_cons.mp h with rfl | h
    · exact if_pos rfl
    · have : ¬ q.1 = a := fun z => n1 (show q.1 ∈ _ by rw [z]; exact List.mem_map.mpr ⟨_, h, rfl⟩)
      rw [if_neg this]
      exact gv_of_mem n2 h
theorem pairsOf_mem {a k : Str} {c : Code} : (a, k) ∈ pairsOf c ↔ k = c.2.1 ∧ ∃ v, gv c.2.2 a = some v := by
  constructor
  · intro h
    obtain ⟨p, hp, e⟩ := List.mem_map.mp h
    obtain ⟨e1, e2⟩ := Prod.mk.inj e
    refine ⟨e2.symm, Option.isSome_iff_exists.mp ?_⟩
    rw [gv_isSome, ← e1]
    exact decide_eq_true (List.mem_map.mpr ⟨p, hp, rfl⟩)
  · rintro ⟨rfl, v, h⟩
    exact List.mem_map.mpr ⟨(a, v), gv_some h, rfl⟩
theorem kin_cons {a k : Str} {c : Code} {cs : List Code} : k ∈ kin (frC a (c :: cs)) ↔ k ∈ kin (frC a cs) ∨ (a, k) ∈ pairsOf c := by
  rw [pairsOf_mem]
  cases h : gv c.2.2 a with
  | none =>
    rw [frC_none h]
    simp
  | some v =>
    by_cases hk : c.2.1 ∈ kin (frC a cs)
    · rw [frC_old h hk]
      refine ⟨.inl, fun z => z.elim id fun z => ?_⟩
      rw [z.1]
      exact hk
    · rw [frC_new h hk, show kin (frC a cs ++ [(c.2.1, v)]) = kin (frC a cs) ++ [c.2.1] from List.map_append, List.mem_append, List.mem_singleton]
      exact ⟨fun z => z.imp id fun z => ⟨z, v, rfl⟩, fun z => z.imp id fun z => z.1⟩
/-! ### the front, aspect by aspect -/
structure WordsOk (b : Bk) : Prop where
  nd : (b.codes.map (·.1)).Nodup
  gives : ∀ c ∈ b.codes, (c.2.2.map (·.1)).Nodup
theorem find_of {b : Bk} (o : WordsOk b) {c : Code} (hc : c ∈ b.codes) : b.codes.find? (fun d => decide (d.1 = c.1)) = some c := by
  cases q : b.codes.find? (fun d => decide (d.1 = c.1)) with
  | none => exact absurd (decide_eq_true rfl) (List.find?_eq_none.mp q c hc)
  | some d =>
    obtain ⟨h1, h2⟩ := find_word q
    congr 1
    obtain ⟨i, hi⟩ := List.getElem?_of_mem h1
    obtain ⟨j, hj⟩ := List.getElem?_of_mem hc
    have a1 : (b.codes.map (·.1))[i]? = some d.1 := by rw [List.getElem?_map, hi]; rfl
    have a2 : (b.codes.map (·.1))[j]? = some d.1 := by rw [List.getElem?_map, hj, h2]; rfl
    have e := (List.getElem?_inj (List.getElem?_eq_some_iff.mp a1).1 o.nd).mp (a1.trans a2.symm)
    subst e
    rw [hi] at hj
    exact Option.some.inj hj
theorem rowC_cons {b : Bk} (o : WordsOk b) {c : Code} (hc : c ∈ b.codes) (row : List Str) : rowC b (c.1 :: row) = c :: rowC b row := by
  unfold rowC
  rw [List.filterMap_cons, find_of o hc]
theorem rowC_append (b : Bk) (x y : List Str) : rowC b (x ++ y) = rowC b x ++ rowC b y := List.filterMap_append
theorem puts_gv {k a : Str} : ∀ {gs : List (Str × Str)} {f : Chs}, (gs.map (·.1)).Nodup → (gv (gs.foldl (putC k) f) a).getD [] = match gv gs a with
    | some v => (k, v) :: ((gv f a).getD []).filter (fun p => !decide (p.1 = k))
    | none => (gv f a).getD []
  | [], f, _ => rfl
  | g :: gs, f, nd => by
    obtain ⟨n1, n2⟩ := List.nodup_cons.mp nd
    rw [List.foldl_cons, puts_gv n2, gv_cons]
    have e : gv (putC k f g) a = if a = g.1 then some ((k, g.2) :: ((gv f g.1).getD []).filter fun p => !decide (p.1 = k)) else gv f a := gv_pv2
    by_cases h : g.1 = a
    · have hn : gv gs a = none := gv_none.mpr (by rw [← h]; exact n1)
      rw [if_pos h, hn, e, if_pos h.symm, h]
      rfl
    · rw [if_neg h, e, if_neg fun z => h z.symm]
theorem frAt_eq {b : Bk} (o : WordsOk b) (row : List Str) (a : Str) : frAt b row a = frC a (rowC b row) := by
  have go : ∀ (row : List Str) (f : Chs), (gv (row.foldl (stepF b.codes) f) a).getD [] = (rowC b row).foldl (act a) ((gv f a).getD []) := by
    intro row
    induction row with
    | nil => exact fun _ => rfl
    | cons w row ih =>
      intro f
      rw [List.foldl_cons, ih]
      unfold rowC stepF
      rw [List.filterMap_cons]
      cases q : b.codes.find? (fun c => decide (c.1 = w)) with
      | none => rfl
      | some c =>
        dsimp only
        rw [List.foldl_cons, puts_gv (o.gives c (find_word q).1)]
        rfl
  unfold frAt frontOf frC
  rw [go]
  congr 1
  cases q : gv (b.asps.map fun a => (a, ([] : Chain))) a with
  | none => rfl
  | some c =>
    obtain ⟨x, _, e⟩ := List.mem_map.mp (gv_some q)
    rw [← (Prod.mk.inj e).2]
    rfl
/-! ### worths -/
theorem worth_find (c : Chain) (t : List Str) : worth c t = (c.find? fun p => decide (p.1 ∈ t)).map (·.2) := by
  unfold worth
  rw [List.head?_map, List.head?_filter]
/-- a chain that was made from its end on, as it is wished -/
inductive Good (wc : Chain) : Chain → Prop
  | nil : Good wc []
  | snoc {f : Chain} {k v : Str} : Good wc f → (k, v) ∈ wc → (∀ p ∈ wc.take (wc.idxOf (k, v)), p.2 = v ∨ p.1 ∈ kin f) → Good wc (f ++ [(k, v)])
theorem Good.at_ {wc f : Chain} (h : Good wc f) : ∀ (i : Nat) (p : Str × Str), f[i]? = some p → p ∈ wc ∧ ∀ q ∈ wc.take (wc.idxOf p), q.2 = p.2 ∨ q.1 ∈ kin (f.take i) := by
  induction h with
  | nil => intro i p hp; simp at hp
  | @snoc f k v _ hm ha ih =>
    intro i p hp
    by_cases hi : i < f.length
    · rw [List.getElem?_append_left hi] at hp
      obtain ⟨h1, h2⟩ := ih i p hp
      rw [List.take_append_of_le_length (Nat.le_of_lt hi)]
      exact ⟨h1, h2⟩
    · rw [List.getElem?_append_right (by omega)] at hp
      have e0 : i - f.length = 0 := by
        have := (List.getElem?_eq_some_iff.mp hp).1
        simp at this
        omega
      rw [e0] at hp
      cases hp
      have ei : i = f.length := by omega
      rw [ei, List.take_left']
      · exact ⟨hm, ha⟩
      · rfl
theorem at_idx {wc : Chain} {p : Str × Str} (h : p ∈ wc) : wc[wc.idxOf p]? = some p := by
  have hl := List.idxOf_lt_length_of_mem h
  rw [List.getElem?_eq_getElem hl, List.getElem_idxOf hl]
theorem take_idx {wc A B : Chain} {q p : Str × Str} (e : wc = A ++ q :: B) (hm : p ∈ wc) (hA : p ∉ A) (hq : p ≠ q) : q ∈ wc.take (wc.idxOf p) := by
  have h1 := at_idx hm
  have h2 : wc[A.length]? = some q := by rw [e]; simp
  have h3 : A.length < wc.idxOf p := by
    refine Nat.lt_of_not_le fun hle => ?_
    by_cases h4 : wc.idxOf p = A.length
    · rw [h4, h2] at h1
      exact hq (Option.some.inj h1).symm
    · generalize wc.idxOf p = n at h1 hle h4
      have h5 : n < A.length := by omega
      rw [e, List.getElem?_append_left h5] at h1
      exact hA (List.mem_of_getElem? h1)
  refine List.mem_of_getElem? (i := A.length) ?_
  rw [List.getElem?_take, if_pos h3]
  exact h2
theorem Good.same {wc f : Chain} (h : Good wc f) (all : ∀ p ∈ wc, p.1 ∈ kin f) : SameW f wc := fun t => by
  rw [worth_find, worth_find]
  cases q : f.find? (fun p => decide (p.1 ∈ t)) with
  | none =>
    have : wc.find? (fun p => decide (p.1 ∈ t)) = none := List.find?_eq_none.mpr fun p hp hz => by
      obtain ⟨r, hr, e⟩ := List.mem_map.mp (all p hp)
      refine List.find?_eq_none.mp q r hr ?_
      rw [e]
      exact hz
    rw [this]
  | some p =>
    obtain ⟨hp, as, bs, e, hno⟩ := List.find?_eq_some_iff_append.mp q
    obtain ⟨hm, ha⟩ := h.at_ as.length p (by rw [e]; simp)
    have et : f.take as.length = as := by rw [e]; simp
    rw [et] at ha
    cases q2 : wc.find? (fun p => decide (p.1 ∈ t)) with
    | none => exact absurd hp (List.find?_eq_none.mp q2 p hm)
    | some r =>
      obtain ⟨hr, A, B, e2, hno2⟩ := List.find?_eq_some_iff_append.mp q2
      show some p.2 = some r.2
      by_cases hpr : p = r
      · rw [hpr]
      · have hA : p ∉ A := fun z => by
          have := hno2 p z
          rw [hp] at this
          cases this
        rcases ha r (take_idx e2 hm hA hpr) with h1 | h1
        · rw [h1]
        · obtain ⟨x, hx, ex⟩ := List.mem_map.mp h1
          have := hno x hx
          rw [ex, hr] at this
          cases this
/-! ### what the search reaches meets the wishes -/
theorem Rch.good {ws : List Wish} {fr : List Str} {b : Bk} (o : WordsOk b) {st : Pairs} {row : List Str} (h : Rch ws fr b.codes st row) :
    (∀ a k, (a, k) ∈ st ↔ k ∈ kin (frC a (rowC b row))) ∧ ∀ a, a ∉ fr → Good (wsAt ws a) (frC a (rowC b row)) := by
  induction h with
  | nil => exact ⟨fun a k => by simp [rowC, frC], fun a _ => .nil⟩
  | @cons st row c _ hc hm hne ih =>
    obtain ⟨i1, i2⟩ := ih
    rw [rowC_cons o hc]
    refine ⟨fun a k => by rw [mem_step, i1, kin_cons], fun a ha => ?_⟩
    cases q : gv c.2.2 a with
    | none =>
      rw [frC_none q]
      exact i2 a ha
    | some v =>
      by_cases hk : c.2.1 ∈ kin (frC a (rowC b row))
      · rw [frC_old q hk]
        exact i2 a ha
      · rw [frC_new q hk]
        have hs := List.all_eq_true.mp hm (a, v) (gv_some q)
        rw [Bool.or_eq_true, Bool.or_eq_true, decide_eq_true_eq, decide_eq_true_eq] at hs
        rcases hs with hs | hs | hs
        · exact absurd hs ha
        · exact absurd ((i1 a c.2.1).mp hs) hk
        · unfold isDue at hs
          rw [Bool.and_eq_true, decide_eq_true_eq] at hs
          refine .snoc (i2 a ha) hs.1 fun p hp => ?_
          have := List.all_eq_true.mp hs.2 p hp
          rw [Bool.or_eq_true, decide_eq_true_eq, decide_eq_true_eq] at this
          exact this.imp id (i1 a p.1).mp
theorem done_iff {ws : List Wish} {st : Pairs} : isDone ws st = true ↔ ∀ q ∈ ws, ∀ p ∈ q.2, (q.1, p.1) ∈ st := by
  unfold isDone goalOf
  rw [List.all_eq_true]
  constructor
  · intro h q hq p hp
    exact of_decide_eq_true (h (q.1, p.1) (List.mem_flatMap.mpr ⟨q, hq, List.mem_map.mpr ⟨p, hp, rfl⟩⟩))
  · intro h x hx
    obtain ⟨q, hq, hx⟩ := List.mem_flatMap.mp hx
    obtain ⟨p, hp, rfl⟩ := List.mem_map.mp hx
    exact decide_eq_true (h q hq p hp)
theorem Rch.meets {ws : List Wish} {fr : List Str} {b : Bk} (o : WordsOk b) {st : Pairs} {row : List Str} (h : Rch ws fr b.codes st row) (hd : isDone ws st = true) : Meets b ws row fr := fun a _ ha => by
  obtain ⟨i1, i2⟩ := h.good o
  rw [frAt_eq o]
  refine (i2 a ha).same fun p hp => (i1 a p.1).mp ?_
  unfold wsAt at hp
  cases q : gv ws a with
  | none => rw [q] at hp; cases hp
  | some c =>
    rw [q] at hp
    exact done_iff.mp hd (a, c) (gv_some q) p hp
/-! ### a row that meets the wishes is reached, or a shorter one -/
theorem due_of {F f X wc : Chain} {k v : Str} (nd : (kin wc).Nodup) (hF : F = f ++ (k, v) :: X) (hk : k ∉ kin f) (sm : SameW F wc) : (k, v) ∈ wc ∧ ∀ p ∈ wc.take (wc.idxOf (k, v)), p.2 = v ∨ p.1 ∈ kin f := by
  have first : ∀ {t : List Str}, k ∈ t → (∀ x ∈ t, x ∉ kin f) → worth F t = some v := fun {t} h1 h2 => by
    rw [worth_find, hF]
    have : (f ++ (k, v) :: X).find? (fun p => decide (p.1 ∈ t)) = some (k, v) := List.find?_eq_some_iff_append.mpr ⟨decide_eq_true h1, f, X, rfl, fun p hp => by
      have : ¬ p.1 ∈ t := fun z => h2 p.1 z (List.mem_map.mpr ⟨p, hp, rfl⟩)
      simp [this]⟩
    rw [this]
    rfl
  have hmem : (k, v) ∈ wc := by
    have e := sm [k]
    rw [first (List.mem_singleton.mpr rfl) (fun x hx => by rw [List.mem_singleton.mp hx]; exact hk), worth_find] at e
    obtain ⟨q, hq, e2⟩ := Option.map_eq_some_iff.mp e.symm
    obtain ⟨h1, A, B, e3, _⟩ := List.find?_eq_some_iff_append.mp hq
    have h1 : q.1 = k := List.mem_singleton.mp (of_decide_eq_true h1)
    have : q = (k, v) := Prod.ext h1 e2
    rw [← this, e3]
    simp
  refine ⟨hmem, fun p hp => ?_⟩
  by_cases h1 : p.2 = v
  · exact .inl h1
  · refine .inr (Classical.byContradiction fun h2 => ?_)
    obtain ⟨j, hj⟩ := List.getElem?_of_mem hp
    have jl := (List.getElem?_eq_some_iff.mp hj).1
    rw [List.length_take] at jl
    have jn : j < wc.idxOf (k, v) := by omega
    rw [List.getElem?_take, if_pos jn] at hj
    have jw := (List.getElem?_eq_some_iff.mp hj).1
    have at_k : wc[wc.idxOf (k, v)]? = some (k, v) := at_idx hmem
    have uniq : ∀ (i : Nat) (x : Str × Str), i < j → wc[i]? = some x → x.1 ≠ p.1 ∧ x.1 ≠ k := fun i x hi hx => by
      have inj : ∀ (m : Nat) (y : Str × Str), wc[m]? = some y → x.1 = y.1 → i = m := fun m y hy e => by
        have a1 : (kin wc)[i]? = some x.1 := by rw [List.getElem?_map, hx]; rfl
        have a2 : (kin wc)[m]? = some x.1 := by rw [List.getElem?_map, hy, e]; rfl
        exact (List.getElem?_inj (List.getElem?_eq_some_iff.mp a1).1 nd).mp (a1.trans a2.symm)
      exact ⟨fun e => by have := inj j p hj e; omega, fun e => by have := inj _ _ at_k e; omega⟩
    have split : wc = wc.take j ++ p :: wc.drop (j + 1) := by
      have : wc[j] = p := (List.getElem?_eq_some_iff.mp hj).2
      have e1 := List.take_append_drop j wc
      rw [List.drop_eq_getElem_cons jw, this] at e1
      exact e1.symm
    have e := sm [p.1, k]
    have hw : worth wc [p.1, k] = some p.2 := by
      rw [worth_find]
      have : wc.find? (fun q => decide (q.1 ∈ [p.1, k])) = some p := List.find?_eq_some_iff_append.mpr ⟨by simp, wc.take j, wc.drop (j + 1), split, fun x hx => by
        obtain ⟨i, hi⟩ := List.getElem?_of_mem hx
        have il := (List.getElem?_eq_some_iff.mp hi).1
        rw [List.length_take] at il
        rw [List.getElem?_take, if_pos (by omega)] at hi
        obtain ⟨u1, u2⟩ := uniq i x (by omega) hi
        simp [u1, u2]⟩
      rw [this]
      rfl
    rw [hw, first (by simp) (fun x hx => by
      rcases List.mem_cons.mp hx with rfl | hx
      · exact h2
      · rw [List.mem_singleton.mp hx]; exact hk)] at e
    exact h1 (Option.some.inj e).symm
theorem step_old {st : Pairs} {c : Code} (hc : Can st) (h : ∀ p ∈ pairsOf c, p ∈ st) : stepOf st c = st :=
  sorted_unique (sortP_sorted _) hc.up ((List.perm_ext_iff_of_nodup (nodup_step st c) hc.nd).mpr fun p => by
    rw [mem_step]
    exact ⟨fun z => z.elim id (h p), .inl⟩)
structure WsNd (ws : List Wish) : Prop where
  keys : (ws.map (·.1)).Nodup
  kinds : ∀ q ∈ ws, (kin q.2).Nodup
theorem reached {ws : List Wish} {fr : List Str} {b : Bk} (o : WordsOk b) (ga : ∀ c ∈ b.codes, ∀ p ∈ c.2.2, p.1 ∈ b.asps) (wn : WsNd ws) (wa : ∀ q ∈ ws, q.1 ∈ b.asps ∧ q.1 ∉ fr) {row : List Str} (hr : ∀ x ∈ row, x ∈ b.codes.map (·.1)) (hm : Meets b ws row fr) :
    ∃ st row', Rch ws fr b.codes st row' ∧ isDone ws st = true ∧ sizeR row' ≤ sizeR row := by
  have wcn : ∀ a, (kin (wsAt ws a)).Nodup := fun a => by
    unfold wsAt
    cases q : gv ws a with
    | none => exact .nil
    | some c => exact wn.kinds (a, c) (gv_some q)
  have go : ∀ (suf pre : List Str), row = pre ++ suf → ∃ st row', Rch ws fr b.codes st row' ∧ sizeR row' ≤ sizeR suf ∧ ∀ a k, (a, k) ∈ st ↔ k ∈ kin (frC a (rowC b suf)) := by
    intro suf
    induction suf with
    | nil => exact fun pre _ => ⟨[], [], .nil, Int.le_refl _, fun a k => by simp [rowC, frC]⟩
    | cons w suf ih =>
      intro pre hpre
      obtain ⟨st, row', hR, hsz, hst⟩ := ih (pre ++ [w]) (by rw [hpre, List.append_assoc]; rfl)
      obtain ⟨c, hc, rfl⟩ := List.mem_map.mp (hr w (by rw [hpre]; simp))
      rw [rowC_cons o hc]
      by_cases hs : stepOf st c = st
      · refine ⟨st, row', hR, Int.le_trans hsz (sizeR_le _ _), fun a k => ?_⟩
        rw [kin_cons, ← hst]
        refine ⟨.inl, fun z => z.elim id fun z => ?_⟩
        rw [← hs]
        exact mem_step.mpr (.inr z)
      · refine ⟨stepOf st c, c.1 :: row', .cons hR hc ?_ hs, by rw [sizeR_cons, sizeR_cons]; omega, fun a k => by rw [mem_step, hst, kin_cons]⟩
        refine List.all_eq_true.mpr fun p hp => ?_
        rw [Bool.or_eq_true, Bool.or_eq_true, decide_eq_true_eq, decide_eq_true_eq]
        by_cases hf : p.1 ∈ fr
        · exact .inl hf
        · by_cases hk : (p.1, c.2.1) ∈ st
          · exact .inr (.inl hk)
          · refine .inr (.inr ?_)
            have hk' : c.2.1 ∉ kin (frC p.1 (rowC b suf)) := fun z => hk ((hst _ _).mpr z)
            have hg : gv c.2.2 p.1 = some p.2 := gv_of_mem (o.gives c hc) hp
            have eF : frC p.1 (rowC b row) = frC p.1 (rowC b suf) ++ (c.2.1, p.2) :: ((frC p.1 (rowC b pre)).filter fun q => !decide (q.1 ∈ kin (frC p.1 (c :: rowC b suf)))) := by
              rw [hpre, rowC_append, rowC_cons o hc, frC_append]
              unfold over
              rw [frC_new hg hk', List.append_assoc]
              rfl
            have sm := hm p.1 (ga c hc p hp) hf
            rw [frAt_eq o] at sm
            obtain ⟨d1, d2⟩ := due_of (wcn p.1) eF hk' sm
            unfold isDue
            rw [Bool.and_eq_true, decide_eq_true_eq]
            refine ⟨d1, List.all_eq_true.mpr fun q hq => ?_⟩
            rw [Bool.or_eq_true, decide_eq_true_eq, decide_eq_true_eq]
            exact (d2 q hq).imp id (hst _ _).mpr
  obtain ⟨st, row', hR, hsz, hst⟩ := go row [] rfl
  refine ⟨st, row', hR, done_iff.mpr fun q hq p hp => (hst _ _).mpr ?_, hsz⟩
  obtain ⟨h1, h2⟩ := wa q hq
  have sm := hm q.1 h1 h2 [p.1]
  have e : wsAt ws q.1 = q.2 := by
    unfold wsAt
    rw [gv_mem wn.keys hq]
    rfl
  rw [frAt_eq o, e, worth_find, worth_find] at sm
  cases z : q.2.find? (fun x => decide (x.1 ∈ [p.1])) with
  | none => exact absurd (by simp) (List.find?_eq_none.mp z p hp)
  | some y =>
    rw [z] at sm
    obtain ⟨x, hx, _⟩ := Option.map_eq_some_iff.mp sm
    obtain ⟨h3, A, B, e3, _⟩ := List.find?_eq_some_iff_append.mp hx
    have h3 : x.1 = p.1 := List.mem_singleton.mp (of_decide_eq_true h3)
    exact List.mem_map.mpr ⟨x, by rw [e3]; simp, h3⟩
/-- a row that is reached has unlike words -/
theorem Rch.unlike {ws : List Wish} {fr : List Str} {b : Bk} (o : WordsOk b) {st : Pairs} {row : List Str} (h : Rch ws fr b.codes st row) : row.Nodup ∧ ∀ c ∈ b.codes, c.1 ∈ row → ∀ p ∈ pairsOf c, p ∈ st := by
  induction h with
  | nil => exact ⟨.nil, fun c _ h => by cases h⟩
  | @cons st row c h0 hc hm hne ih =>
    obtain ⟨i1, i2⟩ := ih
    refine ⟨List.nodup_cons.mpr ⟨fun z => hne (step_old h0.can (i2 c hc z)), i1⟩, fun d hd hm p hp => mem_step.mpr ?_⟩
    rcases List.mem_cons.mp hm with e | hm
    · have e1 := find_of o hd
      rw [e, find_of o hc] at e1
      cases e1
      exact .inr hp
    · exact .inl (i2 d hd hm p hp)
/-! ### all rows of unlike words -/
theorem mem_lvl {ws : List Str} : ∀ {m : Nat} {t : List Str}, t ∈ lvl ws m ↔ t.length = m ∧ t.Nodup ∧ ∀ x ∈ t, x ∈ ws
  | 0, t => by
    show t ∈ [[]] ↔ _
    rw [List.mem_singleton]
    exact ⟨fun h => by rw [h]; exact ⟨rfl, .nil, fun x hx => by cases hx⟩, fun h => List.length_eq_zero_iff.mp h.1⟩
  | m + 1, t => by
    show t ∈ (lvl ws m).flatMap (ext1 ws) ↔ _
    rw [List.mem_flatMap]
    constructor
    · rintro ⟨r, hr, ht⟩
      obtain ⟨i1, i2, i3⟩ := mem_lvl.mp hr
      obtain ⟨o, ho, rfl⟩ := List.mem_map.mp ht
      obtain ⟨h1, h2⟩ := List.mem_filter.mp ho
      have h2 : o ∉ r := by simpa using h2
      refine ⟨by rw [List.length_append, i1]; rfl, List.nodup_append.mpr ⟨i2, by simp, fun a ha x hx e => h2 (by rw [← List.mem_singleton.mp hx, ← e]; exact ha)⟩, fun x hx => ?_⟩
      rcases List.mem_append.mp hx with hx | hx
      · exact i3 x hx
      · rw [List.mem_singleton.mp hx]
        exact h1
    · rintro ⟨h1, h2, h3⟩
      have ne : t ≠ [] := fun z => by rw [z] at h1; cases h1
      have et := List.dropLast_concat_getLast ne
      rw [← et, List.nodup_append] at h2
      refine ⟨t.dropLast, mem_lvl.mpr ⟨by rw [List.length_dropLast]; omega, h2.1, fun x hx => h3 x ((List.dropLast_sublist t).subset hx)⟩, ?_⟩
      refine List.mem_map.mpr ⟨t.getLast ne, List.mem_filter.mpr ⟨h3 _ (List.getLast_mem ne), ?_⟩, et⟩
      have : t.getLast ne ∉ t.dropLast := fun z => h2.2.2 _ z _ (List.mem_singleton.mpr rfl) rfl
      simpa using this
theorem mem_foundR {ws t : List Str} : ∀ {n : Nat}, t ∈ foundR ws n ↔ ∃ m, m ≤ n ∧ t ∈ lvl ws m
  | 0 => ⟨fun h => ⟨0, Nat.le_refl _, h⟩, fun ⟨m, h1, h2⟩ => by
    obtain rfl : m = 0 := by omega
    exact h2⟩
  | n + 1 => by
    show t ∈ foundR ws n ++ lvl ws (n + 1) ↔ _
    rw [List.mem_append, mem_foundR]
    constructor
    · rintro (⟨m, h1, h2⟩ | h)
      · exact ⟨m, by omega, h2⟩
      · exact ⟨n + 1, Nat.le_refl _, h⟩
    · rintro ⟨m, h1, h2⟩
      by_cases e : m = n + 1
      · subst e
        exact .inr h2
      · exact .inl ⟨m, by omega, h2⟩
theorem all_rows {ws t : List Str} : t ∈ foundR ws ws.length ↔ t.Nodup ∧ ∀ x ∈ t, x ∈ ws := by
  rw [mem_foundR]
  constructor
  · rintro ⟨m, _, h⟩
    exact (mem_lvl.mp h).2
  · rintro ⟨h1, h2⟩
    exact ⟨t.length, nd_le h1 h2, mem_lvl.mpr ⟨rfl, h1, h2⟩⟩
end K26
set_option Elab.async false
set_option linter.all false
set_option maxRecDepth 100000
set_option maxHeartbeats 2000000
/-! KLaw: the law's books and wishes are as the program asks. -/
namespace K26
open PySem PySem.Spec PyProof.Rows L2 Evl
theorem rise_of : ∀ {l : List Str}, l.Pairwise (fun x y => sCp x < sCp y) → Rising l
  | [], _ => fun i x y h => by simp at h
  | [a], _ => fun i x y h1 h2 => by simp at h2
  | a :: b :: l, h => fun i x y h1 h2 => by
    have hp := List.pairwise_cons.mp h
    cases i with
    | zero =>
      cases h1
      cases h2
      exact hp.1 _ List.mem_cons_self
    | succ i => exact rise_of hp.2 i x y h1 h2
instance : DecidablePred (fun x => OfOk letters x) := fun x => inferInstanceAs (Decidable (1 ≤ x.length ∧ x.length ≤ 8 ∧ ∀ c ∈ x.cps.toList, c ∈ letters.cps.toList))
instance : DecidablePred (fun x => OfOk figs x) := fun x => inferInstanceAs (Decidable (1 ≤ x.length ∧ x.length ≤ 8 ∧ ∀ c ∈ x.cps.toList, c ∈ figs.cps.toList))
instance : DecidablePred Mark := fun x => inferInstanceAs (Decidable (OfOk letters x))
instance : DecidablePred Word := fun x => inferInstanceAs (Decidable (OfOk figs x ∧ x.cps.toList[0]? ≠ some 59 ∧ x.cps.toList.getLast? ≠ some 59))
theorem mk_asps : ∀ a ∈ asps4, ∀ x ∈ a, Mark x := by decide +kernel
theorem mk_kinds : ∀ x ∈ kinds4, Mark x := by decide +kernel
theorem mk_vals : ∀ x ∈ vals, Mark x := by decide +kernel
theorem mk_words : ∀ x ∈ words8, Word x := by decide +kernel
theorem sh_words : ∀ x ∈ words8, (PyData.str x).showable = true ∧ (reprText x).length ≤ 62 ∧ x.length ≤ 1000 := by decide +kernel
def uni (asps : List Str) : Pairs := asps.flatMap fun a => [(a, "j"), (a, "k"), (a, "l")]
theorem uni_ok : ∀ a ∈ asps4, (uni a).Nodup ∧ (uni a).length ≤ 9 := by decide +kernel
section
variable {b : Bk} {ws : List Wish} {fr : List Str}
theorem LawBk.up (h : LawBk b) : b.asps.Pairwise (fun x y => sCp x < sCp y) := asps_up _ h.asps
theorem LawBk.word (h : LawBk b) {c : Code} (hc : c ∈ b.codes) : c.1 ∈ words8 := by
  have : c.1 ∈ b.codes.map (·.1) := List.mem_map.mpr ⟨c, hc, rfl⟩
  rw [h.words] at this
  exact List.mem_of_mem_take this
theorem LawBk.three (h : LawBk b) {c : Code} (hc : c ∈ b.codes) : c.2.2.length ≤ 3 := by
  have := (h.each c hc).asp.length_le
  have := (asp_len h.asps).2
  rw [List.length_map] at *
  omega
theorem LawBk.ok (h : LawBk b) : BookOk b := by
  obtain ⟨f1, f5⟩ := h.few
  obtain ⟨a1, a3⟩ := asp_len h.asps
  have sl := h.shown.length_le
  refine ⟨mk_asps _ h.asps, rise_of h.up, a1, by omega, fun a ha => mk_asps _ h.asps a (h.shown.subset ha), rise_of (h.up.sublist h.shown), by omega, fun a ha => h.shown.subset ha, ⟨by omega, fun c hc => ⟨mk_words _ (h.word hc), mk_kinds _ (h.each c hc).kind, (h.each c hc).ne, ?_, fun p hp => ⟨mk_asps _ h.asps _ ((h.each c hc).asp.subset (List.mem_map.mpr ⟨p, hp, rfl⟩)), mk_vals _ ((h.each c hc).val p hp)⟩, rise_of (h.up.sublist (h.each c hc).asp)⟩, h.fr.ndw, h.fr.ga, kinds4, by decide, fun c hc => (h.each c hc).kind⟩⟩
  have := h.three hc
  omega
theorem LawBk.ao (h : LawBk b) : WordsOk b := ⟨h.fr.ndw, fun c hc => (asps4_nd _ h.asps).sublist (h.each c hc).asp⟩
theorem LawBk.fewP (h : LawBk b) : Few b.codes (uni b.asps) := by
  obtain ⟨u1, u2⟩ := uni_ok _ h.asps
  refine ⟨u1, u2, fun c hc p hp => ?_, fun c hc => by rw [List.length_map]; exact h.three hc, fun c hc => (sh_words _ (h.word hc)).2.2⟩
  obtain ⟨q, hq, rfl⟩ := List.mem_map.mp hp
  have ha := (h.each c hc).asp.subset (List.mem_map.mpr ⟨q, hq, rfl⟩)
  refine List.mem_flatMap.mpr ⟨q.1, ha, ?_⟩
  have hk := (h.each c hc).kind
  have : ∀ k ∈ kinds4, (q.1, k) ∈ [(q.1, ("j" : Str)), (q.1, "k"), (q.1, "l")] := by
    intro k hk
    simp only [List.mem_cons, List.not_mem_nil, or_false] at hk
    rcases hk with rfl | rfl | rfl | rfl <;> simp
  exact this _ hk
theorem LawWs.ok (h : LawBk b) (w : LawWs b ws) : WishOk b ws := by
  obtain ⟨a1, a3⟩ := asp_len h.asps
  have wl := w.sub.length_le
  rw [List.length_map] at wl
  exact ⟨by omega, fun q hq => ⟨⟨Nat.le_trans (kinds4_len (w.ch q hq)) (by decide), fun p hp => ⟨mk_kinds _ ((w.ch q hq).each p hp).1, mk_vals _ ((w.ch q hq).each p hp).2⟩, (w.ch q hq).nd⟩, w.ne q hq⟩, fun q hq => w.sub.subset (List.mem_map.mpr ⟨q, hq, rfl⟩), rise_of (h.up.sublist w.sub)⟩
theorem LawFr.ok (h : LawBk b) (f : LawFr b ws fr) : FreeOk b ws fr := ⟨fun a ha => f.sub.subset ha, rise_of (h.up.sublist f.sub), fun q hq hf => f.off _ hf (List.mem_map.mpr ⟨q, hq, rfl⟩)⟩
theorem LawWs.nd (h : LawBk b) (w : LawWs b ws) : WsNd ws := ⟨(asps4_nd _ h.asps).sublist w.sub, fun q hq => (w.ch q hq).nd⟩
theorem law_mt (h : LawBk b) (w : LawWs b ws) {row : List Str} (hr : ∀ x ∈ row, x ∈ b.codes.map (·.1)) : MtOk b ws row fr := ⟨h.fr, (w.nd h).keys, hr, fun c hc p hp => lt_vals _ ((h.each c hc).val p hp), fun q hq => Nat.le_trans (kinds4_len (w.ch q hq)) (by decide), fun q hq p hp => lt_vals _ ((w.ch q hq).each p hp).2, kinds4, by decide, fun c hc => (h.each c hc).kind, fun q hq p hp => ((w.ch q hq).each p hp).1⟩
theorem LawFr.free0 : LawFr b ws [] := ⟨List.nil_sublist _, fun a ha => by cases ha⟩
/-- rows of the search are rows of the book -/
theorem LawBk.rowW (h : LawBk b) {row : List Str} (hr : ∀ x ∈ row, x ∈ b.codes.map (·.1)) : ∀ x ∈ row, x ∈ words8 := fun x hx => by
  obtain ⟨c, hc, rfl⟩ := List.mem_map.mp (hr x hx)
  exact h.word hc
end
/-! ### repr -/
theorem shown_strs : ∀ row : List Str, PyData.shownAll (row.map PyData.str) = row.map reprText
  | [] => rfl
  | x :: row => by
    rw [List.map_cons, List.map_cons, PyData.shownAll, shown_strs row]
    rfl
theorem row_shown {row : List Str} (h : ∀ x ∈ row, x ∈ words8) (hl : row.length ≤ 60) : (eStrs row).showable = true ∧ (eStrs row).hasDict = false ∧ (eStrs row).depth ≤ 10 ∧ (eStrs row).shown.length ≤ sizeLine := by
  have sa : ∀ row : List Str, (∀ x ∈ row, x ∈ words8) → PyData.showableAll (row.map PyData.str) = true := by
    intro row
    induction row with
    | nil => exact fun _ => rfl
    | cons x row ih =>
      intro h
      rw [List.map_cons, PyData.showableAll, ih fun y hy => h y (List.mem_cons_of_mem _ hy), (sh_words x (h x List.mem_cons_self)).1]
      rfl
  have sd : ∀ row : List Str, PyData.hasDictAll (row.map PyData.str) = false := by
    intro row
    induction row with
    | nil => rfl
    | cons x row ih =>
      rw [List.map_cons, PyData.hasDictAll, ih]
      rfl
  refine ⟨by show PyData.showableAll _ = true; exact sa row h, by show PyData.hasDictAll _ = false; exact sd row, ?_, ?_⟩
  · have := depth_map (e := PyData.str) (l := row) (n := 0) fun _ _ => Nat.le_refl _
    show PyData.depthAll (row.map PyData.str) + 1 ≤ 10
    omega
  · show (tupleText (PyData.shownAll (row.map PyData.str))).length ≤ sizeLine
    rw [shown_strs]
    have t1 := tupleText_len_le (row.map reprText)
    have t2 : ∀ row : List Str, (∀ x ∈ row, x ∈ words8) → ((row.map reprText).map (·.length)).sum ≤ 62 * row.length := by
      intro row
      induction row with
      | nil => exact fun _ => Nat.le_refl _
      | cons x row ih =>
        intro h
        have h1 := (sh_words x (h x List.mem_cons_self)).2.1
        have h2 := ih fun y hy => h y (List.mem_cons_of_mem _ hy)
        rw [List.map_cons, List.map_cons, List.sum_cons, List.length_cons]
        omega
    have := t2 row h
    rw [List.length_map] at t1
    have ez : sizeLine = 16777216 := sizeLine_eq
    omega
end K26
set_option Elab.async false
set_option linter.all false
set_option maxRecDepth 100000
set_option maxHeartbeats 4000000
/-! KS13: _law_right. -/
namespace K26
open PySem PySem.Spec PyProof.Rows L2 Evl LamX NdefX RZ
def spRight (K : PySem.W.Frag) (Pt : Addr) : Sp := fun vs H Q _ => ∃ b vb vw vl ws fr, vs = [vb, vw, vl] ∧ Dp K H vb (eBook b) ∧ LawBk b ∧ rWs K ws vw H ∧ LawWs b ws ∧ Dp K H vl (eStrs fr) ∧ LawFr b ws fr ∧ Tabs (tb Pt) H ∧ ∀ H', ExtN H H' → Tabs (tb Pt) H' → Q (.bl true) H'
section
variable {K : PySem.W.Frag} {σ : L2.St} {H : Hp} {te : TE} {ta : TA}
def reprOf : Option (List Str) → Str
  | none => "None"
  | some row => (eStrs row).shown
theorem d_repr {r : Option (List Str)} (h : EvD K te σ H (eOR r)) (hr : ∀ row, r = some row → (∀ x ∈ row, x ∈ words8) ∧ row.length ≤ 60) : EvD K (tCB (rRepr K) (tCons te tNil)) σ H (.str (reprOf r)) := fun H1 e Q q =>
  h H1 e _ fun v H2 e2 w => by
    refine ⟨v, eOR r, reprOf r, rfl, w, ?_, q _ H2 e2 (.str _)⟩
    cases r with
    | none => exact .inl ⟨rfl, rfl⟩
    | some row =>
      obtain ⟨h1, h2⟩ := hr row rfl
      obtain ⟨s1, s2, s3, s4⟩ := row_shown h1 h2
      exact .inr ⟨⟨_, rfl⟩, s1, s2, s3, s4, rfl⟩
theorem repr_cond {r : Option (List Str)} (hr : ∀ row, r = some row → (∀ x ∈ row, x ∈ words8) ∧ row.length ≤ 60) : (eOR r = .none ∧ reprOf r = ("None" : Str)) ∨ ((∃ ds, eOR r = .tuple ds) ∧ (eOR r).showable = true ∧ (eOR r).hasDict = false ∧ (eOR r).depth ≤ 10 ∧ (eOR r).shown.length ≤ sizeLine ∧ reprOf r = (eOR r).shown) := by
  cases r with
  | none => exact .inl ⟨rfl, rfl⟩
  | some row =>
    obtain ⟨h1, h2⟩ := hr row rfl
    obtain ⟨s1, s2, s3, s4⟩ := row_shown h1 h2
    exact .inr ⟨⟨_, rfl⟩, s1, s2, s3, s4, rfl⟩
theorem go_ifS {D : Ends} {tt : TT} {tu tw tz : TS} (h : tt σ H fun b H1 => if b = true then tu { D with nx := tz D } σ H1 else tw { D with nx := tz D } σ H1) : tSeq (tIfS tt tu tw) tz D σ H := h
theorem d_min {ns : List Int} {M : Int} (h : EvD K te σ H (.list (ns.map PyData.int))) (hm : M ∈ ns) (hl : ∀ y ∈ ns, M ≤ y) : EvD K (tCB (rMin K) (tCons te tNil)) σ H (.int M) := fun H1 e Q q =>
  h H1 e _ fun v H2 e2 w => by
    obtain ⟨a, xs, rfl, hs, hx⟩ := dp_lst w
    obtain rfl := hx.ints
    refine ⟨a, ns, rfl, hs, List.length_pos_of_mem hm, fun m h1 h2 => ?_⟩
    have e : m = M := Int.le_antisymm (h2 M hm) (hl m h1)
    rw [e]
    exact q _ H2 e2 (.int M)
open Classical in
theorem d_meets {b : Bk} {ws : List Wish} {row fr : List Str} {i j k l : Nat} {vb vw vr vl : V} (h1 : σ[i]? = some (some vb)) (h2 : σ[j]? = some (some vw)) (h3 : σ[k]? = some (some vr)) (h4 : σ[l]? = some (some vl)) (w1 : Dp K H vb (eBook b)) (w2 : rWs K ws vw H) (w3 : isS K row vr H) (w4 : Dp K H vl (eStrs fr)) (o : MtOk b ws row fr) :
    EvD K (tCall (spMeets K) [] E0 (tCons (tVar i) (tCons (tVar j) (tCons (tVar k) (tCons (tVar l) tNil))))) σ H (.bool (decide (Meets b ws row fr))) := fun H1 e Q q =>
  ⟨vb, h1, vw, h2, vr, h3, vl, h4, b, vb, vw, vr, vl, ws, row, fr, rfl, dp_ex e _ _ w1, w2.t (exT_of e), w3.ex e, dp_ex e _ _ w4, o, fun kk hk v H' e' hv => by
    have : kk = decide (Meets b ws row fr) := by
      cases kk with
      | true => exact (decide_eq_true (hk.mp rfl)).symm
      | false => exact (decide_eq_false fun z => by have := hk.mpr z; cases this).symm
    rw [this] at hv
    exact q v H' e' hv⟩
end
def scR : Scope := { kind := .function, names := [(".0", .local), ("row", .local), ("_law_meets", .globalImplicit), ("sum", .globalImplicit), ("book", .free), ("left", .free), ("wishes", .free)], isGenerator := false, isCoroutine := false }
section
variable {P : Program} {w : World} {K : PySem.W.Frag} {mg : Str → Option Value} {base : Heap} {c Pt : Addr}
theorem ok__law_right (T : TX K mg) (Y : SX K mg) (Z : QX K mg) (hc : T.cheapest_row.fd.code = .ref c) (TB : TabB base mg c Pt) : FnG P w K mg base CX0 10 T._law_right.f T._law_right.fd ["book", "wishes", "left"] (spRight K Pt) := by
  refine ok_quiet T._law_right.F sc__law_right (fun vs H Q E h => by obtain ⟨b, vb, vw, vl, ws, fr, rfl, _⟩ := h; rfl) (fun cdv A outer s H vs Q E hq hr h => ?_)
  obtain ⟨dsh, vdshortest_row, bdshortest_row⟩ := bd_shortest_row T.shortest_row.F
  refine ⟨_, PSs.nox (pss_cons (ps_set (i := 3) sc__law_right.nd rfl (Or.inl rfl) (pe_call (ok_shortest T Y Z hc TB) (hr.mono (by decide)) rfl T.shortest_row.g T.shortest_row.F.kp bdshortest_row vdshortest_row (passes_call L2.takes0 (E := E0) fun _ _ _ _ h => h) (pa_cons (pv 0) (pa_cons (pv 1) (pa_cons (pv 2) pa_nil))))) (pss_cons (ps_if (pt_cmpR op_ne (pe_callB (cr_repr hq hr.units) (by rfl) T.b_repr (by decide +kernel) (pa_cons (pe_callK (ok_shortest T Y Z hc TB) (hr.mono (by decide)) (by rfl) T.shortest_row.g T.shortest_row.F.kp (kb_shortest_row T.shortest_row.F) (passes_call L2.takes0 (E := E0) fun _ _ _ _ h => h) (pa_cons (pv 0) (pa_cons (pv 1) pa_nil)) (pk_cons (pv 2) pk_nil)) pa_nil)) (pe_callB (cr_repr hq hr.units) (by rfl) T.b_repr (by decide +kernel) (pa_cons (pv 3) pa_nil)) (nomark _)) (pss_one (ps_ret pe_bl)) pss_nil) (pss_cons (ps_setLc (i := 4) (own := [("row", 5)]) rfl sc__law_right.nd rfl rfl (sw_true rfl rfl rfl (by decide +kernel)) (piL K (pe_call (ok__law_all_rows T) (hr.mono (by decide)) rfl T._law_all_rows.g T._law_all_rows.F.kp (bd__law_all_rows T._law_all_rows.F) .nil pass0 (pa_cons (pv 0) pa_nil))) (blkOk_by (N := ["book", "wishes", "left", "answer", "some", "row", "word"]) (sc := defScope s__law_right) (by decide +kernel)) (fun _ _ _ _ _ => (pg_name (i := 5) sc__law_right.nd rfl (Or.inl rfl))) (fun _ _ _ _ _ => (pts_one (pt_val (pe_call (ok__law_meets T) (hr.mono (by decide)) rfl T._law_meets.g T._law_meets.F.kp (bd__law_meets T._law_meets.F) .nil pass0 (pa_cons (pv 0) (pa_cons (pv 1) (pa_cons (pv 5) (pa_cons (pv 2) pa_nil)))))))) (fun _ _ _ _ _ => (qSum K T.b_sum rfl (pe_lc (own := [("word", 6)]) rfl sc__law_right.nd (piT K (pv 5)) (blkOk_by (N := ["book", "wishes", "left", "answer", "some", "row", "word"]) (sc := relS scR (defScope s__law_right)) (by decide +kernel)) (fun _ _ _ _ _ => (pg_name (i := 6) sc__law_right.nd rfl (Or.inl rfl))) (fun _ _ _ _ _ => pts_nil) (fun _ _ _ _ _ => (pe_op op_add (qLen K T.b_len (pv 6)) pe_int)))))) (pss_cons (ps_if (pt_cmpR (opEq K hr.units) (pv 4) (pe_lst pa_nil) (nomark _)) (pss_one (ps_ret (pe_cmpR op_isN (pv 3) pe_non (nomark _)))) pss_nil) (pss_cons (ps_if (PW.pt (pw_or (pt_not (pt_val (qIsT K T.b_isinstance T.b_tuple (pv 3)))) (pw_or1 (pt_not (pt_val (pe_call (ok__law_meets T) (hr.mono (by decide)) rfl T._law_meets.g T._law_meets.F.kp (bd__law_meets T._law_meets.F) .nil pass0 (pa_cons (pv 0) (pa_cons (pv 1) (pa_cons (pv 3) (pa_cons (pv 2) pa_nil)))))))))) (pss_one (ps_ret pe_bl)) pss_nil) (pss_one (ps_ret (pe_cmpR op_eq (pe_call (ok_size_of T) (hr.mono (by decide)) rfl T.size_of.g T.size_of.F.kp (bd_size_of T.size_of.F) .nil pass0 (pa_cons (pv 0) (pa_cons (pv 3) pa_nil))) (pe_callB (cr_min rfl) (by rfl) T.b_min (by decide +kernel) (pa_cons (pv 4) pa_nil)) (nomark _))))))))), ?_⟩
  obtain ⟨b, vb, vw, vl, ws, fr, rfl, hb, o, hw, wo, hl, fo, hT, hQ⟩ := h
  have frl : fr.length ≤ 1000 := by
    have := fo.sub.length_le
    have := (asp_len o.asps).2
    omega
  obtain ⟨f1, f5⟩ := o.few
  have bwl : (bWords b).length = b.codes.length := List.length_map _
  refine go_asg (go_call ⟨vb, rfl, vw, rfl, vl, rfl, b, vb, vw, vl, fr, rfl, o.ok, frl, hb, hl, hT, .inr ⟨ws, hw, wo.ok o, .inr (.inr (.inr ⟨fo.ok o, by omega, ⟨_, o.fewP⟩, fun v H1 n1 t1 ch => ?_⟩))⟩⟩)
  obtain ⟨r, hv, run, found⟩ := ch
  have hb1 := dp_t (exT_n n1) _ _ (noL_book b) hb
  have hw1 := hw.t (exT_n n1)
  have hl1 := dp_t (exT_n n1) (eStrs fr) _ (by simpa [noL] using noL_strs _) hl
  have nlr : noL (eOR r) = true := by
    cases r with
    | none => rfl
    | some row => show noL (.tuple _) = true; simpa [noL] using noL_strs row
  -- what the answer is
  have rch : ∀ row, r = some row → ∃ st, Rch ws fr b.codes st row ∧ isDone ws st = true := fun row e => by
    subst e
    obtain ⟨st, h1, h2, _⟩ := found
    exact ⟨st, h1, h2⟩
  have rw8 : ∀ row, r = some row → (∀ x ∈ row, x ∈ words8) ∧ row.length ≤ 60 := fun row e => by
    obtain ⟨st, h1, _⟩ := rch row e
    exact ⟨o.rowW h1.words, Nat.le_trans (h1.row9 o.fewP) (by decide)⟩
  have best : ∀ t, (∀ x ∈ t, x ∈ bWords b) → Meets b ws t fr → ∃ row, r = some row ∧ sizeR row ≤ sizeR t := fun t ht hm => by
    obtain ⟨st, row', h1, h2, h3⟩ := reached o.ao o.fr.ga (wo.nd o) (fun q hq => ⟨wo.sub.subset (List.mem_map.mpr ⟨q, hq, rfl⟩), fun z => fo.off _ z (List.mem_map.mpr ⟨q, hq, rfl⟩)⟩) ht hm
    cases r with
    | none =>
      have := found st row' h1
      rw [h2] at this
      cases this
    | some row =>
      obtain ⟨_, _, _, h6⟩ := found
      exact ⟨row, rfl, Int.le_trans (h6 st row' h1 h2) h3⟩
  have mem : ∀ row, r = some row → row ∈ foundR (bWords b) b.codes.length ∧ Meets b ws row fr := fun row e => by
    obtain ⟨st, h1, h2⟩ := rch row e
    rw [← bwl]
    exact ⟨all_rows.mpr ⟨(h1.unlike o.ao).1, h1.words⟩, h1.meets o.ao h2⟩
  -- the answer by keyword
  refine go_ifS (go_test (go_op (go_cb (go_cons ?_))))
  refine ⟨vb, rfl, vw, rfl, vl, rfl, b, vb, vw, vl, fr, rfl, o.ok, frl, hb1, hl1, t1, .inr ⟨ws, hw1, wo.ok o, .inr (.inr (.inr ⟨fo.ok o, by omega, ⟨_, o.fewP⟩, fun v2 H2 n2 t2 ch2 => ?_⟩))⟩⟩
  obtain ⟨r2, hv2, run2, _⟩ := ch2
  obtain rfl := run.one run2
  have hvb := dp_t (exT_n n2) _ _ nlr hv
  have hb2 := dp_t (exT_n n2) _ _ (noL_book b) hb1
  have hw2 := hw1.t (exT_n n2)
  have hl2 := dp_t (exT_n n2) (eStrs fr) _ (by simpa [noL] using noL_strs _) hl1
  refine ⟨v2, eOR r, reprOf r, rfl, hv2, repr_cond rw8, ?_⟩
  refine (d_repr (K := K) (d_var (i := 3) rfl hvb) rw8) H2 (Ex.refl _) _ fun v3 H3 e3 h3 => ?_
  obtain rfl := dp_str h3
  refine ⟨rfl, _, rfl, ?_⟩
  rw [if_neg (show ¬ ((!decide (V.str (reprOf r) = V.str (reprOf r))) = true) by simp)]
  unfold tNext
  dsimp only
  have hb3 := dp_ex e3 _ _ hb2
  have hw3 := hw2.t (exT_of e3)
  have hl3 := dp_ex e3 _ _ hl2
  have hv3 := dp_ex e3 _ _ hvb
  have fl := foundR_len (bWords b) (by omega) b.codes.length
  have p5 := pow5 (n := b.codes.length) f5
  classical
  refine s_setP (n_lc (K := K) (w_lst (l := foundR (bWords b) b.codes.length) (f := eStrs) (EvN.data (n_call (ds_cons (d_var (i := 0) rfl hb3) ds_nil) ⟨b, rfl, f5, rfl⟩))) (by omega) (fun row => decide (Meets b ws row fr)) (fun row => .int (sizeR row)) (fun _ _ => rfl) fun row hrow y H4 e4 hy => ⟨_, g_name, rfl, t_B (d_is (d_meets (i := 0) (j := 1) (k := 5) (l := 2) rfl rfl rfl rfl (dp_ex e4 _ _ hb3) (hw3.t (exT_of e4)) (isS_tup hy) (dp_ex e4 _ _ hl3) (law_mt o wo ?_)) (by congr)), fun _ => ?_⟩) fun v4 H4 e4 h4 => ?_
  · rw [← bwl] at hrow
    exact (all_rows.mp hrow).2
  · rw [← bwl] at hrow
    obtain ⟨rn, rwd⟩ := all_rows.mp hrow
    have rl : row.length ≤ 5 := by
      have := nd_le rn rwd
      omega
    exact d_sumI (K := K) (l := row) (fun x => ((x.length : Nat) : Int) + 2) (w_tup (f := PyData.str) (d_var (i := 5) rfl hy)) (by omega) fun x hx z H5 e5 hz => ⟨_, g_name, rfl, d_add (d_lenS (d_var (i := 6) rfl hz) (Nat.le_trans (sh_words x (o.rowW rwd x hx)).2.2 (by decide))) d_int⟩
  · obtain ⟨p4, xs4, rfl, _, hp4, hx4⟩ := h4
    have esz : ((foundR (bWords b) b.codes.length).filter fun row => decide (Meets b ws row fr)).map (fun row => PyData.int (sizeR row)) = (((foundR (bWords b) b.codes.length).filter fun row => decide (Meets b ws row fr)).map sizeR).map PyData.int := by rw [List.map_map]; rfl
    rw [esz] at hx4
    have szm : ∀ m, m ∈ ((foundR (bWords b) b.codes.length).filter fun row => decide (Meets b ws row fr)).map sizeR ↔ ∃ t, t ∈ foundR (bWords b) b.codes.length ∧ Meets b ws t fr ∧ m = sizeR t := fun m => by
      rw [List.mem_map]
      constructor
      · rintro ⟨t, ht, rfl⟩
        obtain ⟨h1, h2⟩ := List.mem_filter.mp ht
        exact ⟨t, h1, of_decide_eq_true h2, rfl⟩
      · rintro ⟨t, h1, h2, rfl⟩
        exact ⟨t, List.mem_filter.mpr ⟨h1, decide_eq_true h2⟩, rfl⟩
    generalize ((foundR (bWords b) b.codes.length).filter fun row => decide (Meets b ws row fr)).map sizeR = sz at hx4 szm
    have hb4 := dp_ex e4 _ _ hb3
    have hw4 := hw3.t (exT_of e4)
    have hl4 := dp_ex e4 _ _ hl3
    have hv4 := dp_ex e4 _ _ hv3
    have n4 : ExtN H H4 := (n1.trans n2).trans (ExtN.of (e3.trans e4))
    have t4 := tabs_ex t2 (e3.trans e4)
    have shi : SeqAt.shaped (.list (sz.map PyData.int)) = true := okD.shaped ⟨lay_map fun _ _ => rfl, by
      have := depth_map (e := PyData.int) (l := sz) (n := 0) fun _ _ => Nat.le_refl _
      show PyData.depthAll (sz.map PyData.int) + 1 ≤ 10
      omega⟩
    have xd : ∀ {H5 : Hp} {o5 o6 : Option V}, Ex H4 H5 → EvD K (tVar 4) [some vb, some vw, some vl, some v, some (.ref p4), o5, o6] H5 (.list (sz.map PyData.int)) := fun e => d_var rfl (.lst (sq_of (e _ _ hp4)) (dpAll_ex e _ _ hx4))
    refine Evl.s_if (t_of (K := K) (d_eq (xd (Ex.refl _)) (EvN.data (n_lst ds_nil (by decide))) shi (by decide))) (fun hb5 H5 e5 => ?_) fun hb5 H5 e5 => ?_
    · have he : sz = [] := by
        cases sz with
        | nil => rfl
        | cons a l => exact absurd hb5 (by show ¬ (false = true); decide)
      have hr : r = none := by
        cases hr : r with
        | none => rfl
        | some row =>
          obtain ⟨h1, h2⟩ := mem row hr
          have := (szm _).mpr ⟨row, h1, h2, rfl⟩
          rw [he] at this
          cases this
      subst hr
      obtain rfl := dp_non hv4
      exact ⟨_, rfl, rfl, hQ H5 (n4.trans (ExtN.of e5)) (tabs_ex t4 e5)⟩
    · obtain ⟨m0, sz0, he⟩ : ∃ m0 sz0, sz = m0 :: sz0 := by
        cases sz with
        | nil => exact absurd hb5 (by decide)
        | cons a l => exact ⟨a, l, rfl⟩
      obtain ⟨t0, ht0, hm0, _⟩ := (szm m0).mp (by rw [he]; exact List.mem_cons_self)
      have allw : ∀ {t}, t ∈ foundR (bWords b) b.codes.length → ∀ x ∈ t, x ∈ bWords b := fun {t} ht => by
        rw [← bwl] at ht
        exact (all_rows.mp ht).2
      obtain ⟨row, hr, _⟩ := best t0 (allw ht0) hm0
      subst hr
      obtain ⟨k1, k2⟩ := mem row rfl
      have hvr : Dp K H5 v (eStrs row) := dp_ex e5 _ _ hv4
      refine Evl.s_if (b := false) (tt_orF (tt_notT (t_B (K := K) (d_isT (d_var (i := 3) rfl hvr)))) (tt_notT (t_B (K := K) (d_is (d_meets (i := 0) (j := 1) (k := 3) (l := 2) rfl rfl rfl rfl (dp_ex e5 _ _ hb4) (hw4.t (exT_of e5)) (isS_tup hvr) (dp_ex e5 _ _ hl4) (law_mt o wo (allw k1))) (by rw [decide_eq_true k2]))))) (fun z => by cases z) fun _ H6 e6 => ?_
      have ro : RowOk b row := ⟨(rw8 row rfl).2, allw k1⟩
      refine s_retP (d_is (d_eqI (K := K) (i := sizeR row) (j := sizeR row) (d_call (ds_cons (d_var (i := 0) rfl (dp_ex (e5.trans e6) _ _ hb4)) (ds_cons (d_var (i := 3) rfl (dp_ex e6 _ _ hvr)) ds_nil)) ⟨b, row, rfl, o.ok, ro, rfl⟩) (d_min (xd (e5.trans e6)) ((szm _).mpr ⟨row, k1, k2, rfl⟩) fun m hm => ?_)) (by rw [decide_eq_true rfl])) fun vv H7 e7 hv7 => ?_
      · obtain ⟨t, h1, h2, rfl⟩ := (szm m).mp hm
        obtain ⟨row', hr', hle⟩ := best t (allw h1) h2
        cases hr'
        exact hle
      · obtain rfl := dp_bl hv7
        exact hQ H7 (n4.trans (ExtN.of ((e5.trans e6).trans e7))) (tabs_ex t4 ((e5.trans e6).trans e7))
end
end K26
set_option Elab.async false
set_option linter.all false
set_option maxRecDepth 100000
set_option maxHeartbeats 2000000
/-! KWide: the law's wide books and what is asked of them. -/
namespace K26
open PySem PySem.Spec PyProof.Rows L2 Evl
instance : Decidable (Rising ["a"]) := .isTrue (rise_of (by decide))
theorem rise1 (x : Str) : Rising [x] := rise_of (List.pairwise_singleton _ _)
theorem wide_each : ∀ c ∈ (wideB 11).codes, Word c.1 ∧ Mark c.2.1 ∧ c.2.2 ≠ [] ∧ c.2.2.length ≤ 1 ∧ (c.2.2.all fun p => decide (p.1 = "a" ∧ Mark p.2)) = true ∧ c.2.1 = "k" ∧ c.1.length = 2 := by decide +kernel
theorem wide_nd : ((wideB 11).codes.map (·.1)).Nodup := by decide +kernel
theorem wide_sub {m : Nat} (h : m ≤ 11) : (wideB m).codes.Sublist (wideB 11).codes := List.Sublist.map _ (by
  rw [show (List.range m) = (List.range 11).take m by rw [List.take_range, Nat.min_eq_left h]]
  exact List.take_sublist _ _)
theorem wide_len (m : Nat) : (wideB m).codes.length = m := by
  show ((List.range m).map wideC).length = m
  rw [List.length_map, List.length_range]
theorem mark_a : Mark "a" := by decide +kernel
theorem wide_ok {m : Nat} (h : m ≤ 11) : BookOk (wideB m) := by
  have each : ∀ c ∈ (wideB m).codes, _ := fun c hc => wide_each c ((wide_sub h).subset hc)
  refine ⟨fun a ha => by rw [List.mem_singleton.mp ha]; exact mark_a, rise1 _, by show (1 : Nat) ≤ 1; decide, by show (1 : Nat) ≤ 6; decide, (fun a ha => by cases ha), rise_of .nil, by show (0 : Nat) ≤ 6; decide, (fun a ha => by cases ha), ⟨by rw [wide_len]; omega, fun c hc => ?_, wide_nd.sublist ((wide_sub h).map _), fun c hc p hp => ?_, ["k"], by decide, fun c hc => ?_⟩⟩
  · obtain ⟨h1, h2, h3, h4, h5, h6, h7⟩ := each c hc
    refine ⟨h1, h2, h3, by omega, fun p hp => ?_, ?_⟩
    · have := of_decide_eq_true (List.all_eq_true.mp h5 p hp)
      exact ⟨by rw [this.1]; exact mark_a, this.2⟩
    · match hq : c.2.2, h3, h4 with
      | [p], _, _ => exact rise1 _
  · obtain ⟨h1, h2, h3, h4, h5, h6, h7⟩ := each c hc
    have := of_decide_eq_true (List.all_eq_true.mp h5 p hp)
    rw [this.1]
    exact List.mem_singleton.mpr rfl
  · obtain ⟨h1, h2, h3, h4, h5, h6, h7⟩ := each c hc
    rw [h6]
    exact List.mem_singleton.mpr rfl
theorem wide_few : Few (wideB 10).codes [("a", "k")] := by
  have each : ∀ c ∈ (wideB 10).codes, _ := fun c hc => wide_each c ((wide_sub (by decide)).subset hc)
  refine ⟨by simp, by decide, fun c hc p hp => ?_, fun c hc => ?_, fun c hc => ?_⟩
  · obtain ⟨h1, h2, h3, h4, h5, h6, h7⟩ := each c hc
    obtain ⟨q, hq, rfl⟩ := List.mem_map.mp hp
    have := of_decide_eq_true (List.all_eq_true.mp h5 q hq)
    rw [this.1, h6]
    exact List.mem_singleton.mpr rfl
  · obtain ⟨h1, h2, h3, h4, h5, h6, h7⟩ := each c hc
    rw [List.length_map]
    omega
  · obtain ⟨h1, h2, h3, h4, h5, h6, h7⟩ := each c hc
    omega
abbrev wish1 : List Wish := [("a", [("k", "v")])]
abbrev far1 : List Wish := [("a", [("zz", "u")])]
theorem wish_ok {m : Nat} {k v : Str} (hk : Mark k) (hv : Mark v) : WishOk (wideB m) [("a", [(k, v)])] := ⟨by show (1 : Nat) ≤ 100; decide, fun q hq => by
  rw [List.mem_singleton.mp hq]
  exact ⟨⟨by show (1 : Nat) ≤ 12; decide, (fun p hp => by rw [List.mem_singleton.mp hp]; exact ⟨hk, hv⟩), by simp⟩, by simp⟩, fun q hq => by rw [List.mem_singleton.mp hq]; exact List.mem_singleton.mpr rfl, rise1 _⟩
theorem wish_ok0 {m : Nat} : WishOk (wideB m) [] := ⟨by decide, (fun q hq => by cases hq), (fun q hq => by cases hq), rise_of .nil⟩
theorem free_ok0 {m : Nat} {ws : List Wish} : FreeOk (wideB m) ws [] := ⟨(fun a ha => by cases ha), rise_of .nil, (fun q _ h => by cases h)⟩
theorem free_oka {m : Nat} : FreeOk (wideB m) [] ["a"] := ⟨fun a ha => ha, rise1 _, (fun q hq => by cases hq)⟩
theorem mk_kv : Mark "k" ∧ Mark "v" ∧ Mark "zz" ∧ Mark "u" := by decide +kernel
/-! ### what is asked of the book of eleven -/
inductive Out | many | bad | quest
abbrev Ask := Option (List Wish) × List Str × Out
abbrev asks : List Ask := [(some wish1, [], .many), (none, [], .bad), (some wish1, ["zz"], .quest), (some wish1, ["a"], .quest), (some [], [], .many), (some far1, [], .many), (some [], ["a"], .many)]
def outD : Out → PyData
  | .many => .int 10
  | .bad => .none
  | .quest => .str "question"
def AskOk (q : Ask) : Prop := q.2.1.length ≤ 1 ∧ match q.2.2 with
  | .many => ∃ ws, q.1 = some ws ∧ WishOk (wideB 11) ws ∧ FreeOk (wideB 11) ws q.2.1
  | .bad => q.1 = none
  | .quest => ∃ ws, q.1 = some ws ∧ WishOk (wideB 11) ws ∧ (¬ (∀ a ∈ q.2.1, a ∈ (wideB 11).asps) ∨ ((∀ a ∈ q.2.1, a ∈ (wideB 11).asps) ∧ Rising q.2.1 ∧ ∃ p ∈ ws, p.1 ∈ q.2.1))
theorem asks_ok : ∀ q ∈ asks, AskOk q := by
  obtain ⟨k1, k2, k3, k4⟩ := mk_kv
  intro q hq
  simp only [List.mem_cons, List.not_mem_nil, or_false] at hq
  rcases hq with rfl | rfl | rfl | rfl | rfl | rfl | rfl
  · exact ⟨by decide, _, rfl, wish_ok k1 k2, free_ok0⟩
  · exact ⟨by decide, rfl⟩
  · exact ⟨by decide, _, rfl, wish_ok k1 k2, .inl fun z => by
      have := List.mem_singleton.mp (z "zz" (List.mem_singleton.mpr rfl))
      exact absurd this (by decide)⟩
  · exact ⟨by decide, _, rfl, wish_ok k1 k2, .inr ⟨fun a ha => ha, rise1 _, _, List.mem_singleton.mpr rfl, List.mem_singleton.mpr rfl⟩⟩
  · exact ⟨by decide, _, rfl, wish_ok0, free_ok0⟩
  · exact ⟨by decide, _, rfl, wish_ok k3 k4, free_ok0⟩
  · exact ⟨by decide, _, rfl, wish_ok0, free_oka⟩
/-! ### the book of ten is answered by one word -/
theorem wide_size {r : Option (List Str)} (h : Found wish1 [] (wideB 10).codes r) : ∃ row, r = some row ∧ sizeR row = 4 ∧ RowOk (wideB 10) row := by
  have h1 : wideC 1 ∈ (wideB 10).codes := List.mem_map.mpr ⟨1, by decide, rfl⟩
  have m1 : mayStand wish1 [] (wideC 1) [] = true := by decide +kernel
  have s1 : stepOf [] (wideC 1) ≠ [] := fun z => by
    have : (("a", "k") : Str × Str) ∈ stepOf [] (wideC 1) := mem_step.mpr (.inr (by decide +kernel))
    rw [z] at this
    cases this
  have r1 : Rch wish1 [] (wideB 10).codes (stepOf [] (wideC 1)) [(wideC 1).1] := .cons .nil h1 m1 s1
  have d1 : isDone wish1 (stepOf [] (wideC 1)) = true := done_iff.mpr fun q hq p hp => by
    rw [List.mem_singleton.mp hq] at hp ⊢
    rw [List.mem_singleton.mp hp]
    exact mem_step.mpr (.inr (by decide +kernel))
  have e1 : sizeR [(wideC 1).1] = 4 := by decide +kernel
  cases r with
  | none =>
    have := h _ _ r1
    rw [d1] at this
    cases this
  | some row =>
    obtain ⟨st, h2, h3, h4⟩ := h
    have le := h4 _ _ r1 d1
    rw [e1] at le
    have wd := h2.words
    have l2 : ∀ x ∈ row, x.length = 2 := fun x hx => by
      obtain ⟨c, hc, rfl⟩ := List.mem_map.mp (wd x hx)
      exact (wide_each c ((wide_sub (by decide)).subset hc)).2.2.2.2.2.2
    have ne : row ≠ [] := fun z => by
      subst z
      cases h2
      have := done_iff.mp h3 _ (List.mem_singleton.mpr rfl) _ (List.mem_singleton.mpr rfl)
      cases this
    refine ⟨row, rfl, ?_, Nat.le_trans (h2.row9 wide_few) (by decide), wd⟩
    cases row with
    | nil => exact absurd rfl ne
    | cons x rest =>
      have hx := l2 x List.mem_cons_self
      have nn : 0 ≤ sizeR rest := by
        have : ∀ l : List Str, 0 ≤ sizeR l := fun l => by
          induction l with
          | nil => exact Int.le_refl _
          | cons y l ih => rw [sizeR_cons]; omega
        exact this rest
      rw [sizeR_cons] at le ⊢
      omega
end K26
set_option Elab.async false
set_option linter.all false
set_option maxRecDepth 100000
set_option maxHeartbeats 4000000
/-! KS14: law. -/
namespace K26
open PySem PySem.Spec PyProof.Rows L2 Evl LamX NdefX RZ
/-- what the law's clauses ask of the classes -/
structure LX (K : PySem.W.Frag) (cT cW cQ : Addr) : Prop where
  xT : XfC K cT
  xW : XfC K cW
  tt : PySem.W.exmOne K (.ref cT) (.ref cT) = some true
  wt : PySem.W.exmOne K (.ref cW) (.ref cT) = some false
  ww : PySem.W.exmOne K (.ref cW) (.ref cW) = some true
  qt : PySem.W.exmOne K (.ref cQ) (.ref cT) = some false
  qw : PySem.W.exmOne K (.ref cQ) (.ref cW) = some false
  qq : PySem.W.exmOne K (.ref cQ) (.ref cQ) = some true
def spLaw (K : PySem.W.Frag) (Pt : Addr) : Sp := fun vs H Q _ => ∃ (a : Addr) (ns : List Int), vs = [.ref a] ∧ SqL K H a (ns.map V.int) ∧ ns.length ≤ 63 ∧ Tabs (tb Pt) H ∧ ∀ H', Q (.bl true) H'
section
variable {K : PySem.W.Frag} {σ : L2.St} {H H' : Hp} {ta : TA} {te tb' : TE} {D : Ends}
abbrev VP := V → Hp → Prop
def EvAs (ta : TA) (σ : L2.St) (H : Hp) (Rs : List VP) : Prop := ∀ H1, Ex H H1 → ∀ Q : List V → Hp → Prop, (∀ vs H2, Ex H1 H2 → Paired (fun v (R : VP) => R v H2) vs Rs → Q vs H2) → ta σ H1 Q
theorem as_nil : EvAs tNil σ H [] := fun H1 _ _ q => q [] H1 (Ex.refl _) .nil
theorem as_cons {R : VP} {Rs : List VP} (m : Mono R) (h : EvP te σ H R) (hr : EvAs ta σ H Rs) : EvAs (tCons te ta) σ H (R :: Rs) := fun H1 e Q q =>
  h H1 e _ fun v H2 e2 w => hr H2 (e.trans e2) _ fun vs H3 e3 ws => q (v :: vs) H3 (e2.trans e3) (.cons (m v H2 H3 e3 w) ws)
theorem prs_imp {Rs : List VP} {xs : List V} (h : Paired (fun v (R : VP) => R v H) xs Rs) (m : ∀ R ∈ Rs, ∀ v, R v H → R v H') : Paired (fun v (R : VP) => R v H') xs Rs := by
  induction h with
  | nil => exact .nil
  | cons a _ ih => exact .cons (m _ List.mem_cons_self _ a) (ih fun R hR => m R (List.mem_cons_of_mem _ hR))
def isTup (K : PySem.W.Frag) (Rs : List VP) : VP := fun v H => ∃ a xs, v = .ref a ∧ SqT K H a xs ∧ Paired (fun v (R : VP) => R v H) xs Rs
theorem isTup_mono {Rs : List VP} (m : ∀ R ∈ Rs, Mono R) : Mono (isTup K Rs) := fun v H H' e ⟨a, xs, h1, h2, h3⟩ => ⟨a, xs, h1, ex_t e h2, prs_imp h3 fun R hR v => m R hR v _ _ e⟩
theorem p_tupAs {Rs : List VP} (h : EvAs ta σ H Rs) (m : ∀ R ∈ Rs, Mono R) (hl : Rs.length ≤ 1000) : EvP (tTup ta) σ H (isTup K Rs) := fun H1 e Q q =>
  h H1 e _ fun vs H2 e2 ws => ⟨sz_of (by rw [Paired.length ws]; omega), fun p hp => q _ _ (e2.trans (Ex.new hp)) ⟨p, vs, rfl, st_of upd_same, prs_imp ws fun R hR v => m R hR v _ _ (Ex.new hp)⟩⟩
theorem isTup2 {R1 R2 : VP} {v : V} (h : isTup K [R1, R2] v H) : ∃ a x y, v = .ref a ∧ SqT K H a [x, y] ∧ R1 x H ∧ R2 y H := by
  obtain ⟨a, xs, h1, h2, h3⟩ := h
  cases h3 with
  | cons a1 t =>
    cases t with
    | cons a2 t =>
      cases t
      exact ⟨a, _, _, h1, h2, a1, a2⟩
/-! ### the wishes that are written down -/
theorem rP_mono {q : Wish} : Mono (rP K q) := fun _ _ _ e h => h.t (exT_of e)
theorem p_ws0 : EvP (tTupF tNil) σ H (rWs K []) := fun H1 e Q q => ⟨by show (0 : Nat) ≤ sizeLine; decide, fun p H2 hp ⟨o, o1, o2, o3⟩ => by
  have e3 : Ex H1 H2 := by rw [o3]; exact Ex.new hp
  exact q _ _ e3 ⟨p, [], rfl, ⟨o, by rw [o3, upd_same], o1, o2⟩, .nil⟩⟩
theorem d_f0 : EvD K (tTupF tNil) σ H (eStrs []) := p_ws0.imp fun _ _ _ h => h.dp
theorem p_ws1 {a k v : Str} : EvP (tTupF (tCons (tTup (tCons (tC (.str a)) (tCons (tTupF (tCons (tTup (tCons (tC (.str k)) (tCons (tC (.str v)) tNil))) tNil)) tNil))) tNil)) σ H (rWs K [(a, [(k, v)])]) := fun H1 e Q q => by
  have hc : EvP (tTupF (tCons (tTup (tCons (tC (.str k)) (tCons (tC (.str v)) tNil))) tNil)) σ H (rC K [(k, v)]) :=
    (p_tupF (K := K) (ds := [ePair (k, v)]) (ds_cons (d_tup (ds_cons d_str (ds_cons d_str ds_nil)) (by show (2 : Nat) ≤ 100000; decide)) ds_nil) (by show (1 : Nat) ≤ 100000; decide)).imp fun _ _ _ h => ⟨h.1, fun _ => h.2⟩
  have hp : EvP (tTup (tCons (tC (.str a)) (tCons (tTupF (tCons (tTup (tCons (tC (.str k)) (tCons (tC (.str v)) tNil))) tNil)) tNil))) σ H (rP K (a, [(k, v)])) :=
    (p_tupAs (K := K) (Rs := [fun v _ => v = V.str a, rC K [(k, v)]]) (as_cons (fun _ _ _ _ h => h) (p_c (fun _ _ _ _ h => h) rfl) (as_cons rC_mono hc as_nil)) (fun R hR => by
      simp only [List.mem_cons, List.not_mem_nil, or_false] at hR
      rcases hR with rfl | rfl
      · exact fun _ _ _ _ h => h
      · exact rC_mono) (by show (2 : Nat) ≤ 1000; decide)).imp fun _ _ _ h => by
      obtain ⟨b, x, y, h1, h2, h3, h4⟩ := isTup2 h
      subst h3
      exact ⟨b, y, h1, h2, h4⟩
  refine go_tupF (go_cons ?_)
  refine hp H1 e _ fun x H2 e2 hx => ⟨by show (1 : Nat) ≤ sizeLine; decide, fun p H3 hn ⟨o, o1, o2, o3⟩ => ?_⟩
  have e3 : Ex H2 H3 := by rw [o3]; exact Ex.new hn
  exact q _ _ (e2.trans e3) ⟨p, [x], rfl, ⟨o, by rw [o3, upd_same], o1, o2⟩, .cons (hx.t (exT_of e3)) .nil⟩
/-! ### the asks as values -/
def askW (K : PySem.W.Frag) : Option (List Wish) → VP
  | none => fun v _ => v = .non
  | some ws => rWs K ws
abbrev rAsk (K : PySem.W.Frag) (q : Ask) : VP := isTup K [askW K q.1, isD K (eStrs q.2.1)]
theorem askW_t {o : Option (List Wish)} {v : V} (t : ExT H H') (h : askW K o v H) : askW K o v H' := by
  cases o with
  | none => exact h
  | some ws => exact rWs.t t h
theorem askW_mono {o : Option (List Wish)} : Mono (askW K o) := fun _ _ _ e h => askW_t (exT_of e) h
theorem rAsk_t {q : Ask} {v : V} (t : ExT H H') (h : rAsk K q v H) : rAsk K q v H' := by
  obtain ⟨a, x, y, rfl, h2, h3, h4⟩ := isTup2 h
  exact ⟨a, [x, y], rfl, sqT_t t h2, .cons (askW_t t h3) (.cons (dp_t t (eStrs q.2.1) _ (by simpa [noL] using noL_strs _) h4) .nil)⟩
theorem rAsk_mono {q : Ask} : Mono (rAsk K q) := fun _ _ _ e h => rAsk_t (exT_of e) h
theorem p_ask {q : Ask} {t1 t2 : TE} (h1 : EvP t1 σ H (askW K q.1)) (h2 : EvD K t2 σ H (eStrs q.2.1)) : EvP (tTup (tCons t1 (tCons t2 tNil))) σ H (rAsk K q) :=
  p_tupAs (as_cons askW_mono h1 (as_cons isD_mono h2 as_nil)) (fun R hR => by
    simp only [List.mem_cons, List.not_mem_nil, or_false] at hR
    rcases hR with rfl | rfl
    · exact askW_mono
    · exact isD_mono) (by show (2 : Nat) ≤ 1000; decide)
theorem w_prX {p a : Addr} {acc xs : List V} {l : List Ask} (hp : H p = some (.lst acc)) (hs : SqT K H a xs) (hx : Paired (fun v (R : VP) => R v H) xs (l.map (rAsk K))) : WalkX p (iTup K (tC (.ref a))) σ H l (fun q => rAsk K q) := fun Z z => by
  have hl : xs.length = l.length := by rw [Paired.length hx, List.length_map]
  refine ⟨a, rfl, ⟨xs, hs⟩, z (Itt K a) H _ _ (Ex.refl H) (by rw [← hl]; exact walk_tup) (fun H3 e3 => sqT_t (xb_t hp e3) hs) fun i H3 x H4 b hb hy e3 => ?_⟩
  obtain ⟨rfl, hi⟩ := hy
  obtain ⟨R, hR, hv⟩ := LiI.paired_get hx hi
  rw [List.getElem?_map, hb] at hR
  cases hR
  exact ⟨Ex.refl _, rAsk_t (xb_t hp e3) hv⟩
/-! ### small steps -/
theorem d_min2 {i j : Int} {ta' : TE} (h1 : EvD K ta' σ H (.int i)) (h2 : EvD K tb' σ H (.int j)) : EvD K (tCB (fun xs H Q => ∃ i j, xs = [.int i, .int j] ∧ Q (.int (if j < i then j else i)) H) (tCons ta' (tCons tb' tNil))) σ H (.int (if j < i then j else i)) := fun H1 e Q q =>
  h1 H1 e _ fun x H2 e2 a => h2 H2 (e.trans e2) _ fun y H3 e3 b => by
    obtain rfl := dp_int a
    obtain rfl := dp_int b
    exact ⟨i, j, rfl, q _ H3 (e2.trans e3) (.int _)⟩
theorem n_rep {ds : List PyData} {k : Nat} {ta' : TE} (h1 : EvP ta' σ H (isLst K ds)) (h2 : EvD K tb' σ H (.int (k : Nat))) (hk : k ≤ 100) (hl : ds.length ≤ 100) : EvN K (tOp rRep ta' tb') σ H (List.replicate k ds).flatten := fun H1 e Q q =>
  h1 H1 e _ fun x H2 e2 ⟨p, xs, hv, hp, hx⟩ => h2 H2 (e.trans e2) _ fun y H3 e3 b => by
    subst hv
    obtain rfl := dp_int b
    have l1 := hx.len
    have rl : xs.length * k ≤ 100 * 100 := Nat.mul_le_mul (by omega) hk
    refine ⟨p, (k : Nat), xs, rfl, rfl, e3 _ _ hp, by omega, by omega, sz_of (by rw [Int.toNat_natCast]; omega), fun l hl' => q _ _ ((e2.trans e3).trans (Ex.new hl')) ⟨l, _, rfl, fresh_back ((e.trans e2).trans e3) hl', upd_same, ?_⟩⟩
    rw [Int.toNat_natCast]
    have hx' : DpAll K (upd H3 l (.lst (List.replicate (k : Int).toNat xs).flatten)) xs ds := dpAll_ex (e3.trans (Ex.new hl')) _ _ hx
    have go : ∀ n, DpAll K (upd H3 l (.lst (List.replicate (k : Int).toNat xs).flatten)) (List.replicate n xs).flatten (List.replicate n ds).flatten := by
      intro n
      induction n with
      | zero => exact .nil
      | succ n ih =>
        rw [List.replicate_succ, List.replicate_succ, List.flatten_cons, List.flatten_cons]
        exact hx'.app ih
    exact go k
theorem go_or {t u : TT} {Q : Bool → Hp → Prop} (h : t σ H fun c H1 => if c = true then Q true H1 else u σ H1 Q) : tOr t u σ H Q := h
theorem go_ifS1 {D : Ends} {tt : TT} {tu tw : TS} (h : tt σ H fun b H1 => if b = true then tu D σ H1 else tw D σ H1) : tIfS tt tu tw D σ H := h
theorem go_nil {Q : List V → Hp → Prop} (h : Q [] H) : tNil σ H Q := h
theorem go_callK {sp : Sp} {gV : List V → List V → List V} {E : XK} {tk : TA} {Q : VK} (h : ta σ H fun vs H1 => tk σ H1 fun zs H2 => sp (gV vs zs) H2 Q E) : tCallK sp gV E ta tk σ H Q := h
theorem go_not {t : TT} {Q : Bool → Hp → Prop} (h : t σ H fun c H1 => Q (!c) H1) : tNot t σ H Q := h
theorem go_B {Q : Bool → Hp → Prop} (h : te σ H fun x H1 => ∃ c, x = .bl c ∧ Q c H1) : tB te σ H Q := h
theorem go_callS {sp : Sp} {dvs : List V} {E : L2.St → XK} {Q : VK} (h : ta σ H fun vs H1 => sp (vs ++ dvs) H1 Q (E σ)) : tCallSD sp dvs E ta σ H Q := h
theorem s_forR {g : TG} {tb tz : TS} (h : te σ H fun x H1 => tSeq (tFor (iRng1 (tCons (tC x) tNil)) g tb) tz D σ H1) : tSeq (tFor (iRng1 (tCons te tNil)) g tb) tz D σ H := h
theorem s_forTu {g : TG} {tb tz : TS} (h : te σ H fun x H1 => tSeq (tFor (iTup K (tC x)) g tb) tz D σ H1) : tSeq (tFor (iTup K te) g tb) tz D σ H := h
theorem St.n {d lc ll : Addr} {n : Nat} (S : St d lc ll n H) (e : ExtN H H') : St d lc ll n H' := by
  obtain ⟨⟨a, a1, a2⟩, ⟨cs, ls, b1, b2, b3⟩, c⟩ := S
  exact ⟨⟨a, a1, e _ _ a2 nofun⟩, ⟨cs, ls, e _ _ b1 nofun, e _ _ b2 nofun, b3⟩, c⟩
theorem tabs_s {T : List (Addr × Str)} {d lc ll : Addr} {n : Nat} (t : Tabs T H) (S : St d lc ll n H) (x : ExS d ll H H') : Tabs T H' := fun p hp => by
  obtain ⟨⟨a, a1, a2⟩, ⟨cs, ls, b1, b2, b3⟩, c⟩ := S
  obtain ⟨ps, h1, h2, h3⟩ := t p hp
  have nn : ∀ {b : Addr} {o : HO}, H b = some o → (∀ k, o ≠ .dK k) → (∀ k, o ≠ .lst k) → H' b = some o := fun {b o} hb k1 k2 => x b o (fun z => by rw [z, a2] at hb; exact k1 _ (Option.some.inj hb).symm) (fun z => by rw [z, b2] at hb; exact k2 _ (Option.some.inj hb).symm) hb
  refine ⟨ps, nn h1 nofun nofun, h2, fun pos cv hc => ?_⟩
  obtain ⟨k, e1, e2⟩ := h3 pos cv hc
  refine ⟨k, e1, nn e2 (fun k z => ?_) fun k z => codeO_lst z⟩
  unfold CodeO at z
  cases z
end
section
variable {P : Program} {w : World} {K : PySem.W.Frag} {mg : Str → Option Value} {base : Heap} {c Pt : Addr}
theorem ok_law (T : TX K mg) (Y : SX K mg) (Z : QX K mg) (L : LX K T.xTooMany.C T.xBadWishes.C Z.C) (hc : T.cheapest_row.fd.code = .ref c) (TB : TabB base mg c Pt) : FnG P w K mg base CX0 11 T.law.f T.law.fd ["script"] (spLaw K Pt) := by
  refine ok_quiet T.law.F sc_law (fun vs H Q E h => by obtain ⟨a, ns, rfl, _⟩ := h; rfl) (fun cdv A outer s H vs Q E hq hr h => ?_)
  obtain ⟨dsh, vdshortest_row, bdshortest_row⟩ := bd_shortest_row T.shortest_row.F
  refine ⟨_, PSs.nox (pss_cons (ps_set (i := 1) sc_law.nd rfl (Or.inl rfl) (pe_call (ok__law_begin T) (hr.mono (by decide)) rfl T._law_begin.g T._law_begin.F.kp (bd__law_begin T._law_begin.F) .nil pass0 (pa_cons (pv 0) pa_nil))) (pss_cons (ps_for PassesOwn.never rfl (pi_range1 rfl T.b_range (pa_cons (pe_op op_add pe_int (pe_callB (call_min2 rfl) (by rfl) T.b_min (by decide +kernel) (pa_cons pe_int (pa_cons (qLen K T.b_len (pv 0)) pa_nil)))) pa_nil)) (pg_name (i := 2) sc_law.nd rfl (Or.inl rfl)) (pss_cons (ps_set (i := 3) sc_law.nd rfl (Or.inl rfl) (pe_call (ok__law_book T) (hr.mono (by decide)) rfl T._law_book.g T._law_book.F.kp (bd__law_book T._law_book.F) .nil pass0 (pa_cons (pv 1) (pa_cons pe_int pa_nil)))) (pss_cons (ps_asg (pe_call (ok__law_wishes T) (hr.mono (by decide)) rfl T._law_wishes.g T._law_wishes.F.kp (bd__law_wishes T._law_wishes.F) .nil pass0 (pa_cons (pv 1) (pa_cons (pv 3) pa_nil))) (pg_tup rfl (pgs_cons (pg_name (i := 4) sc_law.nd rfl (Or.inl rfl)) (pgs_cons (pg_name (i := 5) sc_law.nd rfl (Or.inl rfl)) pgs_nil)))) (pss_one (ps_if (PW.pt (pw_or (pt_not (pt_val (pe_quiet (ok__law_right T Y Z hc TB) hq (hr.mono (by decide)) (by rfl) T._law_right.g T._law_right.F.kp (bd__law_right T._law_right.F) pass0 (pa_cons (pv 3) (pa_cons (pv 4) (pa_cons (pv 5) pa_nil)))))) (pw_or1 (pt_not (pt_val (pe_quiet (ok__law_right T Y Z hc TB) hq (hr.mono (by decide)) (by rfl) T._law_right.g T._law_right.F.kp (bd__law_right T._law_right.F) pass0 (pa_cons (pv 3) (pa_cons (pv 4) (pa_cons (pe_tupF pa_nil) pa_nil))))))))) (pss_one (ps_ret pe_bl)) pss_nil))))) (pss_cons (ps_par (i := 6) (j := 7) rfl sc_law.nd rfl rfl (by decide) rfl rfl (pa_cons (pe_tupF (pa_cons (pe_tup (pa_cons pe_str (pa_cons (pe_tupF (pa_cons (pe_tup (pa_cons pe_str (pa_cons pe_str pa_nil))) pa_nil)) pa_nil))) pa_nil)) (pa_cons (pe_lst pa_nil) pa_nil)) (by rfl)) (pss_cons (ps_set (i := 8) sc_law.nd rfl (Or.inl rfl) (pe_tupF (pa_cons (pe_tup (pa_cons pe_str (pa_cons (pe_tupF (pa_cons (pe_tup (pa_cons pe_str (pa_cons pe_str pa_nil))) pa_nil)) pa_nil))) pa_nil))) (pss_cons (ps_for PassesOwn.never rfl (piT K (pe_tup (pa_cons (pe_tup (pa_cons (pv 6) (pa_cons (pe_tupF pa_nil) pa_nil))) (pa_cons (pe_tup (pa_cons pe_non (pa_cons (pe_tupF pa_nil) pa_nil))) (pa_cons (pe_tup (pa_cons (pv 6) (pa_cons (pe_tup (pa_cons pe_str pa_nil)) pa_nil))) (pa_cons (pe_tup (pa_cons (pv 6) (pa_cons (pe_tup (pa_cons pe_str pa_nil)) pa_nil))) (pa_cons (pe_tup (pa_cons (pe_tupF pa_nil) (pa_cons (pe_tupF pa_nil) pa_nil))) (pa_cons (pe_tup (pa_cons (pv 8) (pa_cons (pe_tupF pa_nil) pa_nil))) (pa_cons (pe_tup (pa_cons (pe_tupF pa_nil) (pa_cons (pe_tup (pa_cons pe_str pa_nil)) pa_nil))) pa_nil))))))))) (pg_tup rfl (pgs_cons (pg_name (i := 9) sc_law.nd rfl (Or.inl rfl)) (pgs_cons (pg_name (i := 5) sc_law.nd rfl (Or.inl rfl)) pgs_nil))) (pss_one (ps_try_cls (tb := fun W => tDrop (tBM K "list" rAppend (tVar 7) (tCons (tCallSD (spShort K T.xBadWishes.C Z.C T.xTooMany.C Pt) [] (WE W) (tCons (tCall (SpD K pWide) [] E0 (tCons (tC (.int 11)) tNil)) (tCons (tVar 9) (tCons (tVar 5) tNil)))) tNil))) (W0 := fun _ _ _ _ => False) (ks := [⟨.ref T.xTooMany.C, some 10, fun a cls d => tDrop (tBM K "list" rAppend (tVar 7) (tCons (tXf a cls d T.xTooMany.C "most" (tVar 10)) tNil))⟩, ⟨.ref T.xBadWishes.C, some 10, fun a cls d => tDrop (tBM K "list" rAppend (tVar 7) (tCons (tXf a cls d T.xBadWishes.C "given" (tVar 10)) tNil))⟩, ⟨.ref Z.C, none, fun a cls d => tDrop (tBM K "list" rAppend (tVar 7) (tCons (tC (.str "question")) tNil))⟩]) rfl rfl sc_law.nd L2.takes0 (fun W pn xe tk _ => pss_one (ps_expr (pe_bm PySem.F.plainAttrs_list PySem.F.slot_list_append PySem.F.type_list_append mt_append (pv 7) (pa_cons (pe_callSD (ok_shortest T Y Z hc TB) (hr.mono (by decide)) rfl T.shortest_row.g T.shortest_row.F.kp bdshortest_row vdshortest_row (fun σ => passAt tk σ) (pa_cons (pe_call (ok__law_wide T) (hr.mono (by decide)) rfl T._law_wide.g T._law_wide.F.kp (bd__law_wide T._law_wide.F) .nil pass0 (pa_cons pe_int pa_nil)) (pa_cons (pv 9) (pa_cons (pv 5) pa_nil)))) pa_nil)))) (.named rfl rfl ⟨rfl, by decide, .inl T.xTooMany.g⟩ (fun a ob cls d pn hz hf => pss_one (ps_expr (pe_bm PySem.F.plainAttrs_list PySem.F.slot_list_append PySem.F.type_list_append mt_append (pv 7) (pa_cons (pe_xf L.xT T.xTooMany.noat hz hf (pv 10)) pa_nil)))) (.named rfl rfl ⟨rfl, by decide, .inl T.xBadWishes.g⟩ (fun a ob cls d pn hz hf => pss_one (ps_expr (pe_bm PySem.F.plainAttrs_list PySem.F.slot_list_append PySem.F.type_list_append mt_append (pv 7) (pa_cons (pe_xf L.xW T.xBadWishes.noat hz hf (pv 10)) pa_nil)))) (.bare ⟨rfl, by decide, .inl Z.g⟩ (fun a ob cls d pn hz hf => pss_one (ps_expr (pe_bm PySem.F.plainAttrs_list PySem.F.slot_list_append PySem.F.type_list_append mt_append (pv 7) (pa_cons pe_str pa_nil)))) .nil)))))) (pss_cons (ps_if (pt_cmpR (opNe K hr.units) (pv 7) (pe_op op_cat (pe_lst (pa_cons pe_int (pa_cons pe_non (pa_cons pe_str (pa_cons pe_str pa_nil))))) (pe_op op_rep (pe_lst (pa_cons pe_int pa_nil)) pe_int)) (nomark _)) (pss_one (ps_ret pe_bl)) pss_nil) (pss_one (ps_ret (pe_cmpR op_eq (pe_call (ok_size_of T) (hr.mono (by decide)) rfl T.size_of.g T.size_of.F.kp (bd_size_of T.size_of.F) .nil pass0 (pa_cons (pe_call (ok__law_wide T) (hr.mono (by decide)) rfl T._law_wide.g T._law_wide.F.kp (bd__law_wide T._law_wide.F) .nil pass0 (pa_cons pe_int pa_nil)) (pa_cons (pe_callK (ok_shortest T Y Z hc TB) (hr.mono (by decide)) (by rfl) T.shortest_row.g T.shortest_row.F.kp (kb_shortest_row T.shortest_row.F) (passes_call L2.takes0 (E := E0) fun _ _ _ _ h => h) (pa_cons (pe_call (ok__law_wide T) (hr.mono (by decide)) rfl T._law_wide.g T._law_wide.F.kp (bd__law_wide T._law_wide.F) .nil pass0 (pa_cons pe_int pa_nil)) (pa_cons (pv 6) pa_nil)) (pk_cons (pe_tupF pa_nil) pk_nil)) pa_nil))) pe_int (nomark _)))))))))), ?_⟩
  obtain ⟨a, ns, rfl, ha, hn, hT, hQ⟩ := h
  -- the script and the turns
  refine go_asg (go_call (go_cons ⟨.ref a, rfl, a, ns, rfl, ha, hn, fun d lc ll H1 e1 hd S => ?_⟩))
  have hT1 := tabs_ex hT e1
  have hlist : Dp K H1 (.ref a) (.list (ns.map PyData.int)) := .lst (ex_l e1 ha) (dpAll_ints ns)
  refine s_forR ?_
  refine (d_add (K := K) d_int (d_min2 d_int (d_lenL (d_var (i := 0) rfl hlist)))) H1 (Ex.refl _) _ fun x H2 e2 hx => ?_
  obtain rfl := dp_int hx
  rw [List.length_map]
  obtain ⟨m, hm, m9⟩ : ∃ m : Nat, (3 : Int) + (if ((ns.length : Nat) : Int) < 6 then ((ns.length : Nat) : Int) else 6) = (m : Nat) ∧ m ≤ 9 := by
    by_cases h6 : ns.length < 6
    · exact ⟨3 + ns.length, by rw [if_pos (by omega)]; omega, by omega⟩
    · exact ⟨9, by rw [if_neg (by omega)]; rfl, Nat.le_refl _⟩
  rw [hm]
  have S2 := S.ex e2
  have hT2 := tabs_ex hT1 e2
  refine ⟨(m : Nat), rfl, by omega, by omega, ?_⟩
  rw [Int.toNat_natCast]
  refine for_it walk_range (fun i σ' H' => ∃ o2 o3 o4 o5 o6 o7 o8 o9 o10, σ' = [some (.ref a), some (.ref d), o2, o3, o4, o5, o6, o7, o8, o9, o10] ∧ St d lc ll (100 * i) H' ∧ Tabs (tb Pt) H') ⟨none, none, none, none, none, none, none, none, none, rfl, S2, hT2⟩ (fun _ _ _ _ _ => trivial) ?_ ?_
  · rintro i x σ' H3 H4 hi ⟨o2, o3, o4, o5, o6, o7, o8, o9, o10, rfl, S3, hT3⟩ hy
    obtain ⟨rfl, rfl⟩ := hy
    refine go_asg (go_call (go_cons ⟨.ref d, rfl, go_cons (go_c ?_)⟩))
    refine ⟨d, lc, ll, 100 * i, rfl, S3, by omega, fun vb b H5 hb' hb x5 S5 => ?_⟩
    refine go_asg (go_call (go_cons ⟨.ref d, rfl, go_cons ⟨vb, rfl, ?_⟩⟩))
    refine ⟨d, lc, ll, _, b, vb, rfl, hb, hb', S5, by omega, fun t vw vl ws fr H6 ht hw hl wo fo x6 S6 => ?_⟩
    refine g_two ht _ ?_
    have hb6 := dp_t (ExS.t S5 x6) _ _ (noL_book b) hb
    have hT6 := tabs_s hT3 S3 (x5.trans x6)
    refine go_ifS1 (go_or (go_not (go_B (go_call (go_cons ⟨vb, rfl, go_cons ⟨vw, rfl, go_cons ⟨vl, rfl, ?_⟩⟩⟩)))))
    refine ⟨b, vb, vw, vl, ws, fr, rfl, hb6, hb', hw, wo, hl, fo, hT6, fun H7 n7 hT7 => ⟨true, rfl, ?_⟩⟩
    dsimp only
    rw [if_neg (by decide)]
    have hb7 := dp_t (exT_n n7) _ _ (noL_book b) hb6
    refine go_not (go_B (go_call (go_cons ⟨vb, rfl, go_cons ⟨vw, rfl, go_cons ?_⟩⟩)))
    refine (d_f0 (K := K)) H7 (Ex.refl _) _ fun v0 H8 e8 h0 => ?_
    refine ⟨b, vb, vw, v0, ws, [], rfl, dp_ex e8 _ _ hb7, hb', (hw.t (exT_n n7)).t (exT_of e8), wo, h0, LawFr.free0, tabs_ex hT7 e8, fun H9 n9 hT9 => ⟨true, rfl, ?_⟩⟩
    rw [if_neg (by decide)]
    unfold tNext
    exact ⟨_, _, _, _, _, _, _, _, _, rfl, (((S6.n n7).ex e8).n n9).le (by omega), hT9⟩
  · rintro σ' H3 ⟨o2, o3, o4, o5, o6, o7, o8, o9, o10, rfl, S3, hT3⟩
    -- what is asked of the book of eleven
    dsimp only
    refine go_par (go_cons ?_)
    refine (p_ws1 (K := K)) H3 (Ex.refl _) _ fun v6 H4 e4 h6 => ?_
    refine go_cons ?_
    refine (n_lst (K := K) ds_nil (by decide)) H4 (Ex.refl _) _ fun v7 H5 e5 h7 => ⟨_, _, rfl, ?_⟩
    obtain ⟨pc, xs0, rfl, hpn, hpc, hx0⟩ := h7
    cases hx0
    refine s_setP (p_ws1 (K := K)) fun v8 H6 e6 h8 => ?_
    have h66 := (h6.t (exT_of e5)).t (exT_of e6)
    have hpc6 := e6 _ _ hpc
    have hT6 := tabs_ex (tabs_ex (tabs_ex hT3 e4) e5) e6
    have p6 : ∀ {σ' : L2.St} {H' : Hp}, σ'[6]? = some (some v6) → Ex H6 H' → EvP (tVar 6) σ' H' (askW K (some wish1)) := fun h e => p_var h askW_mono (h66.t (exT_of e))
    have p8 : ∀ {σ' : L2.St} {H' : Hp}, σ'[8]? = some (some v8) → Ex H6 H' → EvP (tVar 8) σ' H' (askW K (some far1)) := fun h e => p_var h askW_mono (h8.t (exT_of e))
    have pn : ∀ {σ' : L2.St} {H' : Hp}, EvP (tC .non) σ' H' (askW K none) := p_c askW_mono rfl
    have p0 : ∀ {σ' : L2.St} {H' : Hp}, EvP (tTupF tNil) σ' H' (askW K (some [])) := p_ws0
    have d1 : ∀ {σ' : L2.St} {H' : Hp} {x : Str}, EvD K (tTup (tCons (tC (.str x)) tNil)) σ' H' (eStrs [x]) := d_tup (ds_cons d_str ds_nil) (by show (1 : Nat) ≤ 100000; decide)
    refine s_forTu ?_
    refine (p_tupAs (K := K) (Rs := asks.map (rAsk K)) (as_cons rAsk_mono (p_ask (p6 rfl (Ex.refl _)) d_f0) (as_cons rAsk_mono (p_ask pn d_f0) (as_cons rAsk_mono (p_ask (p6 rfl (Ex.refl _)) d1) (as_cons rAsk_mono (p_ask (p6 rfl (Ex.refl _)) d1) (as_cons rAsk_mono (p_ask p0 d_f0) (as_cons rAsk_mono (p_ask (p8 rfl (Ex.refl _)) d_f0) (as_cons rAsk_mono (p_ask p0 d1) as_nil))))))) (fun R hR => by
      obtain ⟨q, _, rfl⟩ := List.mem_map.mp hR
      exact rAsk_mono) (by rw [List.length_map]; decide)) H6 (Ex.refl _) _ fun vt H7 e7 ht => ?_
    obtain ⟨pt, xt, rfl, hpt, hxt⟩ := ht
    have hpc7 := e7 _ _ hpc6
    have hT7 := tabs_ex hT6 e7
    have h67 := h66.t (exT_of e7)
    refine s_forX (p := pc) (l := asks) (w_prX hpc7 hpt hxt) (fun i σ' H' => ∃ o5 o9 o10 acc, σ' = [some (.ref a), some (.ref d), o2, o3, o4, o5, some v6, some (.ref pc), some v8, o9, o10] ∧ Tabs (tb Pt) H' ∧ H' pc = some (.lst acc) ∧ DpAll K H' acc ((asks.take i).map fun q => outD q.2.2))
      (fun H8 e8 => ⟨_, _, _, [], rfl, tabs_ex hT7 e8, e8 _ _ hpc7, .nil⟩) ?_ ?_
    · rintro Hb eb i q σ' H8 x H9 hqi x8 ⟨p5, p9, p10, acc, rfl, hT8, hacc, hdp⟩ e9 hx
      have qok := asks_ok q (List.mem_of_getElem? hqi)
      have hi : i < 7 := (List.getElem?_eq_some_iff.mp hqi).1
      have hacc9 := e9 _ _ hacc
      have al : acc.length ≤ 7 := by
        rw [hdp.len, List.length_map, List.length_take]
        omega
      have asz : acc.length < sizeLine := by
        have ez : sizeLine = 16777216 := sizeLine_eq
        omega
      have fin : ∀ {G : Hp} {y : V} {v5 v9 : V} {o10 : Option V}, Ex H9 G → (∀ G' : Hp, Dp K G' y (outD q.2.2)) → Xb pc Hb (upd G pc (.lst (acc ++ [y]))) ∧ ∃ p5 p9 p10 acc', ([some (.ref a), some (.ref d), o2, o3, o4, some v5, some v6, some (.ref pc), some v8, some v9, o10] : L2.St) = [some (.ref a), some (.ref d), o2, o3, o4, p5, some v6, some (.ref pc), some v8, p9, p10] ∧ Tabs (tb Pt) (upd G pc (.lst (acc ++ [y]))) ∧ upd G pc (.lst (acc ++ [y])) pc = some (.lst acc') ∧ DpAll K (upd G pc (.lst (acc ++ [y]))) acc' ((asks.take (i + 1)).map fun q => outD q.2.2) := fun {G y v5 v9 o10} eG hy => by
        have haccG := eG _ _ hacc9
        refine ⟨((x8.trans (Xb.of e9)).trans (Xb.of eG)).trans Xb.put, _, _, _, _, rfl, tabs_updL (tabs_ex (tabs_ex hT8 e9) eG) haccG, upd_same, ?_⟩
        rw [List.take_add_one, hqi, List.map_append]
        exact DpAll.app (dpAll_t (xb_t haccG Xb.put) _ _ (noLs_map fun q _ => by cases q.2.2 <;> rfl) (dpAll_ex (e9.trans eG) _ _ hdp)) (.cons (hy _) .nil)
      obtain ⟨ax, vsm, vlf, rfl, hax, hsm, hlf⟩ := isTup2 hx
      refine g_two hax _ ?_
      refine ⟨.ref pc, rfl, .inl ⟨rfl, _, sq_of hacc9⟩, ?_⟩
      refine go_cons (go_callS (go_cons ?_))
      refine (d_call (K := K) (ds_cons d_int ds_nil) (f := pWide) (d := eBook (wideB 11)) ⟨11, rfl, by decide, rfl⟩) H9 (Ex.refl _) _ fun vb H10 e10 hb => ?_
      refine go_cons ⟨vsm, rfl, go_cons ⟨vlf, rfl, ?_⟩⟩
      obtain ⟨qw, qf, qo⟩ := q
      refine ⟨wideB 11, vb, vsm, vlf, qf, rfl, wide_ok (by decide), (by have := qok.1; dsimp only at this; omega), hb, dp_ex e10 _ _ hlf, tabs_ex (tabs_ex hT8 e9) e10, ?_⟩
      cases qo with
      | many =>
        obtain ⟨_, ws, rfl, wok, fok⟩ := qok
        have hws : rWs K ws vsm H10 := (show rWs K ws vsm H9 from hsm).t (exT_of e10)
        refine .inr ⟨ws, hws, wok, .inr (.inr (.inl ⟨fok, by rw [wide_len]; omega, fun dd H' hdn e' hd' => ?_⟩))⟩
        refine ⟨true, L.tt, fun _ ad had => ?_, fun z => by cases z⟩
        have e9' := e10.trans e'
        refine ⟨.ref pc, rfl, .inl ⟨rfl, _, sq_of (e9' _ _ hacc9)⟩, ?_⟩
        refine go_cons ⟨.ref ad, rfl, rfl, rfl, dd, _, .int 10, rfl, hd', rfl, ?_⟩
        exact ⟨pc, acc, .int 10, rfl, rfl, e9' _ _ hacc9, asz, fin e9' fun _ => .int _⟩
      | bad =>
        obtain ⟨_, rfl⟩ := qok
        refine .inl ⟨hsm, fun dd H' hdn e' hd' => ?_⟩
        refine ⟨false, L.wt, (fun z => by cases z), fun _ => ⟨true, L.ww, fun _ ad had => ?_, fun z => by cases z⟩⟩
        have e9' := e10.trans e'
        refine ⟨.ref pc, rfl, .inl ⟨rfl, _, sq_of (e9' _ _ hacc9)⟩, ?_⟩
        refine go_cons ⟨.ref ad, rfl, rfl, rfl, dd, _, .non, rfl, hd', rfl, ?_⟩
        exact ⟨pc, acc, .non, rfl, rfl, e9' _ _ hacc9, asz, fin e9' fun _ => .non⟩
      | quest =>
        obtain ⟨_, ws, rfl, wok, why⟩ := qok
        have hws : rWs K ws vsm H10 := (show rWs K ws vsm H9 from hsm).t (exT_of e10)
        rcases why with z | z
        · refine .inr ⟨ws, hws, wok, .inl ⟨z, fun H' e' => ?_⟩⟩
          refine ⟨false, L.qt, (fun z => by cases z), fun _ => ⟨false, L.qw, (fun z => by cases z), fun _ => ⟨true, L.qq, fun _ ad had => ?_, fun z => by cases z⟩⟩⟩
          have e9' := e10.trans e'
          refine ⟨.ref pc, rfl, .inl ⟨rfl, _, sq_of (e9' _ _ hacc9)⟩, ?_⟩
          refine go_cons (go_c ?_)
          exact ⟨pc, acc, .str "question", rfl, rfl, e9' _ _ hacc9, asz, fin e9' fun _ => .str _⟩
        · refine .inr ⟨ws, hws, wok, .inr (.inl ⟨z.1, z.2.1, z.2.2, fun H' e' => ?_⟩)⟩
          refine ⟨false, L.qt, (fun z => by cases z), fun _ => ⟨false, L.qw, (fun z => by cases z), fun _ => ⟨true, L.qq, fun _ ad had => ?_, fun z => by cases z⟩⟩⟩
          have e9' := e10.trans e'
          refine ⟨.ref pc, rfl, .inl ⟨rfl, _, sq_of (e9' _ _ hacc9)⟩, ?_⟩
          refine go_cons (go_c ?_)
          exact ⟨pc, acc, .str "question", rfl, rfl, e9' _ _ hacc9, asz, fin e9' fun _ => .str _⟩
    · rintro σ' H8 x8 ⟨p5, p9, p10, acc, rfl, hT8, hacc, hdp⟩
      rw [List.take_length] at hdp
      dsimp only
      have hc8 : Dp K H8 (.ref pc) (.list (asks.map fun q => outD q.2.2)) := .lst (sq_of hacc) hdp
      have cq : (PyData.list (asks.map fun q => outD q.2.2)).eqv (.list ([.int 10, .none, .str "question", .str "question"] ++ (List.replicate 3 [PyData.int 10]).flatten)) = true := by decide +kernel
      refine Evl.s_if (b := false) (t_of (K := K) (d_is (d_ne (d_var (i := 7) rfl hc8) (EvN.data (n_catLst (EvP.imp (n_lst (K := K) (ds := [.int 10, .none, .str "question", .str "question"]) (ds_cons d_int (ds_cons d_non (ds_cons d_str (ds_cons d_str ds_nil)))) (by show (4 : Nat) ≤ 100000; decide)) fun _ _ _ h => isL_lst h) (EvP.imp (n_rep (k := 3) (EvP.imp (n_lst (K := K) (ds := [.int 10]) (ds_cons d_int ds_nil) (by show (1 : Nat) ≤ 100000; decide)) fun _ _ _ h => isL_lst h) d_int (by decide) (by show (1 : Nat) ≤ 100; decide)) fun _ _ _ h => isL_lst h) (by decide +kernel))) (by decide +kernel) (by decide +kernel)) (by rw [cq]; rfl))) (fun z => by cases z) fun _ H9 e9 => ?_
      have h69 := (h67.t (xb_t hpc7 x8)).t (exT_of e9)
      have hT9 := tabs_ex hT8 e9
      unfold tNext
      dsimp only
      refine go_ret (go_op (go_call (go_cons ?_)))
      have w10 : ∀ {σ' : L2.St} {H' : Hp}, EvD K (tCall (SpD K pWide) [] E0 (tCons (tC (.int 10)) tNil)) σ' H' (eBook (wideB 10)) := d_call (ds_cons d_int ds_nil) ⟨10, rfl, by decide, rfl⟩
      refine w10 H9 (Ex.refl _) _ fun vb1 H10 e10 hb1 => ?_
      refine go_cons (go_callK (go_cons ?_))
      refine w10 H10 (Ex.refl _) _ fun vb2 H11 e11 hb2 => ?_
      refine go_cons ⟨v6, rfl, ?_⟩
      refine go_nil ?_
      refine go_cons ?_
      refine (d_f0 (K := K)) H11 (Ex.refl _) _ fun v0 H12 e12 h0 => ?_
      obtain ⟨k1, k2, _, _⟩ := mk_kv
      refine ⟨wideB 10, vb2, v6, v0, [], rfl, wide_ok (by decide), by decide, dp_ex e12 _ _ hb2, h0, tabs_ex (tabs_ex (tabs_ex hT9 e10) e11) e12, .inr ⟨wish1, ((h69.t (exT_of e10)).t (exT_of e11)).t (exT_of e12), wish_ok k1 k2, .inr (.inr (.inr ⟨free_ok0, by rw [wide_len]; decide, ⟨_, wide_few⟩, fun v H13 n13 t13 ch => ?_⟩))⟩⟩
      obtain ⟨r, hv, _, found⟩ := ch
      obtain ⟨row, rfl, sz4, ro⟩ := wide_size found
      have hb13 := dp_t (exT_n n13) _ _ (noL_book _) (dp_ex (e11.trans e12) _ _ hb1)
      refine ⟨_, _, .cons hb13 (.cons hv .nil), ⟨wideB 10, row, rfl, wide_ok (by decide), ro, rfl⟩, fun u H14 e14 hu => ?_⟩
      obtain rfl := dp_int hu
      rw [sz4]
      refine go_c ?_
      refine ⟨rfl, ?_⟩
      rw [decide_eq_true rfl]
      exact hQ _
end
end K26
set_option Elab.async false
set_option linter.all false
set_option maxRecDepth 100000
set_option maxHeartbeats 4000000
/-! KEnd: the law's end, where its def asks that no repr is under way. -/
namespace K26
open PySem PySem.Spec PyProof.Rows L2 LamX
abbrev noObj : Obj := { cls := .none, data := .fields #[] }
abbrev scObj (vs : List Value) : Obj := { cls := .type "list", data := .seq vs.toArray }
/-- how the law is entered: the head's heap, the one table of a code object, the script -/
structure Entry (K : PySem.W.Frag) (mg mb : Str → Option Value) (s : Shared) (a c Pt : Addr) (vs : List Value) (ns : List Int) : Prop where
  kin : K.In s.heap
  gl : s.heap.Ns mainGlobals mg
  bn : s.heap.Ns builtinsNs mb
  bb : ∀ y : Str, y ≠ "__name__" → mb y = bootBuiltins y
  nl : s.heap.NoLimit
  gn : s.gens = #[]
  tab : s.heap.get? Pt = some noObj
  out : K.lookup Pt = none
  hd : PySem.W.CodeHd s.heap c Pt
  bm : ∃ (m : Addr) (o : Obj), mg "__builtins__" = some (.ref m) ∧ m ≠ builtinsNs ∧ s.heap.get? m = some o ∧ o.cls = .type "module" ∧ o.dict = some builtinsNs ∧ o.data = .plain
  sc : s.heap.get? a = some (scObj vs)
  nums : IntsAre vs ns
  few : ns.length ≤ sizeLine
/-- what is told at the start: the table, and the script where K does not hold it -/
def hp0 (K : PySem.W.Frag) (a Pt : Addr) (vs : List Value) (ns : List Int) : Hp := fun b => if b = Pt then some (.tbl #[]) else match decide (b = a), K.lookup a with
  | true, none => some (.frz (scObj vs) (.lst (ns.map V.int)))
  | _, _ => none
section
variable {P : Program} {w : World} {K : PySem.W.Frag} {mg mb : Str → Option Value} {s : Shared} {a c Pt : Addr} {vs : List Value} {ns : List Int} {b : Addr} {u : HO}
theorem hp0_at (h : hp0 K a Pt vs ns b = some u) : (b = Pt ∧ u = .tbl #[]) ∨ (b = a ∧ b ≠ Pt ∧ K.lookup a = none ∧ u = .frz (scObj vs) (.lst (ns.map V.int))) := by
  unfold hp0 at h
  by_cases e : b = Pt
  · rw [if_pos e] at h
    exact .inl ⟨e, (Option.some.inj h).symm⟩
  · rw [if_neg e] at h
    by_cases e2 : b = a
    · rw [decide_eq_true e2] at h
      cases q : K.lookup a with
      | none =>
        rw [q] at h
        exact .inr ⟨e2, e, rfl, (Option.some.inj h).symm⟩
      | some o =>
        rw [q] at h
        cases h
    · rw [decide_eq_false e2] at h
      cases h
theorem Entry.apart (I : Entry K mg mb s a c Pt vs ns) : a ≠ Pt := fun z => by
  have h := I.sc
  rw [z, I.tab] at h
  have h2 : Data.fields #[] = Data.seq vs.toArray _ := congrArg Obj.data (Option.some.inj h)
  cases h2
theorem hp0_tab : hp0 K a Pt vs ns Pt = some (.tbl #[]) := if_pos rfl
theorem Entry.sq (I : Entry K mg mb s a c Pt vs ns) : SqL K (hp0 K a Pt vs ns) a (ns.map V.int) := by
  have rel := vals_ints I.nums
  have hl := I.nums.length
  cases q : K.lookup a with
  | none =>
    refine .inl (.inr ⟨scObj vs, ?_⟩)
    unfold hp0
    rw [if_neg I.apart, decide_eq_true rfl, q]
  | some o =>
    have e := I.kin a o q
    rw [I.sc] at e
    obtain rfl := Option.some.inj e
    exact .inr ⟨_, vs.toArray, _, q, rfl, rfl, rfl, by rw [List.size_toArray, hl]; exact I.few, by simpa using rel⟩
theorem Entry.ok (I : Entry K mg mb s a c Pt vs ns) : HOk P w (hp0 K a Pt vs ns) s.heap := fun b u h => by
  rcases hp0_at h with ⟨rfl, rfl⟩ | ⟨rfl, _, _, rfl⟩
  · exact I.tab
  · exact ⟨I.sc, by rw [List.length_map]; exact I.few, vs, _, vals_ints I.nums, I.sc⟩
/-- what is no list and no table is not told of -/
theorem Entry.not (I : Entry K mg mb s a c Pt vs ns) {o : Obj} (e : s.heap.get? b = some o) (h1 : ∀ x n, o.data ≠ .seq x n) (h2 : o.data ≠ .fields #[]) : hp0 K a Pt vs ns b = none := by
  cases q : hp0 K a Pt vs ns b with
  | none => rfl
  | some u =>
    rcases hp0_at q with ⟨rfl, _⟩ | ⟨rfl, _, _, _⟩
    · rw [I.tab] at e
      obtain rfl := Option.some.inj e
      exact absurd rfl h2
    · rw [I.sc] at e
      obtain rfl := Option.some.inj e
      exact absurd rfl (h1 _ _)
theorem Entry.stay (I : Entry K mg mb s a c Pt vs ns) {o : Obj} (e : s.heap.get? b = some o) (h1 : ∀ x n, o.data ≠ .seq x n) (h2 : o.data ≠ .fields #[]) : (hidT s.heap (hp0 K a Pt vs ns)).get? b = some o := hidT_get e (I.not e h1 h2)
theorem Entry.nm (I : Entry K mg mb s a c Pt vs ns) {m : Str → Option Value} (h : s.heap.Ns b m) : (hidT s.heap (hp0 K a Pt vs ns)).Ns b m := by
  obtain ⟨o, es, ep, e, d, r⟩ := h
  exact ⟨o, es, ep, I.stay e (fun x n z => by rw [d] at z; cases z) (fun z => by rw [d] at z; cases z), d, r⟩
theorem Entry.kinB (I : Entry K mg mb s a c Pt vs ns) : K.In (hidT s.heap (hp0 K a Pt vs ns)) := fun b o e => hidT_get (I.kin b o e) (by
  cases q : hp0 K a Pt vs ns b with
  | none => rfl
  | some u =>
    rcases hp0_at q with ⟨rfl, _⟩ | ⟨rfl, _, n, _⟩
    · rw [I.out] at e
      cases e
    · rw [n] at e
      cases e)
theorem Entry.tabB (I : Entry K mg mb s a c Pt vs ns) : TabB (hidT s.heap (hp0 K a Pt vs ns)) mg c Pt := by
  refine ⟨?_, ?_, fun z => ?_⟩
  · obtain ⟨o, us, file, tf, flags, tg, inF, text, tt, e, r1, r2, r3, r⟩ := I.hd
    refine ⟨o, us, file, tf, flags, tg, inF, text, tt, I.stay e (fun x n z => by rw [r2] at z; cases z) (fun z => ?_), r1, r2, r3, r⟩
    rw [r2] at z
    injection z with z
    rw [z] at r3
    cases r3
  · obtain ⟨m, o, b1, b2, b3, b4, b5, b6⟩ := I.bm
    have m1 : m ≠ mainGlobals := fun q => by
      obtain ⟨o', es, ep, e, d, _⟩ := I.gl
      rw [← q, b3] at e
      obtain rfl := Option.some.inj e
      rw [b6] at d
      cases d
    have m2 : m ≠ Pt := fun q => by
      rw [q, I.tab] at b3
      obtain rfl := Option.some.inj b3
      cases b6
    exact ⟨m, o, b1, b2, m1, m2, I.stay b3 (fun x n z => by rw [b6] at z; cases z) (fun z => by rw [b6] at z; cases z), b4, b5, b6⟩
  · obtain ⟨o, es, ep, e, d, _⟩ := I.gl
    rw [z, I.tab] at e
    obtain rfl := Option.some.inj e
    cases d
theorem Entry.mod (I : Entry K mg mb s a c Pt vs ns) : L2.Mod K mg (hidT s.heap (hp0 K a Pt vs ns)) := by
  obtain ⟨mc, l1, l2⟩ := I.nl
  exact ⟨I.kinB, I.nm I.gl, ⟨mb, I.nm I.bn, I.bb⟩, mc, I.nm l1, l2⟩
/-- the law's call, by its promise -/
theorem Entry.call {CX : CXT} {k : Nat} {fa : Addr} {fd : FuncData} {x : Str} {sp : Sp} (I : Entry K mg mb s a c Pt vs ns) (room : Room k callerA)
    (F : ∀ base : Heap, K.In base → base.Ns mainGlobals mg → TabB base mg c Pt → FnG P w K mg base CX k fa fd [x] sp) (bind : ∀ (s' : Shared) (v : Value), BindsTo s' fd ⟨[v], []⟩ [(x, v)])
    (promise : ∀ H : Hp, H Pt = some (.tbl #[]) → SqL K H a (ns.map V.int) → sp [.ref a] H (fun v _ => v = .bl true) fun _ _ _ => False)
    (quiet : ∀ H e s', CX [] H s (fun _ _ _ => False) e s' → False) :
    codeAny (model P w) callerA (.call (.ref fa) ⟨[.ref a], []⟩) (fun r s' => r = .ok (.ret (.bool true)) ∧ OldK s.heap s'.heap ∧ s'.os = s.os ∧ AllBare s'.gens) s := by
  have start : Env0 P w K mg (hidT s.heap (hp0 K a Pt vs ns)) callerA [] s (hp0 K a Pt vs ns) := ⟨rfl, I.mod, fun b o e => of_hidT e, Nat.le_of_eq (hidT_size _ _), trivial, (fun b hb => by cases hb), I.ok, .of_eq I.gn⟩
  refine codeAny_mono ((F _ I.kinB (I.nm I.gl) I.tabB).run callerA [] s (hp0 K a Pt vs ns) ⟨[.ref a], []⟩ [.ref a] [.ref a] _ _ rfl room start (bind s (.ref a)) (.cons rfl .nil) (promise _ hp0_tab I.sq)) ?_
  rintro (err | fl) s' got
  · exact (quiet _ err s' got).elim
  · cases fl with
    | next => exact got.elim
    | brk => exact got.elim
    | cont => exact got.elim
    | ret r =>
      obtain ⟨v, H', os, bare, un, ok', rel, rfl⟩ := got
      obtain rfl : r = Value.bool true := rel
      obtain ⟨more, grown⟩ := un.tbls Pt #[] hp0_tab
      have tab' := ok' Pt _ grown
      have keep : ∀ b o, b ≠ Pt → s.heap.get? b = some o → s'.heap.get? b = some o := fun b o nb e => by
        cases q : hp0 K a Pt vs ns b with
        | none => exact un.keep b o e q (fun z => by cases z) (by simp)
        | some u =>
          rcases hp0_at q with ⟨z, _⟩ | ⟨rfl, _, _, rfl⟩
          · exact absurd z nb
          · obtain ⟨e2, _⟩ := ok' b _ (un.frzs b _ _ q)
            rw [I.sc] at e
            obtain rfl := Option.some.inj e
            exact e2
      refine ⟨rfl, ⟨fun b o e => ?_, fun b o e => ?_⟩, os, bare⟩
      · by_cases hb : b = Pt
        · subst hb
          rw [I.tab] at e
          obtain rfl := Option.some.inj e
          exact .inr (.inl ⟨(I.hd.tab I.tab).isCodeTable, rfl, #[], _, rfl, by rw [Array.empty_append]; exact tab'⟩)
        · exact .inl (keep b o hb e)
      · by_cases hb : b = Pt
        · subst hb
          exact ⟨_, tab'⟩
        · exact ⟨o, keep b o hb e⟩
end
/-- what the head's facts give of the law -/
def LawG (l : PySem.W.OpenLaw) (w : World) (K : PySem.W.Frag) (CX : CXT) (k n : Nat) (x : Str) (mg : Str → Option Value) (fa : Addr) (h : Heap) : Prop :=
  ∃ (fd : FuncData) (c Pt : Addr) (sp : Sp), h.get? Pt = some noObj ∧ K.lookup Pt = none ∧ PySem.W.CodeHd h c Pt ∧ (∀ (s : Shared) (v : Value), BindsTo s fd ⟨[v], []⟩ [(x, v)]) ∧
    (∀ (H : Hp) (a : Addr) (ns : List Int), ns.length ≤ n → H Pt = some (.tbl #[]) → SqL K H a (ns.map V.int) → sp [.ref a] H (fun v _ => v = .bl true) fun _ _ _ => False) ∧
    ∀ base : Heap, K.In base → base.Ns mainGlobals mg → TabB base mg c Pt → FnG l.prog w K mg base CX k fa fd [x] sp
theorem walk_G {l : PySem.W.OpenLaw} {n k : Nat} {q : Program} {loose : List Str} {XP : (Str → Option Value) → Heap → Prop} {YP : World → Heap → Prop} {d : DefRec} {CX : World → CXT} {x : Str}
    (most : l.most = some n) (small : n ≤ sizeLine) (plain : d.params.defaults = []) (room : Room k callerA)
    (give : ∀ (w : World) (mg : Str → Option Value) (fa : Addr) (h : Heap), YP w h → h.Ns mainGlobals mg → mg d.name = some (.ref fa) → ∃ K : PySem.W.Frag, K.In h ∧ LawG l w K (CX w) k n x mg fa h)
    (quiet : ∀ (w : World) (H : Hp) (s : Shared) (e : Value) (s' : Shared), CX w [] H s (fun _ _ _ => False) e s' → False) :
    PySem.W.WalkO q loose XP YP l.row.toRowW d [] (fun f vs => PySem.call f vs) :=
  Att.attach_callB most plain fun w s₀ s₁ mg mb fa o pm cd doc a vs ns G Y ho hd hcd hmg hobj hints hlen hbits hg => by
    obtain ⟨K, kin, fd, c, Pt, sp, tab, out, hdr, bind, promise, F⟩ := give w mg fa _ Y G.T.g hmg
    have I : Entry K mg mb s₁ a c Pt vs ns := ⟨kin, G.T.g, G.T.b, G.T.builtins, G.T.nolimit, hg, tab, out, hdr, G.T.bmain, hobj, hints, Nat.le_trans hlen small⟩
    exact I.call room F bind (fun H h1 h2 => promise H a ns hlen h1 h2) fun H e s' => quiet w H s₁ e s'
end K26
set_option Elab.async false
set_option linter.all false
set_option maxRecDepth 100000
set_option maxHeartbeats 0
/-! KHead: what the head's run is asked. -/
namespace K26
open PySem PySem.Spec PyProof.Rows L2
def oeB (K : PySem.W.Frag) (C : Addr) : Bool := match K.lookup C with
  | some ⟨.type t, _, .cls cd, sl⟩ => decide (t = "type") && (cd.hasDict && (!cd.hasDel && ((match cd.mro with
    | .ref D :: bm => decide (D = C) && PySem.HandSPX.refsVE bm
    | _ => false) && (match sl.toList with
    | [_, _, _, _, some (.builtin n), _] => decide (n = "ValueError.__new__")
    | _ => false))))
  | _ => false
def exB (K : PySem.W.Frag) (x f : Str) : Bool := oeB K (He.ga K x) && (He.eqO (PySem.W.findIn K (.ref (He.ga K x)) "__setattr__") (some (some (.builtin "object.__setattr__"))) && (decide (PySem.W.subIn K (.ref (He.ga K x)) (.type "BaseException") = some true) && (decide (PySem.W.typeIn K (.ref (He.ga K x)) = some (.type "type")) && (PySem.W.keepIn K (.ref (He.ga K x)) &&
  (He.eqO (PySem.W.findIn K (.ref (He.ga K x)) "__init__") (some (some (.ref (He.ma K (He.ga K x) "__init__")))) && (decide (PySem.W.typeIn K (.ref (He.ma K (He.ga K x) "__init__")) = some (.type "function")) && He.eqO (PySem.W.findIn K (.ref (He.ga K x)) f) (some none)))))))
def seB (K : PySem.W.Frag) (S : Addr) : Bool := He.eqO (PySem.W.specialIn K (.ref S) "__getattribute__") (some (some (.builtin "type.__getattribute__"))) && (PySem.W.readsIn K S (.type "type") && (match PySem.W.findCls K (.ref S) (.type "type") "__init__" with
  | some (.val (.builtin n)) => decide (n = "ValueError.__init__")
  | _ => false))
def t0B (K : PySem.W.Frag) (a : Addr) : Bool := match K.lookup a with
  | some ⟨.type c, _, .seq us _, _⟩ => decide (c = "tuple") && us.isEmpty
  | _ => false
def dd (x : Str) (st : Stmt) (ds : List He.Dv) : He.DefD := ⟨(x, none), x, x, defArgs st, defBody st, defScope st, ds, []⟩
def dm (C m q : Str) (st : Stmt) : He.DefD := ⟨(C, some m), m, q, defArgs st, defBody st, defScope st, [], []⟩

def fns : List He.DefD := [dd "is_of" s_is_of [],
  dd "is_mark" s_is_mark [],
  dd "is_word" s_is_word [],
  dd "are_rising" s_are_rising [],
  dd "are_marks" s_are_marks [],
  dd "are_gives" s_are_gives [],
  dd "is_code" s_is_code [],
  dd "need_codes" s_need_codes [],
  dd "need_book" s_need_book [],
  dd "codes_in" s_codes_in [],
  dd "is_chain" s_is_chain [],
  dd "are_words" s_are_words [],
  dd "are_aspects" s_are_aspects [],
  dd "need_row" s_need_row [],
  dd "size_in" s_size_in [],
  dd "size_of" s_size_of [],
  dd "are_wishes" s_are_wishes [],
  dd "need_wishes" s_need_wishes [.adr (He.dflAt ("need_wishes", none) 0)],
  dd "pairs_of" s_pairs_of [],
  dd "is_done" s_is_done [],
  dd "cheapest_row" s_cheapest_row [],
  dd "shortest_row" s_shortest_row [.adr (He.dflAt ("shortest_row", none) 0)],
  dd "_law_mixed" s__law_mixed [],
  dd "_law_begin" s__law_begin [],
  dd "_law_draw" s__law_draw [],
  dd "_law_of" s__law_of [],
  dd "_law_codes" s__law_codes [],
  dd "_law_sets" s__law_sets [],
  dd "_law_book" s__law_book [],
  dd "_law_value" s__law_value [],
  dd "_law_front" s__law_front [],
  dd "_law_worth" s__law_worth [],
  dd "_law_meets" s__law_meets [],
  dd "_law_all_rows" s__law_all_rows [],
  dd "_law_wishes" s__law_wishes [],
  dd "_law_right" s__law_right [],
  dd "_law_wide" s__law_wide [],
  dd "law" s_law [],
  dm "Wanted" "is_due" "Wanted.is_due" s_Wanted_is_due,
  dm "Wanted" "may_stand" "Wanted.may_stand" s_Wanted_may_stand,
  dm "Wanted" "goal" "Wanted.goal" s_Wanted_goal,
  dm "Wanted" "__init__" "Wanted.__init__" s_Wanted_init,
  dm "BadBook" "__init__" "BadBook.__init__" s_BadBook_init,
  dm "BadRow" "__init__" "BadRow.__init__" s_BadRow_init,
  dm "BadWishes" "__init__" "BadWishes.__init__" s_BadWishes_init,
  dm "TooMany" "__init__" "TooMany.__init__" s_TooMany_init]
def fas : List He.Fa := [.glo "is_of",
  .glo "is_mark",
  .glo "is_word",
  .glo "are_rising",
  .glo "are_marks",
  .glo "are_gives",
  .glo "is_code",
  .glo "need_codes",
  .glo "need_book",
  .glo "codes_in",
  .glo "is_chain",
  .glo "are_words",
  .glo "are_aspects",
  .glo "need_row",
  .glo "size_in",
  .glo "size_of",
  .glo "are_wishes",
  .glo "need_wishes",
  .glo "pairs_of",
  .glo "is_done",
  .glo "cheapest_row",
  .glo "shortest_row",
  .glo "_law_mixed",
  .glo "_law_begin",
  .glo "_law_draw",
  .glo "_law_of",
  .glo "_law_codes",
  .glo "_law_sets",
  .glo "_law_book",
  .glo "_law_value",
  .glo "_law_front",
  .glo "_law_worth",
  .glo "_law_meets",
  .glo "_law_all_rows",
  .glo "_law_wishes",
  .glo "_law_right",
  .glo "_law_wide",
  .glo "law",
  .free "isinstance",
  .free "len",
  .free "str",
  .free "tuple",
  .free "all",
  .free "any",
  .free "range",
  .free "sum",
  .free "dict",
  .free "set",
  .free "sorted",
  .free "enumerate",
  .free "zip",
  .free "list",
  .free "int",
  .free "min",
  .free "repr",
  .free "ValueError",
  .int "MOST_SIGNS" 8,
  .int "MOST_ASPECTS" 6,
  .int "MOST_CODES_books" 16,
  .int "MOST_KINDS" 6,
  .int "MOST_KNOWN" 12,
  .int "MOST_WORDS" 60,
  .int "MOST_CODES_rows" 10,
  .int "MORE_SIGNS" 2,
  .str "LETTERS" "abcdefghijklmnopqrstuvwxyz",
  .str "FIGURES" "0123456789",
  .str "PART" ";",
  .glo "Wanted",
  .glo "BadBook",
  .glo "BadRow",
  .glo "BadWishes",
  .glo "TooMany",
  .glo "BadQuestion",
  .glo "StyleError",
  .cls "Wanted",
  .noat "Wanted" "wishes",
  .noat "Wanted" "free",
  .mkr "Wanted",
  .exc "BadQuestion",
  .meth "Wanted" "is_due",
  .meth "Wanted" "may_stand",
  .meth "Wanted" "goal",
  .exm "BadBook" "BadBook" true,
  .exm "BadRow" "BadRow" true,
  .exm "TooMany" "TooMany" true,
  .exm "BadWishes" "TooMany" false,
  .exm "BadWishes" "BadWishes" true,
  .exm "BadQuestion" "TooMany" false,
  .exm "BadQuestion" "BadWishes" false,
  .exm "BadQuestion" "BadQuestion" true]
def exs (K : PySem.W.Frag) : Bool := exB K "BadBook" "place" && (exB K "BadRow" "given" && (exB K "BadWishes" "given" && (exB K "TooMany" "most" && (seB K (He.ga K "StyleError") && (xfB K (He.ga K "TooMany") && (xfB K (He.ga K "BadWishes") && (t0B K (He.dflAt ("need_wishes", none) 0 K) && (t0B K (He.dflAt ("shortest_row", none) 0 K)))))))))
abbrev cR : He.Defn := ("cheapest_row", none)
abbrev kOf (g : Addr → Option Obj) : PySem.W.Frag := He.frT g (He.asD g 5 ++ [cStatics])
/-- the def's table is there, empty -/
def tabE (g : Addr → Option Obj) (K : PySem.W.Frag) : Bool := PySem.W.codeHdIn K (He.codeOf K cR) (He.tabOf K (He.codeOf K cR)) && (match g (He.tabOf K (He.codeOf K cR)) with
  | some o => He.emptyTab o
  | none => false)
abbrev AlK : Type := He.AlD × Bool
def obK (g : Addr → Option Obj) : AlK := (He.obsD fas fns (kOf g), exs (kOf g) && tabE g (kOf g))
structure SayK (h : Heap) (K : PySem.W.Frag) : Prop where
  d : He.SaysD fas fns K
  more : exs K = true
  hd : PySem.W.codeHdIn K (He.codeOf K cR) (He.tabOf K (He.codeOf K cR)) = true
  out : K.lookup (He.tabOf K (He.codeOf K cR)) = none
  tab : h.get? (He.tabOf K (He.codeOf K cR)) = some { cls := .none, data := .fields #[] }
theorem say_of {h : Heap} (e : obK h.get? = (He.valD fns, true)) : SayK h (kOf h.get?) := by
  obtain ⟨e1, e2⟩ := Prod.mk.inj e
  obtain ⟨e2, e3⟩ := He.ba e2
  obtain ⟨e3, e4⟩ := He.ba e3
  split at e4
  · rename_i o q
    exact ⟨e1, e2, e3, He.frT_none q e4, by rw [q, He.emptyTab_eq e4]⟩
  · cases e4
def hk : PySem.W.Hook where
  α := AlK
  obs := fun s => obK s.heap.get?
  val := fun _ => (He.valD fns, true)
  says := fun _ h => ∃ K : PySem.W.Frag, K.In h ∧ SayK h K
  of := fun _ _ e => ⟨_, He.frT_in, say_of e⟩
  keeps := fun _ _ _ ⟨K, kin, c⟩ k => ⟨K, PySem.W.Frag.In.keeps kin k, ⟨c.d, c.more, c.hd, c.out, k _ _ c.tab⟩⟩
def ob (s : PySem.W.SharedT) : AlK := obK (HandSHeadRun.getT s)
theorem ob_eq (s : PySem.W.SharedT) : ob s = hk.obs s.abs := congrArg obK (funext (HandSHeadRun.getT_eq s))
abbrev hR : PySem.W.OpenRow := PySem.W.OpenLaw.row PySem.Challenge.rw_stylefall_k26_whole_shortest_rows
abbrev hV : Program := PySem.W.view hR.prog [61]
def namesA : List Str := ["StyleError", "BadBook", "BadRow", "BadWishes", "TooMany", "BadQuestion", "LETTERS", "FIGURES", "PART", "MOST_SIGNS", "MOST_ASPECTS", "MOST_CODES_books", "MOST_KINDS", "is_of", "is_mark", "is_word", "are_rising", "are_marks", "are_gives", "is_code", "need_codes", "need_book", "codes_in", "MOST_KNOWN", "is_chain", "MOST_WORDS", "MOST_CODES_rows", "MORE_SIGNS", "are_words", "are_aspects"]
def namesB : List Str := ["need_row", "size_in", "size_of", "are_wishes", "need_wishes", "pairs_of", "Wanted", "is_done", "cheapest_row", "shortest_row", "_law_mixed", "_law_begin", "_law_draw", "_law_of", "_law_codes", "_law_sets", "_law_kinds", "_law_book", "_law_value", "_law_front", "_law_worth", "_law_meets", "_law_all_rows", "_law_wishes", "_law_right", "_law_wide"]
def names : List Str := namesA ++ namesB
theorem run (w : World) : HandSHeadRun.RunEq hR hV hk ob 8000 names w := by
  intro os
  kernel_rfl
end K26
set_option Elab.async false
set_option linter.all false
set_option maxRecDepth 100000
set_option maxHeartbeats 0
/-! KFacts: what the head's run tells. -/
namespace K26
open PySem PySem.Spec PyProof.Rows L2 LamX
section
variable {K : PySem.W.Frag} {mg : Str → Option Value} {h : Heap} {w : World} {x f : Str} {C a : Addr}
theorem oeB_ok (e : oeB K C = true) : ∃ nm q N bs bm sn sub ab col dd k0 k1 k2 k3 k5, K.lookup C = some (excClassObj nm q C N bs bm true sn sub ab col dd k0 k1 k2 k3 k5 "ValueError.__new__") ∧ PySem.HandSPX.refsVE bm = true := by
  unfold oeB at e
  split at e
  · rename_i t od cd sl hl
    obtain ⟨e1, e⟩ := He.ba e
    obtain ⟨e2, e⟩ := He.ba e
    obtain ⟨e3, e⟩ := He.ba e
    obtain ⟨e4, e5⟩ := He.ba e
    obtain ⟨nm, bs, mro, ns, qn, hd, sn, sb, ab, col, del⟩ := cd
    dsimp only at e2 e3 e4
    obtain rfl : t = "type" := of_decide_eq_true e1
    subst e2
    obtain rfl : del = false := by
      cases del with
      | false => rfl
      | true => cases e3
    cases mro with
    | nil => cases e4
    | cons d0 bm =>
      cases d0 with
      | ref D =>
        obtain ⟨e6, e7⟩ := He.ba e4
        obtain rfl : D = C := of_decide_eq_true e6
        split at e5
        · rename_i k0 k1 k2 k3 n k5 hs
          obtain rfl : n = "ValueError.__new__" := of_decide_eq_true e5
          obtain ⟨ls⟩ := sl
          obtain rfl : ls = [k0, k1, k2, k3, some (.builtin "ValueError.__new__"), k5] := hs
          exact ⟨nm, qn, ns, bs, bm, sn, sb, ab, col, od, k0, k1, k2, k3, k5, hl, e7⟩
        · cases e5
      | _ => cases e4
  · cases e
structure ExOk (K : PySem.W.Frag) (x f : Str) : Prop where
  low : OexC K (He.ga K x)
  ini : PySem.W.findIn K (.ref (He.ga K x)) "__init__" = some (some (.ref (He.ma K (He.ga K x) "__init__")))
  ty : PySem.W.typeIn K (.ref (He.ma K (He.ga K x) "__init__")) = some (.type "function")
  no : PySem.W.findIn K (.ref (He.ga K x)) f = some none
theorem exB_ok (e : exB K x f = true) : ExOk K x f := by
  obtain ⟨e1, e⟩ := He.ba e
  obtain ⟨e2, e⟩ := He.ba e
  obtain ⟨e3, e⟩ := He.ba e
  obtain ⟨e4, e⟩ := He.ba e
  obtain ⟨e5, e⟩ := He.ba e
  obtain ⟨e6, e⟩ := He.ba e
  obtain ⟨e7, e8⟩ := He.ba e
  exact ⟨⟨oeB_ok e1, He.eqO_ok e2, of_decide_eq_true e3, of_decide_eq_true e4, e5⟩, He.eqO_ok e6, of_decide_eq_true e7, He.eqO_ok e8⟩
theorem seB_ok (e : seB K C = true) : SeC K C := by
  obtain ⟨e1, e⟩ := He.ba e
  obtain ⟨e2, e3⟩ := He.ba e
  refine ⟨He.eqO_ok e1, e2, ?_⟩
  split at e3
  · rename_i n hf
    obtain rfl : n = "ValueError.__init__" := of_decide_eq_true e3
    exact hf
  · cases e3
theorem t0B_ok (e : t0B K a = true) (H : Hp) : Dp K H (.ref a) (.tuple []) := by
  unfold t0B at e
  split at e
  · rename_i c od us n sl hl
    obtain ⟨e1, e2⟩ := He.ba e
    obtain rfl : c = "tuple" := of_decide_eq_true e1
    obtain rfl : us = #[] := Array.isEmpty_iff.mp e2
    exact .tup (.inr ⟨_, #[], n, hl, rfl, rfl, Nat.zero_le _, .nil⟩) .nil
  · cases e
noncomputable def mkD {x : Str} {st : Stmt} {ds : List V} (d : ∃ fd, FunD K x x (defArgs st) (defBody st) (defScope st) ds [] (He.ga K x) fd) (g : mg x = some (.ref (He.ga K x))) : DX K mg x st ds := ⟨He.ga K x, d.choose, d.choose_spec, g⟩
noncomputable def mkM {C m q : Str} {st : Stmt} (d : ∃ fd, FunD K m q (defArgs st) (defBody st) (defScope st) [] [] (He.ma K (He.ga K C) m) fd) (g : Meth K (He.ga K C) m (He.ma K (He.ga K C) m)) : MX K (He.ga K C) m q st := ⟨_, d.choose, d.choose_spec, g⟩
noncomputable def mkX {x q f : Str} {st : Stmt} (d : ∃ fd, FunD K "__init__" q (defArgs st) (defBody st) (defScope st) [] [] (He.ma K (He.ga K x) "__init__") fd) (g : mg x = some (.ref (He.ga K x))) (e : ExOk K x f) (m : PySem.W.exmOne K (.ref (He.ga K x)) (.ref (He.ga K x)) = some true) : XX K mg x q f st :=
  ⟨He.ga K x, g, e.low, _, d.choose, d.choose_spec, e.ini, e.ty, e.no, m⟩
structure Exs (K : PySem.W.Frag) : Prop where
  xBadBook : ExOk K "BadBook" "place"
  xBadRow : ExOk K "BadRow" "given"
  xBadWishes : ExOk K "BadWishes" "given"
  xTooMany : ExOk K "TooMany" "most"
  se : SeC K (He.ga K "StyleError")
  ft : XfC K (He.ga K "TooMany")
  fw : XfC K (He.ga K "BadWishes")
  t1 : t0B K (He.dflAt ("need_wishes", none) 0 K) = true
  t2 : t0B K (He.dflAt ("shortest_row", none) 0 K) = true
theorem exs_ok (e : exs K = true) : Exs K := by
  obtain ⟨e1, e⟩ := He.ba e
  obtain ⟨e2, e⟩ := He.ba e
  obtain ⟨e3, e⟩ := He.ba e
  obtain ⟨e4, e⟩ := He.ba e
  obtain ⟨e5, e⟩ := He.ba e
  obtain ⟨e6, e⟩ := He.ba e
  obtain ⟨e7, e⟩ := He.ba e
  obtain ⟨e8, e9⟩ := He.ba e
  exact ⟨exB_ok e1, exB_ok e2, exB_ok e3, exB_ok e4, seB_ok e5, xfB_ok e6, xfB_ok e7, e8, e9⟩
noncomputable def txOf (X : K.In h) (G : h.Ns mainGlobals mg) (c : SayK h K) : TX K mg where
  is_of := mkD (c.d.def_ 0 (d := dd "is_of" s_is_of []) rfl) (He.glo_ok X G (c.d.fact 0 (f := .glo "is_of") rfl))
  is_mark := mkD (c.d.def_ 1 (d := dd "is_mark" s_is_mark []) rfl) (He.glo_ok X G (c.d.fact 1 (f := .glo "is_mark") rfl))
  is_word := mkD (c.d.def_ 2 (d := dd "is_word" s_is_word []) rfl) (He.glo_ok X G (c.d.fact 2 (f := .glo "is_word") rfl))
  are_rising := mkD (c.d.def_ 3 (d := dd "are_rising" s_are_rising []) rfl) (He.glo_ok X G (c.d.fact 3 (f := .glo "are_rising") rfl))
  are_marks := mkD (c.d.def_ 4 (d := dd "are_marks" s_are_marks []) rfl) (He.glo_ok X G (c.d.fact 4 (f := .glo "are_marks") rfl))
  are_gives := mkD (c.d.def_ 5 (d := dd "are_gives" s_are_gives []) rfl) (He.glo_ok X G (c.d.fact 5 (f := .glo "are_gives") rfl))
  is_code := mkD (c.d.def_ 6 (d := dd "is_code" s_is_code []) rfl) (He.glo_ok X G (c.d.fact 6 (f := .glo "is_code") rfl))
  need_codes := mkD (c.d.def_ 7 (d := dd "need_codes" s_need_codes []) rfl) (He.glo_ok X G (c.d.fact 7 (f := .glo "need_codes") rfl))
  need_book := mkD (c.d.def_ 8 (d := dd "need_book" s_need_book []) rfl) (He.glo_ok X G (c.d.fact 8 (f := .glo "need_book") rfl))
  codes_in := mkD (c.d.def_ 9 (d := dd "codes_in" s_codes_in []) rfl) (He.glo_ok X G (c.d.fact 9 (f := .glo "codes_in") rfl))
  is_chain := mkD (c.d.def_ 10 (d := dd "is_chain" s_is_chain []) rfl) (He.glo_ok X G (c.d.fact 10 (f := .glo "is_chain") rfl))
  are_words := mkD (c.d.def_ 11 (d := dd "are_words" s_are_words []) rfl) (He.glo_ok X G (c.d.fact 11 (f := .glo "are_words") rfl))
  are_aspects := mkD (c.d.def_ 12 (d := dd "are_aspects" s_are_aspects []) rfl) (He.glo_ok X G (c.d.fact 12 (f := .glo "are_aspects") rfl))
  need_row := mkD (c.d.def_ 13 (d := dd "need_row" s_need_row []) rfl) (He.glo_ok X G (c.d.fact 13 (f := .glo "need_row") rfl))
  size_in := mkD (c.d.def_ 14 (d := dd "size_in" s_size_in []) rfl) (He.glo_ok X G (c.d.fact 14 (f := .glo "size_in") rfl))
  size_of := mkD (c.d.def_ 15 (d := dd "size_of" s_size_of []) rfl) (He.glo_ok X G (c.d.fact 15 (f := .glo "size_of") rfl))
  are_wishes := mkD (c.d.def_ 16 (d := dd "are_wishes" s_are_wishes []) rfl) (He.glo_ok X G (c.d.fact 16 (f := .glo "are_wishes") rfl))
  d_need_wishes := .ref (He.dflAt ("need_wishes", none) 0 K)
  dk_need_wishes := t0B_ok (exs_ok c.more).t1
  need_wishes := mkD (c.d.def_ 17 (d := dd "need_wishes" s_need_wishes [.adr (He.dflAt ("need_wishes", none) 0)]) rfl) (He.glo_ok X G (c.d.fact 17 (f := .glo "need_wishes") rfl))
  pairs_of := mkD (c.d.def_ 18 (d := dd "pairs_of" s_pairs_of []) rfl) (He.glo_ok X G (c.d.fact 18 (f := .glo "pairs_of") rfl))
  is_done := mkD (c.d.def_ 19 (d := dd "is_done" s_is_done []) rfl) (He.glo_ok X G (c.d.fact 19 (f := .glo "is_done") rfl))
  cheapest_row := mkD (c.d.def_ 20 (d := dd "cheapest_row" s_cheapest_row []) rfl) (He.glo_ok X G (c.d.fact 20 (f := .glo "cheapest_row") rfl))
  d_shortest_row := .ref (He.dflAt ("shortest_row", none) 0 K)
  dk_shortest_row := t0B_ok (exs_ok c.more).t2
  shortest_row := mkD (c.d.def_ 21 (d := dd "shortest_row" s_shortest_row [.adr (He.dflAt ("shortest_row", none) 0)]) rfl) (He.glo_ok X G (c.d.fact 21 (f := .glo "shortest_row") rfl))
  _law_mixed := mkD (c.d.def_ 22 (d := dd "_law_mixed" s__law_mixed []) rfl) (He.glo_ok X G (c.d.fact 22 (f := .glo "_law_mixed") rfl))
  _law_begin := mkD (c.d.def_ 23 (d := dd "_law_begin" s__law_begin []) rfl) (He.glo_ok X G (c.d.fact 23 (f := .glo "_law_begin") rfl))
  _law_draw := mkD (c.d.def_ 24 (d := dd "_law_draw" s__law_draw []) rfl) (He.glo_ok X G (c.d.fact 24 (f := .glo "_law_draw") rfl))
  _law_of := mkD (c.d.def_ 25 (d := dd "_law_of" s__law_of []) rfl) (He.glo_ok X G (c.d.fact 25 (f := .glo "_law_of") rfl))
  _law_codes := mkD (c.d.def_ 26 (d := dd "_law_codes" s__law_codes []) rfl) (He.glo_ok X G (c.d.fact 26 (f := .glo "_law_codes") rfl))
  _law_sets := mkD (c.d.def_ 27 (d := dd "_law_sets" s__law_sets []) rfl) (He.glo_ok X G (c.d.fact 27 (f := .glo "_law_sets") rfl))
  _law_book := mkD (c.d.def_ 28 (d := dd "_law_book" s__law_book []) rfl) (He.glo_ok X G (c.d.fact 28 (f := .glo "_law_book") rfl))
  _law_value := mkD (c.d.def_ 29 (d := dd "_law_value" s__law_value []) rfl) (He.glo_ok X G (c.d.fact 29 (f := .glo "_law_value") rfl))
  _law_front := mkD (c.d.def_ 30 (d := dd "_law_front" s__law_front []) rfl) (He.glo_ok X G (c.d.fact 30 (f := .glo "_law_front") rfl))
  _law_worth := mkD (c.d.def_ 31 (d := dd "_law_worth" s__law_worth []) rfl) (He.glo_ok X G (c.d.fact 31 (f := .glo "_law_worth") rfl))
  _law_meets := mkD (c.d.def_ 32 (d := dd "_law_meets" s__law_meets []) rfl) (He.glo_ok X G (c.d.fact 32 (f := .glo "_law_meets") rfl))
  _law_all_rows := mkD (c.d.def_ 33 (d := dd "_law_all_rows" s__law_all_rows []) rfl) (He.glo_ok X G (c.d.fact 33 (f := .glo "_law_all_rows") rfl))
  _law_wishes := mkD (c.d.def_ 34 (d := dd "_law_wishes" s__law_wishes []) rfl) (He.glo_ok X G (c.d.fact 34 (f := .glo "_law_wishes") rfl))
  _law_right := mkD (c.d.def_ 35 (d := dd "_law_right" s__law_right []) rfl) (He.glo_ok X G (c.d.fact 35 (f := .glo "_law_right") rfl))
  _law_wide := mkD (c.d.def_ 36 (d := dd "_law_wide" s__law_wide []) rfl) (He.glo_ok X G (c.d.fact 36 (f := .glo "_law_wide") rfl))
  law := mkD (c.d.def_ 37 (d := dd "law" s_law []) rfl) (He.glo_ok X G (c.d.fact 37 (f := .glo "law") rfl))
  b_isinstance := He.free_ok X G (c.d.fact 38 (f := .free "isinstance") rfl)
  b_len := He.free_ok X G (c.d.fact 39 (f := .free "len") rfl)
  b_str := He.free_ok X G (c.d.fact 40 (f := .free "str") rfl)
  b_tuple := He.free_ok X G (c.d.fact 41 (f := .free "tuple") rfl)
  b_all := He.free_ok X G (c.d.fact 42 (f := .free "all") rfl)
  b_any := He.free_ok X G (c.d.fact 43 (f := .free "any") rfl)
  b_range := He.free_ok X G (c.d.fact 44 (f := .free "range") rfl)
  b_sum := He.free_ok X G (c.d.fact 45 (f := .free "sum") rfl)
  b_dict := He.free_ok X G (c.d.fact 46 (f := .free "dict") rfl)
  b_set := He.free_ok X G (c.d.fact 47 (f := .free "set") rfl)
  b_sorted := He.free_ok X G (c.d.fact 48 (f := .free "sorted") rfl)
  b_enumerate := He.free_ok X G (c.d.fact 49 (f := .free "enumerate") rfl)
  b_zip := He.free_ok X G (c.d.fact 50 (f := .free "zip") rfl)
  b_list := He.free_ok X G (c.d.fact 51 (f := .free "list") rfl)
  b_int := He.free_ok X G (c.d.fact 52 (f := .free "int") rfl)
  b_min := He.free_ok X G (c.d.fact 53 (f := .free "min") rfl)
  b_repr := He.free_ok X G (c.d.fact 54 (f := .free "repr") rfl)
  b_ValueError := He.free_ok X G (c.d.fact 55 (f := .free "ValueError") rfl)
  i_MOST_SIGNS := He.int_ok X G (c.d.fact 56 (f := .int "MOST_SIGNS" 8) rfl)
  i_MOST_ASPECTS := He.int_ok X G (c.d.fact 57 (f := .int "MOST_ASPECTS" 6) rfl)
  i_MOST_CODES_books := He.int_ok X G (c.d.fact 58 (f := .int "MOST_CODES_books" 16) rfl)
  i_MOST_KINDS := He.int_ok X G (c.d.fact 59 (f := .int "MOST_KINDS" 6) rfl)
  i_MOST_KNOWN := He.int_ok X G (c.d.fact 60 (f := .int "MOST_KNOWN" 12) rfl)
  i_MOST_WORDS := He.int_ok X G (c.d.fact 61 (f := .int "MOST_WORDS" 60) rfl)
  i_MOST_CODES_rows := He.int_ok X G (c.d.fact 62 (f := .int "MOST_CODES_rows" 10) rfl)
  i_MORE_SIGNS := He.int_ok X G (c.d.fact 63 (f := .int "MORE_SIGNS" 2) rfl)
  t_LETTERS := He.str_ok X G (c.d.fact 64 (f := .str "LETTERS" "abcdefghijklmnopqrstuvwxyz") rfl)
  t_FIGURES := He.str_ok X G (c.d.fact 65 (f := .str "FIGURES" "0123456789") rfl)
  t_PART := He.str_ok X G (c.d.fact 66 (f := .str "PART" ";") rfl)
  W := He.ga K "Wanted"
  gW := He.glo_ok X G (c.d.fact 67 (f := .glo "Wanted") rfl)
  clsW := He.cls_ok (c.d.fact 74 (f := .cls "Wanted") rfl)
  is_due := mkM (c.d.def_ 38 (d := dm "Wanted" "is_due" "Wanted.is_due" s_Wanted_is_due) rfl) (He.meth_ok (c.d.fact 79 (f := .meth "Wanted" "is_due") rfl))
  may_stand := mkM (c.d.def_ 39 (d := dm "Wanted" "may_stand" "Wanted.may_stand" s_Wanted_may_stand) rfl) (He.meth_ok (c.d.fact 80 (f := .meth "Wanted" "may_stand") rfl))
  goal := mkM (c.d.def_ 40 (d := dm "Wanted" "goal" "Wanted.goal" s_Wanted_goal) rfl) (He.meth_ok (c.d.fact 81 (f := .meth "Wanted" "goal") rfl))
  wInit := He.ma K (He.ga K "Wanted") "__init__"
  wFd := (c.d.def_ 41 (d := dm "Wanted" "__init__" "Wanted.__init__" s_Wanted_init) rfl).choose
  wF := (c.d.def_ 41 (d := dm "Wanted" "__init__" "Wanted.__init__" s_Wanted_init) rfl).choose_spec
  wMk := He.mkr_ok (c.d.fact 77 (f := .mkr "Wanted") rfl)
  wNW := He.noat_ok (c.d.fact 75 (f := .noat "Wanted" "wishes") rfl)
  wNF := He.noat_ok (c.d.fact 76 (f := .noat "Wanted" "free") rfl)
  xBadBook := mkX (c.d.def_ 42 (d := dm "BadBook" "__init__" "BadBook.__init__" s_BadBook_init) rfl) (He.glo_ok X G (c.d.fact 68 (f := .glo "BadBook") rfl)) (exs_ok c.more).xBadBook (He.exm_ok (c.d.fact 82 (f := .exm "BadBook" "BadBook" true) rfl))
  xBadRow := mkX (c.d.def_ 43 (d := dm "BadRow" "__init__" "BadRow.__init__" s_BadRow_init) rfl) (He.glo_ok X G (c.d.fact 69 (f := .glo "BadRow") rfl)) (exs_ok c.more).xBadRow (He.exm_ok (c.d.fact 83 (f := .exm "BadRow" "BadRow" true) rfl))
  xBadWishes := mkX (c.d.def_ 44 (d := dm "BadWishes" "__init__" "BadWishes.__init__" s_BadWishes_init) rfl) (He.glo_ok X G (c.d.fact 70 (f := .glo "BadWishes") rfl)) (exs_ok c.more).xBadWishes (He.exm_ok (c.d.fact 86 (f := .exm "BadWishes" "BadWishes" true) rfl))
  xTooMany := mkX (c.d.def_ 45 (d := dm "TooMany" "__init__" "TooMany.__init__" s_TooMany_init) rfl) (He.glo_ok X G (c.d.fact 71 (f := .glo "TooMany") rfl)) (exs_ok c.more).xTooMany (He.exm_ok (c.d.fact 84 (f := .exm "TooMany" "TooMany" true) rfl))
  xQ := He.ga K "BadQuestion"
  gQ := He.glo_ok X G (c.d.fact 72 (f := .glo "BadQuestion") rfl)
theorem sxOf (X : K.In h) (G : h.Ns mainGlobals mg) (c : SayK h K) : Nonempty (SX K mg) := ⟨⟨He.ga K "StyleError", He.glo_ok X G (c.d.fact 73 (f := .glo "StyleError") rfl), (exs_ok c.more).se⟩⟩
def qxOf (X : K.In h) (G : h.Ns mainGlobals mg) (c : SayK h K) : QX K mg := have q := He.exc_ok (c.d.fact 78 (f := .exc "BadQuestion") rfl); ⟨He.ga K "BadQuestion", He.glo_ok X G (c.d.fact 72 (f := .glo "BadQuestion") rfl), q.1, q.2.1, q.2.2.1, q.2.2.2⟩
theorem lxOf (c : SayK h K) : LX K (He.ga K "TooMany") (He.ga K "BadWishes") (He.ga K "BadQuestion") := ⟨(exs_ok c.more).ft, (exs_ok c.more).fw, He.exm_ok (c.d.fact 84 (f := .exm "TooMany" "TooMany" true) rfl), He.exm_ok (c.d.fact 85 (f := .exm "BadWishes" "TooMany" false) rfl), He.exm_ok (c.d.fact 86 (f := .exm "BadWishes" "BadWishes" true) rfl), He.exm_ok (c.d.fact 87 (f := .exm "BadQuestion" "TooMany" false) rfl), He.exm_ok (c.d.fact 88 (f := .exm "BadQuestion" "BadWishes" false) rfl), He.exm_ok (c.d.fact 89 (f := .exm "BadQuestion" "BadQuestion" true) rfl)⟩
theorem tabs0 {H : Hp} {p : Addr} {q : Str} (e : H p = some (.tbl #[])) : Tabs [(p, q)] H := fun y hy => by
  rw [List.mem_singleton.mp hy]
  exact ⟨#[], e, trivial, fun pos cv z => by cases z⟩
theorem code_at {p : He.Defn} {y q : Str} {st : Stmt} {fd : FuncData} (F : FunD K y q (defArgs st) (defBody st) (defScope st) [] [] (He.fAd K p) fd) : fd.code = .ref (He.codeOf K p) := by
  obtain ⟨oc, od, dV, kV, doc, pm, an, cv, ct, osl, e, lk, hcode, _, _⟩ := F.ex
  subst e
  obtain ⟨k, rfl⟩ := He.codeIn_ref hcode
  rw [He.codeOf_eq lk rfl]
theorem law_facts {fa : Addr} (X : K.In h) (G : h.Ns mainGlobals mg) (hfa : mg "law" = some (.ref fa)) (c : SayK h K) : LawG PySem.Challenge.rw_stylefall_k26_whole_shortest_rows w K CX0 11 63 "script" mg fa h := by
  obtain ⟨S⟩ := sxOf X G c
  have at_ := hfa.symm.trans (txOf X G c).law.g
  cases at_
  have b := FunD.bindsA (ps := ["script"]) (txOf X G c).law.F fun _ _ _ _ _ _ us hl => match us, hl with | [_], _ => rfl
  exact ⟨_, He.codeOf K cR, He.tabOf K (He.codeOf K cR), spLaw K _, c.tab, c.out, PySem.W.codeHd_of_K X c.hd, fun s v => b s [v] rfl, fun H a ns hl ht hs => ⟨a, ns, rfl, hs, hl, tabs0 ht, fun _ => rfl⟩,
    fun base _ _ TB => ok_law (txOf X G c) S (qxOf X G c) (lxOf c) (code_at (p := cR) (txOf X G c).cheapest_row.F) TB⟩
end
end K26
set_option Elab.async false
set_option linter.all false
set_option maxRecDepth 100000
set_option maxHeartbeats 0
/-! KTop: the statement. -/
open PySem PySem.W PySem.Calls PyProof.Rows
theorem PySem.Challenge.cw_stylefall_k26_whole_shortest_rows_holds : PySem.Challenge.rw_stylefall_k26_whole_shortest_rows.Holds := by
  w_on; o_law
  refine HandSHeadRun.head_any (r := K26.hR) (q := K26.hV) (H := K26.hk) (ob := K26.ob) (M := 8000) (loose := K26.names) (d := HandSHeadRun.topDef K26.hR.prog 61) (kwd := []) K26.ob_eq
    (by kernel_rfl) (fun s => by kernel_rfl) K26.run (by kernel_rfl) (by kernel_rfl) (by kernel_rfl) (by rfl) (by decide +kernel) (by decide +kernel) ⟨rfl, rfl, rfl, rfl, rfl, by decide +kernel⟩ ?hw ?hc
  case hw => w_witness2
  case hc =>
    refine K26.walk_G (l := PySem.Challenge.rw_stylefall_k26_whole_shortest_rows) (n := 63) (k := 11) (x := "script") (CX := fun _ => L2.CX0) rfl (by decide) (by kernel_rfl) ⟨rfl, by decide, by decide⟩ ?F (fun _ _ _ _ _ z => z)
    intro w mg fa h Y G hmg0
    obtain ⟨K, kin, c⟩ := Y
    have e : (HandSHeadRun.topDef K26.hR.prog 61).name = ("law" : PySem.Str) := by kernel_rfl
    rw [e] at hmg0
    exact ⟨K, kin, K26.law_facts kin G hmg0 c⟩
