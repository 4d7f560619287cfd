import PyProof.Rows.All
import Wide.All
import OpenK.AllK
import Wide.FinOn
import HandS.TupSets
import KE.KeyNested
import HandS.ForMost
import HandS.ForExc
import HandS.Evl
import HandS.Lambda
import HandS.ExcInit
import HandS.HeadHook1
import HandS.Style
import HandS.Wide
import HandS.TupAny
import HandS.TupMul
import HandS.Text
import HandS.Deep
import HandS.IsInst
import HandS.Rev
import HandS.Defaults
import HandS.Iter
import HandS.StrMore
import HandS.FStr
import KE.KExcIs
import HandS.ExcField
import HandS.TryMany
import KE.SortData
import KE.SortKeyHeap
import KE.KSortKey
import KE.DataMinKey
import HandS.RevRange
import HandS.Conv
import KE.GoesEnum
import KE.GoesMore
import HandS.SetBool
import KE.KStateDown
import HandS.Words
import HandS.WordsExc
import HandS.WordsList
import HandS.Head0
import HandS.Head1
import HandS.Head2
import HandS.HeadEnd
import HandS.HeadHook2
import HandS.HeadHook3
import HandS.HeadHook4
import HandS.HeadWalk
import PySem.Challenge.RW_stoodthere_k13_whole_pieces_and_places
set_option Elab.async false
set_option linter.all false
set_option maxRecDepth 100000
set_option maxHeartbeats 1000000
/-! DLS0: tables of sets of any size whose ways meet all slots. -/
namespace DLS
open PySem PySem.Spec PyProof.Rows L2
/-- a way's runs begin at each slot, early enough -/
def Meet (m : Nat) : Prop := ∀ (h : Int) (j : Nat), j ≤ m → ∃ n, n ≤ m + 12 ∧ runI m (SetTable.bits h) n = j
/-- the round of i -> 5 i + 1 from x on -/
def orb (m : Nat) : Nat → Nat → List Nat
  | 0, _ => []
  | k + 1, x => x :: orb m k ((x * 5 + 1) % (m + 1))
theorem orb_mem {m j : Nat} : ∀ {n a : Nat}, j ∈ orb m n (lcgN m a) → ∃ k, k < n ∧ lcgN m (a + k) = j
  | 0, a, h => by cases h
  | n + 1, a, h => by
    rcases List.mem_cons.mp h with rfl | h
    · exact ⟨0, Nat.succ_pos _, rfl⟩
    · obtain ⟨k, hk, e⟩ := orb_mem (n := n) (a := a + 1) h
      exact ⟨k + 1, Nat.succ_lt_succ hk, by rw [← e]; congr 1; omega⟩
theorem meet_of {m : Nat} (h1 : ∀ j, j ≤ m → j ∈ orb m (m + 1) 0) (h2 : lcgN m (m + 1) = 0) : Meet m := fun h j hj => by
  have hit : ∀ j, j ≤ m → ∃ b, b ≤ m ∧ lcgN m b = j := fun j hj => by
    obtain ⟨k, hk, e⟩ := orb_mem (a := 0) (h1 j hj)
    exact ⟨k, Nat.le_of_lt_succ hk, by rw [← e]; congr 1; omega⟩
  obtain ⟨a, ha, ea⟩ := hit _ (runI_le m (SetTable.bits h) 12)
  obtain ⟨b, hb, eb⟩ := hit j hj
  have turn : lcgN m (m + 1 + b) = lcgN m b := by
    rw [← lcgN_add, h2]
    exact (lcgN_add m 0 b).trans (by congr 1; omega)
  have go : ∀ k, k ≤ m → lcgN m (a + k) = j → ∃ n, n ≤ m + 12 ∧ runI m (SetTable.bits h) n = j := fun k hk e => ⟨12 + k, by omega, by rw [runI_tail (bits_lt h), ← ea, lcgN_add]; exact e⟩
  by_cases c : a ≤ b
  · exact go (b - a) (by omega) (by rw [show a + (b - a) = b by omega]; exact eb)
  · exact go (b + (m + 1) - a) (by omega) (by rw [show a + (b + (m + 1) - a) = m + 1 + b by omega, turn]; exact eb)
theorem orb_511 : ((List.range 512).all fun j => (orb 511 512 0).contains j) = true := by decide +kernel
theorem round_511 : lcgN 511 512 = 0 := by decide +kernel
theorem meet511 : Meet 511 := meet_of (fun j hj => by
  have := List.all_eq_true.mp orb_511 j (List.mem_range.mpr (by omega))
  exact List.contains_iff_mem.mp this) round_511
/-- the masks that come -/
def MaskQ (m : Nat) : Prop := m = 7 ∨ m = 31 ∨ m = 127 ∨ m = 511
theorem MaskQ.meet {m : Nat} (h : MaskQ m) : Meet m := by
  rcases h with rfl | rfl | rfl | rfl
  · exact fun h j hj => run_meets (.inl rfl) h hj
  · exact fun h j hj => run_meets (.inr (.inl rfl)) h hj
  · exact fun h j hj => run_meets (.inr (.inr rfl)) h hj
  · exact meet511
theorem maskQ_odd {m : Nat} (h : MaskQ m) : m % 2 = 1 := by
  rcases h with e | e | e | e <;> subst e <;> rfl
theorem wayQ (m : Nat) (h : Int) (k : Nat) : way m h k ≤ m := by
  have hi : SetTable.bits h % (m + 1) ≤ m := Nat.le_of_lt_succ (Nat.mod_lt _ (Nat.succ_pos _))
  have r := runEnd_bd hi
  exact Nat.le_trans (Nat.le_add_right _ _) (nth_in (m := m) k (runAt m (SetTable.bits h % (m + 1)) (SetTable.bits h)) (show SetTable.bits h % (m + 1) + (SetTable.runEnd m (SetTable.bits h % (m + 1)) - SetTable.bits h % (m + 1)) ≤ m by omega))
/-- a table whose entries are found on their hashes' ways -/
structure TabQ (t : SetTable) (hs : List Int) : Prop where
  ris : Ris t.place.toList
  dm : t.dummies = #[]
  sz : t.place.size = hs.length
  mok : MaskQ t.mask
  bd : ∀ x ∈ t.place.toList, x ≤ t.mask
  reach : ∀ (i : Nat) (h : Int) (j : Nat), hs[i]? = some h → t.place.toList[i]? = some j → ∃ k, way t.mask h k = j ∧ ∀ k', k' < k → way t.mask h k' ∈ t.place.toList
theorem TabQ.first {t : SetTable} {hs : List Int} (T : TabQ t hs) (hl : hs.length ≤ t.mask) (h : Int) : ∃ K, K < 10 * SetTable.turns t.mask ∧ way t.mask h K ∉ t.place.toList ∧ ∀ k, k < K → way t.mask h k ∈ t.place.toList := by
  have hlen : t.place.toList.length = hs.length := (Array.length_toList ..).trans T.sz
  obtain ⟨j, hj, hn⟩ := st_missing t.place.toList (t.mask + 1) (by omega)
  obtain ⟨n, hn2, e⟩ := T.mok.meet h j (by omega)
  obtain ⟨k, hk, ek⟩ := run_nth t.mask (SetTable.bits h) n
  have hw : way t.mask h k ∉ t.place.toList := by
    show (nth t.mask (runAt t.mask (SetTable.bits h % (t.mask + 1)) (SetTable.bits h)) k).j ∉ _
    rw [ek, show (runAt t.mask (runI t.mask (SetTable.bits h) n) (SetTable.bits h / 32 ^ n)).j = j from e]
    exact hn
  obtain ⟨K, a, b, c⟩ := st_least (p := fun k => way t.mask h k ∉ t.place.toList) k hw
  exact ⟨K, by unfold SetTable.turns; omega, b, fun k' hk' => Decidable.not_not.mp (c k' hk')⟩
theorem TabQ.before {t : SetTable} {hs : List Int} (T : TabQ t hs) {h : Int} {K i j : Nat} (hK : way t.mask h K ∉ t.place.toList) (hi : hs[i]? = some h) (hj : t.place.toList[i]? = some j) : ∃ k, k < K ∧ way t.mask h k = j := by
  obtain ⟨k, e, hb⟩ := T.reach i h j hi hj
  refine ⟨k, Nat.lt_of_not_le fun c => hK ?_, e⟩
  rcases Nat.eq_or_lt_of_le c with rfl | c
  · rw [e]
    exact List.mem_of_getElem? hj
  · exact hb K c
theorem TabQ.put {t : SetTable} {hs : List Int} (T : TabQ t hs) {h : Int} {K : Nat} (hK : way t.mask h K ∉ t.place.toList) (hb : ∀ k, k < K → way t.mask h k ∈ t.place.toList) :
    (t.put (way t.mask h K)).2 = SetTable.below t.place (way t.mask h K) ∧ SetTable.below t.place (way t.mask h K) ≤ hs.length ∧
    TabQ (t.put (way t.mask h K)).1 (hs.take (SetTable.below t.place (way t.mask h K)) ++ h :: hs.drop (SetTable.below t.place (way t.mask h K))) ∧
    (t.put (way t.mask h K)).1.mask = t.mask ∧ (t.put (way t.mask h K)).1.led = t.led ∧ (t.put (way t.mask h K)).1.plain = t.plain ∧ (t.put (way t.mask h K)).1.moves = t.moves ∧ (t.put (way t.mask h K)).1.finger = t.finger ∧
    (t.put (way t.mask h K)).1.fill = hs.length + 1 := by
  have jm := wayQ t.mask h K
  generalize ej : way t.mask h K = j at hK jm ⊢
  have cut := (below_cut T.ris j).1
  have len : t.place.toList.length = hs.length := (Array.length_toList ..).trans T.sz
  have p1 : SetTable.below t.place j ≤ t.place.toList.length := by rw [Array.length_toList]; exact cut
  have p2 : SetTable.below t.place j ≤ hs.length := by rw [← len]; exact p1
  have pl := put_place t j
  have size : (t.put j).1.place.size = hs.length + 1 := by rw [← Array.length_toList, pl, len_ins _ p1, len]
  have old : ∀ x ∈ t.place.toList, x ∈ (t.put j).1.place.toList := fun x hx => by rw [pl]; exact mem_ins.2 (.inr hx)
  have fresh : t.place[SetTable.below t.place j]? ≠ some j := fun e => hK (List.mem_of_getElem? (by rw [Array.getElem?_toList]; exact e))
  refine ⟨rfl, p2, { ris := ris_insert T.ris fresh, dm := put_dm T.dm j, sz := by rw [len_ins _ p2]; exact size, mok := T.mok, bd := fun x hx => ?_, reach := fun i h' j' e1 e2 => ?_ }, rfl, rfl, rfl, rfl, rfl, ?_⟩
  · rw [pl] at hx
    exact (mem_ins.1 hx).elim (fun z => z ▸ jm) (T.bd x)
  · rw [tins_get hs p2] at e1
    rw [pl, tins_get _ p1] at e2
    have ofOld : ∀ i, hs[i]? = some h' → t.place.toList[i]? = some j' → ∃ k, way t.mask h' k = j' ∧ ∀ k', k' < k → way t.mask h' k' ∈ (t.put j).1.place.toList := fun i a b =>
      let ⟨k, c, d⟩ := T.reach i h' j' a b
      ⟨k, c, fun k' hk' => old _ (d k' hk')⟩
    show ∃ k, way t.mask h' k = j' ∧ ∀ k', k' < k → way t.mask h' k' ∈ (t.put j).1.place.toList
    rcases Nat.lt_trichotomy i (SetTable.below t.place j) with c | c | c
    · rw [if_pos c] at e1 e2
      exact ofOld i e1 e2
    · rw [if_neg (by omega), if_pos c] at e1 e2
      cases e1
      cases e2
      exact ⟨K, ej, fun k' hk' => old _ (hb k' hk')⟩
    · rw [if_neg (by omega), if_neg (by omega)] at e1 e2
      exact ofOld (i - 1) e1 e2
  · show (t.put j).1.place.size + (t.put j).1.dummies.size = hs.length + 1
    rw [size, put_dm T.dm j]
    rfl
/-! ### all laid anew -/
theorem freeQ {m : Nat} (M : Meet m) (owner : Array (Option Nat)) (h : Int) {j : Nat} (hj : j ≤ m) (hf : oAt owner j = none) :
    ∃ K, SetTable.layClean.free m owner (SetTable.turns m) (SetTable.bits h % (m + 1)) (SetTable.bits h) = some (way m h K) ∧ oAt owner (way m h K) = none ∧ ∀ k, k < K → oAt owner (way m h k) ≠ none := by
  obtain ⟨n, hn, e⟩ := M h j hj
  have hw : oAt owner (way m h (off m (SetTable.bits h % (m + 1)) (SetTable.bits h) n)) = none := by
    have : way m h (off m (SetTable.bits h % (m + 1)) (SetTable.bits h) n) = j := by
      show (nth m _ _).j = j
      rw [nth_off, itL_run]
      exact e
    rw [this]
    exact hf
  obtain ⟨K, k1, k2, k3⟩ := st_least (p := fun k => oAt owner (way m h k) = none) _ hw
  refine ⟨K, free_spec m owner _ n _ _ K (by unfold SetTable.turns; omega) k1 (fun k hk => ?_) (by rw [show oAt owner (nth m (runAt m (SetTable.bits h % (m + 1)) (SetTable.bits h)) K).j = none from k2]; rfl), k2, k3⟩
  have q := k3 k hk
  revert q
  show oAt owner (nth m (runAt m (SetTable.bits h % (m + 1)) (SetTable.bits h)) k).j ≠ none → _
  cases oAt owner (nth m (runAt m (SetTable.bits h % (m + 1)) (SetTable.bits h)) k).j with
  | none => exact fun q => absurd rfl q
  | some _ => exact fun _ => rfl
theorem ownQ {m : Nat} (M : Meet m) {done : List Int} {owner : Array (Option Nat)} (W : Own m done owner) (hl : done.length ≤ m) (h : Int) :
    ∃ j, SetTable.layClean.free m owner (SetTable.turns m) (SetTable.bits h % (m + 1)) (SetTable.bits h) = some j ∧ Own m (done ++ [h]) (owner.setIfInBounds j (some done.length)) := by
  obtain ⟨ps, lps, ips⟩ := W.ps
  obtain ⟨j0, h0, n0⟩ := st_missing ps (m + 1) (by omega)
  have f0 : oAt owner j0 = none := Decidable.not_not.mp fun z => n0 (ips j0 (by omega) z)
  obtain ⟨K, e1, e2, e3⟩ := freeQ M owner h (by omega) f0
  have jm := wayQ m h K
  have self := oAt_set_self (some done.length) (show way m h K < owner.size by rw [W.sz]; omega)
  have other : ∀ {i : Nat}, i ≠ way m h K → oAt (owner.setIfInBounds (way m h K) (some done.length)) i = oAt owner i := fun hi => oAt_set_ne _ hi
  have stay : ∀ i, oAt owner i ≠ none → oAt (owner.setIfInBounds (way m h K) (some done.length)) i ≠ none := fun i hi => by
    rw [other fun c => hi (by rw [c]; exact e2)]
    exact hi
  refine ⟨_, e1, { sz := by rw [Array.size_setIfInBounds]; exact W.sz, at_ := fun j k hj e => ?_, all := fun k hk => ?_, ps := ⟨way m h K :: ps, by simp [lps], fun j hj e => ?_⟩ }⟩
  · by_cases c : j = way m h K
    · subst c
      rw [self] at e
      cases e
      exact ⟨h, K, by simp, rfl, fun k' hk' => stay _ (e3 k' hk')⟩
    · rw [other c] at e
      obtain ⟨h', K', a1, a2, a3⟩ := W.at_ j k hj e
      exact ⟨h', K', by rw [List.getElem?_append_left (List.getElem?_eq_some_iff.mp a1).1]; exact a1, a2, fun k' hk' => stay _ (a3 k' hk')⟩
  · rcases Nat.lt_or_ge k done.length with c | c
    · obtain ⟨j, hj, e⟩ := W.all k c
      exact ⟨j, hj, by rw [other fun z => by rw [z, e2] at e; cases e]; exact e⟩
    · have : k = done.length := by simp at hk; omega
      subst this
      exact ⟨_, jm, self⟩
  · by_cases c : j = way m h K
    · exact c ▸ List.mem_cons_self
    · rw [other c] at e
      exact List.mem_cons_of_mem _ (ips j hj e)
theorem foldQ {m : Nat} (M : Meet m) : ∀ (rest done : List Int) (owner : Array (Option Nat)), Own m done owner → done.length + rest.length ≤ m →
    ∃ owner', rest.foldl (stepF m) (some (owner, done.length)) = some (owner', (done ++ rest).length) ∧ Own m (done ++ rest) owner'
  | [], done, owner, W, _ => ⟨owner, by simp, by simpa using W⟩
  | h :: rest, done, owner, W, hl => by
    rw [List.length_cons] at hl
    obtain ⟨j, e, W'⟩ := ownQ M W (by omega) h
    obtain ⟨o', f, W2⟩ := foldQ M rest (done ++ [h]) _ W' (by simp; omega)
    refine ⟨o', ?_, by simpa using W2⟩
    rw [List.foldl_cons, stepF_some e]
    simpa using f
theorem layQ {m : Nat} (M : Meet m) {hs : Array Int} (hn : hs.size ≤ m) : ∃ owner, SetTable.layClean m hs = some owner ∧ Own m hs.toList owner := by
  obtain ⟨owner, f, W⟩ := foldQ M hs.toList [] _ (Own.init m) (by simpa using hn)
  refine ⟨owner, ?_, by simpa using W⟩
  rw [layClean_eq, show hs.toList.foldl (stepF m) (some (Array.replicate (m + 1) none, 0)) = _ from f]
  rfl
theorem relaidQ (t : SetTable) {hs : Array Int} {wanted N : Nat} (hw : SetTable.sizeAbove wanted - 1 = N) (hM : MaskQ N) (hn : hs.size ≤ N) :
    ∃ t' order, t.relaid hs wanted = some (t', order) ∧ order.toList.Perm (List.range hs.size) ∧ TabQ t' (order.toList.map fun i => hs.getD i 0) ∧ t'.mask = N ∧ t'.led = t.led ∧ t'.plain = t.plain ∧ t'.dummies = #[] := by
  obtain ⟨owner, e, W⟩ := layQ hM.meet hn
  have hr : t.relaid hs wanted = some (tabOf t N owner, ((liveOf N owner).map (·.2)).toArray) := by
    rw [relaid_eq, hw, e]
    rfl
  have ris := ris_live (fun j => owner.getD j none) (List.range (N + 1)) (by
    unfold Ris
    first | exact List.pairwise_lt_range | exact List.pairwise_lt_range _)
  have r1 : Ris ((liveOf N owner).map (·.1)) := ris.1
  have r2 : ∀ x ∈ (liveOf N owner).map (·.1), x ∈ List.range (N + 1) := ris.2
  have mem : ∀ {j k}, (j, k) ∈ liveOf N owner ↔ j ≤ N ∧ oAt owner j = some k := mem_live W.sz
  have every : ∀ k, k < hs.size → k ∈ (liveOf N owner).map (·.2) := fun k hk => by
    obtain ⟨j, b1, b2⟩ := W.all k (by simpa using hk)
    exact List.mem_map.mpr ⟨(j, k), mem.2 ⟨b1, b2⟩, rfl⟩
  have len : (liveOf N owner).length = hs.size := by
    obtain ⟨ps, p1, p2⟩ := W.ps
    have nd : ((liveOf N owner).map (·.1)).Nodup := List.Pairwise.imp (fun h => Nat.ne_of_lt h) r1
    have up := nat_nodup_len ((liveOf N owner).map (·.1)) ps nd fun x hx => by
      obtain ⟨⟨y, k⟩, hq, rfl⟩ := List.mem_map.mp hx
      obtain ⟨b1, b2⟩ := mem.1 hq
      exact p2 y b1 (by rw [b2]; simp)
    have low := nat_nodup_len (List.range hs.size) ((liveOf N owner).map (·.2)) List.nodup_range fun k hk => every k (List.mem_range.mp hk)
    simp [p1] at up low
    omega
  refine ⟨_, _, hr, perm_range hs.size _ (by simpa using len) every, { ris := r1, dm := rfl, sz := by simp [tabOf], mok := hM, bd := fun x hx => Nat.le_of_lt_succ (List.mem_range.mp (r2 x hx)), reach := fun i h j h1 h2 => ?_ }, rfl, rfl, rfl, rfl⟩
  have h1' : (((liveOf N owner).map (·.2)).map fun i => hs.getD i 0)[i]? = some h := h1
  have h2' : ((liveOf N owner).map (·.1))[i]? = some j := h2
  rw [List.getElem?_map] at h2'
  obtain ⟨⟨y, k⟩, hq, rfl⟩ := Option.map_eq_some_iff.mp h2'
  rw [List.getElem?_map, List.getElem?_map, hq] at h1'
  obtain ⟨b1, b2⟩ := mem.1 (List.mem_of_getElem? hq)
  obtain ⟨h0, K, a1, a2, a3⟩ := W.at_ y k b1 b2
  have eh : h0 = h := by
    have z : hs.getD k 0 = h := Option.some.inj h1'
    rw [← z, Array.getD_eq_getD_getElem?, ← Array.getElem?_toList, a1]
    rfl
  subst eh
  refine ⟨K, a2, fun k' hk' => ?_⟩
  show way N h0 k' ∈ (liveOf N owner).map (·.1)
  cases z : oAt owner (way N h0 k') with
  | none => exact absurd z (a3 k' hk')
  | some k2 => exact List.mem_map.mpr ⟨(way N h0 k', k2), mem.2 ⟨wayQ N h0 k', z⟩, rfl⟩
theorem size_q : SetTable.sizeAbove (SetTable.grown 77) = 512 := by decide +kernel
end DLS
set_option maxHeartbeats 4000000
/-! DLS1: sets whose members are nested tuples (KE.KeyNested's keys), over the table's laws of HandS.TupSets. -/
namespace DLS
open PySem PySem.Spec PyProof.Rows L2
open SeqAt
abbrev NK := NestedKey
instance : DecidableEq NK := fun a b => decidable_of_iff (NestedKey.beq a b = true) ⟨NestedKey.eq_of_beq a b, fun e => e ▸ NestedKey.beq_self a⟩
/-- the tuple at a is the key k -/
def IsK (h : Heap) (k : NK) (a : Addr) : Prop := NestedIs h k (.ref a) ∧ k.depth ≤ 8
theorem IsK.inj {h : Heap} {a : Addr} {x y : NK} (hx : IsK h x a) (hy : IsK h y a) : x = y := NestedIs.inj _ _ _ hx.1 hy.1
theorem IsK.keep {h h' : Heap} {k : NK} {b : Addr} (x : IsK h k b) (hk : ∀ c o, h.get? c = some o → h'.get? c = some o) : IsK h' k b := ⟨NestedIs.at (fun a o vs n e _ => hk a o e) k _ x.1, x.2⟩
theorem IsK.same {h h' : Heap} {k : NK} {a b : Addr} {o : Obj} {es : Array (Int × Value)} {ep : Nat} {t : SetTable} (x : IsK h k b) (ho : h.get? a = some o) (hd : o.data = .set es ep t) (hs : Heap.SameBut a h h') : IsK h' k b :=
  ⟨NestedIs.at (fun c ob vs n e q => (hs.2 c fun z => by subst z; rw [ho] at e; cases e; rw [hd] at q; cases q).trans e) k _ x.1, x.2⟩
section
variable {P : Program} {w : World} {A : Around} {E : Value → Shared → Prop} {s : Shared}
/-! ### questions asked of keys -/
/-- no class statement in it, n levels down -/
def PlainAt (P : Program) (w : World) (n : Nat) (s : Shared) (v : Value) : Prop := ∀ (A : Around) (E : Value → Shared → Prop) (Q : Bool → Shared → Prop), Q false s → wpAny (model P w) A (ofAClassStatement n v) Q E s
theorem PlainAt.low {n : Nat} {s : Shared} {v : Value} (h : ∀ m, ofAClassStatement m v = pure false) : PlainAt P w n s v := fun A E Q q => by
  rw [h n]
  exact wpAny_pure q
theorem PlainAt.tuple {n : Nat} {s : Shared} {a : Addr} {o : Obj} {vs : Array Value} {m : Nat} (ho : s.heap.get? a = some o) (hc : o.cls = .type "tuple") (hd : o.data = .seq vs m) (hq : ∀ v ∈ vs.toList, PlainAt P w n s v) : PlainAt P w (n + 1) s (.ref a) := fun A E Q h => by
  unfold ofAClassStatement
  refine wpAny_bind (wpAny_typeOf ⟨o, ho, hc⟩ ?_)
  dsimp only
  have e : (("tuple" : String) == "tuple") = true := by decide
  simp only [e, if_true, Bool.not_true, Bool.false_eq_true, if_false]
  try refine wpAny_bind (wpAny_pure ?_)
  try simp only [Bool.not_true, Bool.false_eq_true, if_false]
  show wpAny _ _ (seqItems? (.ref a) >>= _) _ _ s
  refine wpAny_bind (wpAny_seqItems ho hd ?_)
  dsimp only
  refine wpAny_bind ?_
  show wpAny _ _ (forIn vs _ _) _ _ s
  rw [← Array.forIn_toList]
  refine wpAny_forIn_list _ (fun rest r s' => r.1 = none ∧ s' = s ∧ ∀ v ∈ rest, PlainAt P w n s v) _ ?_ ?_ _ _ ⟨rfl, rfl, hq⟩
  · rintro v rest r s' ⟨hr, rfl, hall⟩
    refine wpAny_bind (hall v List.mem_cons_self _ _ _ ?_)
    simp only [Bool.false_eq_true, if_false]
    exact wpAny_pure ⟨rfl, rfl, fun u hu => hall u (List.mem_cons_of_mem _ hu)⟩
  · rintro ⟨r1, r2⟩ s' ⟨hr, rfl, _⟩
    simp only at hr
    subst hr
    exact wpAny_pure h
mutual
theorem plain_key : ∀ (k : NK) (v : Value) (n : Nat) (s : Shared), NestedIs s.heap k v → k.depth ≤ n → PlainAt P w n s v
  | .none, _, n, s, x, _ => by cases x; exact .low fun m => by cases m <;> rfl
  | .num i, _, n, s, x, _ => by cases x <;> exact .low fun m => by cases m <;> rfl
  | .text y, _, n, s, x, _ => by cases x; exact .low fun m => by cases m <;> rfl
  | .tup ks, _, n, s, x, hn => by
    cases x with
    | tup hg hc hd hk =>
      simp only [NestedKey.depth] at hn
      cases n with
      | zero => omega
      | succ n => exact .tuple hg hc hd (plain_keys ks _ n s hk (by omega))
theorem plain_keys : ∀ (ks : List NK) (vs : List Value) (n : Nat) (s : Shared), NestedAll s.heap ks vs → NestedKey.depthAll ks ≤ n → ∀ v ∈ vs, PlainAt P w n s v
  | [], _, n, s, x, _, v, hv => by cases x; cases hv
  | k :: ks, _, n, s, x, hn, v, hv => by
    cases x with
    | cons x1 x2 =>
      simp only [NestedKey.depthAll] at hn
      rcases List.mem_cons.mp hv with e | hv
      · rw [e]; exact plain_key k _ n s x1 (by omega)
      · exact plain_keys ks _ n s x2 (by omega) v hv
end
/-- whether its hash comes of values alone: something is told -/
def ToldAt (P : Program) (w : World) (n : Nat) (s : Shared) (v : Value) : Prop := ∀ (A : Around) (E : Value → Shared → Prop) (Q : Bool → Shared → Prop), (∀ b, Q b s) → wpAny (model P w) A (hashByValue n v) Q E s
theorem ToldAt.low {n : Nat} {s : Shared} {v : Value} (h : ∀ m, ∃ b, hashByValue m v = pure b) : ToldAt P w n s v := fun A E Q q => by
  obtain ⟨b, e⟩ := h n
  rw [e]
  exact wpAny_pure (q b)
theorem ToldAt.tuple {n : Nat} {s : Shared} {a : Addr} {o : Obj} {vs : Array Value} {m : Nat} (ho : s.heap.get? a = some o) (hc : o.cls = .type "tuple") (hd : o.data = .seq vs m) (hq : ∀ v ∈ vs.toList, ToldAt P w n s v) : ToldAt P w (n + 1) s (.ref a) := fun A E Q h => by
  unfold hashByValue
  refine wpAny_bind (wpAny_specialOf ⟨o, ho, hc⟩ F.slot_tuple_hash.lookup ?_)
  show wpAny _ _ (seqItems? (.ref a) >>= _) _ _ s
  refine wpAny_bind (wpAny_seqItems ho hd ?_)
  refine wpAny_bind ?_
  show wpAny _ _ (forIn vs _ _) _ _ s
  rw [← Array.forIn_toList]
  refine wpAny_forIn_list _ (fun rest r s' => s' = s ∧ (r.1 = none ∨ ∃ b, r.1 = some b) ∧ ∀ v ∈ rest, ToldAt P w n s v) _ ?_ ?_ _ _ ⟨rfl, .inl rfl, hq⟩
  · rintro v rest r s' ⟨rfl, hr, hall⟩
    refine wpAny_bind (hall v List.mem_cons_self _ _ _ fun b => ?_)
    cases b
    · simp only [Bool.not_false, if_true]
      exact wpAny_pure (wpAny_pure (h false))
    · simp only [Bool.not_true, Bool.false_eq_true, if_false]
      exact wpAny_pure ⟨rfl, .inl rfl, fun u hu => hall u (List.mem_cons_of_mem _ hu)⟩
  · rintro ⟨r1, r2⟩ s' ⟨rfl, hr, _⟩
    simp only at hr
    rcases hr with rfl | ⟨b, rfl⟩
    · exact wpAny_pure (h true)
    · exact wpAny_pure (h b)
mutual
theorem told_key : ∀ (k : NK) (v : Value) (n : Nat) (s : Shared), NestedIs s.heap k v → k.depth ≤ n → ToldAt P w n s v
  | .none, _, n, s, x, _ => by cases x; exact .low fun m => ⟨true, by cases m <;> rfl⟩
  | .num i, _, n, s, x, _ => by cases x <;> exact .low fun m => ⟨true, by cases m <;> rfl⟩
  | .text y, _, n, s, x, _ => by cases x; exact .low fun m => ⟨false, by cases m <;> rfl⟩
  | .tup ks, _, n, s, x, hn => by
    cases x with
    | tup hg hc hd hk =>
      simp only [NestedKey.depth] at hn
      cases n with
      | zero => omega
      | succ n => exact .tuple hg hc hd (told_keys ks _ n s hk (by omega))
theorem told_keys : ∀ (ks : List NK) (vs : List Value) (n : Nat) (s : Shared), NestedAll s.heap ks vs → NestedKey.depthAll ks ≤ n → ∀ v ∈ vs, ToldAt P w n s v
  | [], _, n, s, x, _, v, hv => by cases x; cases hv
  | k :: ks, _, n, s, x, hn, v, hv => by
    cases x with
    | cons x1 x2 =>
      simp only [NestedKey.depthAll] at hn
      rcases List.mem_cons.mp hv with e | hv
      · rw [e]; exact told_key k _ n s x1 (by omega)
      · exact told_keys ks _ n s x2 (by omega) v hv
end
/-- a search among keys shows nothing -/
theorem seen_key {k : NK} {b : Addr} {Q : Bool → Shared → Prop} (hk : IsK s.heap k b) {ys : List Value} (hy : ∀ y ∈ ys, ∃ k' c, y = Value.ref c ∧ IsK s.heap k' c) (h : Q false s) :
    wpAny (model P w) A (searchCouldBeSeen (.ref b) ys) Q E s := by
  unfold searchCouldBeSeen
  refine wpAny_bind ?_
  refine wpAny_forIn_list _ (fun rest r s' => r.1 = none ∧ s' = s ∧ ∀ y ∈ rest, ∃ k' c, y = Value.ref c ∧ IsK s.heap k' c) _ ?_ ?_ _ _ ⟨rfl, rfl, hy⟩
  · rintro v rest r s' ⟨hr, rfl, hall⟩
    obtain ⟨k', c, rfl, hc⟩ := hall v List.mem_cons_self
    have rest' : ∀ y ∈ rest, ∃ k' c, y = Value.ref c ∧ IsK s'.heap k' c := fun u hu => hall u (List.mem_cons_of_mem _ hu)
    dsimp only
    by_cases hv : (b == c || (carriedByValue (.ref b) && carriedByValue (.ref c))) = true
    · exact wp_if_pos hv (wpAny_pure ⟨rfl, rfl, rest'⟩)
    · refine wp_if_neg hv ?_
      refine wpAny_bind ((nestedKind P w).quiet hk ?_)
      simp only [Bool.not_true, Bool.false_eq_true, if_false]
      refine wpAny_bind ((nestedKind P w).quiet hc ?_)
      simp only [Bool.not_true, Bool.false_eq_true, if_false]
      refine wpAny_bind (plain_key k _ 8 _ hk.1 hk.2 _ _ _ ?_)
      simp only [Bool.false_eq_true, if_false]
      refine wpAny_bind (plain_key k' _ 8 _ hc.1 hc.2 _ _ _ ?_)
      simp only [Bool.false_eq_true, if_false]
      exact wpAny_pure ⟨rfl, rfl, rest'⟩
  · rintro ⟨r1, r2⟩ s' ⟨hr, rfl, _⟩
    simp only at hr
    subst hr
    exact wpAny_pure h
theorem eq_keys {x y : NK} {a b : Addr} {Q : Bool → Shared → Prop} (hu : A.units + 8 < cLine) (hx : IsK s.heap x a) (hy : IsK s.heap y b) (h : Q (decide (x = y)) s) : wpAny (model P w) A (eqBool (.ref a) (.ref b)) Q E s :=
  (nestedKind P w).eqBool hu hx hy (by
    have e : ∀ d : Decidable (x = y), @decide (x = y) d = @decide (x = y) (inferInstanceAs (Decidable (x = y))) := fun d => by congr
    rw [e]
    exact h)
end
end DLS
set_option maxHeartbeats 4000000
/-! DLS2: the set's object, the search in it, adding. -/
namespace DLS
open PySem PySem.Spec PyProof.Rows L2
open SeqAt
/-- the entries of members that stand at addresses -/
def ents (w : World) (L : List (Addr × NK)) : List (Int × Value) := L.map fun p => (p.2.hash w, Value.ref p.1)
abbrev hsh (w : World) (L : List (Addr × NK)) : List Int := L.map fun p => p.2.hash w
structure SetK (P : Program) (w : World) (h : Heap) (a : Addr) (L : List (Addr × NK)) (es : Array (Int × Value)) (ep : Nat) (t : SetTable) : Prop where
  ob : ∃ o, h.get? a = some o ∧ o.ExactSet ∧ o.data = .set es ep t
  rows : es.toList = ents w L
  tab : TabQ t (hsh w L)
  nd : (L.map (·.2)).Nodup
  key : ∀ p ∈ L, IsK h p.2 p.1
  led : w.params.followText "set-order" = true ∨ t.led = true
  room : L.length * 5 < t.mask * 3
  few : L.length < 300
section
variable {P : Program} {w : World} {A : Around} {E : Value → Shared → Prop} {s : Shared}
variable {a : Addr} {L : List (Addr × NK)} {es : Array (Int × Value)} {ep : Nat} {t : SetTable}
theorem ents_len {es : Array (Int × Value)} {L : List (Addr × NK)} (h : es.toList = ents w L) : es.size = L.length := by
  have q := congrArg List.length h
  simpa [ents] using q
theorem ents_at {es : Array (Int × Value)} {L : List (Addr × NK)} (h : es.toList = ents w L) {i : Nat} {p : Addr × NK} (e : L[i]? = some p) : es[i]? = some (p.2.hash w, Value.ref p.1) := by
  rw [← Array.getElem?_toList, h]
  simp [ents, e]
theorem SetK.size (R : SetK P w s.heap a L es ep t) : es.size = L.length := ents_len R.rows
theorem SetK.fits (R : SetK P w s.heap a L es ep t) : t.fits es.size = true := by
  have h1 := R.tab.sz
  rw [List.length_map] at h1
  have h2 := R.size
  have h3 := R.room
  unfold SetTable.fits SetTable.fill
  rw [R.tab.dm, Bool.and_eq_true, beq_iff_eq, decide_eq_true_eq]
  show t.place.size = es.size ∧ t.place.size + 0 ≤ t.mask
  omega
theorem SetK.way_on (R : SetK P w s.heap a L es ep t) : ¬ t.gaveWay = true := by
  unfold SetTable.gaveWay
  rw [maskQ_odd R.tab.mok]
  decide
/-- the probe's place behind c steps -/
abbrev pr (t : SetTable) (h : Int) (c : Nat) : SetTable.Probe := nth t.mask (runAt t.mask (SetTable.bits h % (t.mask + 1)) (SetTable.bits h)) c
theorem pr_add (t : SetTable) (h : Int) (c q : Nat) : nth t.mask (pr t h c) q = pr t h (c + q) := (nth_add t.mask c _ q).symm
theorem pr_clean (t : SetTable) (h : Int) (c : Nat) : (pr t h c).dummy = none := by
  have go : ∀ (n : Nat) (p : SetTable.Probe), p.dummy = none → (nth t.mask p n).dummy = none := by
    intro n
    induction n with
    | zero => exact fun p h => h
    | succ n ih =>
      intro p h
      refine ih (adv t.mask p) ?_
      unfold adv
      split <;> exact h
  exact go c _ rfl
/-- THE SEARCH from the c-th step on (adding or only asking): K is the way's first empty place -/
theorem seek_from (R : SetK P w s.heap a L es ep t) (adding : Bool) {x : Addr} {k : NK} (hx : IsK s.heap k x) (hu : A.units + 8 < cLine) {K : Nat} (hKf : K < 10 * SetTable.turns t.mask)
    (hK : way t.mask (k.hash w) K ∉ t.place.toList) (hKb : ∀ c, c < K → way t.mask (k.hash w) c ∈ t.place.toList) {Q : SetFound → Shared → Prop}
    (hin : k ∈ L.map (·.2) → ∀ o, (adding = false → o.isSome = true) → Q (.there o) s) (hout : k ∉ L.map (·.2) → Q (.free (way t.mask (k.hash w) K) false) s) :
    ∀ (f c : Nat) (stand : Option SetTable.Probe), stand.getD (t.probeStart (k.hash w)) = pr t (k.hash w) c → c ≤ K → K - c < f →
      (∀ (i : Nat) p, L[i]? = some p → p.2 = k → ∃ c', c ≤ c' ∧ c' < K ∧ t.place.toList[i]? = some (way t.mask (k.hash w) c')) →
      wpAny (model P w) A (setSearchFrom a (.ref x) (k.hash w) adding f stand) Q E s
  | 0, c, stand, _, _, hf, _ => absurd hf (Nat.not_lt_zero _)
  | f + 1, c, stand, hst, hc, hf, hre => by
    obtain ⟨o, ho, hex, hd⟩ := R.ob
    rw [setSearchFrom_succ]
    refine wpAny_bind (wpAny_setState_of ho hd R.fits ?_)
    dsimp only
    refine wp_if_neg R.way_on ?_
    try refine wpAny_bind (wpAny_pure ?_)
    have ej : ∀ q, (nth t.mask (pr t (k.hash w) c) q).j = way t.mask (k.hash w) (c + q) := fun q => congrArg SetTable.Probe.j (pr_add t _ c q)
    have eK : c + (K - c) = K := by omega
    have hAt : ∀ (i : Nat) p, L[i]? = some p → (es[i]?.map (·.1)).getD 0 = p.2.hash w := fun i p hp => by rw [ents_at R.rows hp] <;> rfl
    rcases go_spec t R.tab.ris R.tab.dm (fun i => (es[i]?.map (·.1)).getD 0) (k.hash w) (10 * SetTable.turns t.mask) (K - c) _ (pr_clean t _ c) (by omega) (fun q hq => by rw [ej]; exact hKb (c + q) (by omega)) (by rw [ej, eK]; exact hK) with
      ⟨q, i, hq, hi, hh, hno, hpr⟩ | ⟨hno, hpr⟩
    · have hpr' : t.probe (fun i => (es[i]?.map (·.1)).getD 0) (k.hash w) (stand.getD (t.probeStart (k.hash w))) = some (.candidate (way t.mask (k.hash w) (c + q)) i (pr t (k.hash w) (c + (q + 1)))) := by
        rw [hst, ← ej, ← pr_add]
        exact hpr
      rw [hpr']
      dsimp only
      rw [ej] at hi
      have hil : i < L.length := by
        have h1 := (List.getElem?_eq_some_iff.mp hi).1
        have h2 := R.tab.sz
        rw [List.length_map] at h2
        rw [Array.length_toList] at h1
        omega
      obtain ⟨p, hp⟩ : ∃ p, L[i]? = some p := ⟨_, List.getElem?_eq_getElem hil⟩
      have hmem : p ∈ L := List.mem_of_getElem? hp
      have hsl : t.slot (way t.mask (k.hash w) (c + q)) = .live i := slot_live R.tab.ris hi
      have on : p.2 ≠ k → ∀ stand', stand'.getD (t.probeStart (k.hash w)) = pr t (k.hash w) (c + (q + 1)) → wpAny (model P w) A (setSearchFrom a (.ref x) (k.hash w) adding f stand') Q E s := fun hne stand' hs' => by
        refine seek_from R adding hx hu hKf hK hKb hin hout f (c + (q + 1)) stand' hs' (by omega) (by omega) fun i0 p0 h0 hk0 => ?_
        obtain ⟨c', a1, a2, a3⟩ := hre i0 p0 h0 hk0
        refine ⟨c', ?_, a2, a3⟩
        rcases Nat.lt_trichotomy c' (c + q) with z | z | z
        · exact absurd ((hAt i0 p0 h0).trans (by rw [hk0])) (hno (c' - c) i0 (by omega) (by rw [ej, show c + (c' - c) = c' by omega]; exact a3))
        · rw [z] at a3
          have s0 := slot_live R.tab.ris a3
          rw [hsl] at s0
          injection s0 with s0
          rw [← s0, hp] at h0
          cases h0
          exact absurd hk0 hne
        · omega
      have rest : wpAny (model P w) A (searchRest a (.ref x) (k.hash w) adding f es t (way t.mask (k.hash w) (c + q)) i (pr t (k.hash w) (c + (q + 1)))) Q E s := by
        unfold searchRest
        rw [ents_at R.rows hp]
        dsimp only
        refine wpAny_bind (wpAny_holding (eq_keys hu (R.key p hmem) hx ?_))
        refine wpAny_bind (wpAny_setState_of ho hd R.fits ?_)
        dsimp only
        by_cases hkk : p.2 = k
        · have hm : k ∈ L.map (·.2) := List.mem_map.mpr ⟨p, hmem, hkk⟩
          cases adding with
          | true => exact wp_if_pos (by simp [hkk]) (wpAny_pure (hin hm _ fun z => by cases z))
          | false =>
            refine wp_if_neg (by simp) ?_
            try refine wpAny_bind (wpAny_pure ?_)
            rw [sameMem]
            dsimp only
            simp only [if_true, hsl, ents_at R.rows hp]
            refine wpAny_bind (wpAny_isSame_ref_self (wpAny_bind (wpAny_pure ?_)))
            simp only [if_true]
            exact wp_if_pos (by simp [hkk]) (wpAny_pure (hin hm _ fun _ => rfl))
        · refine wp_if_neg (by simp [hkk]) ?_
          try refine wpAny_bind (wpAny_pure ?_)
          rw [sameMem]
          dsimp only
          simp only [if_true, hsl, ents_at R.rows hp]
          refine wpAny_bind (wpAny_isSame_ref_self (wpAny_bind (wpAny_pure ?_)))
          simp only [if_true]
          exact wp_if_neg (by simp [hkk]) (on hkk _ rfl)
      by_cases hl : t.led = true
      · refine wp_if_neg (by simp [hl]) ?_
        try refine wpAny_bind (wpAny_pure ?_)
        exact rest
      · refine wp_if_pos (by simp [hl]) ?_
        refine wpAny_bind (seen_key hx (fun y hy => ?_) ?_)
        · obtain ⟨e, he, ee⟩ := List.mem_map.mp hy
          have he1 : e ∈ es ∧ e.1 = k.hash w := by simpa using he
          have he2 : e ∈ es.toList := by simpa using he1.1
          rw [R.rows] at he2
          obtain ⟨p2, hp2, e2⟩ := List.mem_map.mp he2
          exact ⟨p2.2, p2.1, by rw [← ee, ← e2], R.key p2 hp2⟩
        · refine wp_if_neg (by decide) ?_
          try refine wpAny_bind (wpAny_pure ?_)
          exact rest
    · have hpr' : t.probe (fun i => (es[i]?.map (·.1)).getD 0) (k.hash w) (stand.getD (t.probeStart (k.hash w))) = some (.empty (way t.mask (k.hash w) K) none) := by
        have e2 : way t.mask (k.hash w) K = (nth t.mask (pr t (k.hash w) c) (K - c)).j := by rw [ej, eK]
        rw [hst, e2]
        exact hpr
      rw [hpr']
      dsimp only
      refine wpAny_pure (hout fun hm => ?_)
      obtain ⟨p0, h0, hk0⟩ := List.mem_map.mp hm
      obtain ⟨i0, hi0, e0⟩ := List.getElem_of_mem h0
      have h00 : L[i0]? = some p0 := by rw [List.getElem?_eq_getElem hi0, e0]
      obtain ⟨c', a1, a2, a3⟩ := hre i0 p0 h00 hk0
      exact hno (c' - c) i0 (by omega) (by rw [ej, show c + (c' - c) = c' by omega]; exact a3) ((hAt i0 p0 h00).trans (by rw [hk0]))
theorem seek (R : SetK P w s.heap a L es ep t) (adding : Bool) {x : Addr} {k : NK} (hx : IsK s.heap k x) (hu : A.units + 8 < cLine) {Q : SetFound → Shared → Prop}
    (hin : k ∈ L.map (·.2) → ∀ o, (adding = false → o.isSome = true) → Q (.there o) s)
    (hout : ∀ K, k ∉ L.map (·.2) → way t.mask (k.hash w) K ∉ t.place.toList → (∀ c, c < K → way t.mask (k.hash w) c ∈ t.place.toList) → Q (.free (way t.mask (k.hash w) K) false) s) :
    wpAny (model P w) A (setSearch a (.ref x) (k.hash w) adding) Q E s := by
  have hroom := R.room
  obtain ⟨K, hKf, hK, hKb⟩ := R.tab.first (by rw [List.length_map]; omega) (k.hash w)
  have hbig : K < 100000 := by
    have : 10 * SetTable.turns t.mask ≤ 5260 := by
      unfold SetTable.turns
      rcases R.tab.mok with e | e | e | e <;> omega
    omega
  unfold setSearch
  refine seek_from R adding hx hu hKf hK hKb hin (fun hn => hout K hn hK hKb) 100000 0 none rfl (Nat.zero_le _) (by omega) fun i p hp hk => ?_
  have hi : (hsh w L)[i]? = some (k.hash w) := by rw [List.getElem?_map, hp, ← hk] <;> rfl
  have hil : i < t.place.toList.length := by
    have h1 := (List.getElem?_eq_some_iff.mp hp).1
    have h2 := R.tab.sz
    rw [List.length_map] at h2
    rw [Array.length_toList]
    omega
  have hj := List.getElem?_eq_getElem hil
  obtain ⟨c, hc, e⟩ := R.tab.before hK hi hj
  exact ⟨c, Nat.zero_le _, hc, by rw [hj, e]⟩
/-! ### the table laid anew -/
theorem ents_order (L : List (Addr × NK)) (es : Array (Int × Value)) (order : Array Nat) (hr : es.toList = ents w L) (hp : order.toList.Perm (List.range L.length)) :
    ∃ L2, (order.filterMap (es[·]?)).toList = ents w L2 ∧ L2.Perm L ∧ hsh w L2 = order.toList.map fun i => (es.map (·.1)).getD i 0 := by
  have sz : es.size = L.length := ents_len hr
  refine ⟨order.toList.filterMap fun i => L[i]?, ?_, ?_, ?_⟩
  · rw [Array.toList_filterMap]
    have hl : ∀ i ∈ order.toList, i < L.length := fun i hi => List.mem_range.mp (hp.mem_iff.mp hi)
    generalize order.toList = l at hl
    induction l with
    | nil => rfl
    | cons i l ih =>
      have hi := hl i List.mem_cons_self
      have e := List.getElem?_eq_getElem hi
      rw [List.filterMap_cons_some (ents_at hr e), List.filterMap_cons_some e, ih fun j hj => hl j (List.mem_cons_of_mem _ hj)]
      rfl
  · have h1 := hp.filterMap fun i => L[i]?
    have h2 : (List.range L.length).filterMap (fun i => L[i]?) = L := by
      clear h1 hp hr sz
      induction L with
      | nil => rfl
      | cons x L ih =>
        rw [List.length_cons, List.range_succ_eq_map, List.filterMap_cons]
        show x :: _ = _
        rw [List.filterMap_map]
        congr 1
    rw [h2] at h1
    exact h1
  · have hl : ∀ i ∈ order.toList, i < L.length := fun i hi => List.mem_range.mp (hp.mem_iff.mp hi)
    generalize order.toList = l at hl
    induction l with
    | nil => rfl
    | cons i l ih =>
      have hi := hl i List.mem_cons_self
      have e := List.getElem?_eq_getElem hi
      have e5 : (es.map (·.1))[i]? = some ((L[i]).2.hash w) := by rw [Array.getElem?_map, ents_at hr e] <;> rfl
      rw [List.filterMap_cons_some e]
      show (L[i]).2.hash w :: _ = _
      have ih' : List.map (fun p => NestedKey.hash w p.snd) (List.filterMap (fun i => L[i]?) l) = _ := ih fun j hj => hl j (List.mem_cons_of_mem _ hj)
      show (L[i]).2.hash w :: List.map (fun p => NestedKey.hash w p.snd) (List.filterMap (fun i => L[i]?) l) = _
      rw [List.map_cons, ih']
      congr 1
      simp [Array.getD_eq_getD_getElem?, e5]
theorem relay {o : Obj} (ho : s.heap.get? a = some o) (hex : o.ExactSet) (hd : o.data = .set es ep t) (hrows : es.toList = ents w L) (hsz : t.place.size = es.size) (hdm : t.dummies = #[]) (hfl : es.size ≤ t.mask)
    (nd : (L.map (·.2)).Nodup) (key : ∀ p ∈ L, IsK s.heap p.2 p.1) (ld : w.params.followText "set-order" = true ∨ t.led = true) (few : L.length < 300) {wanted M : Nat}
    (hw : SetTable.sizeAbove wanted - 1 = M) (hM : MaskQ M) (hw2 : SetTable.sizeAbove wanted ≤ 512) (hn : L.length * 5 < M * 3) {Q : Unit → Shared → Prop}
    (hQ : ∀ h' L' es' ep' t', Heap.SameBut a s.heap h' → SetK P w h' a L' es' ep' t' → L'.Perm L → Q () { s with heap := h' }) : wpAny (model P w) A (setRelay a wanted) Q E s := by
  have hsl : es.size = L.length := ents_len hrows
  have hfits : t.fits es.size = true := by
    unfold SetTable.fits SetTable.fill
    rw [hdm, Bool.and_eq_true, beq_iff_eq, decide_eq_true_eq]
    show t.place.size = es.size ∧ t.place.size + 0 ≤ t.mask
    omega
  obtain ⟨t', order, e, hp, T, em, el, _, ed⟩ := relaidQ t (hs := es.map (·.1)) (wanted := wanted) hw hM (by rw [Array.size_map, hsl]; omega)
  rw [Array.size_map, hsl] at hp
  obtain ⟨L2, r1, r2, r3⟩ := ents_order L es order hrows hp
  rw [← r3] at T
  have hs2 : (order.filterMap (es[·]?)).size = es.size := by rw [ents_len r1, r2.length_eq, hsl]
  rw [setRelay_eq]
  refine wpAny_bind (wpAny_setState_of ho hd hfits ?_)
  dsimp only
  refine wp_if_neg (by rw [sizeLine_eq]; omega) ?_
  try refine wpAny_bind (wpAny_pure ?_)
  rw [e]
  dsimp only
  refine wpAny_bind ?_
  refine wp_if_neg (by rw [hs2]; simp) ?_
  try refine wpAny_bind (wpAny_pure ?_)
  refine wpAny_pure ?_
  dsimp only
  refine wpAny_storeSet_of ho hd ?_ (by rw [hs2, hsl, sizeLine_eq]; omega)
  have sb : Heap.SameBut a s.heap (s.heap.update a (Obj.putSet (order.filterMap (es[·]?)) t')) := Heap.SameBut.update ..
  refine hQ _ L2 (order.filterMap (es[·]?)) (ep + 1) t' sb ⟨⟨_, store_at ho hd, ⟨hex.1, hex.2.1, hex.2.2⟩, rfl⟩, r1, T, (r2.map (·.2)).nodup_iff.mpr nd, fun p hpm => (key p (r2.mem_iff.mp hpm)).same ho hd sb, by rw [el]; exact ld, ?_, by rw [r2.length_eq]; exact few⟩ r2
  rw [r2.length_eq, em]
  exact hn
/-- ADDING -/
theorem add (R : SetK P w s.heap a L es ep t) {x : Addr} {k : NK} (hx : IsK s.heap k x) (hu : A.units + 8 < cLine) (hfew : k ∉ L.map (·.2) → L.length + 1 < 300) {Q : Bool → Shared → Prop}
    (hQ : ∀ b h' L' es' ep' t', Heap.SameBut a s.heap h' → SetK P w h' a L' es' ep' t' → (k ∈ L.map (·.2) → L' = L) → (k ∉ L.map (·.2) → L'.Perm ((x, k) :: L)) → Q b { s with heap := h' }) :
    wpAny (model P w) A (setAddHashed a (.ref x) (k.hash w)) Q E s := by
  obtain ⟨o, ho, hex, hd⟩ := R.ob
  have hsl := R.size
  have hroom := R.room
  unfold setAddHashed
  refine wpAny_holding ?_
  rw [show (100000 : Nat) = 99999 + 1 from rfl, setAddHashedIn_succ]
  refine wpAny_bind (wpAny_setState_of ho hd R.fits ?_)
  dsimp only
  refine wp_if_neg (by simp [byScan, Value.scannable]) ?_
  try refine wpAny_bind (wpAny_pure ?_)
  refine wpAny_bind (seek R true hx hu (fun hm o _ => ?_) fun K hm hK hb => ?_)
  · dsimp only
    exact wpAny_pure (hQ false s.heap L es ep t (Heap.SameBut.refl a s.heap) R (fun _ => rfl) fun z => absurd hm z)
  · have hfew := hfew hm
    dsimp only
    refine wpAny_bind (wpAny_setState_of ho hd R.fits ?_)
    dsimp only
    obtain ⟨q1, q2, q3, q4, q5, q6, q7, q8, q9⟩ := R.tab.put hK hb
    generalize hpt : t.put (way t.mask (k.hash w) K) = pt at q1 q3 q4 q5 q6 q7 q8 q9 ⊢
    obtain ⟨t1, p⟩ := pt
    dsimp only at q1 q3 q4 q5 q6 q7 q8 q9 ⊢
    subst q1
    have hin : (SetTable.insertAt es (SetTable.below t.place (way t.mask (k.hash w) K)) (k.hash w, Value.ref x)).toList = ents w (L.take (SetTable.below t.place (way t.mask (k.hash w) K)) ++ (x, k) :: L.drop (SetTable.below t.place (way t.mask (k.hash w) K))) := by
      rw [SetTable.toList_insertAt, R.rows]
      simp [ents, List.map_take, List.map_drop]
    generalize SetTable.below t.place (way t.mask (k.hash w) K) = p at q2 q3 hin ⊢
    have pm : (L.take p ++ (x, k) :: L.drop p).Perm ((x, k) :: L) := put_perm L p (x, k)
    have hlen : (L.take p ++ (x, k) :: L.drop p).length = L.length + 1 := pm.length_eq
    have hhs : hsh w (L.take p ++ (x, k) :: L.drop p) = (hsh w L).take p ++ k.hash w :: (hsh w L).drop p := by simp [hsh, List.map_take, List.map_drop]
    rw [← hhs] at q3
    have nd1 : ((L.take p ++ (x, k) :: L.drop p).map (·.2)).Nodup := (pm.map (·.2)).nodup_iff.mpr (List.nodup_cons.mpr ⟨hm, R.nd⟩)
    have hes : (SetTable.insertAt es p (k.hash w, Value.ref x)).size = L.length + 1 := by rw [ents_len hin, hlen]
    generalize SetTable.insertAt es p (k.hash w, Value.ref x) = es1 at hin hes ⊢
    generalize L.take p ++ (x, k) :: L.drop p = L1 at pm hlen q3 nd1 hin
    have ld1 : w.params.followText "set-order" = true ∨ t1.led = true := by rw [q5]; exact R.led
    -- whatever the table says of plainness
    have fin : ∀ t2 : SetTable, TabQ t2 (hsh w L1) → t2.mask = t1.mask → t2.led = t1.led → t2.fill = t1.fill → t2.place = t1.place → t2.tooFull = t1.tooFull →
        wpAny (model P w) A (storeSet a es1 t2 >>= fun _ => (if (!false && t2.tooFull) = true then setRelay a (SetTable.grown (es.size + 1)) >>= fun _ => pure true else pure true)) Q E s := fun t2 T2 m2 l2 f2 p2 tf2 => by
      refine wpAny_bind (wpAny_storeSet_of ho hd ?_ (by rw [hes, sizeLine_eq]; omega))
      have sb : Heap.SameBut a s.heap (s.heap.update a (Obj.putSet es1 t2)) := Heap.SameBut.update ..
      have ho1 := store_at (es' := es1) (t' := t2) ho hd
      generalize s.heap.update a (Obj.putSet es1 t2) = h1 at sb ho1 ⊢
      have key1 : ∀ p ∈ L1, IsK h1 p.2 p.1 := fun p hp => by
        rcases List.mem_cons.mp (pm.mem_iff.mp hp) with e | hp
        · rw [e]; exact hx.same ho hd sb
        · exact (R.key p hp).same ho hd sb
      have ld2 : w.params.followText "set-order" = true ∨ t2.led = true := by rw [l2]; exact ld1
      have full : t2.tooFull = decide ((L.length + 1) * 5 ≥ t2.mask * 3) := by
        unfold SetTable.tooFull
        rw [f2, q9, List.length_map]
      by_cases hf : t2.tooFull = true
      · refine wp_if_pos (by simp [hf]) ?_
        refine wpAny_bind ?_
        have hfull : (L.length + 1) * 5 ≥ t2.mask * 3 := by rw [full] at hf; exact of_decide_eq_true hf
        rw [m2, q4] at hfull
        rw [hsl]
        have hsz1 : t2.place.size = es1.size := by
          have h := T2.sz
          rw [List.length_map, hlen] at h
          rw [h, hes]
        have cases2 : (t.mask = 7 ∧ L.length = 4) ∨ (t.mask = 31 ∧ L.length = 18) ∨ (t.mask = 127 ∧ L.length = 76) := by
          rcases R.tab.mok with e | e | e | e
          · left; rw [e] at hfull hroom; exact ⟨e, by omega⟩
          · right; left; rw [e] at hfull hroom; exact ⟨e, by omega⟩
          · right; right; rw [e] at hfull hroom; exact ⟨e, by omega⟩
          · exfalso; rw [e] at hfull; omega
        have go : ∀ M, SetTable.sizeAbove (SetTable.grown (L.length + 1)) - 1 = M → MaskQ M → SetTable.sizeAbove (SetTable.grown (L.length + 1)) ≤ 512 → (L.length + 1) * 5 < M * 3 →
            wpAny (model P w) A (setRelay a (SetTable.grown (L.length + 1))) (fun _ s' => wpAny (model P w) A (pure true) Q E s') E { s with heap := h1 } := fun M h1' h2' h3' h4' => by
          refine relay (s := { s with heap := h1 }) ho1 ⟨hex.1, hex.2.1, hex.2.2⟩ rfl hin hsz1 T2.dm (by rw [hes, m2, q4]; rcases cases2 with ⟨e, e2⟩ | ⟨e, e2⟩ | ⟨e, e2⟩ <;> omega) nd1 key1 ld2 (by rw [hlen]; exact hfew) h1' h2' h3' (by rw [hlen]; exact h4') ?_
          intro h2 L2 es2 ep2 t2 sb2 R2 pm2
          exact wpAny_pure (hQ true h2 L2 es2 ep2 t2 (sb.trans sb2) R2 (fun z => absurd z hm) fun _ => pm2.trans pm)
        rcases cases2 with ⟨_, e2⟩ | ⟨_, e2⟩ | ⟨_, e2⟩
        · exact go 31 (by rw [e2, size_20]) (.inr (.inl rfl)) (by rw [e2, size_20]; decide) (by omega)
        · exact go 127 (by rw [e2, size_76]) (.inr (.inr (.inl rfl))) (by rw [e2, size_76]; decide) (by omega)
        · exact go 511 (by rw [e2, size_q]) (.inr (.inr (.inr rfl))) (by rw [e2, size_q]; decide) (by omega)
      · refine wp_if_neg (by simp [hf]) ?_
        refine wpAny_pure (hQ true h1 L1 es1 (ep + 1) t2 sb ⟨⟨_, ho1, ⟨hex.1, hex.2.1, hex.2.2⟩, rfl⟩, hin, T2, nd1, key1, ld2, ?_, by rw [hlen]; exact hfew⟩ (fun z => absurd z hm) fun _ => pm)
        rw [full] at hf
        have := of_decide_eq_false (Bool.eq_false_iff.mpr hf)
        rw [hlen]
        omega
    by_cases hp1 : t1.plain = true
    · first
        | (refine wpAny_bind ?_; refine wp_if_pos hp1 ?_; refine told_key k _ 8 _ hx.1 hx.2 _ _ _ fun b => ?_)
        | refine wp_if_pos hp1 (wpAny_bind (told_key k _ 8 _ hx.1 hx.2 _ _ _ fun b => ?_))
      cases b
      · simp only [Bool.false_eq_true, if_false]
        exact fin { t1 with plain := false } ⟨q3.ris, q3.dm, q3.sz, q3.mok, q3.bd, q3.reach⟩ rfl rfl rfl rfl rfl
      · simp only [if_true]
        exact fin t1 q3 rfl rfl rfl rfl rfl
    · first
        | (refine wpAny_bind ?_; refine wp_if_neg hp1 ?_; refine wpAny_pure ?_)
        | refine wp_if_neg hp1 (wpAny_bind (wpAny_pure ?_))
      simp only [if_true]
      exact fin t1 q3 rfl rfl rfl rfl rfl
end
end DLS
set_option maxHeartbeats 8000000
/-! DLS3: set(xs). -/
namespace DLS
open PySem PySem.Spec PyProof.Rows L2
open SeqAt
/-- what the first i items have brought -/
structure Gt (ks : List (Addr × NK)) (i : Nat) (L : List (Addr × NK)) : Prop where
  sub : ∀ p ∈ L, p ∈ ks.take i
  all : ∀ p ∈ ks.take i, p.2 ∈ L.map (·.2)
theorem Gt.zero (ks : List (Addr × NK)) : Gt ks 0 [] := ⟨fun p h => (by cases h), fun p h => (by simp at h)⟩
theorem Gt.step {ks L L' : List (Addr × NK)} {i : Nat} {x : Addr × NK} (g : Gt ks i L) (h : ks[i]? = some x) (c1 : x.2 ∈ L.map (·.2) → L' = L) (c2 : x.2 ∉ L.map (·.2) → L'.Perm (x :: L)) : Gt ks (i + 1) L' := by
  have tk : ks.take (i + 1) = ks.take i ++ [x] := take_next h
  rcases Classical.em (x.2 ∈ L.map (·.2)) with c | c
  · rw [c1 c]
    refine ⟨fun p hp => by rw [tk]; exact List.mem_append_left _ (g.sub p hp), fun p hp => ?_⟩
    rw [tk] at hp
    rcases List.mem_append.mp hp with z | z
    · exact g.all p z
    · rw [List.mem_singleton.mp z]; exact c
  · have pm := c2 c
    refine ⟨fun p hp => ?_, fun p hp => ?_⟩
    · rw [tk]
      rcases List.mem_cons.mp (pm.mem_iff.mp hp) with e | z
      · rw [e]; exact List.mem_append_right _ (List.mem_singleton.mpr rfl)
      · exact List.mem_append_left _ (g.sub p z)
    · rw [(pm.map (·.2)).mem_iff, List.map_cons]
      rw [tk] at hp
      rcases List.mem_append.mp hp with z | z
      · exact List.mem_cons_of_mem _ (g.all p z)
      · rw [List.mem_singleton.mp z]; exact List.mem_cons_self
/-- fewer than 64 keys in ks, however often each -/
def FewK (ks : List (Addr × NK)) : Prop := ∀ l : List NK, l.Nodup → (∀ k ∈ l, k ∈ ks.map (·.2)) → l.length < 300
theorem FewK.room {ks L : List (Addr × NK)} {i : Nat} {x : Addr × NK} (f : FewK ks) (g : Gt ks i L) (nd : (L.map (·.2)).Nodup) (h : ks[i]? = some x) : x.2 ∉ L.map (·.2) → L.length + 1 < 300 := fun c => by
  have q := f (x.2 :: L.map (·.2)) (List.nodup_cons.mpr ⟨c, nd⟩) fun k hk => by
    rcases List.mem_cons.mp hk with rfl | hk
    · exact List.mem_map.mpr ⟨x, List.mem_of_getElem? h, rfl⟩
    · obtain ⟨p, hp, rfl⟩ := List.mem_map.mp hk
      exact List.mem_map.mpr ⟨p, List.mem_of_mem_take (g.sub p hp), rfl⟩
  simpa using q
section
variable {P : Program} {w : World} {A : Around} {E : Value → Shared → Prop} {s : Shared}
abbrev setObj0 (w : World) : Obj := { cls := .type "set", dict := none, data := .set #[] 0 (.fresh 0 0 (!w.params.followText "set-order")) }
theorem SetK.keep {h h' : Heap} {a : Addr} {L : List (Addr × NK)} {es : Array (Int × Value)} {ep : Nat} {t : SetTable} (R : SetK P w h a L es ep t) (ha : ∀ o, h.get? a = some o → h'.get? a = some o) (hk : ∀ p ∈ L, IsK h' p.2 p.1) : SetK P w h' a L es ep t := by
  obtain ⟨o, ho, r⟩ := R.ob
  exact ⟨⟨o, ha o ho, r⟩, R.rows, R.tab, R.nd, hk, R.led, R.room, R.few⟩
theorem setK_new {h : Heap} {a : Addr} (ho : h.get? a = some (setObj0 w)) : SetK P w h a [] #[] 0 (.fresh 0 0 (!w.params.followText "set-order")) where
  ob := ⟨_, ho, ⟨rfl, rfl, rfl⟩, rfl⟩
  rows := rfl
  tab := ⟨List.Pairwise.nil, rfl, rfl, .inl rfl, fun x hx => (by cases hx), fun i h j hi => (by simp at hi)⟩
  nd := List.nodup_nil
  key := fun p hp => (by cases hp)
  led := by
    show _ ∨ (!w.params.followText "set-order") = true
    cases w.params.followText "set-order"
    · exact .inr rfl
    · exact .inl rfl
  room := by
    show 0 * 5 < 7 * 3
    decide
  few := by
    show 0 < 300
    decide
/-- the loop of set.update -/
theorem update_loop {I : Addr} {fp wr : List Addr} {G : Array GenState → Array GenState → Prop} {n : Nat} {Pv : Nat → Value → Prop} {St : Nat → Shared → Prop} {R : Result → Shared → Prop}
    (W : WalksS P w A.in1 I fp wr G n Pv St) (S : Addr) (hSf : S ∉ fp) (ks : List (Addr × NK)) (hn : n = ks.length) (hfew : FewK ks) (hval : ∀ i v, Pv i v → ∃ p, ks[i]? = some p ∧ v = .ref p.1)
    (h0 : Heap) (hk : ∀ p ∈ ks, IsK h0 p.2 p.1) (hS0 : h0.get? S = none) (hw0 : ∀ b ∈ wr, h0.get? b = none) (hu : A.in1.units + 8 < cLine) :
    ∀ (k i : Nat) (s : Shared), n - i = k → i ≤ n → St i s → (∀ b o, h0.get? b = some o → s.heap.get? b = some o) → (∃ L es ep t, SetK P w s.heap S L es ep t ∧ Gt ks i L) →
      (∀ s' L es ep t, Moved (S :: wr) G s s' → SetK P w s'.heap S L es ep t → Gt ks n L → (∀ b o, h0.get? b = some o → s'.heap.get? b = some o) → R (.ok (.ret .none)) s') →
      codeAny (model P w) A (.builtin "set.update.loop" ⟨[.ref S, .ref I], []⟩) R s := by
  have hSw : S ∉ wr := fun h => hSf (W.sub _ h)
  have hsub : ∀ b ∈ wr, b ∈ S :: wr := fun b hb => List.mem_cons_of_mem _ hb
  have keepM : ∀ {s s' : Shared}, Moved wr G s s' → (∀ b o, h0.get? b = some o → s.heap.get? b = some o) → ∀ b o, h0.get? b = some o → s'.heap.get? b = some o := fun hm hkp b o e =>
    hm.heap b o (fun hb => by rw [hw0 b hb] at e; cases e) (hkp b o e)
  intro k
  induction k with
  | zero =>
    intro i s hk' hi hst hkp ⟨L, es, ep, t, hS, g⟩ hR
    have hin : i = n := by omega
    subst hin
    refine codeAny_builtin F.entry_set_update_loop ?_
    rw [Around.under_plainId F.plain_set_update_loop _]
    show wpAny _ A.in1 (pyNext (.ref I) >>= _) _ _ s
    refine wpAny_bind (W.done s _ _ hst fun s' hm => ?_)
    show wpAny _ A.in1 (ret Value.none) _ _ s'
    have hkp' := keepM hm hkp
    exact wpAny_pure (hR s' L es ep t (hm.mono hsub) (hS.keep (fun o e => hm.heap S o hSw e) fun p hp => (hk p (List.mem_of_mem_take (g.sub p hp))).keep hkp') g hkp')
  | succ k ih =>
    intro i s hk' hi hst hkp ⟨L, es, ep, t, hS, g⟩ hR
    have hlt : i < n := by omega
    refine codeAny_builtin F.entry_set_update_loop ?_
    rw [Around.under_plainId F.plain_set_update_loop _]
    show wpAny _ A.in1 (pyNext (.ref I) >>= _) _ _ s
    refine wpAny_bind (W.item i s _ _ hlt hst fun v s' hP hst' hm => ?_)
    obtain ⟨p, hp, rfl⟩ := hval i v hP
    have hkp' := keepM hm hkp
    have hS' : SetK P w s'.heap S L es ep t := hS.keep (fun o e => hm.heap S o hSw e) fun q hq => (hk q (List.mem_of_mem_take (g.sub q hq))).keep hkp'
    have hx : IsK s'.heap p.2 p.1 := (hk p (List.mem_of_getElem? hp)).keep hkp'
    show wpAny _ A.in1 (holding [Value.ref p.1] (setAdd S (.ref p.1)) >>= _) _ _ s'
    refine wpAny_bind (wpAny_holding ?_)
    unfold setAdd
    refine wpAny_holding ?_
    refine wpAny_bind ((nestedKind P w).pyHash hu hx ?_)
    refine add (s := { s' with toks := s'.toks + p.2.draws }) hS' hx hu (hfew.room g hS'.nd hp) fun b h' L' es' ep' t' hsb hS2 c1 c2 => ?_
    have hkp2 : ∀ b o, h0.get? b = some o → h'.get? b = some o := fun b o e => (hsb.2 b (fun z => by rw [z, hS0] at e; cases e)).trans (hkp' b o e)
    refine wpAny_pure ⟨plainId_quiet F.plain_set_update_loop _, ih (i + 1) _ (by omega) hlt (W.frame _ s' _ _ hst' (Nat.le_add_right _ _) fun b hb o e => ?_) hkp2 ⟨L', es', ep', t', hS2, g.step hp c1 c2⟩ fun s'' L2 es2 ep2 t2 hm'' hS'' g'' hkp'' => ?_⟩
    · rw [hsb.2 b (fun h : b = S => hSf (by rw [← h]; exact hb))]; exact e
    · refine hR s'' L2 es2 ep2 t2 (Moved.trans W.gtrans ((hm.mono hsub).then_heap (Nat.le_add_right _ _) fun b o hb e => ?_) hm'') hS'' g'' hkp''
      rw [hsb.2 b (fun h : b = S => hb (by rw [h]; exact List.mem_cons_self))]; exact e
/-- set(xs), xs a tuple of nested tuples -/
theorem call_set_tup {l : Addr} {items : Array Value} (ks : List (Addr × NK)) {Q : Value → Shared → Prop} (hh : A.handled = none) (hl : s.heap.IsTuple l items) (hit : items.toList = ks.map fun p => Value.ref p.1)
    (hk : ∀ p ∈ ks, IsK s.heap p.2 p.1) (hfew : FewK ks) (hu : A.units + 11 < cLine)
    (h : ∀ (h' : Heap) (tk : Nat) L es ep t, SetK P w h' s.heap.objs.size L es ep t → Gt ks ks.length L → (∀ b o, s.heap.get? b = some o → h'.get? b = some o) → Q (.ref s.heap.objs.size) { s with heap := h', toks := tk }) :
    wpAny (model P w) A (call (.type "set") [.ref l]) Q E s := by
  have hisz : items.size = ks.length := by
    have q := congrArg List.length hit
    rw [Array.length_toList, List.length_map] at q
    exact q
  obtain ⟨c, tl, hmro⟩ := F.called_set.mro
  have hmade := F.called_set.made
  have hsub := F.called_set.sub
  refine wpAny_call (codeAny_of_tree ?_)
  show wpAny _ _ (callAny (.type "set") _) _ _ _
  refine wpAny_pure ⟨Code.quiet_builtin _ (by decide +kernel), codeAny_builtin F.entry_type_call ?_⟩
  rw [Around.under_plain (weight_type_call_type "set" [.ref l] []) rfl]
  have h1 := F.called_set.notType
  have h2 := F.called_set.canCreate
  have hct := F.typeCall_set_1 (.ref l)
  repeat (any_goals (first | assumption | wp_step))
  refine codeAny_mono (code_set_led1 (.ref l) (E := E) (Q₁ := fun obj s₁ => obj = .ref s.heap.objs.size ∧ s₁ = { s with heap := s.heap.push (setObj0 w) }) ⟨rfl, rfl⟩) fun r s₁ hr => ?_
  cases r with
  | error e => exact hr
  | ok fl =>
    cases fl with
    | ret obj =>
      obtain ⟨rfl, rfl⟩ := hr
      have hS : (s.heap.push (setObj0 w)).get? s.heap.objs.size = some (setObj0 w) := Heap.get?_push_size _ rfl
      have hT : Shared.TypeIs { s with heap := s.heap.push (setObj0 w) } (.ref s.heap.objs.size) "set" := ⟨_, hS, rfl⟩
      have hli := F.called_set.init.lookup
      have hbi := F.called_set.init.bind (.ref s.heap.objs.size)
      repeat (any_goals (first | assumption | wp_step))
      refine codeAny_mono (codeAny_call_builtin (R := wants (fun r s₂ => r = .none ∧ ∃ h' tk L es ep t, s₂ = { s with heap := h', toks := tk } ∧ SetK P w h' s.heap.objs.size L es ep t ∧ Gt ks ks.length L ∧
          (∀ b o, s.heap.get? b = some o → h'.get? b = some o)) E) F.called_set.init.plain F.entry_set_init (check_set_init_1 hT ?_)) fun r₂ s₂ hr₂ => ?_
      · obtain ⟨ol, hol, hcl, nl, hdl⟩ := hl
        obtain ⟨ocls, odict, odata, oslots⟩ := ol
        simp only at hcl hdl
        subst hcl; subst hdl
        have hol' : (s.heap.push (setObj0 w)).get? l = some { cls := .type "tuple", dict := odict, data := .seq items nl, slots := oslots } := Heap.get?_push_of_some _ hol
        have hsls := F.sub_tuple_set
        have hslf := F.sub_tuple_frozenset
        have hne : (Value.type "tuple" == Value.type "dict") = false := by decide
        have hl1 : (s.heap.push (setObj0 w)).IsTuple l items := ⟨_, hol', rfl, nl, rfl⟩
        unfold Builtin.«set.__init__» noKeywords Builtin.Frozenset.updateFrom
        generalize hPI : pyIter = PI
        wp_walk
        subst hPI
        refine wpAny_pyIter_tuple hl1 ?_
        refine wpAny_bind (wpAny_runValue ?_)
        have hlS : l < s.heap.objs.size := Heap.lt_size hol
        have hh3 : A.in1.in1.in1.handled = none := by simp [hh]
        have hz1 : (s.heap.push (setObj0 w)).objs.size = s.heap.objs.size + 1 := Heap.size_push ..
        have hneI : l ≠ (s.heap.push (setObj0 w)).objs.size := by
          rw [Heap.size_push]; exact Nat.ne_of_lt (Nat.lt_succ_of_lt hlS)
        have hSf : s.heap.objs.size ∉ [(s.heap.push (setObj0 w)).objs.size, l] := by
          rw [Heap.size_push]; simp only [List.mem_cons, List.mem_singleton, List.not_mem_nil, or_false, not_or]
          exact ⟨Nat.ne_of_lt (Nat.lt_succ_self _), Nat.ne_of_gt hlS⟩
        have hval : ∀ (i : Nat) (v : Value), items[i]? = some v → ∃ p, ks[i]? = some p ∧ v = .ref p.1 := fun i v hv => by
          have q : items.toList[i]? = some v := by rw [Array.getElem?_toList]; exact hv
          rw [hit, List.getElem?_map] at q
          cases hq : ks[i]? with
          | none => rw [hq] at q; cases q
          | some p =>
            rw [hq] at q
            exact ⟨p, rfl, (Option.some.inj q).symm⟩
        have none_of : ∀ b, s.heap.objs.size ≤ b → s.heap.get? b = none := fun b hb => by
          cases q : s.heap.get? b with
          | none => rfl
          | some o => exact absurd (Nat.lt_of_lt_of_le (Heap.lt_size q) hb) (Nat.lt_irrefl _)
        refine update_loop ((Walks.tuple hh3 _ l hneI items).toS) s.heap.objs.size
          hSf ks hisz hfew hval s.heap hk (none_of _ (Nat.le_refl _)) (fun b hb => none_of b (by
            rw [List.mem_singleton.mp hb, Heap.size_push]
            exact Nat.le_succ _)) (by show A.units + 3 + 8 < cLine; omega) (items.size - 0) 0 _ (by omega) (Nat.zero_le _)
          ⟨⟨_, Heap.get?_push_size _ rfl, rfl, rfl⟩, (hl1.push _)⟩ (fun b o e => Heap.get?_push_of_some _ (Heap.get?_push_of_some _ e)) ?hS0 ?hR
        case hS0 =>
          have hget : ((s.heap.push (setObj0 w)).push { cls := .type "tuple_iterator", data := .fields #[.ref l, .int 0 0] }).get? s.heap.objs.size = some (setObj0 w) := Heap.get?_push_of_some _ hS
          exact ⟨[], #[], 0, _, setK_new hget, Gt.zero ks⟩
        case hR =>
          intro s' L es ep t hm hS' g' hkp
          obtain ⟨h', g2, d', tk', os'⟩ := s'
          have eg : g2 = s.gens := hm.gens
          have ed : d' = s.drawn := hm.drawn
          have eo : os' = s.os := hm.os
          subst eg; subst ed; subst eo
          show wpAny _ _ _ _ _ _
          refine wpAny_pure ?_
          show wpAny _ _ (ret Value.none) _ _ _
          rw [hisz] at g'
          exact wpAny_pure ⟨rfl, h', tk', L, es, ep, t, rfl, hS', g', hkp⟩
      · cases r₂ with
        | error e => exact hr₂
        | ok fl₂ =>
          cases fl₂ with
          | ret r =>
            obtain ⟨rfl, h', tk, L, es, ep, t, rfl, hS', g', hk'⟩ := hr₂
            repeat (any_goals (first | assumption | wp_step))
            exact h _ _ _ _ _ _ hS' g' hk'
          | _ => exact hr₂.elim
    | _ => exact hr.elim
end
end DLS
set_option maxHeartbeats 2000000
/-! DL1: data (D), what represents it in the abstract heap (Rep), footprints, frames. -/
namespace DL
open PySem PySem.Spec PyProof.Rows L2
open LamX (Tabs TabS CodeO)

/-- plain data of a program: fz is a list that is never changed any more, gone a slot without a value -/
inductive D where
  | non | bl (b : Bool) | int (i : Int) | str (x : Str)
  | tup (l : List D) | lst (l : List D) | fz (l : List D)
  | set (l : List D) | dic (ks vs : List D)
  | exc (cls : Str) (ns : List Str) (vs : List D)
  | gone
  | hole
instance : Inhabited D := ⟨.gone⟩

/-- may be copied -/
def D.pers : D → Bool
  | .non | .bl _ | .int _ | .str _ => true
  | .tup l => persAll l
  | .fz l => persAll l
  | _ => false
where persAll : List D → Bool
  | [] => true
  | d :: ds => d.pers && persAll ds
abbrev persAll : List D → Bool := D.pers.persAll

/-- an address whose object changes only by its owner -/
def Own1 (H : Hp) (a : Addr) : Prop := ∃ xs, H a = some (.lst xs)

/-- the name that the law's lambda bears -/
def lamQ : Str := "_law_bits.<locals>.<lambda>"
/-- tables of code objects of that name -/
def Tb (T : List (Addr × Str)) (H : Hp) : Prop := (∀ p ∈ T, p.2 = lamQ) ∧ Tabs T H
/-- the exception that the suite holds: its address, its dict's -/
structure Xi where
  o : Option (Addr × Addr)
  T : List (Addr × Str)
structure Cf where
  K : PySem.W.Frag
  w : World
  xi : Xi

/-- a list that never changes -/
def FzL (c : Cf) (H : Hp) (a : Addr) (vs : List V) : Prop := (∃ o, H a = some (.frz o (.lst vs))) ∨
  ∃ (o : Obj) (its : Array Value) (n : Nat), c.K.lookup a = some o ∧ o.cls = .type "list" ∧ o.dict = none ∧ o.data = .seq its n ∧ its.size ≤ sizeLine ∧ Vals vs its.toList

mutual
def Rep (c : Cf) (H : Hp) : D → V → List Addr → Prop
  | .non, v, f => v = .non ∧ f = []
  | .bl b, v, f => v = .bl b ∧ f = []
  | .int i, v, f => v = .int i ∧ f = []
  | .str x, v, f => v = .str x ∧ f = []
  | .tup l, v, f => ∃ a vs, v = .ref a ∧ H a = some (.tup vs) ∧ Reps c H l vs f
  | .fz l, v, f => ∃ a vs, v = .ref a ∧ FzL c H a vs ∧ Reps c H l vs f ∧ f = []
  | .lst l, v, f => ∃ a vs g, v = .ref a ∧ H a = some (.lst vs) ∧ Reps c H l vs g ∧ f = a :: g
  | .set l, v, f => False
  | .dic ks ds, v, f => False
  | .exc cl ns ds, v, f => ∃ a dd vs, c.xi.o = some (a, dd) ∧ v = .ref a ∧ H dd = some (.xd (ns.zip vs)) ∧ ns.length = vs.length ∧ Reps c H ds vs [] ∧ f = []
  | .gone, v, f => f = []
  | .hole, v, f => ∃ a dd, c.xi.o = some (a, dd) ∧ v = .ref a ∧ f = []
def Reps (c : Cf) (H : Hp) : List D → List V → List Addr → Prop
  | [], vs, f => vs = [] ∧ f = []
  | d :: ds, vs, f => ∃ v vs' f1 f2, vs = v :: vs' ∧ Rep c H d v f1 ∧ Reps c H ds vs' f2 ∧ f = f1 ++ f2
end

/-- a slot -/
def Slot (c : Cf) (H : Hp) (d : D) (o : Option V) (f : List Addr) : Prop := (d = .gone ∧ f = []) ∨ ∃ v, o = some v ∧ Rep c H d v f
def EnvR (c : Cf) (H : Hp) : List D → L2.St → List Addr → Prop
  | [], σ, f => σ = [] ∧ f = [] ∧ Tb c.xi.T H
  | d :: ds, σ, f => ∃ o σ' f1 f2, σ = o :: σ' ∧ Slot c H d o f1 ∧ EnvR c H ds σ' f2 ∧ f = f1 ++ f2

/-- what happened to the heap: only fp's objects changed; the new footprint comes of the old one or is new -/
def NoT (o : HO) : Prop := ∀ ps, o ≠ .tbl ps
theorem noT_lst {xs : List V} : NoT (.lst xs) := fun ps z => by cases z
theorem noT_tup {xs : List V} : NoT (.tup xs) := fun ps z => by cases z
theorem noT_frz {o : Obj} {u : HO} : NoT (.frz o u) := fun ps z => by cases z
theorem noT_xd {fs : List (Str × V)} : NoT (.xd fs) := fun ps z => by cases z
/-- nothing is there, or a table -/
def Free (H : Hp) (b : Addr) : Prop := ∀ o, H b = some o → ∃ ps, o = .tbl ps
theorem Free.none {H : Hp} {b : Addr} (h : H b = none) : Free H b := fun o e => by rw [h] at e; cases e
theorem Free.not {H : Hp} {b : Addr} {o : HO} (h : Free H b) (e : H b = some o) (t : NoT o) : False := by
  obtain ⟨ps, z⟩ := h o e
  exact t ps z
structure Frm (f g : List Addr) (H H' : Hp) : Prop where
  keep : ∀ b o, H b = some o → b ∉ f → NoT o → H' b = some o
  tab : ∀ T, Tb T H → Tb T H'
  foot : ∀ b ∈ g, b ∈ f ∨ Free H b

section
variable {c : Cf} {H H' H1 H2 : Hp}

/-! ### lemmas on Rep -/
mutual
theorem Rep.own : ∀ {d : D} {v : V} {f : List Addr}, Rep c H d v f → ∀ b ∈ f, Own1 H b
  | .non, v, f, h, b, hb => by obtain ⟨_, rfl⟩ := h; cases hb
  | .bl _, v, f, h, b, hb => by obtain ⟨_, rfl⟩ := h; cases hb
  | .int _, v, f, h, b, hb => by obtain ⟨_, rfl⟩ := h; cases hb
  | .str _, v, f, h, b, hb => by obtain ⟨_, rfl⟩ := h; cases hb
  | .tup l, v, f, h, b, hb => by
    obtain ⟨a, vs, _, _, r⟩ := h
    exact Reps.own r b hb
  | .fz l, v, f, h, b, hb => by obtain ⟨a, vs, _, _, _, rfl⟩ := h; cases hb
  | .lst l, v, f, h, b, hb => by
    obtain ⟨a, vs, g, _, e, r, rfl⟩ := h
    rcases List.mem_cons.mp hb with rfl | hb
    · exact ⟨_, e⟩
    · exact Reps.own r b hb
  | .set _, v, f, h, b, hb => by cases h
  | .dic _ _, v, f, h, b, hb => by cases h
  | .exc _ _ _, v, f, h, b, hb => by obtain ⟨a, dd, vs, _, _, _, _, _, rfl⟩ := h; cases hb
  | .gone, v, f, h, b, hb => by
    have e : f = [] := h
    subst e
    cases hb
  | .hole, v, f, h, b, hb => by obtain ⟨a, dd, _, _, rfl⟩ := h; cases hb
theorem Reps.own : ∀ {ds : List D} {vs : List V} {f : List Addr}, Reps c H ds vs f → ∀ b ∈ f, Own1 H b
  | [], vs, f, h, b, hb => by obtain ⟨_, rfl⟩ := h; cases hb
  | d :: ds, vs, f, h, b, hb => by
    obtain ⟨v, vs', f1, f2, _, r, rs, rfl⟩ := h
    rcases List.mem_append.mp hb with hb | hb
    · exact Rep.own r b hb
    · exact Reps.own rs b hb
end

/-- all but the objects at O stand -/
structure But (O : List Addr) (H H' : Hp) : Prop where
  keep : ∀ b o, H b = some o → b ∉ O → NoT o → H' b = some o
  tab : ∀ T, Tb T H → Tb T H'
theorem tup_but {O : List Addr} (k : But O H H') (ho : ∀ b ∈ O, Own1 H b) {a : Addr} {vs : List V} (h : H a = some (.tup vs)) : H' a = some (.tup vs) := k.keep a _ h (fun hb => by
  obtain ⟨_, e⟩ := ho a hb
  rw [h] at e
  cases e) noT_tup
theorem FzL.but {O : List Addr} (k : But O H H') (ho : ∀ b ∈ O, Own1 H b) {a : Addr} {vs : List V} (h : FzL c H a vs) : FzL c H' a vs := by
  rcases h with ⟨o, h⟩ | h
  · refine .inl ⟨o, k.keep a _ h (fun hb => ?_) noT_frz⟩
    obtain ⟨_, e⟩ := ho a hb
    rw [h] at e
    cases e
  · exact .inr h
theorem FzL.sq {a : Addr} {vs : List V} (h : FzL c H a vs) : SqL c.K H a vs := by
  rcases h with ⟨o, h⟩ | h
  · exact .inl (.inr ⟨o, h⟩)
  · exact .inr h

mutual
theorem Rep.but {O : List Addr} (k : But O H H') (ho : ∀ b ∈ O, Own1 H b) : ∀ {d : D} {v : V} {f : List Addr}, Rep c H d v f → (∀ b ∈ f, b ∉ O) → Rep c H' d v f
  | .non, v, f, h, _ => h
  | .bl _, v, f, h, _ => h
  | .int _, v, f, h, _ => h
  | .str _, v, f, h, _ => h
  | .tup l, v, f, h, n => by
    obtain ⟨a, vs, e, q, r⟩ := h
    exact ⟨a, vs, e, tup_but k ho q, Reps.but k ho r n⟩
  | .fz l, v, f, h, n => by
    obtain ⟨a, vs, e, q, r, z⟩ := h
    exact ⟨a, vs, e, FzL.but k ho q, Reps.but k ho r n, z⟩
  | .lst l, v, f, h, n => by
    obtain ⟨a, vs, g, e, q, r, rfl⟩ := h
    exact ⟨a, vs, g, e, k.keep a _ q (n a List.mem_cons_self) noT_lst, Reps.but k ho r fun b hb => n b (List.mem_cons_of_mem _ hb), rfl⟩
  | .set _, v, f, h, n => by cases h
  | .dic _ _, v, f, h, n => by cases h
  | .exc _ _ _, v, f, h, n => by
    obtain ⟨a, dd, vs, e1, e2, q, l, r, z⟩ := h
    refine ⟨a, dd, vs, e1, e2, k.keep dd _ q (fun hb => ?_) noT_xd, l, Reps.but k ho r fun b hb => (by cases hb), z⟩
    obtain ⟨_, e⟩ := ho dd hb
    rw [q] at e
    cases e
  | .gone, v, f, h, _ => h
  | .hole, v, f, h, _ => h
theorem Reps.but {O : List Addr} (k : But O H H') (ho : ∀ b ∈ O, Own1 H b) : ∀ {ds : List D} {vs : List V} {f : List Addr}, Reps c H ds vs f → (∀ b ∈ f, b ∉ O) → Reps c H' ds vs f
  | [], vs, f, h, _ => h
  | d :: ds, vs, f, h, n => by
    obtain ⟨v, vs', f1, f2, e, r, rs, rfl⟩ := h
    exact ⟨v, vs', f1, f2, e, Rep.but k ho r fun b hb => n b (List.mem_append_left _ hb), Reps.but k ho rs fun b hb => n b (List.mem_append_right _ hb), rfl⟩
end
mutual
theorem Rep.pers : ∀ {d : D} {v : V} {f : List Addr}, Rep c H d v f → d.pers = true → f = []
  | .non, v, f, h, _ => h.2
  | .bl _, v, f, h, _ => h.2
  | .int _, v, f, h, _ => h.2
  | .str _, v, f, h, _ => h.2
  | .tup l, v, f, h, p => by
    obtain ⟨a, vs, e, q, r⟩ := h
    exact Reps.pers r p
  | .fz l, v, f, h, p => by
    obtain ⟨a, vs, e, q, r, z⟩ := h
    exact z
  | .lst _, v, f, h, p => by cases p
  | .set _, v, f, h, p => by cases p
  | .dic _ _, v, f, h, p => by cases p
  | .exc _ _ _, v, f, h, p => by cases p
  | .gone, v, f, h, p => by cases p
  | .hole, v, f, h, p => by cases p
theorem Reps.pers : ∀ {ds : List D} {vs : List V} {f : List Addr}, Reps c H ds vs f → persAll ds = true → f = []
  | [], vs, f, h, _ => h.2
  | d :: ds, vs, f, h, p => by
    obtain ⟨v, vs', f1, f2, e, r, rs, rfl⟩ := h
    have p' : (d.pers && persAll ds) = true := p
    obtain ⟨p1, p2⟩ := Bool.and_eq_true_iff.mp p'
    rw [Rep.pers r p1, Reps.pers rs p2] <;> rfl
end
theorem Reps.length : ∀ {ds : List D} {vs : List V} {f : List Addr}, Reps c H ds vs f → vs.length = ds.length
  | [], vs, f, h => by obtain ⟨rfl, _⟩ := h; rfl
  | d :: ds, vs, f, h => by
    obtain ⟨v, vs', f1, f2, rfl, r, rs, rfl⟩ := h
    simp [Reps.length rs]
theorem Reps.append : ∀ {ds es : List D} {vs ws : List V} {f g : List Addr}, Reps c H ds vs f → Reps c H es ws g → Reps c H (ds ++ es) (vs ++ ws) (f ++ g)
  | [], es, vs, ws, f, g, h, k => by obtain ⟨rfl, rfl⟩ := h; exact k
  | d :: ds, es, vs, ws, f, g, h, k => by
    obtain ⟨v, vs', f1, f2, rfl, r, rs, rfl⟩ := h
    exact ⟨v, vs' ++ ws, f1, f2 ++ g, rfl, r, Reps.append rs k, by simp⟩
theorem Reps.split : ∀ {ds es : List D} {us : List V} {f : List Addr}, Reps c H (ds ++ es) us f → ∃ vs ws f1 f2, us = vs ++ ws ∧ Reps c H ds vs f1 ∧ Reps c H es ws f2 ∧ f = f1 ++ f2
  | [], es, us, f, h => ⟨[], us, [], f, rfl, ⟨rfl, rfl⟩, h, rfl⟩
  | d :: ds, es, us, f, h => by
    obtain ⟨v, vs', f1, f2, rfl, r, rs, rfl⟩ := h
    obtain ⟨vs, ws, g1, g2, rfl, q1, q2, rfl⟩ := Reps.split rs
    exact ⟨v :: vs, ws, f1 ++ g1, g2, rfl, ⟨v, vs, f1, g1, rfl, r, q1, rfl⟩, q2, by simp⟩
/-- the item at i -/
theorem Reps.get : ∀ {ds : List D} {vs : List V} {f : List Addr} {i : Nat} {d : D}, Reps c H ds vs f → ds[i]? = some d → ∃ v g, vs[i]? = some v ∧ Rep c H d v g ∧ g.Sublist f
  | [], vs, f, i, d, h, e => by simp at e
  | d0 :: ds, vs, f, 0, d, h, e => by
    obtain ⟨v, vs', f1, f2, rfl, r, rs, rfl⟩ := h
    have e' : d0 = d := by simpa using e
    subst e'
    exact ⟨v, f1, rfl, r, List.sublist_append_left _ _⟩
  | d0 :: ds, vs, f, i + 1, d, h, e => by
    obtain ⟨v, vs', f1, f2, rfl, r, rs, rfl⟩ := h
    obtain ⟨w, g, e1, q, s⟩ := Reps.get (i := i) rs (by simpa using e)
    exact ⟨w, g, by simpa using e1, q, s.trans (List.sublist_append_right _ _)⟩
theorem Reps.getV : ∀ {ds : List D} {vs : List V} {f : List Addr} {i : Nat} {v : V}, Reps c H ds vs f → vs[i]? = some v → ∃ d g, ds[i]? = some d ∧ Rep c H d v g ∧ g.Sublist f := fun {ds vs f i v} h e => by
  have hl := h.length
  have hi : i < ds.length := by rw [← hl]; exact (List.getElem?_eq_some_iff.mp e).1
  obtain ⟨w, g, e1, q, s⟩ := h.get (i := i) (List.getElem?_eq_getElem hi)
  rw [e] at e1
  cases e1
  exact ⟨_, g, List.getElem?_eq_getElem hi, q, s⟩
/-- persistent items: any list of items -/
theorem Reps.persMem : ∀ {ds : List D}, persAll ds = true → ∀ d ∈ ds, d.pers = true
  | [], _, d, hd => by cases hd
  | d0 :: ds, p, d, hd => by
    have p' : (d0.pers && persAll ds) = true := p
    obtain ⟨p1, p2⟩ := Bool.and_eq_true_iff.mp p'
    rcases List.mem_cons.mp hd with rfl | hd
    · exact p1
    · exact Reps.persMem p2 d hd
theorem persAll_iff {ds : List D} : persAll ds = true ↔ ∀ d ∈ ds, d.pers = true := by
  induction ds with
  | nil => simp [persAll, D.pers.persAll]
  | cons d ds ih =>
    show (d.pers && persAll ds) = true ↔ _
    rw [Bool.and_eq_true_iff, ih]
    simp
/-- from items one by one (persistent) -/
theorem Reps.of : ∀ {ds : List D} {vs : List V}, ds.length = vs.length → (∀ (i : Nat) (d : D) (v : V), ds[i]? = some d → vs[i]? = some v → Rep c H d v []) → Reps c H ds vs []
  | [], [], _, _ => ⟨rfl, rfl⟩
  | [], _ :: _, e, _ => by cases e
  | _ :: _, [], e, _ => by cases e
  | d :: ds, v :: vs, e, k => ⟨v, vs, [], [], rfl, k 0 d v rfl rfl, Reps.of (by simpa using e) (fun i d' v' h1 h2 => k (i + 1) d' v' (by simpa using h1) (by simpa using h2)), rfl⟩
theorem Reps.toP {ds : List D} {vs : List V} {f : List Addr} (h : Reps c H ds vs f) (p : persAll ds = true) : Reps c H ds vs [] := by
  have e := Reps.pers h p
  subst e
  exact h
theorem Reps.at {ds : List D} {vs : List V} (h : Reps c H ds vs []) {i : Nat} {d : D} {v : V} (e1 : ds[i]? = some d) (e2 : vs[i]? = some v) : Rep c H d v [] := by
  obtain ⟨w, g, e, q, s⟩ := h.get e1
  rw [e2] at e
  cases e
  have z : g = [] := List.eq_nil_of_sublist_nil s
  subst z
  exact q

/-! ### the environment -/
theorem Slot.but {O : List Addr} (k : But O H H') (ho : ∀ b ∈ O, Own1 H b) {d : D} {o : Option V} {f : List Addr} (h : Slot c H d o f) (n : ∀ b ∈ f, b ∉ O) : Slot c H' d o f := by
  rcases h with h | ⟨v, e, r⟩
  · exact .inl h
  · exact .inr ⟨v, e, r.but k ho n⟩
theorem Slot.own {d : D} {o : Option V} {f : List Addr} (h : Slot c H d o f) : ∀ b ∈ f, Own1 H b := by
  rcases h with ⟨_, rfl⟩ | ⟨v, e, r⟩
  · intro b hb; cases hb
  · exact r.own
theorem EnvR.own : ∀ {ds : List D} {σ : L2.St} {f : List Addr}, EnvR c H ds σ f → ∀ b ∈ f, Own1 H b
  | [], σ, f, h, b, hb => by obtain ⟨_, rfl, _⟩ := h; cases hb
  | d :: ds, σ, f, h, b, hb => by
    obtain ⟨o, σ', f1, f2, _, r, rs, rfl⟩ := h
    rcases List.mem_append.mp hb with hb | hb
    · exact r.own b hb
    · exact EnvR.own rs b hb
theorem EnvR.but {O : List Addr} (k : But O H H') (ho : ∀ b ∈ O, Own1 H b) : ∀ {ds : List D} {σ : L2.St} {f : List Addr}, EnvR c H ds σ f → (∀ b ∈ f, b ∉ O) → EnvR c H' ds σ f
  | [], σ, f, h, _ => ⟨h.1, h.2.1, k.tab _ h.2.2⟩
  | d :: ds, σ, f, h, n => by
    obtain ⟨o, σ', f1, f2, e, r, rs, rfl⟩ := h
    exact ⟨o, σ', f1, f2, e, r.but k ho fun b hb => n b (List.mem_append_left _ hb), EnvR.but k ho rs fun b hb => n b (List.mem_append_right _ hb), rfl⟩
theorem EnvR.length : ∀ {ds : List D} {σ : L2.St} {f : List Addr}, EnvR c H ds σ f → σ.length = ds.length
  | [], σ, f, h => by obtain ⟨rfl, _⟩ := h; rfl
  | d :: ds, σ, f, h => by
    obtain ⟨o, σ', f1, f2, rfl, r, rs, rfl⟩ := h
    simp [EnvR.length rs]
/-- a slot is looked at -/
theorem EnvR.get : ∀ {ds : List D} {σ : L2.St} {f : List Addr} {i : Nat} {d : D}, EnvR c H ds σ f → ds[i]? = some d → ∃ o g, σ[i]? = some o ∧ Slot c H d o g ∧ g.Sublist f
  | [], σ, f, i, d, h, e => by simp at e
  | d0 :: ds, σ, f, 0, d, h, e => by
    obtain ⟨o, σ', f1, f2, rfl, r, rs, rfl⟩ := h
    have e' : d0 = d := by simpa using e
    subst e'
    exact ⟨o, f1, rfl, r, List.sublist_append_left _ _⟩
  | d0 :: ds, σ, f, i + 1, d, h, e => by
    obtain ⟨o, σ', f1, f2, rfl, r, rs, rfl⟩ := h
    obtain ⟨w, g, e1, q, s⟩ := EnvR.get (i := i) rs (by simpa using e)
    exact ⟨w, g, by simpa using e1, q, s.trans (List.sublist_append_right _ _)⟩
theorem Slot.val {d : D} {o : Option V} {f : List Addr} (h : Slot c H d o f) (n : d ≠ .gone) : ∃ v, o = some v ∧ Rep c H d v f := by
  rcases h with ⟨e, _⟩ | h
  · exact (n e).elim
  · exact h
/-- a slot's value is taken out -/
theorem EnvR.take : ∀ {ds : List D} {σ : L2.St} {f : List Addr} {i : Nat} {d : D}, EnvR c H ds σ f → ds[i]? = some d → ∃ o f1 f2, σ[i]? = some o ∧ Slot c H d o f1 ∧ EnvR c H (ds.set i .gone) σ f2 ∧ (f1 ++ f2).Perm f
  | [], σ, f, i, d, h, e => by simp at e
  | d0 :: ds, σ, f, 0, d, h, e => by
    obtain ⟨o, σ', f1, f2, rfl, r, rs, rfl⟩ := h
    have e' : d0 = d := by simpa using e
    subst e'
    exact ⟨o, f1, f2, rfl, r, ⟨o, σ', [], f2, rfl, .inl ⟨rfl, rfl⟩, rs, rfl⟩, .refl _⟩
  | d0 :: ds, σ, f, i + 1, d, h, e => by
    obtain ⟨o, σ', f1, f2, rfl, r, rs, rfl⟩ := h
    obtain ⟨w, g1, g2, e1, q, t, p⟩ := EnvR.take (i := i) rs (by simpa using e)
    refine ⟨w, g1, f1 ++ g2, by simpa using e1, q, ⟨o, σ', f1, g2, rfl, r, t, rfl⟩, ?_⟩
    have a1 : (g1 ++ (f1 ++ g2)).Perm (f1 ++ (g1 ++ g2)) := by
      rw [← List.append_assoc, ← List.append_assoc]
      exact List.Perm.append_right _ List.perm_append_comm
    exact a1.trans (List.Perm.append_left _ p)
/-- a value is put into an empty slot -/
theorem EnvR.put : ∀ {ds : List D} {σ : L2.St} {f g : List Addr} {i : Nat} {d : D} {o : Option V}, EnvR c H ds σ f → ds[i]? = some .gone → Slot c H d o g → ∃ f', EnvR c H (ds.set i d) (σ.set i o) f' ∧ f'.Perm (g ++ f)
  | [], σ, f, g, i, d, o, h, e, s => by simp at e
  | d0 :: ds, σ, f, g, 0, d, o, h, e, s => by
    obtain ⟨o0, σ', f1, f2, rfl, r, rs, rfl⟩ := h
    have e' : d0 = .gone := by simpa using e
    subst e'
    have z : f1 = [] := by
      rcases r with ⟨_, z⟩ | ⟨v, _, z⟩ <;> exact z
    subst z
    exact ⟨g ++ f2, ⟨o, σ', g, f2, rfl, s, rs, rfl⟩, .refl _⟩
  | d0 :: ds, σ, f, g, i + 1, d, o, h, e, s => by
    obtain ⟨o0, σ', f1, f2, rfl, r, rs, rfl⟩ := h
    obtain ⟨f', q, p⟩ := EnvR.put (i := i) rs (by simpa using e) s
    refine ⟨f1 ++ f', ⟨o0, σ'.set i o, f1, f', rfl, r, q, rfl⟩, ?_⟩
    refine (List.Perm.append_left _ p).trans ?_
    rw [← List.append_assoc, ← List.append_assoc]
    exact List.Perm.append_right _ List.perm_append_comm
/-- .. the slot as it stands -/
theorem EnvR.back {ds : List D} {σ : L2.St} {f g : List Addr} {i : Nat} {d : D} {o : Option V} (h : EnvR c H ds σ f) (e : ds[i]? = some .gone) (eo : σ[i]? = some o) (s : Slot c H d o g) : ∃ f', EnvR c H (ds.set i d) σ f' ∧ f'.Perm (g ++ f) := by
  obtain ⟨f', q, p⟩ := h.put e s
  have z : σ.set i o = σ := by
    apply List.ext_getElem?
    intro j
    by_cases hj : i = j
    · subst hj
      rw [List.getElem?_set_self (by exact (List.getElem?_eq_some_iff.mp eo).1), eo]
    · rw [List.getElem?_set_ne hj]
  rw [z] at q
  exact ⟨f', q, p⟩

/-- the tables are as they are to be -/
theorem EnvR.tabs : ∀ {ds : List D} {σ : L2.St} {f : List Addr}, EnvR c H ds σ f → Tb c.xi.T H
  | [], _, _, h => h.2.2
  | _ :: _, _, _, ⟨_, _, _, _, _, _, t, _⟩ => EnvR.tabs t
/-! ### frames -/
theorem Frm.but {f g : List Addr} (h : Frm f g H H') : But f H H' := ⟨h.keep, h.tab⟩
theorem Frm.refl {f : List Addr} : Frm f f H H := ⟨fun _ _ e _ _ => e, fun _ t => t, fun _ hb => .inl hb⟩
theorem Frm.trans {f g k : List Addr} (a : Frm f g H H1) (b : Frm g k H1 H2) : Frm f k H H2 where
  keep := fun x o e n t => b.keep x o (a.keep x o e n t) (fun hx => by
    rcases a.foot x hx with z | z
    · exact n z
    · exact z.not e t) t
  tab := fun T t => b.tab T (a.tab T t)
  foot := fun x hx => by
    rcases b.foot x hx with z | z
    · exact a.foot x z
    · by_cases hf : x ∈ f
      · exact .inl hf
      · refine .inr fun o e => ?_
        by_cases t : ∃ ps, o = .tbl ps
        · exact t
        · exact z o (a.keep x o e hf fun ps h => t ⟨ps, h⟩)
/-- something beside it -/
theorem Frm.left {f g : List Addr} (k : List Addr) (a : Frm f g H H') : Frm (k ++ f) (k ++ g) H H' where
  keep := fun x o e n t => a.keep x o e (fun hx => n (List.mem_append_right _ hx)) t
  tab := a.tab
  foot := fun x hx => by
    rcases List.mem_append.mp hx with hx | hx
    · exact .inl (List.mem_append_left _ hx)
    · rcases a.foot x hx with z | z
      · exact .inl (List.mem_append_right _ z)
      · exact .inr z
theorem Frm.sub {f g k : List Addr} (a : Frm f g H H') (h : ∀ b ∈ k, b ∈ g) : Frm f k H H' := ⟨a.keep, a.tab, fun b hb => a.foot b (h b hb)⟩
theorem Frm.wide {f g k : List Addr} (a : Frm f g H H') (h : ∀ b ∈ f, b ∈ k) : Frm k g H H' :=
  ⟨fun b o e n t => a.keep b o e (fun hb => n (h b hb)) t, a.tab, fun b hb => (a.foot b hb).imp (h b) id⟩
theorem Frm.perm {f g f' g' : List Addr} (a : Frm f g H H') (p : f.Perm f') (q : g.Perm g') : Frm f' g' H H' :=
  (a.sub fun b hb => q.mem_iff.mpr hb).wide fun b hb => p.mem_iff.mp hb
theorem Same.tabs (s : Same H H') : ∀ T, Tb T H → Tb T H' := fun T t => ⟨t.1, t.2.ext s⟩
/-- only new objects -/
theorem Frm.new {f g : List Addr} (s : Same H H') (n : ∀ b ∈ g, b ∈ f ∨ H b = none) : Frm f g H H' := ⟨fun b o e _ _ => s b o e, Same.tabs s, fun b hb => (n b hb).imp id Free.none⟩
theorem Frm.same {f : List Addr} (s : Same H H') : Frm f f H H' := Frm.new s fun _ hb => .inl hb
theorem Same.butNil (s : Same H H') : But [] H H' := ⟨fun b o e _ _ => s b o e, Same.tabs s⟩
theorem Rep.same (s : Same H H') {d : D} {v : V} {f : List Addr} (h : Rep c H d v f) : Rep c H' d v f := h.but (Same.butNil s) (fun b hb => by cases hb) fun b _ hb => by cases hb
theorem Reps.same (s : Same H H') {d : List D} {v : List V} {f : List Addr} (h : Reps c H d v f) : Reps c H' d v f := h.but (Same.butNil s) (fun b hb => by cases hb) fun b _ hb => by cases hb
theorem EnvR.same (s : Same H H') {ds : List D} {σ : L2.St} {f : List Addr} (h : EnvR c H ds σ f) : EnvR c H' ds σ f := h.but (Same.butNil s) (fun b hb => by cases hb) fun b _ hb => by cases hb
theorem Same.new {p : Addr} {o : HO} (hp : H p = none) : Same H (upd H p o) := fun b u e => by
  rw [upd_ne (ne_of_none e hp)]
  exact e
/-- the tables beside a list that is written -/
theorem tabs_upd {a : Addr} {o : HO} (q : ∃ xs, H a = some (.lst xs)) : ∀ T, Tb T H → Tb T (upd H a o) := fun T t0 => ⟨t0.1, fun p hp => by
  have t := t0.2
  obtain ⟨xs, q⟩ := q
  obtain ⟨ps, e1, e2, e3⟩ := t p hp
  have n1 : p.1 ≠ a := fun z => by rw [z, q] at e1; cases e1
  refine ⟨ps, by rw [upd_ne n1]; exact e1, e2, fun pos cv hc => ?_⟩
  obtain ⟨c0, f1, f2⟩ := e3 pos cv hc
  have n2 : c0 ≠ a := fun z => by rw [z, q] at f2; unfold CodeO at f2; cases f2
  exact ⟨c0, f1, by rw [upd_ne n2]; exact f2⟩⟩
/-- the frame rule: a value beside the code's own footprint stands behind it, apart from the new one -/
theorem frame {f g k : List Addr} {P : Prop} (nd : (k ++ f).Nodup) (ok : ∀ b ∈ k, Own1 H b) (of : ∀ b ∈ f, Own1 H b) (a : Frm f g H H') (ng : g.Nodup) :
    (∀ {d : D} {v : V}, Rep c H d v k → Rep c H' d v k) ∧ (∀ {ds : List D} {vs : List V}, Reps c H ds vs k → Reps c H' ds vs k) ∧ (∀ {ds : List D} {σ : L2.St}, EnvR c H ds σ k → EnvR c H' ds σ k) ∧ (k ++ g).Nodup := by
  have dis : ∀ b ∈ k, b ∉ f := fun b hb hf => (List.nodup_append.mp nd).2.2 b hb b hf rfl
  refine ⟨fun h => h.but a.but of dis, fun h => h.but a.but of dis, fun h => h.but a.but of dis, ?_⟩
  refine List.nodup_append.mpr ⟨(List.nodup_append.mp nd).1, ng, fun x hx y hy e => ?_⟩
  subst e
  rcases a.foot x hy with z | z
  · exact dis x hx z
  · obtain ⟨_, q⟩ := ok x hx
    exact z.not q noT_lst
end
end DL
set_option maxHeartbeats 2000000
/-! DL2: readings over data: pure expressions (tP), expressions (tE), tests (tT), arguments. -/
namespace DL
open PySem PySem.Spec PyProof.Rows L2
open LamX (Tabs TabS CodeO)

/-- an exception: its class, its fields -/
structure Ex where
  cls : Str
  ns : List Str
  vs : List D
/-- an expression's end -/
inductive R (α : Type) where
  | ok (a : α) (e : List D)
  | ex (x : Ex) (e : List D)
abbrev Env := List D
abbrev M (α : Type) := Env → Option (R α)
abbrev MP := Env → Option D

def M.pure {α : Type} (a : α) : M α := fun e => some (.ok a e)
def M.bind {α β : Type} (m : M α) (k : α → M β) : M β := fun e => match m e with
  | none => none
  | some (.ex x e') => some (.ex x e')
  | some (.ok a e') => k a e'
def M.ofO {α : Type} (o : Option α) : M α := fun e => match o with
  | none => none
  | some a => some (.ok a e)

/-- the exception's dict at dx -/
def ExR (c : Cf) (H : Hp) (x : Ex) (dx : Addr) : Prop := ∃ vs, H dx = some (.xd (x.ns.zip vs)) ∧ x.ns.length = vs.length ∧ Reps c H x.vs vs []

def PostE (c : Cf) (W : WX) (σ : L2.St) (H : Hp) (f : List Addr) (Q : VK) : R D → Prop
  | .ok d e => ∀ v H' g1 g2, Frm f (g1 ++ g2) H H' → Rep c H' d v g1 → EnvR c H' e σ g2 → (g1 ++ g2).Nodup → Q v H'
  | .ex x e => ∀ dx H' g, Frm f g H H' → ExR c H' x dx → EnvR c H' e σ g → g.Nodup → W (.ref (He.ga c.K x.cls)) (some dx) σ H'
def tE (c : Cf) (W : WX) (m : M D) : TE := fun σ H Q => ∃ env f, EnvR c H env σ f ∧ f.Nodup ∧ ∃ r, m env = some r ∧ PostE c W σ H f Q r

def PostA (c : Cf) (W : WX) (σ : L2.St) (H : Hp) (f : List Addr) (Q : List V → Hp → Prop) : R (List D) → Prop
  | .ok ds e => ∀ vs H' g1 g2, Frm f (g1 ++ g2) H H' → Reps c H' ds vs g1 → EnvR c H' e σ g2 → (g1 ++ g2).Nodup → Q vs H'
  | .ex x e => ∀ dx H' g, Frm f g H H' → ExR c H' x dx → EnvR c H' e σ g → g.Nodup → W (.ref (He.ga c.K x.cls)) (some dx) σ H'
def tA (c : Cf) (W : WX) (m : M (List D)) : TA := fun σ H Q => ∃ env f, EnvR c H env σ f ∧ f.Nodup ∧ ∃ r, m env = some r ∧ PostA c W σ H f Q r

def PostT (c : Cf) (W : WX) (σ : L2.St) (H : Hp) (f : List Addr) (Q : Bool → Hp → Prop) : R Bool → Prop
  | .ok b e => ∀ H' g, Frm f g H H' → EnvR c H' e σ g → g.Nodup → Q b H'
  | .ex x e => ∀ dx H' g, Frm f g H H' → ExR c H' x dx → EnvR c H' e σ g → g.Nodup → W (.ref (He.ga c.K x.cls)) (some dx) σ H'
def tT (c : Cf) (W : WX) (m : M Bool) : TT := fun σ H Q => ∃ env f, EnvR c H env σ f ∧ f.Nodup ∧ ∃ r, m env = some r ∧ PostT c W σ H f Q r

/-- a pure one: the environment stands; fr: what it gives is new (or may be copied) -/
def tP (c : Cf) (fr : Bool) (m : MP) : TE := fun σ H Q => ∃ env f, EnvR c H env σ f ∧ f.Nodup ∧ ∃ d, m env = some d ∧
  ∀ v H' g, Same H H' → Rep c H' d v g → g.Nodup → (∀ b ∈ g, H b = none ∨ (fr = false ∧ b ∈ f)) → Q v H'
def tPA (c : Cf) (m : Env → Option (List D)) : TA := fun σ H Q => ∃ env f, EnvR c H env σ f ∧ f.Nodup ∧ ∃ ds, m env = some ds ∧
  ∀ vs H' g, Same H H' → Reps c H' ds vs g → Q vs H'

abbrev cx (X : Cx) (ξ : Xi) : Cf := ⟨X.K, X.w, ξ⟩
abbrev DE (X : Cx) (ξ : Xi) (W : WX) (e : Expr) (m : M D) : Prop := PE X e (tE (cx X ξ) W m)
abbrev DA (X : Cx) (ξ : Xi) (W : WX) (es : List Expr) (m : M (List D)) : Prop := PA X es (tA (cx X ξ) W m)
abbrev DT (X : Cx) (ξ : Xi) (W : WX) (e : Expr) (m : M Bool) : Prop := PT X e (tT (cx X ξ) W m)
abbrev DP (X : Cx) (ξ : Xi) (fr : Bool) (e : Expr) (m : MP) : Prop := PE X e (tP (cx X ξ) fr m)
abbrev DPA (X : Cx) (ξ : Xi) (es : List Expr) (m : Env → Option (List D)) : Prop := PA X es (tPA (cx X ξ) m)

/-- a stronger condition will do -/
theorem _root_.L2.PE.imp {X : Cx} {e : Expr} {t t' : TE} (h : PE X e t) (k : ∀ σ H Q, t' σ H Q → t σ H Q) : PE X e t' := ⟨fun pins s σ H Q I q => h.run pins s σ H Q I (k _ _ _ q)⟩
theorem _root_.L2.PT.imp {X : Cx} {e : Expr} {t t' : TT} (h : PT X e t) (k : ∀ σ H Q, t' σ H Q → t σ H Q) : PT X e t' := ⟨fun pins s σ H Q I q => h.run pins s σ H Q I (k _ _ _ q)⟩
theorem _root_.L2.PA.imp {X : Cx} {es : List Expr} {t t' : TA} (h : PA X es t) (k : ∀ σ H Q, t' σ H Q → t σ H Q) : PA X es t' := ⟨fun pos pins s σ H Q I q => h.run pos pins s σ H Q I (k _ _ _ q)⟩
theorem _root_.L2.PS.imp {X : Cx} {st : Stmt} {t t' : TS} (h : PS X st t) (k : ∀ D σ H, t' D σ H → t D σ H) : PS X st t' := ⟨fun pins s σ H D I q => h.run pins s σ H D I (k _ _ _ q)⟩
theorem _root_.L2.PSs.imp {X : Cx} {st : List Stmt} {t t' : TS} (h : PSs X st t) (k : ∀ D σ H, t' D σ H → t D σ H) : PSs X st t' := ⟨fun pins s σ H D I q => h.run pins s σ H D I (k _ _ _ q)⟩

section
variable {c : Cf} {W : WX} {fr : Bool} {X : Cx} {ξ : Xi} {e a b : Expr} {es : List Expr} {pos : Pos}

/-! ### constants, names -/
def mC (d : D) : MP := fun _ => some d
theorem tP_c {d : D} {v : V} {σ : L2.St} {H : Hp} {Q : VK} (r : ∀ H, Rep c H d v []) (h : tP c fr (mC d) σ H Q) : tC v σ H Q := by
  obtain ⟨env, f, _, _, d', e, k⟩ := h
  cases e
  exact k v H [] (Same.refl H) (r H) List.nodup_nil fun b hb => by cases hb
theorem p_int {i : Int} {j pos} : DP X ξ true (.Constant (.int i) j pos) (mC (.int i)) := pe_int.imp fun _ _ _ h => tP_c (d := .int i) (fun _ => ⟨rfl, rfl⟩) h
theorem p_bl {b : Bool} {j pos} : DP X ξ true (.Constant (.bool b) j pos) (mC (.bl b)) := pe_bl.imp fun _ _ _ h => tP_c (d := .bl b) (fun _ => ⟨rfl, rfl⟩) h
theorem p_non {j pos} : DP X ξ true (.Constant .none j pos) (mC .non) := pe_non.imp fun _ _ _ h => tP_c (d := .non) (fun _ => ⟨rfl, rfl⟩) h
theorem p_str {x : Str} {j pos} : DP X ξ true (.Constant (.str x) j pos) (mC (.str x)) := pe_str.imp fun _ _ _ h => tP_c (d := .str x) (fun _ => ⟨rfl, rfl⟩) h
/-- a module's constant text -/
theorem p_gstr {x z : Str} {t : Tok} {p : Pos} (hg : Gl X x) (hm : X.mg x = some (.str z t)) (hd : (x == ("__debug__" : Str)) = false := by decide) : DP X ξ true (.Name x p) (mC (.str z)) :=
  (pe_glob (v := .str z) hg hm ⟨t, rfl⟩ hd).imp fun _ _ _ h => tP_c (d := .str z) (fun _ => ⟨rfl, rfl⟩) h
def mV (i : Nat) : MP := fun env => match env[i]? with
  | some .gone => none
  | some d => some d
  | none => none
theorem mV_some {i : Nat} {env : Env} {d : D} (h : mV i env = some d) : env[i]? = some d ∧ d ≠ .gone := by
  unfold mV at h
  split at h
  · cases h
  · rename_i d0 hn hd
    cases h
    exact ⟨hd, fun z => hn z⟩
  · cases h
theorem p_var {i : Nat} {x : Str} {p : Pos} (h : PE X (.Name x p) (tVar i)) : DP X ξ false (.Name x p) (mV i) := h.imp fun σ H Q ⟨env, f, he, nd, d, e, k⟩ => by
  obtain ⟨e1, e2⟩ := mV_some e
  obtain ⟨o, g, eo, s, sub⟩ := he.get e1
  obtain ⟨v, rfl, r⟩ := s.val e2
  exact ⟨v, eo, k v H g (Same.refl H) r (sub.nodup nd) fun b hb => .inr ⟨rfl, sub.subset hb⟩⟩
/-- copied: it must be such that it may be -/
def mCk (m : MP) : MP := fun env => match m env with
  | some d => if d.pers = true then some d else none
  | none => none
theorem mCk_some {m : MP} {env : Env} {d : D} (h : mCk m env = some d) : m env = some d ∧ d.pers = true := by
  unfold mCk at h
  split at h
  · split at h
    · rename_i h1 h2
      cases h
      exact ⟨h1, h2⟩
    · cases h
  · cases h
theorem p_ck {m : MP} (h : DP X ξ false e m) : DP X ξ true e (mCk m) := h.imp fun σ H Q ⟨env, f, he, nd, d, ed, k⟩ => by
  obtain ⟨e1, e2⟩ := mCk_some ed
  exact ⟨env, f, he, nd, d, e1, fun v H' g s r ng fo => k v H' g s r ng fun b hb => by rw [r.pers e2] at hb; cases hb⟩
theorem p_al {m : MP} (h : DP X ξ true e m) : DP X ξ false e m := h.imp fun σ H Q ⟨env, f, he, nd, d, ed, k⟩ =>
  ⟨env, f, he, nd, d, ed, fun v H' g s r ng fo => k v H' g s r ng fun b hb => (fo b hb).imp id fun z => by cases z.1⟩
/-- a pure expression that gives something new -/
def mF (m : MP) : M D := fun env => match m env with
  | some d => some (.ok d env)
  | none => none
theorem mF_some {m : MP} {env : Env} {r : R D} (h : mF m env = some r) : ∃ d, m env = some d ∧ r = .ok d env := by
  unfold mF at h
  split at h
  · rename_i d hd
    cases h
    exact ⟨d, hd, rfl⟩
  · cases h
theorem nodup_new {f g : List Addr} {H : Hp} (ng : g.Nodup) (nf : f.Nodup) (fo : ∀ b ∈ g, H b = none) (of : ∀ b ∈ f, Own1 H b) : (g ++ f).Nodup :=
  List.nodup_append.mpr ⟨ng, nf, fun x hx y hy e => by
    subst e
    have z := fo x hx
    (obtain ⟨_, q⟩ := of x hy; rw [z] at q; cases q)⟩
theorem e_p {m : MP} (h : DP X ξ true e m) : DE X ξ W e (mF m) := h.imp fun σ H Q ⟨env, f, he, nd, r, er, k⟩ => by
  obtain ⟨d, e1, rfl⟩ := mF_some er
  refine ⟨env, f, he, nd, d, e1, fun v H' g s rp ng fo => ?_⟩
  have fo' : ∀ b ∈ g, H b = none := fun b hb => (fo b hb).elim id fun z => by cases z.1
  refine k v H' g f (Frm.new s fun b hb => ?_) rp (he.same s) (nodup_new ng nd fo' he.own)
  rcases List.mem_append.mp hb with hb | hb
  · exact .inr (fo' b hb)
  · exact .inl hb
/-- a name's value: copied where it may be, else taken out -/
def mMv (i : Nat) : M D := fun env => match env[i]? with
  | some .gone => none
  | some d => if d.pers = true then some (.ok d env) else some (.ok d (env.set i .gone))
  | none => none
theorem e_mv {i : Nat} {x : Str} {p : Pos} (h : PE X (.Name x p) (tVar i)) : DE X ξ W (.Name x p) (mMv i) := h.imp fun σ H Q ⟨env, f, he, nd, r, er, k⟩ => by
  unfold mMv at er
  split at er
  · cases er
  · rename_i d hd e1
    have hn : d ≠ .gone := fun z => hd z
    split at er
    · rename_i hp
      cases er
      obtain ⟨o, g, eo, s, sub⟩ := he.get e1
      obtain ⟨v, rfl, r⟩ := s.val hn
      have z := r.pers hp
      subst z
      exact ⟨v, eo, k v H [] f Frm.refl r he nd⟩
    · cases er
      obtain ⟨o, f1, f2, eo, s, t, p⟩ := he.take e1
      obtain ⟨v, rfl, r⟩ := s.val hn
      exact ⟨v, eo, k v H f1 f2 (Frm.refl.perm (.refl _) p.symm) r t (p.nodup_iff.mpr nd)⟩
  · cases er

/-! ### operators by values -/
def OpD (c : Cf) (r : R2) (op : D → D → Option D) : Prop := ∀ (H : Hp) (x y : V) (dx dy dz : D) (gx gy : List Addr) (Q : VK), Rep c H dx x gx → Rep c H dy y gy → op dx dy = some dz →
  (∀ z H' g, Same H H' → Rep c H' dz z g → g.Nodup → (∀ b ∈ g, H b = none) → Q z H') → r x y H Q
def UnD (c : Cf) (r : V → Hp → VK → Prop) (op : D → Option D) : Prop := ∀ (H : Hp) (x : V) (dx dz : D) (gx : List Addr) (Q : VK), Rep c H dx x gx → op dx = some dz →
  (∀ z H' g, Same H H' → Rep c H' dz z g → g.Nodup → (∀ b ∈ g, H b = none) → Q z H') → r x H Q
def CaD (c : Cf) (r : List V → Hp → VK → Prop) (op : List D → Option D) : Prop := ∀ (H : Hp) (xs : List V) (ds : List D) (dz : D) (g : List Addr) (Q : VK), Reps c H ds xs g → op ds = some dz →
  (∀ z H' g, Same H H' → Rep c H' dz z g → g.Nodup → (∀ b ∈ g, H b = none) → Q z H') → r xs H Q
theorem OpD.or {r r' : R2} {o o' : D → D → Option D} (h : OpD c r o) (h' : OpD c r' o') : OpD c (fun x y H Q => r x y H Q ∨ r' x y H Q) (fun x y => match o x y with
    | some z => some z
    | none => o' x y) := fun H x y dx dy dz gx gy Q rx ry e k => by
  dsimp only at e
  split at e
  · rename_i z hz
    cases e
    exact .inl (h H x y dx dy _ gx gy Q rx ry hz k)
  · exact .inr (h' H x y dx dy _ gx gy Q rx ry e k)

/-! two operands -/
def mPP (op : D → D → Option D) (ma mb : MP) : MP := fun env => match ma env with
  | none => none
  | some x => match mb env with
    | none => none
    | some y => op x y
theorem mPP_some {op : D → D → Option D} {ma mb : MP} {env : Env} {z : D} (h : mPP op ma mb env = some z) : ∃ x y, ma env = some x ∧ mb env = some y ∧ op x y = some z := by
  unfold mPP at h
  split at h
  · cases h
  · split at h
    · cases h
    · exact ⟨_, _, by assumption, by assumption, h⟩
theorem tP_bin {r : R2} {op : D → D → Option D} {ma mb : MP} {f1 f2 : Bool} (hd : OpD c r op) {σ : L2.St} {H : Hp} {Q : VK} (h : tP c true (mPP op ma mb) σ H Q) : tOp r (tP c f1 ma) (tP c f2 mb) σ H Q := by
  obtain ⟨env, f, he, nd, dz, ez, k⟩ := h
  obtain ⟨dx, dy, ex, ey, eo⟩ := mPP_some ez
  refine ⟨env, f, he, nd, dx, ex, fun x H1 gx s1 rx nx fx => ?_⟩
  refine ⟨env, f, he.same s1, nd, dy, ey, fun y H2 gy s2 ry ny fy => ?_⟩
  refine hd H2 x y dx dy dz gx gy Q (rx.same s2) ry eo fun z H3 g s3 rz ng fo => ?_
  exact k z H3 g ((s1.trans s2).trans s3) rz ng fun b hb => .inl ((s1.trans s2).free (fo b hb))
def mUnP (op : D → Option D) (ma : MP) : MP := fun env => match ma env with
  | none => none
  | some x => op x
theorem mUnP_some {op : D → Option D} {ma : MP} {env : Env} {z : D} (h : mUnP op ma env = some z) : ∃ x, ma env = some x ∧ op x = some z := by
  unfold mUnP at h
  split at h
  · cases h
  · exact ⟨_, by assumption, h⟩
theorem tP_un {r : V → Hp → VK → Prop} {op : D → Option D} {ma : MP} {f1 : Bool} (hd : UnD c r op) {σ : L2.St} {H : Hp} {Q : VK} (h : tP c true (mUnP op ma) σ H Q) : tUn r (tP c f1 ma) σ H Q := by
  obtain ⟨env, f, he, nd, dz, ez, k⟩ := h
  obtain ⟨dx, ex, eo⟩ := mUnP_some ez
  refine ⟨env, f, he, nd, dx, ex, fun x H1 gx s1 rx nx fx => ?_⟩
  refine hd H1 x dx dz gx Q rx eo fun z H3 g s3 rz ng fo => ?_
  exact k z H3 g (s1.trans s3) rz ng fun b hb => .inl (s1.free (fo b hb))

/-- the operator on values that stand apart from the environment (or not): the end of every E-composition -/
theorem post_op {W : WX} {σ : L2.St} {H H2 : Hp} {f fe : List Addr} {env : Env} {Q : VK} {dz : D} (k : PostE c W σ H f Q (.ok dz env)) (fm : Frm f fe H H2) (he : EnvR c H2 env σ fe) (nd : fe.Nodup) :
    ∀ z H' g, Same H2 H' → Rep c H' dz z g → g.Nodup → (∀ b ∈ g, H2 b = none) → Q z H' := fun z H' g s r ng fo => by
  refine k z H' g fe (fm.trans (Frm.new s fun b hb => ?_)) r (he.same s) (nodup_new ng nd fo he.own)
  rcases List.mem_append.mp hb with hb | hb
  · exact .inr (fo b hb)
  · exact .inl hb
def mEE (op : D → D → Option D) (ma mb : M D) : M D := ma.bind fun x => mb.bind fun y => M.ofO (op x y)
theorem bind_some {α β : Type} {m : M α} {k : α → M β} {env : Env} {r : R β} (h : m.bind k env = some r) : (∃ x e', m env = some (.ex x e') ∧ r = .ex x e') ∨ ∃ a e', m env = some (.ok a e') ∧ k a e' = some r := by
  unfold M.bind at h
  split at h
  · cases h
  · cases h
    exact .inl ⟨_, _, by assumption, rfl⟩
  · exact .inr ⟨_, _, by assumption, h⟩
theorem ofO_some {α : Type} {o : Option α} {env : Env} {r : R α} (h : M.ofO o env = some r) : ∃ a, o = some a ∧ r = .ok a env := by
  unfold M.ofO at h
  split at h
  · cases h
  · cases h
    exact ⟨_, rfl, rfl⟩
theorem tE_bin {r : R2} {op : D → D → Option D} {ma mb : M D} (hd : OpD c r op) {σ : L2.St} {H : Hp} {Q : VK} (h : tE c W (mEE op ma mb) σ H Q) : tOp r (tE c W ma) (tE c W mb) σ H Q := by
  obtain ⟨env, f, he, nd, rz, ez, k⟩ := h
  rcases bind_some ez with ⟨x, e1, ea, rfl⟩ | ⟨dx, e1, ea, ez⟩
  · exact ⟨env, f, he, nd, _, ea, k⟩
  · refine ⟨env, f, he, nd, _, ea, fun x H1 gx fe1 fm1 rx he1 nd1 => ?_⟩
    obtain ⟨nx, ne1, dis⟩ := List.nodup_append.mp nd1
    rcases bind_some ez with ⟨xx, e2, eb, rfl⟩ | ⟨dy, e2, eb, ez⟩
    · exact ⟨e1, fe1, he1, ne1, _, eb, fun dx' H2 g fm2 xr he2 ng => k dx' H2 g (fm1.trans ((fm2.wide fun b hb => List.mem_append_right _ hb))) xr he2 ng⟩
    · obtain ⟨dz, eo, rfl⟩ := ofO_some ez
      refine ⟨e1, fe1, he1, ne1, _, eb, fun y H2 gy fe2 fm2 ry he2 nd2 => ?_⟩
      obtain ⟨fr1, _, _, nd3⟩ := frame (c := c) (P := True) nd1 rx.own he1.own fm2 nd2
      have fm3 := fm1.trans (fm2.left gx)
      exact hd H2 x y dx dy dz gx gy Q (fr1 rx) ry eo (post_op k (fm3.sub fun b hb => List.mem_append_right _ (List.mem_append_right _ hb)) he2 (List.nodup_append.mp nd2).2.1)
/-- the right operand pure -/
def mEP (op : D → D → Option D) (ma : M D) (mb : MP) : M D := ma.bind fun x env => match mb env with
  | none => none
  | some y => match op x y with
    | none => none
    | some z => some (.ok z env)
theorem tE_binEP {r : R2} {op : D → D → Option D} {ma : M D} {mb : MP} {f2 : Bool} (hd : OpD c r op) {σ : L2.St} {H : Hp} {Q : VK} (h : tE c W (mEP op ma mb) σ H Q) : tOp r (tE c W ma) (tP c f2 mb) σ H Q := by
  obtain ⟨env, f, he, nd, rz, ez, k⟩ := h
  rcases bind_some ez with ⟨x, e1, ea, rfl⟩ | ⟨dx, e1, ea, ez⟩
  · exact ⟨env, f, he, nd, _, ea, k⟩
  · refine ⟨env, f, he, nd, _, ea, fun x H1 gx fe1 fm1 rx he1 nd1 => ?_⟩
    obtain ⟨nx, ne1, dis⟩ := List.nodup_append.mp nd1
    split at ez
    · cases ez
    · split at ez
      · cases ez
      · rename_i dy eb _ dz eo
        cases ez
        refine ⟨e1, fe1, he1, ne1, dy, eb, fun y H2 gy s2 ry ny fy => ?_⟩
        exact hd H2 x y dx dy dz gx gy Q (rx.same s2) ry eo (post_op k ((fm1.sub fun b hb => List.mem_append_right _ hb).trans (Frm.same s2)) (he1.same s2) ne1)
/-- the left operand a name, read behind the right one -/
def mVE (op : D → D → Option D) (i : Nat) (mb : M D) : M D := fun env => match mV i env with
  | none => none
  | some _ => mb.bind (fun y env => match mV i env with
    | none => none
    | some x => match op x y with
      | none => none
      | some z => some (.ok z env)) env
/-- a name has its value -/
theorem mV_slot {i : Nat} {env : Env} {d : D} {σ : L2.St} {H : Hp} {f : List Addr} (he : EnvR c H env σ f) (h : mV i env = some d) : ∃ x g, σ[i]? = some (some x) ∧ Rep c H d x g ∧ g.Sublist f := by
  obtain ⟨e2, e3⟩ := mV_some h
  obtain ⟨o, g, eo2, s, sub⟩ := he.get e2
  obtain ⟨x', rfl, rx⟩ := s.val e3
  exact ⟨x', g, eo2, rx, sub⟩
theorem tE_binVE {r : R2} {op : D → D → Option D} {i : Nat} {mb : M D} (hd : OpD c r op) {σ : L2.St} {H : Hp} {Q : VK} (h : tE c W (mVE op i mb) σ H Q) : tOp r (tVar i) (tE c W mb) σ H Q := by
  obtain ⟨env, f, he, nd, rz, ez, k⟩ := h
  unfold mVE at ez
  split at ez
  · cases ez
  rename_i d0 ed0
  obtain ⟨x, _, ex, _, _⟩ := mV_slot he ed0
  refine ⟨x, ex, ?_⟩
  rcases bind_some ez with ⟨xx, e1, ea, rfl⟩ | ⟨dy, e1, ea, ez⟩
  · exact ⟨env, f, he, nd, _, ea, k⟩
  · refine ⟨env, f, he, nd, _, ea, fun y H1 gy fe1 fm1 ry he1 nd1 => ?_⟩
    obtain ⟨ny, ne1, dis⟩ := List.nodup_append.mp nd1
    split at ez
    · cases ez
    · split at ez
      · cases ez
      · rename_i dx eb _ dz eo
        cases ez
        obtain ⟨e2, e3⟩ := mV_some eb
        obtain ⟨o, g, eo2, s, sub⟩ := he1.get e2
        obtain ⟨x', rfl, rx⟩ := s.val e3
        rw [ex] at eo2
        cases eo2
        exact hd H1 x y dx dy dz g gy Q rx ry eo (post_op k (fm1.sub fun b hb => List.mem_append_right _ hb) he1 ne1)
def mUnE (op : D → Option D) (ma : M D) : M D := ma.bind fun x => M.ofO (op x)
theorem tE_un {r : V → Hp → VK → Prop} {op : D → Option D} {ma : M D} (hd : UnD c r op) {σ : L2.St} {H : Hp} {Q : VK} (h : tE c W (mUnE op ma) σ H Q) : tUn r (tE c W ma) σ H Q := by
  obtain ⟨env, f, he, nd, rz, ez, k⟩ := h
  rcases bind_some ez with ⟨x, e1, ea, rfl⟩ | ⟨dx, e1, ea, ez⟩
  · exact ⟨env, f, he, nd, _, ea, k⟩
  · obtain ⟨dz, eo, rfl⟩ := ofO_some ez
    refine ⟨env, f, he, nd, _, ea, fun x H1 gx fe1 fm1 rx he1 nd1 => ?_⟩
    exact hd H1 x dx dz gx Q rx eo (post_op k (fm1.sub fun b hb => List.mem_append_right _ hb) he1 (List.nodup_append.mp nd1).2.1)

/-! ### arguments -/
def mPnil : Env → Option (List D) := fun _ => some []
def mPcons (m : MP) (ms : Env → Option (List D)) : Env → Option (List D) := fun env => match m env with
  | none => none
  | some d => match ms env with
    | none => none
    | some ds => some (d :: ds)
theorem mPcons_some {m : MP} {ms : Env → Option (List D)} {env : Env} {ds : List D} (h : mPcons m ms env = some ds) : ∃ d r, m env = some d ∧ ms env = some r ∧ ds = d :: r := by
  unfold mPcons at h
  split at h
  · cases h
  · split at h
    · cases h
    · cases h
      exact ⟨_, _, by assumption, by assumption, rfl⟩
theorem pa_nilP : DPA X ξ [] mPnil := pa_nil.imp fun σ H Q ⟨env, f, he, nd, ds, e, k⟩ => by
  cases e
  exact k [] H [] (Same.refl H) ⟨rfl, rfl⟩
theorem pa_consP {m : MP} {ms : Env → Option (List D)} (h : DP X ξ fr e m) (hs : DPA X ξ es ms) (hq : starEach (e :: es) X.env = (false, eval e X.env) :: starEach es X.env := by rfl) : DPA X ξ (e :: es) (mPcons m ms) :=
  (pa_cons h hs hq).imp fun σ H Q ⟨env, f, he, nd, ds, ed, k⟩ => by
    obtain ⟨d, r, e1, e2, rfl⟩ := mPcons_some ed
    refine ⟨env, f, he, nd, d, e1, fun v H1 g s1 rv _ _ => ⟨env, f, he.same s1, nd, r, e2, fun vs H2 g2 s2 rs => ?_⟩⟩
    exact k (v :: vs) H2 (g ++ g2) (s1.trans s2) ⟨v, vs, g, g2, rfl, rv.same s2, rs, rfl⟩
def mAnil : M (List D) := M.pure []
def mAcons (m : M D) (ms : M (List D)) : M (List D) := m.bind fun d => ms.bind fun ds => M.pure (d :: ds)
theorem pa_nilE : DA X ξ W [] mAnil := pa_nil.imp fun σ H Q ⟨env, f, he, nd, r, e, k⟩ => by
  cases e
  exact k [] H [] f Frm.refl ⟨rfl, rfl⟩ he nd
theorem perm3 (a b d : List Addr) : ((a ++ b) ++ d).Perm (a ++ (b ++ d)) := by rw [List.append_assoc]
theorem pa_consE {m : M D} {ms : M (List D)} (h : DE X ξ W e m) (hs : DA X ξ W es ms) (hq : starEach (e :: es) X.env = (false, eval e X.env) :: starEach es X.env := by rfl) : DA X ξ W (e :: es) (mAcons m ms) :=
  (pa_cons h hs hq).imp fun σ H Q ⟨env, f, he, nd, r, er, k⟩ => by
    rcases bind_some er with ⟨x, e1, ea, rfl⟩ | ⟨d, e1, ea, er⟩
    · exact ⟨env, f, he, nd, _, ea, k⟩
    · refine ⟨env, f, he, nd, _, ea, fun v H1 g1 fe1 fm1 rv he1 nd1 => ?_⟩
      have ne1 := (List.nodup_append.mp nd1).2.1
      rcases bind_some er with ⟨xx, e2, eb, rfl⟩ | ⟨ds, e2, eb, er⟩
      · exact ⟨e1, fe1, he1, ne1, _, eb, fun dx' H2 g fm2 xr he2 ng => k dx' H2 g (fm1.trans ((fm2.wide fun b hb => List.mem_append_right _ hb))) xr he2 ng⟩
      · cases er
        refine ⟨e1, fe1, he1, ne1, _, eb, fun vs H2 g2 fe2 fm2 rs he2 nd2 => ?_⟩
        obtain ⟨fr1, _, _, nd3⟩ := frame (c := cx X ξ) (P := True) nd1 rv.own he1.own fm2 nd2
        refine k (v :: vs) H2 (g1 ++ g2) fe2 ?_ ⟨v, vs, g1, g2, rfl, fr1 rv, rs, rfl⟩ he2 ?_
        · exact (fm1.trans (fm2.left g1)).perm (.refl _) (perm3 _ _ _).symm
        · rw [List.append_assoc]
          exact nd3
/-- pure arguments where others are wanted -/
def mAF (ms : Env → Option (List D)) : M (List D) := fun env => match ms env with
  | none => none
  | some ds => if persAll ds = true then some (.ok ds env) else none

/-! ### calls by values -/
def mCaP (op : List D → Option D) (ms : Env → Option (List D)) : MP := fun env => match ms env with
  | none => none
  | some ds => op ds
theorem tP_ca {r : List V → Hp → VK → Prop} {op : List D → Option D} {ms : Env → Option (List D)} (hd : CaD c r op) {σ : L2.St} {H : Hp} {Q : VK} (h : tP c true (mCaP op ms) σ H Q) : tCB r (tPA c ms) σ H Q := by
  obtain ⟨env, f, he, nd, dz, ez, k⟩ := h
  unfold mCaP at ez
  split at ez
  · cases ez
  · rename_i ds eds
    refine ⟨env, f, he, nd, ds, eds, fun vs H1 g s1 rs => ?_⟩
    exact hd H1 vs ds dz g Q rs ez fun z H3 g s3 rz ng fo => k z H3 g (s1.trans s3) rz ng fun b hb => .inl (s1.free (fo b hb))
def mCaE (op : List D → Option D) (ms : M (List D)) : M D := ms.bind fun ds => M.ofO (op ds)
theorem tE_ca {r : List V → Hp → VK → Prop} {op : List D → Option D} {ms : M (List D)} (hd : CaD c r op) {σ : L2.St} {H : Hp} {Q : VK} (h : tE c W (mCaE op ms) σ H Q) : tCB r (tA c W ms) σ H Q := by
  obtain ⟨env, f, he, nd, rz, ez, k⟩ := h
  rcases bind_some ez with ⟨x, e1, ea, rfl⟩ | ⟨ds, e1, ea, ez⟩
  · exact ⟨env, f, he, nd, _, ea, k⟩
  · obtain ⟨dz, eo, rfl⟩ := ofO_some ez
    refine ⟨env, f, he, nd, _, ea, fun vs H1 g1 fe1 fm1 rs he1 nd1 => ?_⟩
    exact hd H1 vs ds dz g1 Q rs eo (post_op k (fm1.sub fun b hb => List.mem_append_right _ hb) he1 (List.nodup_append.mp nd1).2.1)

/-! ### displays -/
def dTup (ds : List D) : Option D := if ds.length ≤ 1000 then some (.tup ds) else none
theorem line1000 {n : Nat} (h : n ≤ 1000) : n ≤ sizeLine := Nat.le_trans h (by decide)
/-- (a, b, ..) of pure things (they may be looked at where they stand) -/
def mTupP (ms : Env → Option (List D)) : MP := fun env => match ms env with
  | none => none
  | some ds => if ds.length ≤ 1000 ∧ persAll ds = true then some (.tup ds) else none
theorem p_tup {ms : Env → Option (List D)} {x1} (h : DPA X ξ es ms) : DP X ξ true (.Tuple es x1 pos) (mTupP ms) := (pe_tup h).imp fun σ H Q ⟨env, f, he, nd, d, ed, k⟩ => by
  unfold mTupP at ed
  split at ed
  · cases ed
  · rename_i ds eds
    split at ed
    · rename_i hc
      cases ed
      refine ⟨env, f, he, nd, ds, eds, fun vs H1 g s1 rs => ⟨?_, fun p hp => ?_⟩⟩
      · rw [rs.length]; exact line1000 hc.1
      · have rs' := rs.toP hc.2
        have z := rs.pers hc.2
        refine k (.ref p) _ [] (s1.trans (Same.new hp)) ⟨p, vs, rfl, upd_same, rs'.same (Same.new hp)⟩ List.nodup_nil fun b hb => by cases hb
    · cases ed
def mTupE (ms : M (List D)) : M D := ms.bind fun ds => M.ofO (if ds.length ≤ 1000 then some (.tup ds) else none)
theorem e_tup {ms : M (List D)} {x1} (h : DA X ξ W es ms) : DE X ξ W (.Tuple es x1 pos) (mTupE ms) := (pe_tup h).imp fun σ H Q ⟨env, f, he, nd, rz, ez, k⟩ => by
  rcases bind_some ez with ⟨x, e1, ea, rfl⟩ | ⟨ds, e1, ea, ez⟩
  · exact ⟨env, f, he, nd, _, ea, k⟩
  · obtain ⟨dz, eo, rfl⟩ := ofO_some ez
    split at eo
    · rename_i hc
      cases eo
      refine ⟨env, f, he, nd, _, ea, fun vs H1 g1 fe1 fm1 rs he1 nd1 => ⟨?_, fun p hp => ?_⟩⟩
      · rw [rs.length]; exact line1000 hc
      · exact k (.ref p) _ g1 fe1 (fm1.trans (Frm.same (Same.new hp))) ⟨p, vs, rfl, upd_same, rs.same (Same.new hp)⟩ (he1.same (Same.new hp)) nd1
    · cases eo
def mLstP (ms : Env → Option (List D)) : MP := fun env => match ms env with
  | none => none
  | some ds => if ds.length ≤ 1000 ∧ persAll ds = true then some (.lst ds) else none
theorem p_lst {ms : Env → Option (List D)} (h : DPA X ξ es ms) : DP X ξ true (.List es pos) (mLstP ms) := (pe_lst h).imp fun σ H Q ⟨env, f, he, nd, d, ed, k⟩ => by
  unfold mLstP at ed
  split at ed
  · cases ed
  · rename_i ds eds
    split at ed
    · rename_i hc
      cases ed
      refine ⟨env, f, he, nd, ds, eds, fun vs H1 g s1 rs => ⟨?_, fun p hp => ?_⟩⟩
      · rw [rs.length]; exact line1000 hc.1
      · have rs' := rs.toP hc.2
        refine k (.ref p) _ [p] (s1.trans (Same.new hp)) ⟨p, vs, [], rfl, upd_same, rs'.same (Same.new hp), rfl⟩ (by simp) fun b hb => ?_
        have e : b = p := by simpa using hb
        rw [e]
        exact .inl (s1.free hp)
    · cases ed
def mLstE (ms : M (List D)) : M D := ms.bind fun ds => M.ofO (if ds.length ≤ 1000 then some (.lst ds) else none)
theorem fresh_own {H : Hp} {p : Addr} (hp : H p = none) {f : List Addr} (h : ∀ b ∈ f, Own1 H b) : p ∉ f := fun hb => by
  (obtain ⟨_, q⟩ := h p hb; rw [hp] at q; cases q)
theorem e_lst {ms : M (List D)} (h : DA X ξ W es ms) : DE X ξ W (.List es pos) (mLstE ms) := (pe_lst h).imp fun σ H Q ⟨env, f, he, nd, rz, ez, k⟩ => by
  rcases bind_some ez with ⟨x, e1, ea, rfl⟩ | ⟨ds, e1, ea, ez⟩
  · exact ⟨env, f, he, nd, _, ea, k⟩
  · obtain ⟨dz, eo, rfl⟩ := ofO_some ez
    split at eo
    · rename_i hc
      cases eo
      refine ⟨env, f, he, nd, _, ea, fun vs H1 g1 fe1 fm1 rs he1 nd1 => ⟨?_, fun p hp => ?_⟩⟩
      · rw [rs.length]; exact line1000 hc
      · have s := Same.new (o := .lst vs) hp
        refine k (.ref p) _ (p :: g1) fe1 (fm1.trans (Frm.new s fun b hb => ?_)) ⟨p, vs, g1, rfl, upd_same, rs.same s, rfl⟩ (he1.same s) ?_
        · rcases List.mem_cons.mp hb with rfl | hb
          · exact .inr hp
          · exact .inl hb
        · refine List.nodup_cons.mpr ⟨fun hb => ?_, nd1⟩
          rcases List.mem_append.mp hb with hb | hb
          · exact fresh_own hp rs.own hb
          · exact fresh_own hp he1.own hb
    · cases eo
end
end DL
set_option maxHeartbeats 2000000
/-! DL3: operators, comparisons, subscripts, slices, len, truth. -/
namespace DL
open PySem PySem.Spec PyProof.Rows L2
open LamX (Tabs TabS CodeO)

abbrev LIM : Nat := 1000000
theorem lim {n : Nat} (h : n ≤ LIM) : n ≤ sizeLine := Nat.le_trans h (by decide)
theorem limlt {n : Nat} (h : n < LIM) : n < sizeLine := Nat.lt_of_lt_of_le h (by decide)

section
variable {c : Cf} {W : WX} {fr : Bool} {X : Cx} {ξ : Xi} {e a b : Expr} {es : List Expr} {pos : Pos} {H : Hp}

/-! ### plain data -/
def D.plain : D → Bool
  | .non | .bl _ | .int _ | .str _ => true
  | .tup l | .lst l | .fz l => plainAll l
  | _ => false
where plainAll : List D → Bool
  | [] => true
  | d :: ds => d.plain && plainAll ds
abbrev plainAll : List D → Bool := D.plain.plainAll
def D.py : D → PyData
  | .non => .none
  | .bl b => .bool b
  | .int i => .int i
  | .str x => .str x
  | .tup l => .tuple (pyAll l)
  | .lst l => .list (pyAll l)
  | .fz l => .list (pyAll l)
  | _ => .none
where pyAll : List D → List PyData
  | [] => []
  | d :: ds => d.py :: pyAll ds
abbrev pyAll : List D → List PyData := D.py.pyAll
theorem pyAll_map : ∀ ds : List D, pyAll ds = ds.map D.py
  | [] => rfl
  | d :: ds => by
    show d.py :: pyAll ds = _
    rw [pyAll_map ds] <;> rfl
mutual
theorem Rep.dp : ∀ {d : D} {v : V} {f : List Addr}, Rep c H d v f → d.plain = true → Dp c.K H v d.py
  | .non, v, f, h, _ => by obtain ⟨rfl, _⟩ := h; exact .non
  | .bl _, v, f, h, _ => by obtain ⟨rfl, _⟩ := h; exact .bl _
  | .int _, v, f, h, _ => by obtain ⟨rfl, _⟩ := h; exact .int _
  | .str _, v, f, h, _ => by obtain ⟨rfl, _⟩ := h; exact .str _
  | .tup l, v, f, h, p => by
    obtain ⟨a, vs, rfl, q, r⟩ := h
    exact .tup (SqT.of q) (Reps.dp r p)
  | .fz l, v, f, h, p => by
    obtain ⟨a, vs, rfl, q, r, _⟩ := h
    exact .lst q.sq (Reps.dp r p)
  | .lst l, v, f, h, p => by
    obtain ⟨a, vs, g, rfl, q, r, _⟩ := h
    exact .lst (SqL.of q) (Reps.dp r p)
  | .set _, v, f, h, p => by cases p
  | .dic _ _, v, f, h, p => by cases p
  | .exc _ _ _, v, f, h, p => by cases p
  | .gone, v, f, h, p => by cases p
  | .hole, v, f, h, p => by cases p
theorem Reps.dp : ∀ {ds : List D} {vs : List V} {f : List Addr}, Reps c H ds vs f → plainAll ds = true → DpAll c.K H vs (pyAll ds)
  | [], vs, f, h, _ => by obtain ⟨rfl, _⟩ := h; exact .nil
  | d :: ds, vs, f, h, p => by
    obtain ⟨v, vs', f1, f2, rfl, r, rs, rfl⟩ := h
    have p' : (d.plain && plainAll ds) = true := p
    obtain ⟨p1, p2⟩ := Bool.and_eq_true_iff.mp p'
    exact .cons (Rep.dp r p1) (Reps.dp rs p2)
end

/-! ### + - * // % ** -/
def dAdd : D → D → Option D
  | .int i, .int j => some (.int (i + j))
  | .str x, .str y => if x.length + y.length ≤ LIM then some (.str (x ++ y)) else none
  | .tup l, .tup m => if l.length + m.length ≤ LIM ∧ persAll l = true ∧ persAll m = true then some (.tup (l ++ m)) else none
  | .lst l, .lst m => if l.length + m.length ≤ LIM ∧ persAll l = true ∧ persAll m = true then some (.lst (l ++ m)) else none
  | _, _ => none
def rAddD (K : PySem.W.Frag) : R2 := fun x y H Q => rI0 (fun i j => .int (i + j)) x y H Q ∨ (∃ i j, x = .str i ∧ y = .str j ∧ i.length + j.length ≤ sizeLine ∧ Q (.str (i ++ j)) H) ∨ rCatA K x y H Q ∨ rCat x y H Q
theorem op_addD : OpR X (binaryOp .Add) (rAddD X.K) := op_add.or (op_add_str.or (op_catA.or op_cat))
theorem persAll_append {l m : List D} (h1 : persAll l = true) (h2 : persAll m = true) : persAll (l ++ m) = true :=
  persAll_iff.mpr fun d hd => (List.mem_append.mp hd).elim (persAll_iff.mp h1 d) (persAll_iff.mp h2 d)
/-- a persistent value that is there already -/
theorem giveP {d : D} {v : V} {Q : VK} (r : Rep c H d v []) (k : ∀ z H' g, Same H H' → Rep c H' d z g → g.Nodup → (∀ b ∈ g, H b = none) → Q z H') : Q v H :=
  k v H [] (Same.refl H) r List.nodup_nil fun b hb => by cases hb
/-- a new list, a new tuple of persistent items -/
theorem giveL {ds : List D} {vs : List V} {p : Addr} {Q : VK} (r : Reps c H ds vs []) (hp : H p = none) (k : ∀ z H' g, Same H H' → Rep c H' (.lst ds) z g → g.Nodup → (∀ b ∈ g, H b = none) → Q z H') : Q (.ref p) (upd H p (.lst vs)) :=
  k (.ref p) _ [p] (Same.new hp) ⟨p, vs, [], rfl, upd_same, r.same (Same.new hp), rfl⟩ (by simp) fun b hb => by
    have e : b = p := by simpa using hb
    rw [e]
    exact hp
theorem giveT {ds : List D} {vs : List V} {p : Addr} {Q : VK} (r : Reps c H ds vs []) (hp : H p = none) (k : ∀ z H' g, Same H H' → Rep c H' (.tup ds) z g → g.Nodup → (∀ b ∈ g, H b = none) → Q z H') : Q (.ref p) (upd H p (.tup vs)) :=
  k (.ref p) _ [] (Same.new hp) ⟨p, vs, rfl, upd_same, r.same (Same.new hp)⟩ List.nodup_nil fun b hb => by cases hb
theorem isNil_of {ds : List D} {vs : List V} {f : List Addr} (r : Reps c H ds vs f) (h : vs = []) : ds = [] := List.eq_nil_of_length_eq_zero (by rw [← r.length, h] <;> rfl)
theorem opd_add : OpD (cx X ξ) (rAddD X.K) dAdd := fun H x y dx dy dz gx gy Q rx ry e k => by
  unfold dAdd at e
  split at e
  · cases e
    obtain ⟨rfl, _⟩ := rx
    obtain ⟨rfl, _⟩ := ry
    exact .inl ⟨_, _, rfl, rfl, giveP (d := .int _) ⟨rfl, rfl⟩ k⟩
  · split at e
    · rename_i hc
      cases e
      obtain ⟨rfl, _⟩ := rx
      obtain ⟨rfl, _⟩ := ry
      exact .inr (.inl ⟨_, _, rfl, rfl, lim hc, giveP (d := .str _) ⟨rfl, rfl⟩ k⟩)
    · cases e
  · split at e
    · rename_i hc
      cases e
      obtain ⟨a, xs, rfl, qa, ra⟩ := rx
      obtain ⟨b, ys, rfl, qb, rb⟩ := ry
      have ra' := ra.toP hc.2.1
      have rb' := rb.toP hc.2.2
      refine .inr (.inr (.inl ⟨a, b, xs, ys, rfl, rfl, SqT.of qa, SqT.of qb, ?_, fun hx => ?_, fun hx hy => ?_, fun hx hy p hp => ?_⟩))
      · rw [ra.length, rb.length]; exact lim hc.1
      · have z := isNil_of ra hx
        subst z
        exact giveP (c := cx X ξ) (d := .tup _) ⟨b, ys, rfl, qb, rb'⟩ k
      · have z := isNil_of rb hy
        subst z
        refine giveP (c := cx X ξ) (d := .tup _) ⟨a, xs, rfl, qa, ?_⟩ k
        rw [List.append_nil]
        exact ra'
      · exact giveT (ra'.append rb') hp k
    · cases e
  · split at e
    · rename_i hc
      cases e
      obtain ⟨a, xs, ga, rfl, qa, ra, _⟩ := rx
      obtain ⟨b, ys, gb, rfl, qb, rb, _⟩ := ry
      refine .inr (.inr (.inr ⟨a, b, xs, ys, rfl, rfl, qa, qb, ?_, fun p hp => ?_⟩))
      · rw [ra.length, rb.length]; exact lim hc.1
      · exact giveL ((ra.toP hc.2.1).append (rb.toP hc.2.2)) hp k
    · cases e
  · cases e
def dSub : D → D → Option D
  | .int i, .int j => some (.int (i - j))
  | _, _ => none
theorem opd_sub : OpD c (rI0 fun i j => .int (i - j)) dSub := fun H x y dx dy dz gx gy Q rx ry e k => by
  unfold dSub at e
  split at e
  · cases e
    obtain ⟨rfl, _⟩ := rx
    obtain ⟨rfl, _⟩ := ry
    exact ⟨_, _, rfl, rfl, giveP (d := .int _) ⟨rfl, rfl⟩ k⟩
  · cases e
def dMul : D → D → Option D
  | .int i, .int j => if i.natAbs.log2 + j.natAbs.log2 < 1000000 then some (.int (i * j)) else none
  | .lst l, .int k => if l.length * k.toNat ≤ LIM ∧ -(2 ^ 63) ≤ k ∧ k < 2 ^ 63 ∧ persAll l = true then some (.lst (List.replicate k.toNat l).flatten) else none
  | .tup l, .int k => if 2 ≤ k ∧ k ≤ 1000 ∧ l.length ≤ 1000 ∧ l ≠ [] ∧ persAll l = true then some (.tup (List.replicate k.toNat l).flatten) else none
  | _, _ => none
def rMulD (K : PySem.W.Frag) : R2 := fun x y H Q => rI CMulW (fun i j => .int (i * j)) x y H Q ∨ rRep x y H Q ∨ rRepT K x y H Q
theorem op_mulD : OpR X (binaryOp .Mult) (rMulD X.K) := op_mulW.or (op_rep.or op_repT)
theorem Reps.repl {ds : List D} {vs : List V} (r : Reps c H ds vs []) : ∀ n : Nat, Reps c H (List.replicate n ds).flatten (List.replicate n vs).flatten []
  | 0 => ⟨rfl, rfl⟩
  | n + 1 => by
    rw [List.replicate_succ, List.replicate_succ, List.flatten_cons, List.flatten_cons]
    exact r.append (Reps.repl r n)
theorem opd_mul : OpD (cx X ξ) (rMulD X.K) dMul := fun H x y dx dy dz gx gy Q rx ry e k => by
  unfold dMul at e
  split at e
  · split at e
    · rename_i hc
      cases e
      obtain ⟨rfl, _⟩ := rx
      obtain ⟨rfl, _⟩ := ry
      exact .inl ⟨_, _, rfl, rfl, hc, giveP (d := .int _) ⟨rfl, rfl⟩ k⟩
    · cases e
  · split at e
    · rename_i hc
      cases e
      obtain ⟨a, xs, ga, rfl, qa, ra, _⟩ := rx
      obtain ⟨rfl, _⟩ := ry
      refine .inr (.inl ⟨a, _, xs, rfl, rfl, qa, hc.2.1, hc.2.2.1, ?_, fun p hp => ?_⟩)
      · rw [ra.length]; exact lim hc.1
      · exact giveL ((ra.toP hc.2.2.2).repl _) hp k
    · cases e
  · split at e
    · rename_i hc
      cases e
      obtain ⟨a, xs, rfl, qa, ra⟩ := rx
      obtain ⟨rfl, _⟩ := ry
      refine .inr (.inr ⟨a, _, xs, rfl, rfl, SqT.of qa, fun z => hc.2.2.2.1 (isNil_of ra z), hc.1, hc.2.1, ?_, fun p hp => ?_⟩)
      · rw [ra.length]; exact hc.2.2.1
      · exact giveT ((ra.toP hc.2.2.2.2).repl _) hp k
    · cases e
  · cases e
def dFdiv : D → D → Option D
  | .int i, .int j => if 0 < j ∧ j.natAbs.log2 < 9000 then some (.int (i / j)) else none
  | _, _ => none
theorem opd_fdiv : OpD c (rI CDivW fun i j => .int (i / j)) dFdiv := fun H x y dx dy dz gx gy Q rx ry e k => by
  unfold dFdiv at e
  split at e
  · split at e
    · rename_i hc
      cases e
      obtain ⟨rfl, _⟩ := rx
      obtain ⟨rfl, _⟩ := ry
      exact ⟨_, _, rfl, rfl, hc, giveP (d := .int _) ⟨rfl, rfl⟩ k⟩
    · cases e
  · cases e
def dMod : D → D → Option D
  | .int i, .int j => if 0 < j then some (.int (i % j)) else none
  | _, _ => none
theorem opd_mod : OpD c (rI (fun _ j => 0 < j) fun i j => .int (i % j)) dMod := fun H x y dx dy dz gx gy Q rx ry e k => by
  unfold dMod at e
  split at e
  · split at e
    · rename_i hc
      cases e
      obtain ⟨rfl, _⟩ := rx
      obtain ⟨rfl, _⟩ := ry
      exact ⟨_, _, rfl, rfl, hc, giveP (d := .int _) ⟨rfl, rfl⟩ k⟩
    · cases e
  · cases e
def dPow : D → D → Option D
  | .int i, .int j => if 0 ≤ j ∧ j ≤ 1000000 ∧ i.natAbs < 2 ^ 64 then some (.int (i ^ j.toNat)) else none
  | _, _ => none
theorem opd_pow : OpD c (rI CPow fun i j => .int (i ^ j.toNat)) dPow := fun H x y dx dy dz gx gy Q rx ry e k => by
  unfold dPow at e
  split at e
  · split at e
    · rename_i hc
      cases e
      obtain ⟨rfl, _⟩ := rx
      obtain ⟨rfl, _⟩ := ry
      exact ⟨_, _, rfl, rfl, hc, giveP (d := .int _) ⟨rfl, rfl⟩ k⟩
    · cases e
  · cases e
def dNeg : D → Option D
  | .int i => some (.int (-i))
  | _ => none
theorem und_neg : UnD c (rU fun i => .int (-i)) dNeg := fun H x dx dz gx Q rx e k => by
  unfold dNeg at e
  split at e
  · cases e
    obtain ⟨rfl, _⟩ := rx
    exact ⟨_, rfl, giveP (d := .int _) ⟨rfl, rfl⟩ k⟩
  · cases e

/-! ### comparisons -/
def dEq : D → D → Option D := fun x y => if x.plain = true ∧ y.plain = true ∧ SeqAt.shaped x.py = true ∧ SeqAt.shaped y.py = true then some (.bl (PyData.eqv x.py y.py)) else none
def dNe : D → D → Option D := fun x y => if x.plain = true ∧ y.plain = true ∧ SeqAt.shaped x.py = true ∧ SeqAt.shaped y.py = true then some (.bl (!PyData.eqv x.py y.py)) else none
theorem opd_eq : OpD (cx X ξ) (rEqD X.K) dEq := fun H x y dx dy dz gx gy Q rx ry e k => by
  unfold dEq at e
  split at e
  · rename_i hc
    cases e
    exact ⟨_, _, rx.dp hc.1, ry.dp hc.2.1, hc.2.2.1, hc.2.2.2, giveP (c := cx X ξ) (d := .bl _) ⟨rfl, rfl⟩ k⟩
  · cases e
theorem opd_ne : OpD (cx X ξ) (rNeD X.K) dNe := fun H x y dx dy dz gx gy Q rx ry e k => by
  unfold dNe at e
  split at e
  · rename_i hc
    cases e
    exact ⟨_, _, rx.dp hc.1, ry.dp hc.2.1, hc.2.2.1, hc.2.2.2, giveP (c := cx X ξ) (d := .bl _) ⟨rfl, rfl⟩ k⟩
  · cases e
def dCmpI (p : Int → Int → Bool) : D → D → Option D
  | .int i, .int j => some (.bl (p i j))
  | _, _ => none
theorem opd_cmpI {p : Int → Int → Bool} : OpD c (rI0 fun i j => .bl (p i j)) (dCmpI p) := fun H x y dx dy dz gx gy Q rx ry e k => by
  unfold dCmpI at e
  split at e
  · cases e
    obtain ⟨rfl, _⟩ := rx
    obtain ⟨rfl, _⟩ := ry
    exact ⟨_, _, rfl, rfl, giveP (d := .bl _) ⟨rfl, rfl⟩ k⟩
  · cases e
abbrev dLt := dCmpI fun i j => decide (i < j)
abbrev dLe := dCmpI fun i j => decide (i ≤ j)
abbrev dGt := dCmpI fun i j => decide (j < i)
abbrev dGe := dCmpI fun i j => decide (j ≤ i)
def dIs : D → D → Option D
  | .gone, _ => none
  | .exc _ _ _, _ => none
  | .non, .non => some (.bl true)
  | _, .non => some (.bl false)
  | _, _ => none
def dIsNot : D → D → Option D
  | .gone, _ => none
  | .exc _ _ _, _ => none
  | .non, .non => some (.bl false)
  | _, .non => some (.bl true)
  | _, _ => none
theorem Rep.isNon {d : D} {v : V} {f : List Addr} (r : Rep c H d v f) (h1 : d ≠ .gone) : decide (v = .non) = match d with | .non => true | _ => false := by
  cases d with
  | non => obtain ⟨rfl, _⟩ := r; rfl
  | bl b => obtain ⟨rfl, _⟩ := r; rfl
  | int i => obtain ⟨rfl, _⟩ := r; rfl
  | str x => obtain ⟨rfl, _⟩ := r; rfl
  | tup l => obtain ⟨a, vs, rfl, _⟩ := r; rfl
  | fz l => obtain ⟨a, vs, rfl, _⟩ := r; rfl
  | lst l => obtain ⟨a, vs, g, rfl, _⟩ := r; rfl
  | set l => cases r
  | dic l m => cases r
  | exc a b d => obtain ⟨a, dd, vs, _, rfl, _⟩ := r; rfl
  | gone => exact (h1 rfl).elim
  | hole => obtain ⟨a, dd, _, rfl, _⟩ := r; rfl
theorem opd_is : OpD c (fun x y H Q => y = .non ∧ Q (.bl (decide (x = .non))) H) dIs := fun H x y dx dy dz gx gy Q rx ry e k => by
  unfold dIs at e
  split at e
  · cases e
  · cases e
  · cases e
    obtain ⟨rfl, _⟩ := ry
    obtain ⟨rfl, _⟩ := rx
    exact ⟨rfl, giveP (d := .bl _) ⟨rfl, rfl⟩ k⟩
  · rename_i h1 h2 h3
    cases e
    obtain ⟨rfl, _⟩ := ry
    refine ⟨rfl, giveP (d := .bl _) ⟨?_, rfl⟩ k⟩
    rw [rx.isNon fun z => h1 z]
    cases dx <;> first | rfl | exact (h3 rfl).elim
  · cases e
theorem opd_isNot : OpD c (fun x y H Q => y = .non ∧ Q (.bl (!decide (x = .non))) H) dIsNot := fun H x y dx dy dz gx gy Q rx ry e k => by
  unfold dIsNot at e
  split at e
  · cases e
  · cases e
  · cases e
    obtain ⟨rfl, _⟩ := ry
    obtain ⟨rfl, _⟩ := rx
    exact ⟨rfl, giveP (d := .bl _) ⟨rfl, rfl⟩ k⟩
  · rename_i h1 h2 h3
    cases e
    obtain ⟨rfl, _⟩ := ry
    refine ⟨rfl, giveP (d := .bl _) ⟨?_, rfl⟩ k⟩
    rw [rx.isNon fun z => h1 z]
    cases dx <;> first | rfl | exact (h3 rfl).elim
  · cases e
/-- x in y -/
def inStr (x y : Str) : Bool := match x.cps.toList with
  | [c] => decide (c ∈ y.cps.toList)
  | _ => !(Builtin.Str.occurrences y x 0 y.length 1).isEmpty
def dIn (neg : Bool) : D → D → Option D
  | .str x, .str y => some (.bl (if neg then !inStr x y else inStr x y))
  | x, .lst l => if x.plain = true ∧ plainAll l = true ∧ SeqAt.shaped x.py = true ∧ SeqAt.shaped (.list (pyAll l)) = true then
      some (.bl (if neg then !((pyAll l).any fun z => PyData.eqv z x.py) else (pyAll l).any fun z => PyData.eqv z x.py)) else none
  | x, .fz l => if x.plain = true ∧ plainAll l = true ∧ SeqAt.shaped x.py = true ∧ SeqAt.shaped (.list (pyAll l)) = true then
      some (.bl (if neg then !((pyAll l).any fun z => PyData.eqv z x.py) else (pyAll l).any fun z => PyData.eqv z x.py)) else none
  | _, _ => none
def rInS' (neg : Bool) : R2 := fun x y H Q => ∃ i j, x = .str i ∧ y = .str j ∧ Q (.bl (if neg then !inStr i j else inStr i j)) H
def rInDD (K : PySem.W.Frag) (neg : Bool) : R2 := fun x y H Q => rInS' neg x y H Q ∨ (∃ d ds, Dp K H x d ∧ Dp K H y (.list ds) ∧ SeqAt.shaped d = true ∧ SeqAt.shaped (.list ds) = true ∧
  Q (.bl (if neg then !ds.any fun z => PyData.eqv z d else ds.any fun z => PyData.eqv z d)) H)
theorem op_inS' : OpR X (compareOp .In) (rInS' false) := by
  intro pins s σ H x y v u Q I rx ry h
  obtain ⟨i, j, rfl, rfl, q0⟩ := h
  have q : Q (.bl (inStr i j)) H := q0
  unfold inStr at q
  split at q
  · rename_i c0 hc
    have e : i = ⟨#[c0]⟩ := by
      obtain ⟨⟨l⟩⟩ := i
      have z : l = [c0] := hc
      rw [z] <;> rfl
    subst e
    exact op_in_sign pins s σ H _ _ v u Q I rx ry ⟨c0, j, rfl, rfl, q⟩
  · exact op_in_str pins s σ H _ _ v u Q I rx ry ⟨i, j, rfl, rfl, q⟩
theorem op_notInS' : OpR X (compareOp .NotIn) (rInS' true) := by
  intro pins s σ H x y v u Q I rx ry h
  obtain ⟨i, j, rfl, rfl, q0⟩ := h
  have q : Q (.bl (!inStr i j)) H := q0
  unfold inStr at q
  split at q
  · rename_i c0 hc
    have e : i = ⟨#[c0]⟩ := by
      obtain ⟨⟨l⟩⟩ := i
      have z : l = [c0] := hc
      rw [z] <;> rfl
    subst e
    exact op_notIn_sign pins s σ H _ _ v u Q I rx ry ⟨c0, j, rfl, rfl, q⟩
  · exact op_notin_str pins s σ H _ _ v u Q I rx ry ⟨i, j, rfl, rfl, q⟩
theorem op_inDD (hu : X.A.units + 65 < cLine) : OpR X (compareOp .In) (rInDD X.K false) := op_inS'.or (op_inD hu)
theorem op_notInDD (hu : X.A.units + 65 < cLine) : OpR X (compareOp .NotIn) (rInDD X.K true) := op_notInS'.or (op_notInD hu)
theorem opd_in {neg : Bool} : OpD (cx X ξ) (rInDD X.K neg) (dIn neg) := fun H x y dx dy dz gx gy Q rx ry e k => by
  unfold dIn at e
  split at e
  · cases e
    obtain ⟨rfl, _⟩ := rx
    obtain ⟨rfl, _⟩ := ry
    exact .inl ⟨_, _, rfl, rfl, giveP (c := cx X ξ) (d := .bl _) ⟨rfl, rfl⟩ k⟩
  · split at e
    · rename_i hc
      cases e
      have dy := ry.dp (show (D.lst _).plain = true from hc.2.1)
      exact .inr ⟨_, _, rx.dp hc.1, dy, hc.2.2.1, hc.2.2.2, giveP (c := cx X ξ) (d := .bl _) ⟨rfl, rfl⟩ k⟩
    · cases e
  · split at e
    · rename_i hc
      cases e
      have dy := ry.dp (show (D.fz _).plain = true from hc.2.1)
      exact .inr ⟨_, _, rx.dp hc.1, dy, hc.2.2.1, hc.2.2.2, giveP (c := cx X ξ) (d := .bl _) ⟨rfl, rfl⟩ k⟩
    · cases e
  · cases e

/-! ### len, truth -/
def dLen : List D → Option D
  | [.str x] => if x.length ≤ LIM then some (.int x.length) else none
  | [.tup l] => some (.int l.length)
  | [.lst l] => some (.int l.length)
  | [.fz l] => some (.int l.length)
  | _ => none
def rLen (K : PySem.W.Frag) : List V → Hp → VK → Prop := fun xs H Q => ∃ x n, xs = [x] ∧ LenV K x H n ∧ Q (.int n) H
theorem call_lenD : CallR X (.builtin "len") (rLen X.K) := call_len
theorem Reps.one {d : D} {vs : List V} {g : List Addr} (r : Reps c H [d] vs g) : ∃ v, vs = [v] ∧ Rep c H d v g := by
  obtain ⟨v, vs', f1, f2, rfl, r1, ⟨rfl, rfl⟩, rfl⟩ := r
  exact ⟨v, rfl, by rw [List.append_nil]; exact r1⟩
theorem Reps.two {d d' : D} {vs : List V} {g : List Addr} (r : Reps c H [d, d'] vs g) : ∃ v v' f1 f2, vs = [v, v'] ∧ Rep c H d v f1 ∧ Rep c H d' v' f2 ∧ g = f1 ++ f2 := by
  obtain ⟨v, vs', f1, f2, rfl, r1, ⟨v2, vs2, f3, f4, rfl, r2, ⟨rfl, rfl⟩, rfl⟩, rfl⟩ := r
  exact ⟨v, v2, f1, f3, rfl, r1, r2, by simp⟩
theorem cad_len : CaD (cx X ξ) (rLen X.K) dLen := fun H xs ds dz g Q r e k => by
  unfold dLen at e
  split at e
  · split at e
    · rename_i hc
      cases e
      obtain ⟨v, rfl, rfl, _⟩ := r.one
      exact ⟨_, _, rfl, ⟨lim hc, rfl⟩, giveP (c := cx X ξ) (d := .int _) ⟨rfl, rfl⟩ k⟩
    · cases e
  · cases e
    obtain ⟨v, rfl, a, vs, rfl, q, rs⟩ := r.one
    refine ⟨_, vs.length, rfl, .inr ⟨_, SqT.of q, rfl⟩, giveP (c := cx X ξ) (d := .int _) ⟨?_, rfl⟩ k⟩
    rw [rs.length]
  · cases e
    obtain ⟨v, rfl, a, vs, g', rfl, q, rs, _⟩ := r.one
    refine ⟨_, vs.length, rfl, .inl ⟨_, SqL.of q, rfl⟩, giveP (c := cx X ξ) (d := .int _) ⟨?_, rfl⟩ k⟩
    rw [rs.length]
  · cases e
    obtain ⟨v, rfl, a, vs, rfl, q, rs, _⟩ := r.one
    refine ⟨_, vs.length, rfl, .inl ⟨_, q.sq, rfl⟩, giveP (c := cx X ξ) (d := .int _) ⟨?_, rfl⟩ k⟩
    rw [rs.length]
  · cases e
/-- truth -/
def dTru : D → Option Bool
  | .non => some false
  | .bl b => some b
  | .int i => some (i != 0)
  | .str x => if x.length ≤ LIM then some ((x.length : Int) != 0) else none
  | .tup l => some (!l.isEmpty)
  | .lst l => some (!l.isEmpty)
  | .fz l => some (!l.isEmpty)
  | _ => none
theorem isEmpty_len {α β : Type} {l : List α} {m : List β} (h : l.length = m.length) : l.isEmpty = m.isEmpty := by
  cases l <;> cases m <;> first | rfl | cases h
theorem Rep.tru {d : D} {v : V} {f : List Addr} {b : Bool} (r : Rep c H d v f) (h : dTru d = some b) : TruV c.K v H b := by
  cases d with
  | non => obtain ⟨rfl, _⟩ := r; cases h; rfl
  | bl b => obtain ⟨rfl, _⟩ := r; cases h; rfl
  | int i => obtain ⟨rfl, _⟩ := r; cases h; rfl
  | str x =>
    obtain ⟨rfl, _⟩ := r
    have h' : (if x.length ≤ LIM then some ((x.length : Int) != 0) else none) = some b := h
    split at h'
    · rename_i hc
      cases h'
      exact ⟨lim hc, rfl⟩
    · cases h'
  | tup l =>
    obtain ⟨a, vs, rfl, q, rs⟩ := r
    cases h
    exact .inr (.inl ⟨_, SqT.of q, by rw [isEmpty_len rs.length]⟩)
  | fz l =>
    obtain ⟨a, vs, rfl, q, rs, _⟩ := r
    cases h
    exact .inl ⟨_, q.sq, by rw [isEmpty_len rs.length]⟩
  | lst l =>
    obtain ⟨a, vs, g, rfl, q, rs, _⟩ := r
    cases h
    exact .inl ⟨_, SqL.of q, by rw [isEmpty_len rs.length]⟩
  | set l => cases h
  | dic l m => cases h
  | exc a b d => cases h
  | hole => cases h
  | gone => cases h

/-! ### subscripts -/
def atD (l : List D) (i : Int) : Option D := match atI l i with
  | some .gone => none
  | o => o
def dIx : D → D → Option D
  | .tup l, .int i => atI l i
  | .lst l, .int i => atI l i
  | .fz l, .int i => atI l i
  | .str z, .int i => if z.length ≤ LIM then (atI z.cps.toList i).map fun c => .str ⟨#[c]⟩ else none
  | _, _ => none
/-- an operator whose result is a part of its left operand -/
def SbD (c : Cf) (r : R2) (op : D → D → Option D) : Prop := ∀ (H : Hp) (x y : V) (dx dy dz : D) (gx gy : List Addr), Rep c H dx x gx → Rep c H dy y gy → op dx dy = some dz →
  ∃ z g, Rep c H dz z g ∧ g.Sublist gx ∧ ∀ Q : VK, Q z H → r x y H Q
theorem Reps.atI {ds : List D} {vs : List V} {f : List Addr} (r : Reps c H ds vs f) {i : Int} {d : D} (h : L2.atI ds i = some d) : ∃ v g, L2.atI vs i = some v ∧ Rep c H d v g ∧ g.Sublist f := by
  unfold L2.atI at h ⊢
  rw [r.length]
  cases e : ixN ds.length i with
  | none => rw [e] at h; cases h
  | some j =>
    rw [e] at h
    exact r.get h
theorem sbd_ix : SbD (cx X ξ) (rIx X.K) dIx := fun H x y dx dy dz gx gy rx ry e => by
  unfold dIx at e
  split at e
  · obtain ⟨a, vs, rfl, q, rs⟩ := rx
    obtain ⟨rfl, _⟩ := ry
    obtain ⟨v, g, e1, r1, s⟩ := rs.atI e
    exact ⟨v, g, r1, s, fun Q h => .inr (.inl ⟨a, vs, _, v, rfl, rfl, SqT.of q, e1, h⟩)⟩
  · obtain ⟨a, vs, g', rfl, q, rs, rfl⟩ := rx
    obtain ⟨rfl, _⟩ := ry
    obtain ⟨v, g, e1, r1, s⟩ := rs.atI e
    exact ⟨v, g, r1, s.trans (List.sublist_cons_self _ _), fun Q h => .inl ⟨a, vs, _, v, rfl, rfl, SqL.of q, e1, h⟩⟩
  · obtain ⟨a, vs, rfl, q, rs, rfl⟩ := rx
    obtain ⟨rfl, _⟩ := ry
    obtain ⟨v, g, e1, r1, s⟩ := rs.atI e
    exact ⟨v, g, r1, s, fun Q h => .inl ⟨a, vs, _, v, rfl, rfl, q.sq, e1, h⟩⟩
  · split at e
    · rename_i hc
      obtain ⟨rfl, rfl⟩ := rx
      obtain ⟨rfl, _⟩ := ry
      obtain ⟨c0, e1, rfl⟩ := Option.map_eq_some_iff.mp e
      exact ⟨_, [], ⟨rfl, rfl⟩, .slnil, fun Q h => .inr (.inr ⟨_, _, c0, rfl, rfl, lim hc, e1, h⟩)⟩
    · cases e
  · cases e
/-- a part of what stands in the environment -/
theorem tP_sub {r : R2} {op : D → D → Option D} {ma mb : MP} {f1 f2 : Bool} (hd : SbD c r op) {σ : L2.St} {H : Hp} {Q : VK} (h : tP c f1 (mPP op ma mb) σ H Q) : tOp r (tP c f1 ma) (tP c f2 mb) σ H Q := by
  obtain ⟨env, f, he, nd, dz, ez, k⟩ := h
  obtain ⟨dx, dy, ex, ey, eo⟩ := mPP_some ez
  refine ⟨env, f, he, nd, dx, ex, fun x H1 gx s1 rx nx fx => ?_⟩
  refine ⟨env, f, he.same s1, nd, dy, ey, fun y H2 gy s2 ry ny fy => ?_⟩
  obtain ⟨z, g, rz, sub, q⟩ := hd H2 x y dx dy dz gx gy (rx.same s2) ry eo
  exact q Q (k z H2 g (s1.trans s2) rz (sub.nodup nx) fun b hb => fx b (sub.subset hb))
theorem tE_sub {r : R2} {op : D → D → Option D} {ma mb : M D} (hd : SbD c r op) {σ : L2.St} {H : Hp} {Q : VK} (h : tE c W (mEE op ma mb) σ H Q) : tOp r (tE c W ma) (tE c W mb) σ H Q := by
  obtain ⟨env, f, he, nd, rz, ez, k⟩ := h
  rcases bind_some ez with ⟨x, e1, ea, rfl⟩ | ⟨dx, e1, ea, ez⟩
  · exact ⟨env, f, he, nd, _, ea, k⟩
  · refine ⟨env, f, he, nd, _, ea, fun x H1 gx fe1 fm1 rx he1 nd1 => ?_⟩
    obtain ⟨nx, ne1, dis⟩ := List.nodup_append.mp nd1
    rcases bind_some ez with ⟨xx, e2, eb, rfl⟩ | ⟨dy, e2, eb, ez⟩
    · exact ⟨e1, fe1, he1, ne1, _, eb, fun dx' H2 g fm2 xr he2 ng => k dx' H2 g (fm1.trans ((fm2.wide fun b hb => List.mem_append_right _ hb))) xr he2 ng⟩
    · obtain ⟨dz, eo, rfl⟩ := ofO_some ez
      refine ⟨e1, fe1, he1, ne1, _, eb, fun y H2 gy fe2 fm2 ry he2 nd2 => ?_⟩
      obtain ⟨fr1, _, _, nd3⟩ := frame (c := c) (P := True) nd1 rx.own he1.own fm2 nd2
      have fm3 := fm1.trans (fm2.left gx)
      obtain ⟨z, g, rz, sub, q⟩ := hd H2 x y dx dy dz gx gy (fr1 rx) ry eo
      refine q Q (k z H2 g fe2 (fm3.sub fun b hb => ?_) rz he2 ?_)
      · rcases List.mem_append.mp hb with hb | hb
        · exact List.mem_append_left _ (sub.subset hb)
        · exact List.mem_append_right _ (List.mem_append_right _ hb)
      · refine List.Nodup.sublist ?_ nd3
        exact List.Sublist.append sub (List.sublist_append_right _ _)
/-- a name's item, the index reckoned first -/
def mIxVE (i : Nat) (mb : M D) : M D := fun env => match mV i env with
  | none => none
  | some _ => mb.bind (fun y env => match mV i env with
    | none => none
    | some x => match dIx x y with
      | none => none
      | some z => if z.pers = true then some (.ok z env) else none) env
theorem tE_ixVE {r : R2} {i : Nat} {mb : M D} (hd : SbD c r dIx) {σ : L2.St} {H : Hp} {Q : VK} (h : tE c W (mIxVE i mb) σ H Q) : tOp r (tVar i) (tE c W mb) σ H Q := by
  obtain ⟨env, f, he, nd, rz, ez, k⟩ := h
  unfold mIxVE at ez
  split at ez
  · cases ez
  rename_i d0 ed0
  obtain ⟨x, _, ex, _, _⟩ := mV_slot he ed0
  refine ⟨x, ex, ?_⟩
  rcases bind_some ez with ⟨xx, e1, ea, rfl⟩ | ⟨dy, e1, ea, ez⟩
  · exact ⟨env, f, he, nd, _, ea, k⟩
  · refine ⟨env, f, he, nd, _, ea, fun y H1 gy fe1 fm1 ry he1 nd1 => ?_⟩
    obtain ⟨ny, ne1, dis⟩ := List.nodup_append.mp nd1
    split at ez
    · cases ez
    · rename_i dx eb
      obtain ⟨x', g, eo2, rx, sub⟩ := mV_slot he1 eb
      rw [ex] at eo2
      cases eo2
      split at ez
      · cases ez
      · rename_i dz eo
        split at ez
        · rename_i hp
          cases ez
          obtain ⟨z, g2, rz, sub2, q⟩ := hd H1 x y dx dy dz g gy rx ry eo
          have z0 := rz.pers hp
          subst z0
          exact q Q (k z H1 [] fe1 (fm1.sub fun b hb => List.mem_append_right _ (by simpa using hb)) rz he1 (by simpa using ne1))
        · cases ez

/-! ### slices -/
def cutD (l : List D) (lo hi : Option Int) : List D := (l.drop (HT.sIx l.length 0 lo)).take (HT.sIx l.length l.length hi - HT.sIx l.length 0 lo)
def dSl : D → Option Int → Option Int → Option D
  | .str z, lo, hi => if z.length ≤ LIM then some (.str (cutS z lo hi)) else none
  | .tup l, lo, hi => if persAll l = true then some (.tup (cutD l lo hi)) else none
  | .lst l, lo, hi => if persAll l = true then some (.lst (cutD l lo hi)) else none
  | .fz l, lo, hi => if persAll l = true then some (.lst (cutD l lo hi)) else none
  | _, _, _ => none
def rSlD (K : PySem.W.Frag) : V → Option Int → Option Int → Hp → VK → Prop := fun x lo hi H Q => rSlS x lo hi H Q ∨ rSlA K x lo hi H Q ∨ rSlL K x lo hi H Q
theorem sl_D : SlR X (rSlD X.K) := sl_str.or (sl_tupA.or sl_list)
theorem Reps.drop {ds : List D} {vs : List V} (r : Reps c H ds vs []) : ∀ n : Nat, Reps c H (ds.drop n) (vs.drop n) [] := fun n =>
  Reps.of (by simp [r.length]) fun i d v h1 h2 => by
    rw [List.getElem?_drop] at h1 h2
    exact r.at h1 h2
theorem Reps.take {ds : List D} {vs : List V} (r : Reps c H ds vs []) : ∀ n : Nat, Reps c H (ds.take n) (vs.take n) [] := fun n =>
  Reps.of (by simp [r.length]) fun i d v h1 h2 => by
    rw [List.getElem?_take] at h1 h2
    split at h1
    · rename_i hi
      rw [if_pos hi] at h2
      exact r.at h1 h2
    · cases h1
theorem Reps.cut {ds : List D} {vs : List V} (r : Reps c H ds vs []) (lo hi : Option Int) : Reps c H (cutD ds lo hi) (cutV vs lo hi) [] := by
  unfold cutD cutV
  rw [r.length]
  exact (r.drop _).take _
theorem dSl_some {x z : D} {lo hi : Option Int} (h : dSl x lo hi = some z) {v : V} {g : List Addr} {Q : VK} (r : Rep (cx X ξ) H x v g)
    (k : ∀ w H' g, Same H H' → Rep (cx X ξ) H' z w g → g.Nodup → (∀ b ∈ g, H b = none) → Q w H') : rSlD X.K v lo hi H Q := by
  unfold dSl at h
  split at h
  · split at h
    · rename_i hc
      cases h
      obtain ⟨rfl, _⟩ := r
      exact .inl ⟨_, rfl, lim hc, giveP (c := cx X ξ) (d := .str _) ⟨rfl, rfl⟩ k⟩
    · cases h
  · split at h
    · rename_i hc
      cases h
      obtain ⟨a, vs, rfl, q, rs⟩ := r
      have rs' := rs.toP hc
      refine .inr (.inl ⟨a, vs, rfl, SqT.of q, fun hw => ?_, fun _ p hp => giveT (rs'.cut _ _) hp k⟩)
      refine giveP (c := cx X ξ) (d := .tup _) ⟨a, vs, rfl, q, ?_⟩ k
      have e : cutV vs lo hi = vs := by
        unfold cutV
        rw [hw.1, hw.2]
        simp
      rw [← e]
      exact rs'.cut lo hi
    · cases h
  · split at h
    · rename_i hc
      cases h
      obtain ⟨a, vs, g', rfl, q, rs, _⟩ := r
      exact .inr (.inr ⟨a, vs, rfl, SqL.of q, fun p hp => giveL ((rs.toP hc).cut _ _) hp k⟩)
    · cases h
  · split at h
    · rename_i hc
      cases h
      obtain ⟨a, vs, rfl, q, rs, _⟩ := r
      exact .inr (.inr ⟨a, vs, rfl, q.sq, fun p hp => giveL ((rs.toP hc).cut _ _) hp k⟩)
    · cases h
  · cases h
/-- a bound of a slice -/
def mBd : Option MP → Env → Option (Option Int)
  | none, _ => some none
  | some m, env => match m env with
    | some (.int i) => some (some i)
    | _ => none
def tBd (c : Cf) : Option MP → TO
  | none => tNoPart
  | some m => tPart (tP c false m)
def mSlP (ma : MP) (lo hi : Option MP) : MP := fun env => match ma env with
  | none => none
  | some x => match mBd lo env with
    | none => none
    | some l => match mBd hi env with
      | none => none
      | some u => dSl x l u
theorem tBd_of {σ : L2.St} {H : Hp} {env : Env} {f : List Addr} {m : Option MP} {o : Option Int} {Q : Option Int → Hp → Prop} (he : EnvR c H env σ f) (nd : f.Nodup) (e : mBd m env = some o) (k : ∀ H', Same H H' → Q o H') : tBd c m σ H Q := by
  cases m with
  | none =>
    cases e
    exact k H (Same.refl H)
  | some m =>
    unfold mBd at e
    dsimp only at e
    split at e
    · rename_i i ei
      cases e
      refine ⟨env, f, he, nd, _, ei, fun v H' g s r _ _ => ?_⟩
      obtain ⟨rfl, _⟩ := r
      exact ⟨i, rfl, k H' s⟩
    · cases e
theorem tP_sl {ma : MP} {lo hi : Option MP} {f1 : Bool} {σ : L2.St} {H : Hp} {Q : VK} (h : tP (cx X ξ) true (mSlP ma lo hi) σ H Q) : tSl (rSlD X.K) (tP (cx X ξ) f1 ma) (tBd (cx X ξ) lo) (tBd (cx X ξ) hi) σ H Q := by
  obtain ⟨env, f, he, nd, dz, ez, k⟩ := h
  unfold mSlP at ez
  split at ez
  · cases ez
  rename_i dx ex
  split at ez
  · cases ez
  rename_i l el
  split at ez
  · cases ez
  rename_i u eu
  refine ⟨env, f, he, nd, dx, ex, fun x H1 gx s1 rx nx fx => ?_⟩
  refine tBd_of (he.same s1) nd el fun H2 s2 => tBd_of ((he.same s1).same s2) nd eu fun H3 s3 => ?_
  refine dSl_some ez ((rx.same s2).same s3) fun w H4 g s4 r ng fo => ?_
  have s := ((s1.trans s2).trans s3)
  exact k w H4 g (s.trans s4) r ng fun b hb => .inl (s.free (fo b hb))
theorem po_bdN : PO X none (tBd (cx X ξ) none) := po_none
theorem po_bdS {m : MP} {x : Expr} {f1 : Bool} (h : DP X ξ f1 x m) : PO X (some x) (tBd (cx X ξ) (some m)) := by
  cases f1 with
  | true => exact po_some (p_al h)
  | false => exact po_some h
theorem p_sl {ma : MP} {lo hi : Option MP} {elo ehi : Option Expr} {p2 : Pos} {f1 : Bool} (ha : DP X ξ f1 a ma) (hl : PO X elo (tBd (cx X ξ) lo)) (hh : PO X ehi (tBd (cx X ξ) hi)) : DP X ξ true (.Subscript a (.Slice elo ehi none p2) pos) (mSlP ma lo hi) :=
  (pe_slice sl_D ha hl hh).imp fun _ _ _ h => tP_sl h
end
end DL
set_option maxHeartbeats 2000000
/-! DL4: statements over data. -/
namespace DL
open PySem PySem.Spec PyProof.Rows L2
open LamX (Tabs TabS CodeO)

/-- a statement's end -/
inductive O where
  | nx (e : Env) | bk (e : Env) | ct (e : Env)
  | ret (d : D) (e : Env)
  | ex (x : Ex) (e : Env)
abbrev MS := Env → Option O

def Keep (κ : List Nat) (σ σ' : L2.St) : Prop := ∀ i ∈ κ, σ'[i]? = σ[i]?
theorem Keep.refl {κ : List Nat} {σ : L2.St} : Keep κ σ σ := fun _ _ => rfl
theorem Keep.trans {κ : List Nat} {σ σ1 σ2 : L2.St} (a : Keep κ σ σ1) (b : Keep κ σ1 σ2) : Keep κ σ σ2 := fun i hi => (b i hi).trans (a i hi)
theorem Keep.set {κ : List Nat} {σ : L2.St} {i : Nat} {o : Option V} (h : i ∉ κ) : Keep κ σ (σ.set i o) := fun j hj => by
  rw [List.getElem?_set_ne]
  rintro rfl
  exact h hj

def PostS (c : Cf) (W : WX) (κ : List Nat) (D' : Ends) (σ : L2.St) (H : Hp) (f : List Addr) : O → Prop
  | .nx e => ∀ σ' H' g, Frm f g H H' → Keep κ σ σ' → EnvR c H' e σ' g → g.Nodup → D'.nx σ' H'
  | .bk e => ∀ σ' H' g, Frm f g H H' → Keep κ σ σ' → EnvR c H' e σ' g → g.Nodup → D'.bk σ' H'
  | .ct e => ∀ σ' H' g, Frm f g H H' → Keep κ σ σ' → EnvR c H' e σ' g → g.Nodup → D'.ct σ' H'
  | .ret d e => ∀ v σ' H' g1 g2, Frm f (g1 ++ g2) H H' → Keep κ σ σ' → Rep c H' d v g1 → EnvR c H' e σ' g2 → (g1 ++ g2).Nodup → D'.rt v H'
  | .ex x e => ∀ dx σ' H' g, Frm f g H H' → Keep κ σ σ' → ExR c H' x dx → EnvR c H' e σ' g → g.Nodup → W (.ref (He.ga c.K x.cls)) (some dx) σ' H'
def tS (c : Cf) (W : WX) (κ : List Nat) (m : MS) : TS := fun D' σ H => ∃ env f, EnvR c H env σ f ∧ f.Nodup ∧ ∃ o, m env = some o ∧ PostS c W κ D' σ H f o
abbrev DS (X : Cx) (ξ : Xi) (W : WX) (κ : List Nat) (st : Stmt) (m : MS) : Prop := PS X st (tS (cx X ξ) W κ m)
abbrev DSs (X : Cx) (ξ : Xi) (W : WX) (κ : List Nat) (st : List Stmt) (m : MS) : Prop := PSs X st (tS (cx X ξ) W κ m)

section
variable {c : Cf} {W : WX} {κ : List Nat} {X : Cx} {ξ : Xi} {pos : Pos} {D' : Ends}

/-- the post from a later state -/
theorem PostS.later {σ σ1 : L2.St} {H H1 : Hp} {f g : List Addr} {o : O} (fm : Frm f g H H1) (kp : Keep κ σ σ1) (h : PostS c W κ D' σ H f o) : PostS c W κ D' σ1 H1 g o := by
  cases o with
  | nx e => exact fun σ' H' g' a b => h σ' H' g' (fm.trans a) (kp.trans b)
  | bk e => exact fun σ' H' g' a b => h σ' H' g' (fm.trans a) (kp.trans b)
  | ct e => exact fun σ' H' g' a b => h σ' H' g' (fm.trans a) (kp.trans b)
  | ret d e => exact fun v σ' H' g1 g2 a b => h v σ' H' g1 g2 (fm.trans a) (kp.trans b)
  | ex x e => exact fun dx σ' H' g' a b => h dx σ' H' g' (fm.trans a) (kp.trans b)

/-! ### sequences -/
def mNil : MS := fun e => some (.nx e)
def mSeq (m n : MS) : MS := fun e => match m e with
  | some (.nx e') => n e'
  | o => o
theorem ss_nil : DSs X ξ W κ [] mNil := pss_nil.imp fun D' σ H ⟨env, f, he, nd, o, eo, k⟩ => by
  cases eo
  exact k σ H f Frm.refl Keep.refl he nd
theorem ss_cons {st : Stmt} {rest : List Stmt} {m n : MS} (h1 : DS X ξ W κ st m) (h2 : DSs X ξ W κ rest n) : DSs X ξ W κ (st :: rest) (mSeq m n) := (pss_cons h1 h2).imp fun D' σ H ⟨env, f, he, nd, o, eo, k⟩ => by
  unfold mSeq at eo
  split at eo
  · rename_i e' e1
    exact ⟨env, f, he, nd, _, e1, fun σ' H' g fm kp he' nd' => ⟨e', g, he', nd', o, eo, k.later fm kp⟩⟩
  · rename_i hn
    refine ⟨env, f, he, nd, o, eo, ?_⟩
    cases o with
    | nx e => exact (hn e eo).elim
    | bk e => exact k
    | ct e => exact k
    | ret d e => exact k
    | ex x e => exact k
theorem ss_one {st : Stmt} {m : MS} (h1 : DS X ξ W κ st m) : DSs X ξ W κ [st] m := pss_one h1
theorem s_pass : DS X ξ W κ (.Pass pos) mNil := ps_pass.imp fun D' σ H ⟨env, f, he, nd, o, eo, k⟩ => by
  cases eo
  exact k σ H f Frm.refl Keep.refl he nd
def mBrk : MS := fun e => some (.bk e)
def mCnt : MS := fun e => some (.ct e)
theorem s_break : DS X ξ W κ (.Break pos) mBrk := ps_break.imp fun D' σ H ⟨env, f, he, nd, o, eo, k⟩ => by
  cases eo
  exact k σ H f Frm.refl Keep.refl he nd
theorem s_continue : DS X ξ W κ (.Continue pos) mCnt := ps_continue.imp fun D' σ H ⟨env, f, he, nd, o, eo, k⟩ => by
  cases eo
  exact k σ H f Frm.refl Keep.refl he nd

/-! ### stores -/
theorem EnvR.store {H : Hp} {ds : Env} {σ : L2.St} {f g : List Addr} {i : Nat} {d : D} {v : V} (h : EnvR c H ds σ f) (hi : i < ds.length) (r : Rep c H d v g) (nd : (g ++ f).Nodup) :
    ∃ f', EnvR c H (ds.set i d) (σ.set i (some v)) f' ∧ f'.Nodup ∧ ∀ b ∈ f', b ∈ g ++ f := by
  obtain ⟨o, f1, f2, eo, s, t, p⟩ := h.take (List.getElem?_eq_getElem hi)
  have e : (ds.set i .gone)[i]? = some .gone := by rw [List.getElem?_set_self hi]
  obtain ⟨f', q, p2⟩ := t.put e (.inr ⟨v, rfl, r⟩)
  rw [List.set_set] at q
  have sub : ∀ b ∈ f2, b ∈ f := fun b hb => p.mem_iff.mp (List.mem_append_right _ hb)
  have n2 : (g ++ f2).Nodup := by
    obtain ⟨a1, a2, a3⟩ := List.nodup_append.mp nd
    have a4 := (List.nodup_append.mp (p.nodup_iff.mpr a2)).2.1
    exact List.nodup_append.mpr ⟨a1, a4, fun x hx y hy => a3 x hx y (sub y hy)⟩
  refine ⟨f', q, p2.nodup_iff.mpr n2, fun b hb => ?_⟩
  rcases List.mem_append.mp (p2.mem_iff.mp hb) with hb | hb
  · exact List.mem_append_left _ hb
  · exact List.mem_append_right _ (sub b hb)
def setE (i : Nat) (d : D) (e : Env) : Option Env := if i < e.length then some (e.set i d) else none
def mSet (i : Nat) (m : M D) : MS := fun env => match m env with
  | none => none
  | some (.ex x e) => some (.ex x e)
  | some (.ok d e) => match setE i d e with
    | none => none
    | some e' => some (.nx e')
/-- what a raise within an expression wants of the statement's post -/
theorem PostE.exOf {σ : L2.St} {H : Hp} {f : List Addr} {x : Ex} {e : Env} {Q : VK} (h : PostS c W κ D' σ H f (.ex x e)) : PostE c W σ H f Q (.ex x e) := fun dx H' g fm xr he nd => h dx σ H' g fm Keep.refl xr he nd
theorem PostT.exOf {σ : L2.St} {H : Hp} {f : List Addr} {x : Ex} {e : Env} {Q : Bool → Hp → Prop} (h : PostS c W κ D' σ H f (.ex x e)) : PostT c W σ H f Q (.ex x e) := fun dx H' g fm xr he nd => h dx σ H' g fm Keep.refl xr he nd
theorem tS_set {i : Nat} {m : M D} {σ : L2.St} {H : Hp} (hκ : i ∉ κ) (h : tS c W κ (mSet i m) D' σ H) : tAsg (tE c W m) (gName i) D' σ H := by
  obtain ⟨env, f, he, nd, o, eo, k⟩ := h
  unfold mSet at eo
  split at eo
  · cases eo
  · cases eo
    exact ⟨env, f, he, nd, _, by assumption, PostE.exOf k⟩
  · rename_i d e em
    split at eo
    · cases eo
    · rename_i e' es
      cases eo
      unfold setE at es
      split at es
      · rename_i hi
        cases es
        refine ⟨env, f, he, nd, _, em, fun v H' g1 g2 fm r he' nd' => ?_⟩
        obtain ⟨f', q, n, sub⟩ := he'.store hi r nd'
        exact k _ H' f' (fm.sub sub) (Keep.set hκ) q n
      · cases es
theorem s_set {i : Nat} {x : Str} {ex : Expr} {m : M D} {pos' : Pos} (hκ : i ∉ κ) (he : DE X ξ W ex m) (hN : X.N.Nodup) (hi : X.N[i]? = some x := by rfl) (hx : Loc X.env.scope x := by first | exact Or.inl rfl | exact Or.inr rfl) (hs : swapsWith ex (some (.Name x pos')) pos.line X.env = pure false := by rfl) (hf : X.fn x = true ∨ X.env.scope.names.lookup x = some .local := by first | exact .inl rfl | exact .inr rfl | assumption) :
    DS X ξ W κ (.Assign [.Name x pos'] ex pos) (mSet i m) := (ps_set hN hi hx he hs hf).imp fun D' σ H h => tS_set hκ h
def mDrop (m : M D) : MS := fun env => match m env with
  | none => none
  | some (.ex x e) => some (.ex x e)
  | some (.ok _ e) => some (.nx e)
theorem s_expr {ex : Expr} {m : M D} (he : DE X ξ W ex m) (hs : swapsWith ex none pos.line X.env = pure false := by rfl) : DS X ξ W κ (.Expr ex pos) (mDrop m) := (ps_expr he hs).imp fun D' σ H ⟨env, f, he, nd, o, eo, k⟩ => by
  unfold mDrop at eo
  split at eo
  · cases eo
  · cases eo
    exact ⟨env, f, he, nd, _, by assumption, PostE.exOf k⟩
  · rename_i d e em
    cases eo
    refine ⟨env, f, he, nd, _, em, fun v H' g1 g2 fm r he' nd' => ?_⟩
    exact k σ H' g2 (fm.sub fun b hb => List.mem_append_right _ hb) Keep.refl he' (List.nodup_append.mp nd').2.1
def mRet (m : M D) : MS := fun env => match m env with
  | none => none
  | some (.ex x e) => some (.ex x e)
  | some (.ok d e) => some (.ret d e)
theorem s_ret {ex : Expr} {m : M D} (he : DE X ξ W ex m) : DS X ξ W κ (.Return (some ex) pos) (mRet m) := (ps_ret he).imp fun D' σ H ⟨env, f, he, nd, o, eo, k⟩ => by
  unfold mRet at eo
  split at eo
  · cases eo
  · cases eo
    exact ⟨env, f, he, nd, _, by assumption, PostE.exOf k⟩
  · rename_i d e em
    cases eo
    refine ⟨env, f, he, nd, _, em, fun v H' g1 g2 fm r he' nd' => ?_⟩
    exact k v σ H' g1 g2 fm Keep.refl r he' nd'
def mRetN : MS := fun env => some (.ret .non env)
theorem s_retN : DS X ξ W κ (.Return none pos) mRetN := ps_retN.imp fun D' σ H ⟨env, f, he, nd, o, eo, k⟩ => by
  cases eo
  exact k .non σ H [] f Frm.refl Keep.refl ⟨rfl, rfl⟩ he nd

/-! ### tests -/
def mTP (m : MP) : M Bool := fun env => match m env with
  | none => none
  | some d => match dTru d with
    | none => none
    | some b => some (.ok b env)
theorem t_p {fr : Bool} {ex : Expr} {m : MP} (h : DP X ξ fr ex m) (he : ∀ whole, isTrue ex X.env whole = (do let v ← whole; standAt ex.pos; holding [v] (truthy v)) := by intro _; rfl) : DT X ξ W ex (mTP m) := (pt_truth h he).imp fun σ H Q ⟨env, f, he, nd, r, er, k⟩ => by
  unfold mTP at er
  split at er
  · cases er
  · rename_i d em
    split at er
    · cases er
    · rename_i b eb
      cases er
      refine ⟨env, f, he, nd, d, em, fun v H' g s r ng fo => ⟨b, r.tru eb, ?_⟩⟩
      exact k H' f (Frm.same s) (he.same s) nd
def mTE (m : M D) : M Bool := m.bind fun d => M.ofO (dTru d)
theorem t_e {ex : Expr} {m : M D} (h : DE X ξ W ex m) (he : ∀ whole, isTrue ex X.env whole = (do let v ← whole; standAt ex.pos; holding [v] (truthy v)) := by intro _; rfl) : DT X ξ W ex (mTE m) := (pt_truth h he).imp fun σ H Q ⟨env, f, he, nd, r, er, k⟩ => by
  rcases bind_some er with ⟨x, e1, ea, rfl⟩ | ⟨d, e1, ea, er⟩
  · exact ⟨env, f, he, nd, _, ea, k⟩
  · obtain ⟨b, eb, rfl⟩ := ofO_some er
    refine ⟨env, f, he, nd, _, ea, fun v H' g1 g2 fm r he' nd' => ⟨b, r.tru eb, ?_⟩⟩
    exact k H' g2 (fm.sub fun b hb => List.mem_append_right _ hb) he' (List.nodup_append.mp nd').2.1
/-- a comparison as a test -/
def dBool : D → Option Bool
  | .bl b => some b
  | _ => none
def mTb (m : M D) : M Bool := m.bind fun d => M.ofO (dBool d)
theorem tT_b {m : M D} {σ : L2.St} {H : Hp} {Q : Bool → Hp → Prop} (h : tT c W (mTb m) σ H Q) : tTest (tE c W m) σ H Q := by
  obtain ⟨env, f, he, nd, r, er, k⟩ := h
  rcases bind_some er with ⟨x, e1, ea, rfl⟩ | ⟨d, e1, ea, er⟩
  · exact ⟨env, f, he, nd, _, ea, k⟩
  · obtain ⟨b, eb, rfl⟩ := ofO_some er
    refine ⟨env, f, he, nd, _, ea, fun v H' g1 g2 fm r he' nd' => ?_⟩
    unfold dBool at eb
    split at eb
    · cases eb
      obtain ⟨rfl, _⟩ := r
      exact ⟨_, rfl, k H' g2 (fm.sub fun b hb => List.mem_append_right _ hb) he' (List.nodup_append.mp nd').2.1⟩
    · cases eb
def mNot (m : M Bool) : M Bool := m.bind fun b => M.pure (!b)
theorem t_not {ex : Expr} {m : M Bool} (h : DT X ξ W ex m) : DT X ξ W (.UnaryOp .Not ex pos) (mNot m) := (pt_not h).imp fun σ H Q ⟨env, f, he, nd, r, er, k⟩ => by
  rcases bind_some er with ⟨x, e1, ea, rfl⟩ | ⟨b, e1, ea, er⟩
  · exact ⟨env, f, he, nd, _, ea, k⟩
  · cases er
    exact ⟨env, f, he, nd, _, ea, k⟩
def mAnd (m n : M Bool) : M Bool := m.bind fun b => if b = true then n else M.pure false
def mOr (m n : M Bool) : M Bool := m.bind fun b => if b = true then M.pure true else n
abbrev DW (X : Cx) (ξ : Xi) (W : WX) (e : Expr) (m : M Bool) : Prop := PW X e (tT (cx X ξ) W m)
theorem PW.imp {e : Expr} {t t' : TT} (h : PW X e t) (k : ∀ σ H Q, t' σ H Q → t σ H Q) : PW X e t' := ⟨fun wh pins s σ H Q I q => h.run wh pins s σ H Q I (k _ _ _ q)⟩
theorem w_and1 {a : Expr} {m : M Bool} (h : DT X ξ W a m) : DW X ξ W (.BoolOp .And [a] pos) m := pw_and1 h
theorem w_or1 {a : Expr} {m : M Bool} (h : DT X ξ W a m) : DW X ξ W (.BoolOp .Or [a] pos) m := pw_or1 h
theorem PostT.later {σ : L2.St} {H H1 : Hp} {f g : List Addr} {Q : Bool → Hp → Prop} {r : R Bool} (fm : Frm f g H H1) (h : PostT c W σ H f Q r) : PostT c W σ H1 g Q r := by
  cases r with
  | ok b e => exact fun H' g' a => h H' g' (fm.trans a)
  | ex x e => exact fun dx H' g' a => h dx H' g' (fm.trans a)
theorem PostE.later {σ : L2.St} {H H1 : Hp} {f g : List Addr} {Q : VK} {r : R D} (fm : Frm f g H H1) (h : PostE c W σ H f Q r) : PostE c W σ H1 g Q r := by
  cases r with
  | ok b e => exact fun v H' g1 g2 a => h v H' g1 g2 (fm.trans a)
  | ex x e => exact fun dx H' g' a => h dx H' g' (fm.trans a)
theorem w_and {a b : Expr} {rest : List Expr} {m n : M Bool} (h : DT X ξ W a m) (hr : DW X ξ W (.BoolOp .And (b :: rest) pos) n) : DW X ξ W (.BoolOp .And (a :: b :: rest) pos) (mAnd m n) := PW.imp (pw_and h hr) fun σ H Q ⟨env, f, he, nd, r, er, k⟩ => by
  rcases bind_some er with ⟨x, e1, ea, rfl⟩ | ⟨b, e1, ea, er⟩
  · exact ⟨env, f, he, nd, _, ea, k⟩
  · refine ⟨env, f, he, nd, _, ea, fun H' g fm he' nd' => ?_⟩
    cases b with
    | true =>
      rw [if_pos rfl] at er ⊢
      exact ⟨e1, g, he', nd', _, er, k.later fm⟩
    | false =>
      rw [if_neg Bool.false_ne_true] at er ⊢
      cases er
      exact k H' g fm he' nd'
theorem w_or {a b : Expr} {rest : List Expr} {m n : M Bool} (h : DT X ξ W a m) (hr : DW X ξ W (.BoolOp .Or (b :: rest) pos) n) : DW X ξ W (.BoolOp .Or (a :: b :: rest) pos) (mOr m n) := PW.imp (pw_or h hr) fun σ H Q ⟨env, f, he, nd, r, er, k⟩ => by
  rcases bind_some er with ⟨x, e1, ea, rfl⟩ | ⟨b, e1, ea, er⟩
  · exact ⟨env, f, he, nd, _, ea, k⟩
  · refine ⟨env, f, he, nd, _, ea, fun H' g fm he' nd' => ?_⟩
    cases b with
    | true =>
      rw [if_pos rfl] at er ⊢
      cases er
      exact k H' g fm he' nd'
    | false =>
      rw [if_neg Bool.false_ne_true] at er ⊢
      exact ⟨e1, g, he', nd', _, er, k.later fm⟩
theorem t_w {e : Expr} {m : M Bool} (h : DW X ξ W e m) : DT X ξ W e m := h.pt
/-- and, or, not as values (truths) -/
def mBl (m : M Bool) : M D := m.bind fun b => M.pure (.bl b)
def mAndV (m n : M D) : M D := m.bind fun d => match d with
  | .bl true => n
  | .bl false => M.pure (.bl false)
  | _ => fun _ => none
def mOrV (m n : M D) : M D := m.bind fun d => match d with
  | .bl true => M.pure (.bl true)
  | .bl false => n
  | _ => fun _ => none
def mNotV (m : M D) : M D := m.bind fun d => match d with
  | .bl b => M.pure (.bl (!b))
  | _ => fun _ => none
theorem e_one {op} {a : Expr} {m : M D} (h : DE X ξ W a m) : DE X ξ W (.BoolOp op [a] pos) m := pe_one h
theorem e_and {a b : Expr} {rest : List Expr} {m n : M D} (h : DE X ξ W a m) (hr : DE X ξ W (.BoolOp .And (b :: rest) pos) n) : DE X ξ W (.BoolOp .And (a :: b :: rest) pos) (mAndV m n) := (pe_and h hr).imp fun σ H Q ⟨env, f, he, nd, r, er, k⟩ => by
  rcases bind_some er with ⟨x, e1, ea, rfl⟩ | ⟨d, e1, ea, er⟩
  · exact ⟨env, f, he, nd, _, ea, k⟩
  · refine ⟨env, f, he, nd, _, ea, fun v H' g1 g2 fm r he' nd' => ?_⟩
    have fm' : Frm f g2 H H' := fm.sub fun b hb => List.mem_append_right _ hb
    have nd2 := (List.nodup_append.mp nd').2.1
    split at er
    · obtain ⟨rfl, _⟩ := r
      exact ⟨true, rfl, iteT ⟨e1, g2, he', nd2, _, er, k.later fm'⟩⟩
    · obtain ⟨rfl, _⟩ := r
      cases er
      exact ⟨false, rfl, iteF (k _ H' [] g2 fm' ⟨rfl, rfl⟩ he' nd2)⟩
    · cases er
theorem e_or {a b : Expr} {rest : List Expr} {m n : M D} (h : DE X ξ W a m) (hr : DE X ξ W (.BoolOp .Or (b :: rest) pos) n) : DE X ξ W (.BoolOp .Or (a :: b :: rest) pos) (mOrV m n) := (pe_or h hr).imp fun σ H Q ⟨env, f, he, nd, r, er, k⟩ => by
  rcases bind_some er with ⟨x, e1, ea, rfl⟩ | ⟨d, e1, ea, er⟩
  · exact ⟨env, f, he, nd, _, ea, k⟩
  · refine ⟨env, f, he, nd, _, ea, fun v H' g1 g2 fm r he' nd' => ?_⟩
    have fm' : Frm f g2 H H' := fm.sub fun b hb => List.mem_append_right _ hb
    have nd2 := (List.nodup_append.mp nd').2.1
    split at er
    · obtain ⟨rfl, _⟩ := r
      cases er
      exact ⟨true, rfl, iteT (k _ H' [] g2 fm' ⟨rfl, rfl⟩ he' nd2)⟩
    · obtain ⟨rfl, _⟩ := r
      exact ⟨false, rfl, iteF ⟨e1, g2, he', nd2, _, er, k.later fm'⟩⟩
    · cases er
theorem e_not {a : Expr} {m : M D} (h : DE X ξ W a m) : DE X ξ W (.UnaryOp .Not a pos) (mNotV m) := (pe_not h).imp fun σ H Q ⟨env, f, he, nd, r, er, k⟩ => by
  rcases bind_some er with ⟨x, e1, ea, rfl⟩ | ⟨d, e1, ea, er⟩
  · exact ⟨env, f, he, nd, _, ea, k⟩
  · refine ⟨env, f, he, nd, _, ea, fun v H' g1 g2 fm r he' nd' => ?_⟩
    have fm' : Frm f g2 H H' := fm.sub fun b hb => List.mem_append_right _ hb
    have nd2 := (List.nodup_append.mp nd').2.1
    split at er
    · obtain ⟨rfl, _⟩ := r
      cases er
      exact ⟨_, rfl, k _ H' [] g2 fm' ⟨rfl, rfl⟩ he' nd2⟩
    · cases er
/-- a if t else b -/
def mIfE (t : M Bool) (m n : M D) : M D := t.bind fun b => if b = true then m else n
theorem e_ifExp {t a b : Expr} {mt : M Bool} {m n : M D} (ht : DT X ξ W t mt) (ha : DE X ξ W a m) (hb : DE X ξ W b n) : DE X ξ W (.IfExp t a b pos) (mIfE mt m n) := (pe_ifExp ht ha hb).imp fun σ H Q ⟨env, f, he, nd, r, er, k⟩ => by
  rcases bind_some er with ⟨x, e1, ea, rfl⟩ | ⟨b, e1, ea, er⟩
  · exact ⟨env, f, he, nd, _, ea, k⟩
  · refine ⟨env, f, he, nd, _, ea, fun H' g fm he' nd' => ?_⟩
    cases b with
    | true =>
      rw [if_pos rfl] at er ⊢
      exact ⟨e1, g, he', nd', _, er, k.later fm⟩
    | false =>
      rw [if_neg Bool.false_ne_true] at er ⊢
      exact ⟨e1, g, he', nd', _, er, k.later fm⟩

/-! ### if, while -/
def mIf (t : M Bool) (m n : MS) : MS := fun env => match t env with
  | none => none
  | some (.ex x e) => some (.ex x e)
  | some (.ok b e) => if b = true then m e else n e
theorem s_if {t : Expr} {sa sb : List Stmt} {mt : M Bool} {m n : MS} (ht : DT X ξ W t mt) (ha : DSs X ξ W κ sa m) (hb : DSs X ξ W κ sb n) : DS X ξ W κ (.If t sa sb pos) (mIf mt m n) := (ps_if ht ha hb).imp fun D' σ H ⟨env, f, he, nd, o, eo, k⟩ => by
  unfold mIf at eo
  split at eo
  · cases eo
  · cases eo
    exact ⟨env, f, he, nd, _, by assumption, PostT.exOf k⟩
  · rename_i b e et
    refine ⟨env, f, he, nd, _, et, fun H' g fm he' nd' => ?_⟩
    cases b with
    | true =>
      rw [if_pos rfl] at eo ⊢
      exact ⟨e, g, he', nd', o, eo, k.later fm Keep.refl⟩
    | false =>
      rw [if_neg Bool.false_ne_true] at eo ⊢
      exact ⟨e, g, he', nd', o, eo, k.later fm Keep.refl⟩
/-- so many turns -/
def whileN (t : M Bool) (b : MS) : Nat → MS
  | 0, _ => none
  | n + 1, env => match t env with
    | none => none
    | some (.ex x e) => some (.ex x e)
    | some (.ok false e) => some (.nx e)
    | some (.ok true e) => match b e with
      | none => none
      | some (.nx e') => whileN t b n e'
      | some (.ct e') => whileN t b n e'
      | some (.bk e') => some (.nx e')
      | some (.ret d e') => some (.ret d e')
      | some (.ex x e') => some (.ex x e')
theorem whileN_mono {t : M Bool} {b : MS} : ∀ {n : Nat} {env : Env} {o : O}, whileN t b n env = some o → whileN t b (n + 1) env = some o
  | 0, env, o, h => by cases h
  | n + 1, env, o, h => by
    unfold whileN at h ⊢
    cases ht : t env with
    | none => rw [ht] at h; cases h
    | some r =>
      rw [ht] at h
      cases r with
      | ex x e => exact h
      | ok v e =>
        cases v with
        | false => exact h
        | true =>
          dsimp only at h ⊢
          cases hb : b e with
          | none => rw [hb] at h; cases h
          | some r =>
            rw [hb] at h
            cases r with
            | nx e' => exact whileN_mono h
            | ct e' => exact whileN_mono h
            | bk e' => exact h
            | ret d e' => exact h
            | ex x e' => exact h
theorem whileN_le {t : M Bool} {b : MS} {n m : Nat} {env : Env} {o : O} (h : whileN t b n env = some o) (hm : n ≤ m) : whileN t b m env = some o := by
  induction hm with
  | refl => exact h
  | step _ ih => exact whileN_mono ih
theorem whileN_det {t : M Bool} {b : MS} {n m : Nat} {env : Env} {o o' : O} (h : whileN t b n env = some o) (h' : whileN t b m env = some o') : o = o' := by
  have a := whileN_le h (Nat.le_max_left n m)
  have b := whileN_le h' (Nat.le_max_right n m)
  rw [a] at b
  exact Option.some.inj b
open Classical in
noncomputable def mWhile (t : M Bool) (b : MS) : MS := fun env => if h : ∃ o, ∃ n, whileN t b n env = some o then some h.choose else none
theorem mWhile_of {t : M Bool} {b : MS} {n : Nat} {env : Env} {o : O} (h : whileN t b n env = some o) : mWhile t b env = some o := by
  have z : ∃ o, ∃ n, whileN t b n env = some o := ⟨o, n, h⟩
  unfold mWhile
  rw [dif_pos z]
  obtain ⟨m, hm⟩ := z.choose_spec
  rw [whileN_det hm h]
theorem mWhile_some {t : M Bool} {b : MS} {env : Env} {o : O} (h : mWhile t b env = some o) : ∃ n, whileN t b n env = some o := by
  unfold mWhile at h
  split at h
  · rename_i z
    cases h
    exact z.choose_spec
  · cases h
/-- one turn -/
theorem mWhile_stop {t : M Bool} {b : MS} {env e : Env} (h : t env = some (.ok false e)) : mWhile t b env = some (.nx e) := mWhile_of (n := 1) (by unfold whileN; rw [h])
theorem mWhile_turn {t : M Bool} {b : MS} {env e e' : Env} (h : t env = some (.ok true e)) (hb : b e = some (.nx e')) : mWhile t b env = mWhile t b e' := by
  cases q : mWhile t b e' with
  | some o =>
    obtain ⟨n, hn⟩ := mWhile_some q
    exact mWhile_of (n := n + 1) (by unfold whileN; rw [h]; dsimp only; rw [hb]; exact hn)
  | none =>
    cases q2 : mWhile t b env with
    | none => rfl
    | some o =>
      obtain ⟨n, hn⟩ := mWhile_some q2
      cases n with
      | zero => cases hn
      | succ n =>
        unfold whileN at hn
        rw [h] at hn
        dsimp only at hn
        rw [hb] at hn
        rw [mWhile_of (n := n) hn] at q
        cases q
theorem mWhile_ret {t : M Bool} {b : MS} {env e e' : Env} {d : D} (h : t env = some (.ok true e)) (hb : b e = some (.ret d e')) : mWhile t b env = some (.ret d e') := mWhile_of (n := 1) (by unfold whileN; rw [h]; dsimp only; rw [hb])
theorem mWhile_brk {t : M Bool} {b : MS} {env e e' : Env} (h : t env = some (.ok true e)) (hb : b e = some (.bk e')) : mWhile t b env = some (.nx e') := mWhile_of (n := 1) (by unfold whileN; rw [h]; dsimp only; rw [hb])
theorem mWhile_ex {t : M Bool} {b : MS} {env e e' : Env} {x : Ex} (h : t env = some (.ok true e)) (hb : b e = some (.ex x e')) : mWhile t b env = some (.ex x e') := mWhile_of (n := 1) (by unfold whileN; rw [h]; dsimp only; rw [hb])
/-- how the ends within a loop's turn become those of the loop -/
theorem PostS.loop {σ : L2.St} {H : Hp} {f : List Addr} {d : D} {e : Env} {N : L2.St → Hp → Prop} (h : PostS c W κ D' σ H f (.ret d e)) : PostS c W κ { D' with nx := N, ct := N, bk := D'.nx } σ H f (.ret d e) := h
theorem s_while {t : Expr} {body : List Stmt} {mt : M Bool} {m : MS} (hp : PassesOwn (model X.prog X.w) X.A X.env X.xe) (ht : DT X ξ W t mt) (hb : DSs X ξ W κ body m) : DS X ξ W κ (.While t body [] pos) (mWhile mt m) := (ps_while hp ht hb).imp fun D' σ H ⟨env, f, he, nd, o, eo, k⟩ => by
  obtain ⟨n, hn⟩ := mWhile_some eo
  refine ⟨fun m' σ1 H1 => ∃ env1 f1, EnvR (cx X ξ) H1 env1 σ1 f1 ∧ f1.Nodup ∧ Frm f f1 H H1 ∧ Keep κ σ σ1 ∧ whileN mt m m' env1 = some o, ⟨n, env, f, he, nd, Frm.refl, Keep.refl, hn⟩, ?_⟩
  rintro m' σ1 H1 ⟨env1, f1, he1, nd1, fm1, kp1, hw⟩
  have k1 := k.later fm1 kp1
  cases m' with
  | zero => cases hw
  | succ m' =>
    unfold whileN at hw
    split at hw
    · cases hw
    · cases hw
      exact ⟨env1, f1, he1, nd1, _, by assumption, PostT.exOf k1⟩
    · rename_i e et
      cases hw
      exact ⟨env1, f1, he1, nd1, _, et, fun H' g fm he' nd' => iteF (k1 σ1 H' g fm Keep.refl he' nd')⟩
    · rename_i e et
      refine ⟨env1, f1, he1, nd1, _, et, fun H' g fm he' nd' => ?_⟩
      refine iteT ?_
      refine ⟨fun σ2 H2 => ∃ env2 f2, EnvR (cx X ξ) H2 env2 σ2 f2 ∧ f2.Nodup ∧ Frm f f2 H H2 ∧ Keep κ σ σ2 ∧ whileN mt m m' env2 = some o, fun σ' H' h => ⟨m', Nat.lt_succ_self _, h⟩, ?_⟩
      have k2 := k1.later fm Keep.refl
      split at hw
      · cases hw
      · rename_i e' eb
        exact ⟨e, g, he', nd', _, eb, fun σ2 H2 g2 fm2 kp2 he2 nd2 => ⟨e', g2, he2, nd2, (fm1.trans fm).trans fm2, kp1.trans kp2, hw⟩⟩
      · rename_i e' eb
        exact ⟨e, g, he', nd', _, eb, fun σ2 H2 g2 fm2 kp2 he2 nd2 => ⟨e', g2, he2, nd2, (fm1.trans fm).trans fm2, kp1.trans kp2, hw⟩⟩
      · rename_i e' eb
        cases hw
        exact ⟨e, g, he', nd', _, eb, k2⟩
      · rename_i d e' eb
        cases hw
        exact ⟨e, g, he', nd', _, eb, k2⟩
      · rename_i x e' eb
        cases hw
        exact ⟨e, g, he', nd', _, eb, k2⟩
end
end DL
set_option maxHeartbeats 2000000
/-! DL5: defs over data: their promise, their proof, their call. -/
namespace DL
open PySem PySem.Spec PyProof.Rows L2
open LamX (Tabs TabS CodeO)

/-- a def's end: what it gives, what its arguments are behind it -/
inductive RF where
  | ok (d : D) (ds : List D)
  | ex (x : Ex) (ds : List D)
abbrev MF := List D → Option RF
abbrev cf0 (K : PySem.W.Frag) (w : World) (T : List (Addr × Str)) : Cf := ⟨K, w, ⟨none, T⟩⟩
def PostF (c : Cf) (vs : List V) (H : Hp) (f : List Addr) (Q : VK) (E : XK) : RF → Prop
  | .ok d ds => ∀ v H' g1 g2, Frm f (g1 ++ g2) H H' → Rep c H' d v g1 → Reps c H' ds vs g2 → (g1 ++ g2).Nodup → Q v H'
  | .ex x ds => ∀ dx H' g, Frm f g H H' → ExR c H' x dx → Reps c H' ds vs g → g.Nodup → E (.ref (He.ga c.K x.cls)) (some dx) H'
/-- THE PROMISE: a def with n parameters does what m does -/
def spM (c : Cf) (n : Nat) (m : MF) : Sp := fun vs H Q E => vs.length = n ∧ Tb c.xi.T H ∧ ∃ ds f, Reps c H ds vs f ∧ f.Nodup ∧ ∃ r, m ds = some r ∧ PostF c vs H f Q E r

/-- the parameters that are still what they were -/
def give (κ : List Nat) : Nat → Nat → Env → List D
  | _, 0, _ => []
  | i, n + 1, [] => .gone :: give κ (i + 1) n []
  | i, n + 1, d :: e => (if κ.contains i = true then d else .gone) :: give κ (i + 1) n e
/-- a def's body as a function: N slots, n parameters, κ those that are never stored to -/
def mFn (N n : Nat) (κ : List Nat) (body : MS) : MF := fun ds => match body (ds ++ List.replicate (N - n) .gone) with
  | some (.nx e) => some (.ok .non (give κ 0 n e))
  | some (.ret d e) => some (.ok d (give κ 0 n e))
  | some (.ex x e) => some (.ex x (give κ 0 n e))
  | _ => none

section
variable {c : Cf} {W : WX} {κ : List Nat} {X : Cx} {ξ : Xi} {pos : Pos} {H : Hp}
theorem Reps.gone : ∀ (vs : List V), Reps c H (List.replicate vs.length .gone) vs []
  | [] => ⟨rfl, rfl⟩
  | v :: vs => ⟨v, vs, [], [], rfl, rfl, Reps.gone vs, rfl⟩
theorem give_nil : ∀ (n i : Nat), give κ i n [] = List.replicate n .gone
  | 0, i => rfl
  | n + 1, i => by
    rw [give, give_nil n (i + 1)]
    rfl
theorem give_ok : ∀ {vs : List V} {e : Env} {σ : L2.St} {g : List Addr} {i : Nat}, EnvR c H e σ g → (∀ j, j < vs.length → κ.contains (i + j) = true → σ[j]? = some vs[j]?) → ∃ g', Reps c H (give κ i vs.length e) vs g' ∧ g'.Sublist g
  | [], e, σ, g, i, _, _ => ⟨[], ⟨rfl, rfl⟩, List.nil_sublist _⟩
  | v :: vs, [], σ, g, i, h, k => by
    refine ⟨[], ?_, List.nil_sublist _⟩
    have z := Reps.gone (c := c) (H := H) (v :: vs)
    rw [show give κ i (v :: vs).length [] = List.replicate (v :: vs).length .gone from give_nil _ _]
    exact z
  | v :: vs, d :: e, σ, g, i, h, k => by
    obtain ⟨o, σ', f1, f2, rfl, s, t, rfl⟩ := h
    obtain ⟨g', q, sub⟩ := give_ok (vs := vs) (i := i + 1) t fun j hj hc => by
      have z := k (j + 1) (Nat.succ_lt_succ hj) (by rw [← hc]; congr 1; omega)
      simpa using z
    by_cases hc : κ.contains i = true
    · have z := k 0 (Nat.succ_pos _) (by simpa using hc)
      have eo : o = some v := by simpa using z
      subst eo
      rcases s with ⟨rfl, rfl⟩ | ⟨v', e', r⟩
      · refine ⟨g', ⟨v, vs, [], g', rfl, ?_, q, rfl⟩, sub⟩
        rw [if_pos hc]
        rfl
      · cases e'
        refine ⟨f1 ++ g', ⟨v, vs, f1, g', rfl, ?_, q, rfl⟩, List.Sublist.append (List.Sublist.refl _) sub⟩
        rw [if_pos hc]
        exact r
    · refine ⟨g', ⟨v, vs, [], g', rfl, ?_, q, rfl⟩, sub.trans (List.sublist_append_right _ _)⟩
      rw [if_neg hc]
      rfl
theorem EnvR.of_reps (tb : Tb c.xi.T H) : ∀ {ds : List D} {vs : List V} {f : List Addr}, Reps c H ds vs f → EnvR c H ds (vs.map some) f
  | [], vs, f, h => by obtain ⟨rfl, rfl⟩ := h; exact ⟨rfl, rfl, tb⟩
  | d :: ds, vs, f, h => by
    obtain ⟨v, vs', f1, f2, rfl, r, rs, rfl⟩ := h
    exact ⟨some v, vs'.map some, f1, f2, rfl, .inr ⟨v, rfl, r⟩, EnvR.of_reps tb rs, rfl⟩
theorem EnvR.gones (tb : Tb c.xi.T H) : ∀ n : Nat, EnvR c H (List.replicate n .gone) (List.replicate n none) []
  | 0 => ⟨rfl, rfl, tb⟩
  | n + 1 => ⟨none, List.replicate n none, [], [], rfl, .inl ⟨rfl, rfl⟩, EnvR.gones tb n, rfl⟩
theorem EnvR.append : ∀ {ds es : Env} {σ τ : L2.St} {f g : List Addr}, EnvR c H ds σ f → EnvR c H es τ g → EnvR c H (ds ++ es) (σ ++ τ) (f ++ g)
  | [], es, σ, τ, f, g, h, k => by obtain ⟨rfl, rfl, _⟩ := h; exact k
  | d :: ds, es, σ, τ, f, g, h, k => by
    obtain ⟨o, σ', f1, f2, rfl, r, rs, rfl⟩ := h
    exact ⟨o, σ' ++ τ, f1, f2 ++ g, rfl, r, EnvR.append rs k, by simp⟩
/-- a body's derivation gives the body's reading at the def's entry -/
theorem fn_start {N : List Str} {n : Nat} {m : MS} {vs : List V} {Q : VK} {E : XK} {K : PySem.W.Frag} {w : World} (hn : n ≤ N.length) (h : spM (cf0 K w T) n (mFn N.length n κ m) vs H Q E) :
    tS (cf0 K w T) (fun cls d _ H => E cls d H) κ m { nx := fun _ H' => Q .non H', rt := Q } (L2.start N vs) H := by
  obtain ⟨hl, tb, ds, f, rs, nd, r, er, k⟩ := h
  have he : EnvR (cf0 K w T) H (ds ++ List.replicate (N.length - n) .gone) (L2.start N vs) f := by
    have z := (EnvR.of_reps tb rs).append (EnvR.gones (c := cf0 K w T) (H := H) tb (N.length - n))
    rw [List.append_nil] at z
    unfold L2.start
    rw [hl]
    exact z
  have at_ : ∀ {σ' : L2.St}, Keep κ (L2.start N vs) σ' → ∀ j, j < vs.length → κ.contains (0 + j) = true → σ'[j]? = some vs[j]? := fun {σ'} kp j hj hc => by
    rw [kp j (by simpa using hc)]
    unfold L2.start
    rw [List.getElem?_append_left (by simpa using hj), List.getElem?_map]
    rw [List.getElem?_eq_getElem hj]
    rfl
  unfold mFn at er
  split at er
  · rename_i e eb
    cases er
    refine ⟨_, f, he, nd, _, eb, fun σ' H' g fm kp he' nd' => ?_⟩
    obtain ⟨g', q, sub⟩ := give_ok (κ := κ) (i := 0) he' (at_ kp)
    rw [hl] at q
    exact k .non H' [] g' (fm.sub fun b hb => sub.subset (by simpa using hb)) ⟨rfl, rfl⟩ q (by simpa using sub.nodup nd')
  · rename_i d e eb
    cases er
    refine ⟨_, f, he, nd, _, eb, fun v σ' H' g1 g2 fm kp r he' nd' => ?_⟩
    obtain ⟨g', q, sub⟩ := give_ok (κ := κ) (i := 0) he' (at_ kp)
    rw [hl] at q
    refine k v H' g1 g' (fm.sub fun b hb => ?_) r q ?_
    · rcases List.mem_append.mp hb with hb | hb
      · exact List.mem_append_left _ hb
      · exact List.mem_append_right _ (sub.subset hb)
    · exact List.Nodup.sublist (List.Sublist.append (List.Sublist.refl _) sub) nd'
  · rename_i x e eb
    cases er
    refine ⟨_, f, he, nd, _, eb, fun dx σ' H' g fm kp xr he' nd' => ?_⟩
    obtain ⟨g', q, sub⟩ := give_ok (κ := κ) (i := 0) he' (at_ kp)
    rw [hl] at q
    exact k dx H' g' (fm.sub fun b hb => sub.subset hb) xr q (sub.nodup nd')
  · cases er
/-- what a body may use: how an exception leaves -/
structure Bx (X : Cx) (W : WX) : Prop where
  tk : Takes X W
  po : PassesOwn (model X.prog X.w) X.A X.env X.xe
abbrev WF (E : XK) : WX := fun cls d _ H => E cls d H
/-- THE RULE for a def -/
theorem def_ok {P : Program} {w : World} {K : PySem.W.Frag} {mg : Str → Option Value} {base : Heap} {x qual : Str} {st : Stmt} {f : Addr} {fd : FuncData} {N ps : List Str} {k : Nat} {m : MS} {dvs : List V} {kws : List (Str × V)}
    (F : FunD K x qual (defArgs st) (defBody st) (defScope st) dvs kws f fd) (S : FnScope N ps (defScope st)) (hn : ps.length ≤ N.length)
    (hbody : ∀ (cdv : Value) (A : Around) (outer : List PySem.Env) (s : Shared) (H : Hp) (E : XK), Room k (A.deeper (envOfC qual (defScope st) s.heap.objs.size f cdv)) → ∀ W, Bx (cxOf (L2.CX P w) P w K mg base N qual (defScope st) f cdv A outer s H E) W →
      DSs (cxOf (L2.CX P w) P w K mg base N qual (defScope st) f cdv A outer s H E) ⟨none, T⟩ W κ (defBody st) m) :
    FnOk P w K mg base (L2.CX P w) (k + 1) f fd ps (spM (cf0 K w T) ps.length (mFn N.length ps.length κ m)) := by
  obtain ⟨oc, od, dV, kV, doc, pm, an, cdv, ct, osl, rfl, lk, hcd, _, _⟩ := F.ex
  refine fn_of lk hcd S (fun vs H Q E h => h.1) fun A outer s H vs Q E hr hsp => ?_
  refine ⟨_, hbody cdv A outer s H E hr (WF E) ⟨takes_of rfl rfl rfl rfl, passes_of rfl⟩, ?_⟩
  exact fn_start (K := K) (w := w) (κ := κ) hn hsp

/-! ### arguments that may be names -/
inductive AV where
  | var (i : Nat)
  | val (d : D)
inductive Ag where
  | var (i : Nat)
  | e (m : M D)
def mArgs : List Ag → M (List AV)
  | [] => M.pure []
  | .var i :: as => fun env => match mV i env with
    | none => none
    | some _ => (mArgs as).bind (fun r => M.pure (.var i :: r)) env
  | .e m :: as => m.bind fun d => (mArgs as).bind fun r => M.pure (.val d :: r)
/-- what stands for the arguments -/
def ArgR (c : Cf) (H : Hp) (σ : L2.St) : List AV → List V → List Addr → Prop
  | [], vs, f => vs = [] ∧ f = []
  | .var i :: as, vs, f => ∃ v vs', vs = v :: vs' ∧ σ[i]? = some (some v) ∧ ArgR c H σ as vs' f
  | .val d :: as, vs, f => ∃ v vs' f1 f2, vs = v :: vs' ∧ Rep c H d v f1 ∧ ArgR c H σ as vs' f2 ∧ f = f1 ++ f2
def PostAV (c : Cf) (W : WX) (σ : L2.St) (H : Hp) (f : List Addr) (Q : List V → Hp → Prop) : R (List AV) → Prop
  | .ok as e => ∀ vs H' g1 g2, Frm f (g1 ++ g2) H H' → ArgR c H' σ as vs g1 → EnvR c H' e σ g2 → (g1 ++ g2).Nodup → Q vs H'
  | .ex x e => ∀ dx H' g, Frm f g H H' → ExR c H' x dx → EnvR c H' e σ g → g.Nodup → W (.ref (He.ga c.K x.cls)) (some dx) σ H'
def tAV (c : Cf) (W : WX) (m : M (List AV)) : TA := fun σ H Q => ∃ env f, EnvR c H env σ f ∧ f.Nodup ∧ ∃ r, m env = some r ∧ PostAV c W σ H f Q r
abbrev DV (X : Cx) (ξ : Xi) (W : WX) (es : List Expr) (as : List Ag) : Prop := PA X es (tAV (cx X ξ) W (mArgs as))
theorem ArgR.own : ∀ {as : List AV} {σ : L2.St} {vs : List V} {f : List Addr}, ArgR c H σ as vs f → ∀ b ∈ f, Own1 H b
  | [], σ, vs, f, h, b, hb => by obtain ⟨_, rfl⟩ := h; cases hb
  | .var i :: as, σ, vs, f, h, b, hb => by
    obtain ⟨v, vs', _, _, r⟩ := h
    exact ArgR.own r b hb
  | .val d :: as, σ, vs, f, h, b, hb => by
    obtain ⟨v, vs', f1, f2, _, r, rs, rfl⟩ := h
    rcases List.mem_append.mp hb with hb | hb
    · exact r.own b hb
    · exact ArgR.own rs b hb
theorem av_nil : DV X ξ W [] [] := pa_nil.imp fun σ H Q ⟨env, f, he, nd, r, e, k⟩ => by
  cases e
  exact k [] H [] f Frm.refl ⟨rfl, rfl⟩ he nd
theorem av_var {e : Expr} {es : List Expr} {i : Nat} {as : List Ag} (h : PE X e (tVar i)) (hs : DV X ξ W es as) (hq : starEach (e :: es) X.env = (false, eval e X.env) :: starEach es X.env := by rfl) : DV X ξ W (e :: es) (.var i :: as) :=
  (pa_cons h hs hq).imp fun σ H Q ⟨env, f, he, nd, r, er, k⟩ => by
    unfold mArgs at er
    split at er
    · cases er
    rename_i d0 ed
    obtain ⟨v, g, ev, _, _⟩ := mV_slot he ed
    refine ⟨v, ev, ?_⟩
    rcases bind_some er with ⟨x, e1, ea, rfl⟩ | ⟨avs, e1, ea, er⟩
    · exact ⟨env, f, he, nd, _, ea, k⟩
    · cases er
      exact ⟨env, f, he, nd, _, ea, fun vs H' g1 g2 fm ar he' nd' => k (v :: vs) H' g1 g2 fm ⟨v, vs, rfl, ev, ar⟩ he' nd'⟩
theorem av_e {e : Expr} {es : List Expr} {m : M D} {as : List Ag} (h : DE X ξ W e m) (hs : DV X ξ W es as) (hq : starEach (e :: es) X.env = (false, eval e X.env) :: starEach es X.env := by rfl) : DV X ξ W (e :: es) (.e m :: as) :=
  (pa_cons h hs hq).imp fun σ H Q ⟨env, f, he, nd, r, er, k⟩ => by
    unfold mArgs at er
    rcases bind_some er with ⟨x, e1, ea, rfl⟩ | ⟨d, e1, ea, er⟩
    · exact ⟨env, f, he, nd, _, ea, k⟩
    · refine ⟨env, f, he, nd, _, ea, fun v H1 g1 fe1 fm1 rv he1 nd1 => ?_⟩
      have ne1 := (List.nodup_append.mp nd1).2.1
      rcases bind_some er with ⟨xx, e2, eb, rfl⟩ | ⟨avs, e2, eb, er⟩
      · exact ⟨e1, fe1, he1, ne1, _, eb, fun dx' H2 g fm2 xr he2 ng => k dx' H2 g (fm1.trans ((fm2.wide fun b hb => List.mem_append_right _ hb))) xr he2 ng⟩
      · cases er
        refine ⟨e1, fe1, he1, ne1, _, eb, fun vs H2 g2 fe2 fm2 rs he2 nd2 => ?_⟩
        obtain ⟨fr1, _, _, nd3⟩ := frame (c := cx X ξ) (P := True) nd1 rv.own he1.own fm2 nd2
        refine k (v :: vs) H2 (g1 ++ g2) fe2 ?_ ⟨v, vs, g1, g2, rfl, fr1 rv, rs, rfl⟩ he2 ?_
        · exact (fm1.trans (fm2.left g1)).perm (.refl _) (perm3 _ _ _).symm
        · rw [List.append_assoc]
          exact nd3
/-- the arguments are handed over -/
def takeA : List AV → Env → Option (List D × Env)
  | [], env => some ([], env)
  | .val d :: as, env => match takeA as env with
    | none => none
    | some (ds, e) => some (d :: ds, e)
  | .var i :: as, env => match mV i env with
    | none => none
    | some d => match takeA as (if d.pers = true then env else env.set i .gone) with
      | none => none
      | some (ds, e) => some (d :: ds, e)
/-- .. and taken back -/
def giveA : List AV → List D → Env → Env
  | .val _ :: as, _ :: ds, env => giveA as ds env
  | .var i :: as, d :: ds, env => giveA as ds (match env[i]? with
    | some .gone => env.set i d
    | _ => env)
  | _, _, env => env
theorem takeA_ok : ∀ {as : List AV} {env env' : Env} {ds : List D} {σ : L2.St} {vs : List V} {g1 g2 : List Addr}, ArgR c H σ as vs g1 → EnvR c H env σ g2 → takeA as env = some (ds, env') → ∃ h1 h2, Reps c H ds vs h1 ∧ EnvR c H env' σ h2 ∧ (h1 ++ h2).Perm (g1 ++ g2)
  | [], env, env', ds, σ, vs, g1, g2, ha, he, e => by
    obtain ⟨rfl, rfl⟩ := ha
    cases e
    exact ⟨[], g2, ⟨rfl, rfl⟩, he, .refl _⟩
  | .val d :: as, env, env', ds, σ, vs, g1, g2, ha, he, e => by
    obtain ⟨v, vs', f1, f2, rfl, r, rs, rfl⟩ := ha
    unfold takeA at e
    split at e
    · cases e
    · rename_i ds' e' et
      cases e
      obtain ⟨h1, h2, q1, q2, p⟩ := takeA_ok rs he et
      refine ⟨f1 ++ h1, h2, ⟨v, vs', f1, h1, rfl, r, q1, rfl⟩, q2, ?_⟩
      rw [List.append_assoc, List.append_assoc]
      exact List.Perm.append_left _ p
  | .var i :: as, env, env', ds, σ, vs, g1, g2, ha, he, e => by
    obtain ⟨v, vs', rfl, ev, rs⟩ := ha
    unfold takeA at e
    split at e
    · cases e
    · rename_i d ed
      split at e
      · cases e
      · rename_i ds' e' et
        cases e
        obtain ⟨e1, e2⟩ := mV_some ed
        by_cases hp : d.pers = true
        · rw [if_pos hp] at et
          obtain ⟨x, g, ex, rx, _⟩ := mV_slot he ed
          rw [ev] at ex
          cases ex
          have z := rx.pers hp
          subst z
          obtain ⟨h1, h2, q1, q2, p⟩ := takeA_ok rs he et
          exact ⟨h1, h2, ⟨v, vs', [], h1, rfl, rx, q1, rfl⟩, q2, p⟩
        · rw [if_neg hp] at et
          obtain ⟨o, f1, f2, eo, s, t, p0⟩ := he.take e1
          obtain ⟨x, rfl, rx⟩ := s.val e2
          rw [ev] at eo
          cases eo
          obtain ⟨h1, h2, q1, q2, p⟩ := takeA_ok rs t et
          refine ⟨f1 ++ h1, h2, ⟨v, vs', f1, h1, rfl, rx, q1, rfl⟩, q2, ?_⟩
          rw [List.append_assoc]
          refine (List.Perm.append_left f1 p).trans ?_
          have a1 : (f1 ++ (g1 ++ f2)).Perm (g1 ++ (f1 ++ f2)) := by
            rw [← List.append_assoc, ← List.append_assoc]
            exact List.Perm.append_right _ List.perm_append_comm
          exact a1.trans (List.Perm.append_left _ p0)
/-- the variables' values -/
theorem giveA_ok : ∀ {as : List AV} {env : Env} {ds : List D} {σ : L2.St} {vs : List V} {k1 h2 g0 : List Addr} {H0 : Hp}, ArgR c H0 σ as vs g0 → Reps c H ds vs k1 → EnvR c H env σ h2 → (k1 ++ h2).Nodup → ∃ f', EnvR c H (giveA as ds env) σ f' ∧ f'.Nodup ∧ ∀ b ∈ f', b ∈ k1 ++ h2
  | [], env, ds, σ, vs, k1, h2, g0, H0, ha, hr, he, nd => by
    have e : giveA [] ds env = env := by cases ds <;> rfl
    rw [e]
    exact ⟨h2, he, (List.nodup_append.mp nd).2.1, fun b hb => List.mem_append_right _ hb⟩
  | .val d :: as, env, [], σ, vs, k1, h2, g0, H0, ha, hr, he, nd => ⟨h2, he, (List.nodup_append.mp nd).2.1, fun b hb => List.mem_append_right _ hb⟩
  | .var d :: as, env, [], σ, vs, k1, h2, g0, H0, ha, hr, he, nd => ⟨h2, he, (List.nodup_append.mp nd).2.1, fun b hb => List.mem_append_right _ hb⟩
  | .val d :: as, env, d' :: ds, σ, vs, k1, h2, g0, H0, ha, hr, he, nd => by
    obtain ⟨v, vs', f1, f2, rfl, r, rs, rfl⟩ := ha
    obtain ⟨v2, vs2, f3, f4, e2, r2, rs2, rfl⟩ := hr
    cases e2
    rw [List.append_assoc] at nd
    obtain ⟨f', q, n, sub⟩ := giveA_ok (as := as) rs rs2 he (List.nodup_append.mp nd).2.1
    exact ⟨f', q, n, fun b hb => by rw [List.append_assoc]; exact List.mem_append_right _ (sub b hb)⟩
  | .var i :: as, env, d' :: ds, σ, vs, k1, h2, g0, H0, ha, hr, he, nd => by
    obtain ⟨v, vs', rfl, ev, rs⟩ := ha
    obtain ⟨v2, vs2, f3, f4, e2, r2, rs2, rfl⟩ := hr
    cases e2
    have nd' := nd
    rw [List.append_assoc] at nd'
    show ∃ f', EnvR c H (giveA as ds (match env[i]? with | some .gone => env.set i d' | _ => env)) σ f' ∧ _
    split
    · rename_i eg
      obtain ⟨f5, q5, p5⟩ := he.back eg ev (.inr ⟨v, rfl, r2⟩)
      have n5 : (f4 ++ f5).Nodup := by
        have a1 : (f4 ++ f5).Perm (f3 ++ (f4 ++ h2)) := by
          refine (List.Perm.append_left f4 p5).trans ?_
          rw [← List.append_assoc, ← List.append_assoc]
          exact List.Perm.append_right _ List.perm_append_comm
        exact a1.nodup_iff.mpr nd'
      obtain ⟨f', q, n, sub⟩ := giveA_ok (as := as) rs rs2 q5 n5
      refine ⟨f', q, n, fun b hb => ?_⟩
      rcases List.mem_append.mp (sub b hb) with hb | hb
      · exact List.mem_append_left _ (List.mem_append_right _ hb)
      · rcases List.mem_append.mp (p5.mem_iff.mp hb) with hb | hb
        · exact List.mem_append_left _ (List.mem_append_left _ hb)
        · exact List.mem_append_right _ hb
    · obtain ⟨f', q, n, sub⟩ := giveA_ok (as := as) rs rs2 he (List.nodup_append.mp nd').2.1
      exact ⟨f', q, n, fun b hb => by rw [List.append_assoc]; exact List.mem_append_right _ (sub b hb)⟩
/-- f(..) -/
def mCall (f : MF) (as : List Ag) : M D := (mArgs as).bind fun avs env => match takeA avs env with
  | none => none
  | some (ds, e1) => match f ds with
    | none => none
    | some (.ok d ds') => some (.ok d (giveA avs ds' e1))
    | some (.ex x ds') => some (.ex x (giveA avs ds' e1))
theorem ArgR.vars : ∀ {as : List AV} {σ : L2.St} {vs : List V} {f : List Addr} {H' : Hp}, ArgR c H σ as vs f → ∃ H0 g0, ArgR c H0 σ as vs g0 := fun h => ⟨_, _, h⟩
theorem tE_call {n : Nat} {m : MF} {as : List Ag} {σ : L2.St} {Q : VK} {K : PySem.W.Frag} {w : World} (hlen : as.length = n) (h : tE (cf0 K w T) W (mCall m as) σ H Q) : tCallS (spM (cf0 K w T) n m) (WE W) (tAV (cf0 K w T) W (mArgs as)) σ H Q := by
  obtain ⟨env, f, he, nd, r, er, k⟩ := h
  rcases bind_some er with ⟨x, e1, ea, rfl⟩ | ⟨avs, e1, ea, er⟩
  · exact ⟨env, f, he, nd, _, ea, k⟩
  · refine ⟨env, f, he, nd, _, ea, fun vs H1 g1 g2 fm ar he1 nd1 => ?_⟩
    split at er
    · cases er
    rename_i ds e2 et
    obtain ⟨h1, h2, rs, he2, p⟩ := takeA_ok ar he1 et
    have nd2 : (h1 ++ h2).Nodup := p.nodup_iff.mpr nd1
    have lenA : ∀ {as : List AV} {vs : List V} {f : List Addr}, ArgR (cf0 K w T) H1 σ as vs f → vs.length = as.length := by
      intro as
      induction as with
      | nil => intro vs f h; obtain ⟨rfl, _⟩ := h; rfl
      | cons a as ih =>
        intro vs f h
        cases a with
        | var i => obtain ⟨v, vs', rfl, _, q⟩ := h; simp [ih q]
        | val d => obtain ⟨v, vs', f1, f2, rfl, _, q, _⟩ := h; simp [ih q]
    have lenB : ∀ {as : List Ag} {env : Env} {avs : List AV} {e' : Env}, mArgs as env = some (.ok avs e') → avs.length = as.length := by
      intro as
      induction as with
      | nil => intro env avs e' h; cases h; rfl
      | cons a as ih =>
        intro env avs e' h
        cases a with
        | var i =>
          unfold mArgs at h
          split at h
          · cases h
          rcases bind_some h with ⟨x, e1, ea, h'⟩ | ⟨avs', e1, ea, h'⟩
          · cases h'
          · cases h'
            simp [ih ea]
        | e m0 =>
          unfold mArgs at h
          rcases bind_some h with ⟨x, e1, ea, h'⟩ | ⟨d, e1, ea, h'⟩
          · cases h'
          · rcases bind_some h' with ⟨x, e1, ea, h2⟩ | ⟨avs', e1, ea, h2⟩
            · cases h2
            · cases h2
              simp [ih ea]
    refine ⟨by rw [lenA ar, lenB ea, hlen], he1.tabs, ds, h1, rs, (List.nodup_append.mp nd2).1, ?_⟩
    have dis := (List.nodup_append.mp nd2).2.2
    have fmT : Frm f (h2 ++ h1) H H1 := fm.perm (.refl _) (p.symm.trans List.perm_append_comm)
    have nd2' : (h2 ++ h1).Nodup := List.perm_append_comm.nodup_iff.mp nd2
    split at er
    · cases er
    · rename_i d ds' em
      cases er
      refine ⟨_, em, fun v H2 k1 k2 fm2 rv rs' nd3 => ?_⟩
      obtain ⟨_, _, fr, nd4⟩ := frame (c := cf0 K w T) (P := True) nd2' he2.own rs.own fm2 nd3
      have he3 := fr he2
      have nd5 : (k2 ++ h2).Nodup := by
        have z := (List.nodup_append.mp nd4)
        exact List.nodup_append.mpr ⟨(List.nodup_append.mp nd3).2.1, z.1, fun x hx y hy e => z.2.2 y hy x (List.mem_append_right _ hx) e.symm⟩
      obtain ⟨f', q, n', sub⟩ := giveA_ok ar rs' he3 nd5
      have fmE : Frm f (h2 ++ (k1 ++ k2)) H H2 := fmT.trans (fm2.left h2)
      refine k v H2 k1 f' (fmE.sub fun b hb => ?_) rv q ?_
      · rcases List.mem_append.mp hb with hb | hb
        · exact List.mem_append_right _ (List.mem_append_left _ hb)
        · rcases List.mem_append.mp (sub b hb) with hb | hb
          · exact List.mem_append_right _ (List.mem_append_right _ hb)
          · exact List.mem_append_left _ hb
      · refine List.nodup_append.mpr ⟨(List.nodup_append.mp nd3).1, n', fun x hx y hy e => ?_⟩
        subst e
        rcases List.mem_append.mp (sub x hy) with hb | hb
        · exact (List.nodup_append.mp nd3).2.2 x hx x hb rfl
        · exact (List.nodup_append.mp nd4).2.2 x hb x (List.mem_append_left _ hx) rfl
    · rename_i x ds' em
      cases er
      refine ⟨_, em, fun dx H2 k2 fm2 xr rs' nd3 => ?_⟩
      obtain ⟨_, _, fr, nd4⟩ := frame (c := cf0 K w T) (P := True) nd2' he2.own rs.own fm2 nd3
      have he3 := fr he2
      have nd5 : (k2 ++ h2).Nodup := List.perm_append_comm.nodup_iff.mp nd4
      obtain ⟨f', q, n', sub⟩ := giveA_ok ar rs' he3 nd5
      have fmE : Frm f (h2 ++ k2) H H2 := fmT.trans (fm2.left h2)
      refine k dx H2 f' (fmE.sub fun b hb => ?_) xr q n'
      rcases List.mem_append.mp (sub b hb) with hb | hb
      · exact List.mem_append_right _ hb
      · exact List.mem_append_left _ hb
/-- THE RULE for a call f(a, ..) -/
theorem e_call {x : Str} {p : Pos} {e : Expr} {es : List Expr} {k n : Nat} {f : Addr} {fd : FuncData} {ps : List Str} {m : MF} {as : List Ag} (F : FnOk X.prog X.w X.K X.mg X.base (L2.CX X.prog X.w) k f fd ps (spM (cf0 X.K X.w T) n m)) (hr : Room k X.A) (hm : X.mg x = some (.ref f))
    (hk : PySem.W.keepIn X.K (.ref f) = true) (hb : Binds X.K fd ps []) (tk : Takes X W) (ha : DV X ⟨none, T⟩ W (e :: es) as) (hlen : as.length = n) (hg : Gl X x := by rfl) (hdb : (x == ("__debug__" : Str)) = false := by decide) (he : starEach (e :: es) X.env = (false, eval e X.env) :: starEach es X.env := by rfl)
    (hpl : (backTo pos (starEach es X.env)).any (·.1) = false := by rfl) : DE X ⟨none, T⟩ W (.Call (.Name x p) (e :: es) [] pos) (mCall m as) :=
  (pe_callS F hr hg hm hk hb (fun σ => passAt tk σ) ha hdb he hpl).imp fun σ H Q h => tE_call hlen h
end
end DL
set_option maxHeartbeats 2000000
/-! DL6: for, comprehensions over data. -/
namespace DL
open PySem PySem.Spec PyProof.Rows L2
open LamX (Tabs TabS CodeO)

section
variable {c : Cf} {W : WX} {κ : List Nat} {X : Cx} {ξ : Xi} {pos : Pos} {H : Hp}

/-! ### targets -/
/-- only the slots ts changed -/
def Chg (ts : List Nat) (σ σ' : L2.St) : Prop := σ'.length = σ.length ∧ ∀ j, j ∉ ts → σ'[j]? = σ[j]?
def TgS (c : Cf) (ts : List Nat) (g : TG) (gm : D → Env → Option Env) : Prop := ∀ (v : V) (d : D) (env e' : Env) (σ : L2.St) (f : List Addr) (H : Hp) (Q : L2.St → Hp → Prop), Rep c H d v [] → EnvR c H env σ f → f.Nodup → gm d env = some e' →
  (∀ σ' f', Chg ts σ σ' → EnvR c H e' σ' f' → f'.Nodup → (∀ b ∈ f', b ∈ f) → Q σ' H) → g v σ H Q
theorem setE_some {i : Nat} {d : D} {e e' : Env} (h : setE i d e = some e') : i < e.length ∧ e' = e.set i d := by
  unfold setE at h
  split at h
  · rename_i hi
    cases h
    exact ⟨hi, rfl⟩
  · cases h
theorem Chg.set {i : Nat} {σ : L2.St} {o : Option V} : Chg [i] σ (σ.set i o) := ⟨by simp, fun j hj => by
  rw [List.getElem?_set_ne]
  rintro rfl
  exact hj (by simp)⟩
theorem tgs_name {i : Nat} : TgS c [i] (gName i) (setE i) := fun v d env e' σ f H Q r he nd e k => by
  obtain ⟨hi, rfl⟩ := setE_some e
  obtain ⟨f', q, n, sub⟩ := he.store hi r (by simpa using nd)
  exact k _ f' Chg.set q n fun b hb => by simpa using sub b hb
/-- several -/
def TgSs (c : Cf) (ts : List Nat) (g : TGs) (gm : List D → Env → Option Env) : Prop := ∀ (vs : List V) (ds : List D) (env e' : Env) (σ : L2.St) (f : List Addr) (H : Hp) (Q : L2.St → Hp → Prop), Reps c H ds vs [] → EnvR c H env σ f → f.Nodup → gm ds env = some e' →
  (∀ σ' f', Chg ts σ σ' → EnvR c H e' σ' f' → f'.Nodup → (∀ b ∈ f', b ∈ f) → Q σ' H) → g vs σ H Q
def gmNil : List D → Env → Option Env
  | [], e => some e
  | _ :: _, _ => none
def gmCons (gm : D → Env → Option Env) (gr : List D → Env → Option Env) : List D → Env → Option Env
  | [], _ => none
  | d :: ds, e => match gm d e with
    | none => none
    | some e' => gr ds e'
theorem tgss_nil : TgSs c [] gNil gmNil := fun vs ds env e' σ f H Q r he nd e k => by
  cases ds with
  | cons d ds => cases e
  | nil =>
    cases e
    obtain ⟨rfl, _⟩ := r
    exact ⟨rfl, k σ f ⟨rfl, fun _ _ => rfl⟩ he nd fun b hb => hb⟩
theorem tgss_cons {ts us : List Nat} {g : TG} {gr : TGs} {gm : D → Env → Option Env} {gmr : List D → Env → Option Env} (h1 : TgS c ts g gm) (h2 : TgSs c us gr gmr) : TgSs c (ts ++ us) (gCons g gr) (gmCons gm gmr) := fun vs ds env e' σ f H Q r he nd e k => by
  cases ds with
  | nil => cases e
  | cons d ds =>
    have e : (match gm d env with
      | none => none
      | some e1 => gmr ds e1) = some e' := e
    split at e
    · cases e
    rename_i e1 ee
    obtain ⟨v, vs', f1, f2, rfl, r1, r2, hf⟩ := r
    obtain ⟨rfl, rfl⟩ := List.append_eq_nil_iff.mp hf.symm
    refine ⟨v, vs', rfl, h1 v d env e1 σ f H _ r1 he nd ee fun σ1 f1 c1 he1 nd1 s1 => ?_⟩
    refine h2 vs' ds e1 e' σ1 f1 H Q r2 he1 nd1 e fun σ2 f2 c2 he2 nd2 s2 => ?_
    refine k σ2 f2 ⟨c2.1.trans c1.1, fun j hj => ?_⟩ he2 nd2 fun b hb => s1 b (s2 b hb)
    rw [c2.2 j fun z => hj (List.mem_append_right _ z), c1.2 j fun z => hj (List.mem_append_left _ z)]
def gmTup (n : Nat) (gr : List D → Env → Option Env) : D → Env → Option Env
  | .tup ds, e => if ds.length = n then gr ds e else none
  | _, _ => none
theorem tgs_tup {ts : List Nat} {n : Nat} {gr : TGs} {gmr : List D → Env → Option Env} (h : TgSs (cx X ξ) ts gr gmr) : TgS (cx X ξ) ts (gTup X.K n gr) (gmTup n gmr) := fun v d env e' σ f H Q r he nd e k => by
  unfold gmTup at e
  split at e
  · split at e
    · rename_i hl
      obtain ⟨a, vs, rfl, q, rs⟩ := r
      exact ⟨a, vs, rfl, SqT.of q, by rw [rs.length]; exact hl, h vs _ env e' σ f H Q rs he nd e k⟩
    · cases e
  · cases e
structure TgD (X : Cx) (ξ : Xi) (ts : List Nat) (tg : Expr) (g : TG) (gm : D → Env → Option Env) : Prop where
  pg : PG X tg g
  sd : TgS (cx X ξ) ts g gm
structure TgDs (X : Cx) (ξ : Xi) (ts : List Nat) (tg : List Expr) (g : TGs) (gm : List D → Env → Option Env) : Prop where
  pg : PGs X tg g
  sd : TgSs (cx X ξ) ts g gm
theorem g_name {i : Nat} {x : Str} {p : Pos} (hN : X.N.Nodup) (hi : X.N[i]? = some x := by rfl) (hx : Loc X.env.scope x := by first | exact Or.inl rfl | exact Or.inr rfl) (hf : X.fn x = true ∨ X.env.scope.names.lookup x = some .local := by first | exact .inl rfl | exact .inr rfl | assumption) : TgD X ξ [i] (.Name x p) (gName i) (setE i) := ⟨pg_name hN hi hx hf, tgs_name⟩
theorem gs_nil : TgDs X ξ [] [] gNil gmNil := ⟨pgs_nil, tgss_nil⟩
theorem gs_cons {e : Expr} {es : List Expr} {ts us : List Nat} {g : TG} {gr : TGs} {gm : D → Env → Option Env} {gmr : List D → Env → Option Env} (h1 : TgD X ξ ts e g gm) (h2 : TgDs X ξ us es gr gmr) (hs : (assignEach (e :: es) X.env).map (·.2) = assign e X.env :: (assignEach es X.env).map (·.2) := by rfl) : TgDs X ξ (ts ++ us) (e :: es) (gCons g gr) (gmCons gm gmr) := ⟨pgs_cons h1.pg h2.pg hs, tgss_cons h1.sd h2.sd⟩
theorem g_tup {es : List Expr} {k : Nat} {ts : List Nat} {gr : TGs} {gmr : List D → Env → Option Env} {n : Nat} (hc : X.calm = true) (h : TgDs X ξ ts es gr gmr)
    (hn : (assignEach es X.env).length = n := by rfl) (hst : (assignEach es X.env).findIdx? (·.1) = none := by rfl) : TgD X ξ ts (.Tuple es k pos) (gTup X.K n gr) (gmTup n gmr) := ⟨pg_tup hc h.pg hn hst, tgs_tup h.sd⟩
/-- a, b = e -/
def mUnp (gm : D → Env → Option Env) (m : M D) : MS := fun env => match m env with
  | none => none
  | some (.ex x e) => some (.ex x e)
  | some (.ok d e) => if d.pers = true then match gm d e with
    | none => none
    | some e' => some (.nx e') else none
theorem Chg.keep {ts : List Nat} {σ σ' : L2.St} (h : Chg ts σ σ') (d : ∀ i ∈ ts, i ∉ κ) : Keep κ σ σ' := fun i hi => h.2 i fun z => d i z hi
theorem s_unp {tg e : Expr} {m : M D} {ts : List Nat} {g : TG} {gm : D → Env → Option Env} (hκ : ∀ i ∈ ts, i ∉ κ) (he : DE X ξ W e m) (hg : TgD X ξ ts tg g gm) (hs : swapsWithSole [tg] e pos.line X.env = pure false := by rfl) (hw : swappedStores [tg] e X.env = pure none := by rfl) (h1 : (assignEach [tg] X.env).map (·.2) = [assign tg X.env] := by rfl) :
    DS X ξ W κ (.Assign [tg] e pos) (mUnp gm m) := (ps_asg he hg.pg hs hw h1).imp fun D' σ H ⟨env, f, he, nd, o, eo, k⟩ => by
  unfold mUnp at eo
  split at eo
  · cases eo
  · cases eo
    exact ⟨env, f, he, nd, _, by assumption, PostE.exOf k⟩
  · rename_i d e em
    split at eo
    · rename_i hp
      split at eo
      · cases eo
      · rename_i e' eg
        cases eo
        refine ⟨env, f, he, nd, _, em, fun v H' g1 g2 fm r he' nd' => ?_⟩
        have z := r.pers hp
        subst z
        refine hg.sd v d e e' σ g2 H' _ r he' (by simpa using nd') eg fun σ' f' ch he2 nd2 sub => ?_
        exact k σ' H' f' (fm.sub fun b hb => by simpa using sub b hb) (ch.keep hκ) he2 nd2
    · cases eo
/-- a, b = x, y: stored from the left, the pair not made -/
def mPar (i j : Nat) (ms : M (List D)) : MS := fun env => match ms env with
  | none => none
  | some (.ex x e) => some (.ex x e)
  | some (.ok [d1, d2] e) => match setE i d1 e with
    | none => none
    | some e1 => match setE j d2 e1 with
      | none => none
      | some e2 => some (.nx e2)
  | some (.ok _ _) => none
theorem PostA.exOf {D' : Ends} {σ : L2.St} {f : List Addr} {x : Ex} {e : Env} {Q : List V → Hp → Prop} (h : PostS c W κ D' σ H f (.ex x e)) : PostA c W σ H f Q (.ex x e) := fun dx H' g fm xr he nd => h dx σ H' g fm Keep.refl xr he nd
theorem tS_par {i j : Nat} {ms : M (List D)} {D' : Ends} {σ : L2.St} (h1 : i ∉ κ) (h2 : j ∉ κ) (h : tS c W κ (mPar i j ms) D' σ H) : tPar i j (tA c W ms) D' σ H := by
  obtain ⟨env, f, he, nd, o, eo, k⟩ := h
  unfold mPar at eo
  split at eo
  · cases eo
  · cases eo
    exact ⟨env, f, he, nd, _, by assumption, PostA.exOf k⟩
  · rename_i d1 d2 e em
    split at eo
    · cases eo
    rename_i e1 es1
    split at eo
    · cases eo
    rename_i e2 es2
    cases eo
    obtain ⟨hi, rfl⟩ := setE_some es1
    obtain ⟨hj, rfl⟩ := setE_some es2
    refine ⟨env, f, he, nd, _, em, fun vs H' g1 g2 fm rs he' nd' => ?_⟩
    obtain ⟨v, w, f1, f2, rfl, r1, r2, rfl⟩ := rs.two
    refine ⟨v, w, rfl, ?_⟩
    have p0 : ((f1 ++ f2) ++ g2).Perm (f2 ++ (f1 ++ g2)) := by
      rw [← List.append_assoc]
      exact List.Perm.append_right _ List.perm_append_comm
    have nd3 := p0.nodup_iff.mp nd'
    obtain ⟨f', q, n, sub⟩ := he'.store hi r1 (List.nodup_append.mp nd3).2.1
    obtain ⟨f'', q', n', sub'⟩ := q.store (i := j) (d := d2) (v := w) hj r2 (List.nodup_append.mpr ⟨(List.nodup_append.mp nd3).1, n, fun x hx y hy => (List.nodup_append.mp nd3).2.2 x hx y (sub y hy)⟩)
    refine k _ H' f'' (fm.sub fun b hb => p0.mem_iff.mpr ?_) ((Keep.set h1).trans (Keep.set h2)) q' n'
    rcases List.mem_append.mp (sub' b hb) with hb | hb
    · exact List.mem_append_left _ hb
    · exact List.mem_append_right _ (sub b hb)
  · cases eo

/-! ### what is walked -/
/-- J walks ds from H on, while only the objects at g change -/
structure Wk (c : Cf) (J : It) (H0 : Hp) (g : List Addr) (ds : List D) : Prop where
  go : ∀ i H1, i < ds.length → But g H0 H1 → J.go i H1
  yld : ∀ i H1 x H2, i < ds.length → But g H0 H1 → J.yld i H1 x H2 → ∃ d, ds[i]? = some d ∧ Same H1 H2 ∧ Rep c H2 d x []
  stop : ∀ H1, But g H0 H1 → J.stop ds.length H1
def PostI (c : Cf) (W : WX) (σ : L2.St) (H : Hp) (f : List Addr) (Q : It → Hp → Prop) : R (List D) → Prop
  | .ok ds e => ∀ J H' g, Frm f g H H' → EnvR c H' e σ g → g.Nodup → Wk c J H' g ds → Q J H'
  | .ex x e => ∀ dx H' g, Frm f g H H' → ExR c H' x dx → EnvR c H' e σ g → g.Nodup → W (.ref (He.ga c.K x.cls)) (some dx) σ H'
def tI (c : Cf) (W : WX) (src : M (List D)) : TI := fun σ H Q => ∃ env f, EnvR c H env σ f ∧ f.Nodup ∧ ∃ r, src env = some r ∧ PostI c W σ H f Q r
abbrev DI (X : Cx) (ξ : Xi) (W : WX) (tg it : Expr) (src : M (List D)) : Prop := PI X tg it (tI (cx X ξ) W src)
theorem _root_.L2.PI.imp {tg e : Expr} {t t' : TI} (h : PI X tg e t) (k : ∀ σ H Q, t' σ H Q → t σ H Q) : PI X tg e t' := ⟨fun pins s σ H Q I q => h.run pins s σ H Q I (k _ _ _ q)⟩
theorem PI.or {tg e : Expr} {t t' : TI} (h : PI X tg e t) (h' : PI X tg e t') : PI X tg e (fun σ H R => t σ H R ∨ t' σ H R) := ⟨fun pins s σ H Q I q => q.elim (h.run pins s σ H Q I) (h'.run pins s σ H Q I)⟩
theorem wk_tup {a : Addr} {vs : List V} {ds : List D} {g : List Addr} (q : H a = some (.tup vs)) (r : Reps c H ds vs []) (og : ∀ b ∈ g, Own1 H b) : Wk c (Itt c.K a) H g ds where
  go := fun i H1 hi b => ⟨vs, vs[i]'(by rw [r.length]; exact hi), SqT.of (tup_but b og q), List.getElem?_eq_getElem _⟩
  yld := fun i H1 x H2 hi b ⟨e1, e2⟩ => by
    subst e1
    have e := e2 vs (SqT.of (tup_but b og q))
    obtain ⟨d, g', ed, rd, s⟩ := r.getV e
    have z := List.eq_nil_of_sublist_nil s
    subst z
    exact ⟨d, ed, Same.refl _, rd.but b og fun b hb => by cases hb⟩
  stop := fun H1 b => ⟨vs, SqT.of (tup_but b og q), by rw [r.length]; exact Nat.le_refl _⟩
def rangeD (lo : Int) (n : Nat) : List D := (List.range n).map fun i => .int (lo + (i : Nat))
theorem rangeD_get {lo : Int} {n i : Nat} (h : i < n) : (rangeD lo n)[i]? = some (.int (lo + (i : Nat))) := by
  unfold rangeD
  rw [List.getElem?_map, List.getElem?_range h]
  rfl
theorem rangeD_length {lo : Int} {n : Nat} : (rangeD lo n).length = n := by simp [rangeD]
theorem wk_range {lo : Int} {n : Nat} {g : List Addr} : Wk c (Itr lo n) H g (rangeD lo n) where
  go := fun i H1 hi b => by rw [rangeD_length] at hi; exact hi
  yld := fun i H1 x H2 hi b ⟨e1, e2⟩ => by
    rw [rangeD_length] at hi
    subst e1 e2
    exact ⟨_, rangeD_get hi, Same.refl _, rfl, rfl⟩
  stop := fun H1 b => by rw [rangeD_length]; exact Nat.le_refl n
/-- a sequence's items -/
def itemsD : D → Option (List D)
  | .tup l => if persAll l = true then some l else none
  | .lst l => if persAll l = true then some l else none
  | .fz l => if persAll l = true then some l else none
  | .str x => some (x.cps.toList.map fun c => .str ⟨#[c]⟩)
  | _ => none
theorem wk_str {x : Str} {g : List Addr} : Wk c (Its x) H g (x.cps.toList.map fun c => .str ⟨#[c]⟩) where
  go := fun i H1 hi b => by
    rw [List.length_map] at hi
    exact hi
  yld := fun i H1 v H2 hi b ⟨e1, cc, e2, e3⟩ => by
    subst e1 e3
    refine ⟨.str ⟨#[cc]⟩, ?_, Same.refl _, rfl, rfl⟩
    rw [List.getElem?_map, Array.getElem?_toList, e2]
    rfl
  stop := fun H1 b => by
    rw [List.length_map]
    exact Nat.le_refl _
def mIt (m : M D) : M (List D) := m.bind fun d => M.ofO (itemsD d)
theorem i_it {tg e : Expr} {m : M D} (h : DE X ξ W e m) : DI X ξ W tg e (mIt m) := (PI.or (pi_list h) (PI.or (pi_tup h) (pi_str h))).imp fun σ H R ⟨env, f, he, nd, r, er, k⟩ => by
  rcases bind_some er with ⟨x, e1, ea, rfl⟩ | ⟨d, e1, ea, er⟩
  · exact .inl ⟨env, f, he, nd, _, ea, k⟩
  · obtain ⟨ds, ed, rfl⟩ := ofO_some er
    cases d with
    | tup l =>
      unfold itemsD at ed
      dsimp only at ed
      split at ed
      · rename_i hp
        cases ed
        refine .inr (.inl ⟨env, f, he, nd, _, ea, fun v H' g1 g2 fm rv he' nd' => ?_⟩)
        obtain ⟨a, vs, rfl, q, rs⟩ := rv
        exact ⟨a, rfl, ⟨vs, SqT.of q⟩, k _ H' g2 (fm.sub fun b hb => List.mem_append_right _ hb) he' (List.nodup_append.mp nd').2.1 (wk_tup (c := cx X ξ) q (rs.toP hp) he'.own)⟩
      · cases ed
    | lst l =>
      unfold itemsD at ed
      dsimp only at ed
      split at ed
      · rename_i hp
        cases ed
        refine .inl ⟨env, f, he, nd, _, ea, fun v H' g1 g2 fm rv he' nd' => ?_⟩
        obtain ⟨a, vs, g', rfl, q, rs, rfl⟩ := rv
        have hn : a ∉ g2 := fun hb => (List.nodup_append.mp nd').2.2 a List.mem_cons_self a hb rfl
        refine ⟨a, rfl, ⟨vs, SqL.of q⟩, k _ H' g2 (fm.sub fun b hb => List.mem_append_right _ hb) he' (List.nodup_append.mp nd').2.1 ?_⟩
        have z := rs.toP hp
        exact { go := fun i H1 hi b => ⟨vs, vs[i]'(by rw [z.length]; exact hi), SqL.of (b.keep a _ q hn noT_lst), List.getElem?_eq_getElem _⟩
                yld := fun i H1 x H2 hi b ⟨e1, e2⟩ => by
                  subst e1
                  have e := e2 vs (SqL.of (b.keep a _ q hn noT_lst))
                  obtain ⟨d, g', ed, rd, s⟩ := z.getV e
                  have z' := List.eq_nil_of_sublist_nil s
                  subst z'
                  exact ⟨d, ed, Same.refl _, rd.but b he'.own fun b hb => by cases hb⟩
                stop := fun H1 b => ⟨vs, SqL.of (b.keep a _ q hn noT_lst), by rw [z.length]; exact Nat.le_refl _⟩ }
      · cases ed
    | fz l =>
      unfold itemsD at ed
      dsimp only at ed
      split at ed
      · rename_i hp
        cases ed
        refine .inl ⟨env, f, he, nd, _, ea, fun v H' g1 g2 fm rv he' nd' => ?_⟩
        obtain ⟨a, vs, rfl, q, rs, rfl⟩ := rv
        refine ⟨a, rfl, ⟨vs, q.sq⟩, k _ H' g2 (fm.sub fun b hb => List.mem_append_right _ hb) he' (List.nodup_append.mp nd').2.1 ?_⟩
        have z := rs.toP hp
        exact { go := fun i H1 hi b => ⟨vs, vs[i]'(by rw [z.length]; exact hi), (q.but b he'.own).sq, List.getElem?_eq_getElem _⟩
                yld := fun i H1 x H2 hi b ⟨e1, e2⟩ => by
                  subst e1
                  have e := e2 vs (q.but b he'.own).sq
                  obtain ⟨d, g', ed, rd, s⟩ := z.getV e
                  have z' := List.eq_nil_of_sublist_nil s
                  subst z'
                  exact ⟨d, ed, Same.refl _, rd.but b he'.own fun b hb => by cases hb⟩
                stop := fun H1 b => ⟨vs, (q.but b he'.own).sq, by rw [z.length]; exact Nat.le_refl _⟩ }
      · cases ed
    | str x =>
      cases ed
      refine .inr (.inr ⟨env, f, he, nd, _, ea, fun v H' g1 g2 fm rv he' nd' => ?_⟩)
      obtain ⟨rfl, _⟩ := rv
      exact ⟨x, rfl, k _ H' g2 (fm.sub fun b hb => List.mem_append_right _ hb) he' (List.nodup_append.mp nd').2.1 wk_str⟩
    | _ => cases ed
/-- range(n), range(a, b) -/
def rng1 : List D → Option (List D)
  | [.int j] => if -(2 ^ 62) ≤ j ∧ j < 2 ^ 62 then some (rangeD 0 j.toNat) else none
  | _ => none
def rng2 : List D → Option (List D)
  | [.int i, .int j] => if -(2 ^ 62) ≤ i ∧ i < 2 ^ 62 ∧ -(2 ^ 62) ≤ j ∧ j < 2 ^ 62 then some (rangeD i (j - i).toNat) else none
  | _ => none
def mRg (op : List D → Option (List D)) (ms : M (List D)) : M (List D) := ms.bind fun ds => M.ofO (op ds)
theorem i_range1 {tg a : Expr} {ms : M (List D)} {p : Pos} (hm : X.mg "range" = none) (ha : DA X ξ W [a] ms) (hg : Gl X "range" := by rfl) (hs : starEach [a] X.env = [(false, eval a X.env)] := by rfl) : DI X ξ W tg (.Call (.Name "range" p) [a] [] pos) (mRg rng1 ms) :=
  (pi_range1 hg hm ha hs).imp fun σ H R ⟨env, f, he, nd, r, er, k⟩ => by
    rcases bind_some er with ⟨x, e1, ea, rfl⟩ | ⟨ds, e1, ea, er⟩
    · exact ⟨env, f, he, nd, _, ea, k⟩
    · obtain ⟨l, el, rfl⟩ := ofO_some er
      refine ⟨env, f, he, nd, _, ea, fun vs H' g1 g2 fm rs he' nd' => ?_⟩
      have fm' : Frm f g2 H H' := fm.sub fun b hb => List.mem_append_right _ hb
      have nd2 := (List.nodup_append.mp nd').2.1
      unfold rng1 at el
      split at el
      · split at el
        · rename_i hc
          cases el
          obtain ⟨v, rfl, rfl, _⟩ := rs.one
          exact ⟨_, rfl, hc.1, hc.2, k _ H' g2 fm' he' nd2 wk_range⟩
        · cases el
      · cases el
theorem i_range2 {tg a b : Expr} {ms : M (List D)} {p : Pos} (hm : X.mg "range" = none) (ha : DA X ξ W [a, b] ms) (hg : Gl X "range" := by rfl) (hs : starEach [a, b] X.env = [(false, eval a X.env), (false, eval b X.env)] := by rfl) (hs2 : starEach [b] X.env = [(false, eval b X.env)] := by rfl) : DI X ξ W tg (.Call (.Name "range" p) [a, b] [] pos) (mRg rng2 ms) :=
  (pi_range2 hg hm ha hs hs2).imp fun σ H R ⟨env, f, he, nd, r, er, k⟩ => by
    rcases bind_some er with ⟨x, e1, ea, rfl⟩ | ⟨ds, e1, ea, er⟩
    · exact ⟨env, f, he, nd, _, ea, k⟩
    · obtain ⟨l, el, rfl⟩ := ofO_some er
      refine ⟨env, f, he, nd, _, ea, fun vs H' g1 g2 fm rs he' nd' => ?_⟩
      have fm' : Frm f g2 H H' := fm.sub fun b hb => List.mem_append_right _ hb
      have nd2 := (List.nodup_append.mp nd').2.1
      unfold rng2 at el
      split at el
      · split at el
        · rename_i hc
          cases el
          obtain ⟨v, w, f1, f2, rfl, ⟨rfl, _⟩, ⟨rfl, _⟩, _⟩ := rs.two
          exact ⟨_, _, rfl, hc, k _ H' g2 fm' he' nd2 wk_range⟩
        · cases el
      · cases el

/-! ### for -/
def forL (gm : D → Env → Option Env) (b : MS) : List D → MS
  | [], env => some (.nx env)
  | x :: xs, env => if x.pers = true then match gm x env with
      | none => none
      | some e => match b e with
        | none => none
        | some (.nx e') => forL gm b xs e'
        | some (.ct e') => forL gm b xs e'
        | some (.bk e') => some (.nx e')
        | some (.ret d e') => some (.ret d e')
        | some (.ex y e') => some (.ex y e')
    else none
def mFor (src : M (List D)) (gm : D → Env → Option Env) (b : MS) : MS := fun env => match src env with
  | none => none
  | some (.ex x e) => some (.ex x e)
  | some (.ok ds e) => forL gm b ds e
theorem But.trans' {f g : List Addr} {H H1 H2 : Hp} (a : Frm f g H H1) (b : But g H1 H2) : But f H H2 := ⟨fun x o e n t => b.keep x o (a.keep x o e n t) (fun hx => by
  rcases a.foot x hx with z | z
  · exact n z
  · exact z.not e t) t, fun T t => b.tab T (a.tab T t)⟩
theorem s_for {tg it : Expr} {body : List Stmt} {src : M (List D)} {ts : List Nat} {g : TG} {gm : D → Env → Option Env} {m : MS} (hκ : ∀ i ∈ ts, i ∉ κ) (hp : PassesOwn (model X.prog X.w) X.A X.env X.xe) (hc : X.calm = true) (hi : DI X ξ W tg it src) (hg : TgD X ξ ts tg g gm) (hb : DSs X ξ W κ body m)
    (hs : ∀ x, foldedSetIterable it X.env x = pure x := by intro _; rfl) : DS X ξ W κ (.For tg it body [] pos) (mFor src gm m) := (ps_for hp hc hi hg.pg hb hs).imp fun D' σ H ⟨env, f, he, nd, o, eo, k⟩ => by
  unfold mFor at eo
  split at eo
  · cases eo
  · rename_i x e em
    cases eo
    exact ⟨env, f, he, nd, _, em, fun dx H' g fm xr he nd => k dx σ H' g fm Keep.refl xr he nd⟩
  · rename_i ds e1 es
    refine ⟨env, f, he, nd, _, es, fun J H1 f1 fm1 he1 nd1 wk => ?_⟩
    have k1 := k.later fm1 Keep.refl
    refine ⟨fun i mm σ2 H2 => mm = ds.length - i ∧ i ≤ ds.length ∧ ∃ env2 f2, EnvR (cx X ξ) H2 env2 σ2 f2 ∧ f2.Nodup ∧ Frm f1 f2 H1 H2 ∧ Keep κ σ σ2 ∧ forL gm m (ds.drop i) env2 = some o, ⟨ds.length, rfl, Nat.zero_le _, e1, f1, he1, nd1, Frm.refl, Keep.refl, eo⟩, ?_⟩
    rintro i mm σ2 H2 ⟨rfl, hi, env2, f2, he2, nd2, fm2, kp2, hf⟩
    have k2 := k1.later fm2 kp2
    by_cases hlt : i < ds.length
    · refine .inr ⟨wk.go i H2 hlt fm2.but, fun σ' H' => ∃ env2 f2, EnvR (cx X ξ) H' env2 σ' f2 ∧ f2.Nodup ∧ Frm f1 f2 H1 H' ∧ Keep κ σ σ' ∧ forL gm m (ds.drop (i + 1)) env2 = some o, fun σ' H' q => ⟨ds.length - (i + 1), by omega, rfl, hlt, q⟩, fun x H3 y => ?_⟩
      obtain ⟨d, ed, s3, rd⟩ := wk.yld i H2 x H3 hlt fm2.but y
      have edr : ds.drop i = d :: ds.drop (i + 1) := by
        rw [List.drop_eq_getElem_cons hlt]
        congr 1
        rw [List.getElem?_eq_getElem hlt] at ed
        exact Option.some.inj ed
      rw [edr] at hf
      unfold forL at hf
      split at hf
      · split at hf
        · cases hf
        rename_i e4 eg
        refine hg.sd x d env2 e4 σ2 f2 H3 _ rd (he2.same s3) nd2 eg fun σ4 f4 ch he4 nd4 sub4 => ?_
        have fm4 : Frm f1 f4 H1 H3 := (fm2.trans (Frm.same s3)).sub sub4
        have kp4 : Keep κ σ σ4 := kp2.trans (ch.keep hκ)
        have k4 := k2.later ((Frm.same s3).sub sub4) (ch.keep hκ)
        split at hf
        · cases hf
        · rename_i e5 eb
          exact ⟨e4, f4, he4, nd4, _, eb, fun σ5 H5 f5 fm5 kp5 he5 nd5 => ⟨e5, f5, he5, nd5, fm4.trans fm5, kp4.trans kp5, hf⟩⟩
        · rename_i e5 eb
          exact ⟨e4, f4, he4, nd4, _, eb, fun σ5 H5 f5 fm5 kp5 he5 nd5 => ⟨e5, f5, he5, nd5, fm4.trans fm5, kp4.trans kp5, hf⟩⟩
        · rename_i e5 eb
          cases hf
          exact ⟨e4, f4, he4, nd4, _, eb, k4⟩
        · rename_i d5 e5 eb
          cases hf
          exact ⟨e4, f4, he4, nd4, _, eb, k4⟩
        · rename_i x5 e5 eb
          cases hf
          exact ⟨e4, f4, he4, nd4, _, eb, k4⟩
      · cases hf
    · have e : i = ds.length := by omega
      subst e
      rw [List.drop_length] at hf
      cases hf
      exact .inl ⟨wk.stop H2 fm2.but, k2 σ2 H2 f2 Frm.refl Keep.refl he2 nd2⟩

/-! over a list that a name holds, as it stands at each turn -/
def forVN (gm : D → Env → Option Env) (b : MS) (i : Nat) : Nat → Nat → MS
  | 0, _, _ => none
  | n + 1, j, env => match mV i env with
    | some (.lst l) => match l[j]? with
      | none => some (.nx env)
      | some x => if x.pers = true then match gm x env with
          | none => none
          | some e => match b e with
            | none => none
            | some (.nx e') => forVN gm b i n (j + 1) e'
            | some (.ct e') => forVN gm b i n (j + 1) e'
            | some (.bk e') => some (.nx e')
            | some (.ret d e') => some (.ret d e')
            | some (.ex y e') => some (.ex y e')
        else none
    | _ => none
theorem forVN_mono {gm : D → Env → Option Env} {b : MS} {i : Nat} : ∀ {n j : Nat} {env : Env} {o : O}, forVN gm b i n j env = some o → forVN gm b i (n + 1) j env = some o
  | 0, j, env, o, h => by cases h
  | n + 1, j, env, o, h => by
    have ih : ∀ {j : Nat} {env : Env} {o : O}, forVN gm b i n j env = some o → forVN gm b i (n + 1) j env = some o := fun h => forVN_mono h
    unfold forVN at h ⊢
    split at h
    · split at h
      · exact h
      · split at h
        · first | rw [if_pos (by assumption)] | skip
          split at h
          · cases h
          · split at h
            · cases h
            · exact ih h
            · exact ih h
            · exact h
            · exact h
            · exact h
        · cases h
    · cases h
theorem forVN_le {gm : D → Env → Option Env} {b : MS} {i n m j : Nat} {env : Env} {o : O} (h : forVN gm b i n j env = some o) (hm : n ≤ m) : forVN gm b i m j env = some o := by
  induction hm with
  | refl => exact h
  | step _ ih => exact forVN_mono ih
theorem forVN_det {gm : D → Env → Option Env} {b : MS} {i n m j : Nat} {env : Env} {o o' : O} (h : forVN gm b i n j env = some o) (h' : forVN gm b i m j env = some o') : o = o' := by
  have a := forVN_le h (Nat.le_max_left n m)
  have b := forVN_le h' (Nat.le_max_right n m)
  rw [a] at b
  exact Option.some.inj b
open Classical in
noncomputable def forVL (gm : D → Env → Option Env) (b : MS) (i : Nat) (j : Nat) : MS := fun env => if h : ∃ o, ∃ n, forVN gm b i n j env = some o then some h.choose else none
theorem forVL_of {gm : D → Env → Option Env} {b : MS} {i n j : Nat} {env : Env} {o : O} (h : forVN gm b i n j env = some o) : forVL gm b i j env = some o := by
  have z : ∃ o, ∃ n, forVN gm b i n j env = some o := ⟨o, n, h⟩
  unfold forVL
  rw [dif_pos z]
  obtain ⟨m, hm⟩ := z.choose_spec
  rw [forVN_det hm h]
theorem forVL_some {gm : D → Env → Option Env} {b : MS} {i j : Nat} {env : Env} {o : O} (h : forVL gm b i j env = some o) : ∃ n, forVN gm b i n j env = some o := by
  unfold forVL at h
  split at h
  · rename_i z
    cases h
    exact z.choose_spec
  · cases h
noncomputable def mForV (i : Nat) (gm : D → Env → Option Env) (b : MS) : MS := fun env => match mV i env with
  | none => none
  | some (.lst _) => forVL gm b i 0 env
  | some d => match itemsD d with
    | none => none
    | some l => forL gm b l env
theorem Keep.tail {i : Nat} {σ σ' : L2.St} (h : Keep (i :: κ) σ σ') : Keep κ σ σ' := fun j hj => h j (List.mem_cons_of_mem _ hj)
theorem s_forV {tg : Expr} {body : List Stmt} {i : Nat} {y : Str} {p : Pos} {ts : List Nat} {g : TG} {gm : D → Env → Option Env} {m : MS} (hκ : ∀ j ∈ ts, j ∉ i :: κ) (hp : PassesOwn (model X.prog X.w) X.A X.env X.xe) (hc : X.calm = true) (hv : PE X (.Name y p) (tVar i)) (hg : TgD X ξ ts tg g gm) (hb : DSs X ξ W (i :: κ) body m)
    (hs : ∀ x, foldedSetIterable (.Name y p) X.env x = pure x := by intro _; rfl) : DS X ξ W κ (.For tg (.Name y p) body [] pos) (mForV i gm m) := (ps_for hp hc (PI.or (pi_list hv) (PI.or (pi_tup hv) (pi_str hv))) hg.pg hb hs).imp fun D' σ H ⟨env, f, he, nd, o, eo, k⟩ => by
  have done : ∀ {J : It} {l : List D}, (Wk (cx X ξ) J H f l) → forL gm m l env = some o → ∃ Wv : Nat → Nat → L2.St → Hp → Prop, (∃ m', Wv 0 m' σ H) ∧ ∀ i' m' σ1 H1, Wv i' m' σ1 H1 →
      (J.stop i' H1 ∧ D'.nx σ1 H1) ∨ (J.go i' H1 ∧ ∃ N : L2.St → Hp → Prop, (∀ σ' H', N σ' H' → ∃ m'', m'' < m' ∧ Wv (i' + 1) m'' σ' H') ∧ ∀ x H', J.yld i' H1 x H' → g x σ1 H' fun σ2 H2 => tS (cx X ξ) W (i :: κ) m { D' with nx := N, ct := N, bk := D'.nx } σ2 H2) := by
    intro J l wk ef
    refine ⟨fun i' mm σ2 H2 => mm = l.length - i' ∧ i' ≤ l.length ∧ ∃ env2 f2, EnvR (cx X ξ) H2 env2 σ2 f2 ∧ f2.Nodup ∧ Frm f f2 H H2 ∧ Keep κ σ σ2 ∧ forL gm m (l.drop i') env2 = some o, ⟨l.length, rfl, Nat.zero_le _, env, f, he, nd, Frm.refl, Keep.refl, ef⟩, ?_⟩
    rintro i' mm σ2 H2 ⟨rfl, hi, env2, f2, he2, nd2, fm2, kp2, hf⟩
    have k2 := k.later fm2 kp2
    by_cases hlt : i' < l.length
    · refine .inr ⟨wk.go i' H2 hlt fm2.but, fun σ' H' => ∃ env2 f2, EnvR (cx X ξ) H' env2 σ' f2 ∧ f2.Nodup ∧ Frm f f2 H H' ∧ Keep κ σ σ' ∧ forL gm m (l.drop (i' + 1)) env2 = some o, fun σ' H' q => ⟨l.length - (i' + 1), by omega, rfl, hlt, q⟩, fun x H3 y => ?_⟩
      obtain ⟨d, ed, s3, rd⟩ := wk.yld i' H2 x H3 hlt fm2.but y
      have edr : l.drop i' = d :: l.drop (i' + 1) := by
        rw [List.drop_eq_getElem_cons hlt]
        congr 1
        rw [List.getElem?_eq_getElem hlt] at ed
        exact Option.some.inj ed
      rw [edr] at hf
      unfold forL at hf
      split at hf
      · split at hf
        · cases hf
        rename_i e4 eg
        refine hg.sd x d env2 e4 σ2 f2 H3 _ rd (he2.same s3) nd2 eg fun σ4 f4 ch he4 nd4 sub4 => ?_
        have hκ' : ∀ j ∈ ts, j ∉ κ := fun j hj z => hκ j hj (List.mem_cons_of_mem _ z)
        have fm4 : Frm f f4 H H3 := (fm2.trans (Frm.same s3)).sub sub4
        have kp4 : Keep κ σ σ4 := kp2.trans (ch.keep hκ')
        have k4 := k2.later ((Frm.same s3).sub sub4) (ch.keep hκ')
        split at hf
        · cases hf
        · rename_i e5 eb
          exact ⟨e4, f4, he4, nd4, _, eb, fun σ5 H5 f5 fm5 kp5 he5 nd5 => ⟨e5, f5, he5, nd5, fm4.trans fm5, kp4.trans kp5.tail, hf⟩⟩
        · rename_i e5 eb
          exact ⟨e4, f4, he4, nd4, _, eb, fun σ5 H5 f5 fm5 kp5 he5 nd5 => ⟨e5, f5, he5, nd5, fm4.trans fm5, kp4.trans kp5.tail, hf⟩⟩
        · rename_i e5 eb
          cases hf
          exact ⟨e4, f4, he4, nd4, _, eb, fun σ5 H5 g5 fm5 kp5 he5 nd5 => k4 σ5 H5 g5 fm5 kp5.tail he5 nd5⟩
        · rename_i d5 e5 eb
          cases hf
          exact ⟨e4, f4, he4, nd4, _, eb, fun v5 σ5 H5 g5 g6 fm5 kp5 r5 he5 nd5 => k4 v5 σ5 H5 g5 g6 fm5 kp5.tail r5 he5 nd5⟩
        · rename_i x5 e5 eb
          cases hf
          exact ⟨e4, f4, he4, nd4, _, eb, fun dx5 σ5 H5 g5 fm5 kp5 xr5 he5 nd5 => k4 dx5 σ5 H5 g5 fm5 kp5.tail xr5 he5 nd5⟩
      · cases hf
    · have e : i' = l.length := by omega
      subst e
      rw [List.drop_length] at hf
      cases hf
      exact .inl ⟨wk.stop H2 fm2.but, k2 σ2 H2 f2 Frm.refl Keep.refl he2 nd2⟩
  unfold mForV at eo
  split at eo
  · cases eo
  · rename_i l0 el
    -- a list: live
    obtain ⟨v, g0, ev, ⟨a, vs0, gg, rfl, q0, _, _⟩, _⟩ := mV_slot he el
    obtain ⟨n, hn⟩ := forVL_some eo
    refine .inl ⟨_, ev, a, rfl, ⟨vs0, SqL.of q0⟩, ?_⟩
    refine ⟨fun j mm σ2 H2 => ∃ env2 f2, EnvR (cx X ξ) H2 env2 σ2 f2 ∧ f2.Nodup ∧ Frm f f2 H H2 ∧ Keep (i :: κ) σ σ2 ∧ forVN gm m i mm j env2 = some o, ⟨n, env, f, he, nd, Frm.refl, Keep.refl, hn⟩, ?_⟩
    rintro j mm σ2 H2 ⟨env2, f2, he2, nd2, fm2, kp2, hf⟩
    have k2 := k.later fm2 kp2.tail
    cases mm with
    | zero => cases hf
    | succ mm =>
      unfold forVN at hf
      split at hf
      · rename_i l2 el2
        obtain ⟨v2, g2, ev2, ⟨a2, vs2, gg2, rfl, q2, r2, hg2⟩, sub2⟩ := mV_slot he2 el2
        rw [kp2 i List.mem_cons_self, ev] at ev2
        cases ev2
        split at hf
        · rename_i ej
          cases hf
          refine .inl ⟨⟨vs2, SqL.of q2, ?_⟩, k2 σ2 H2 f2 Frm.refl Keep.refl he2 nd2⟩
          rw [r2.length]
          exact List.getElem?_eq_none_iff.mp ej
        · rename_i d ej
          split at hf
          · rename_i hpd
            split at hf
            · cases hf
            rename_i e4 eg
            obtain ⟨x, g3, ex, rx, _⟩ := r2.get ej
            have z3 := rx.pers hpd
            subst z3
            refine .inr ⟨⟨vs2, x, SqL.of q2, ex⟩, fun σ' H' => ∃ env2 f2, EnvR (cx X ξ) H' env2 σ' f2 ∧ f2.Nodup ∧ Frm f f2 H H' ∧ Keep (i :: κ) σ σ' ∧ forVN gm m i mm (j + 1) env2 = some o, fun σ' H' q => ⟨mm, Nat.lt_succ_self _, q⟩, fun x' H3 ⟨e3, y3⟩ => ?_⟩
            subst e3
            have ex' := y3 vs2 (SqL.of q2)
            rw [ex] at ex'
            cases ex'
            refine hg.sd x d env2 e4 σ2 f2 H3 _ rx he2 nd2 eg fun σ4 f4 ch he4 nd4 sub4 => ?_
            have fm4 : Frm f f4 H H3 := fm2.sub sub4
            have kp4 : Keep (i :: κ) σ σ4 := kp2.trans (ch.keep hκ)
            have k4 := k2.later (Frm.refl.sub sub4) (ch.keep hκ).tail
            split at hf
            · cases hf
            · rename_i e5 eb
              exact ⟨e4, f4, he4, nd4, _, eb, fun σ5 H5 f5 fm5 kp5 he5 nd5 => ⟨e5, f5, he5, nd5, fm4.trans fm5, kp4.trans kp5, hf⟩⟩
            · rename_i e5 eb
              exact ⟨e4, f4, he4, nd4, _, eb, fun σ5 H5 f5 fm5 kp5 he5 nd5 => ⟨e5, f5, he5, nd5, fm4.trans fm5, kp4.trans kp5, hf⟩⟩
            · rename_i e5 eb
              cases hf
              exact ⟨e4, f4, he4, nd4, _, eb, fun σ5 H5 g5 fm5 kp5 he5 nd5 => k4 σ5 H5 g5 fm5 kp5.tail he5 nd5⟩
            · rename_i d5 e5 eb
              cases hf
              exact ⟨e4, f4, he4, nd4, _, eb, fun v5 σ5 H5 g5 g6 fm5 kp5 r5 he5 nd5 => k4 v5 σ5 H5 g5 g6 fm5 kp5.tail r5 he5 nd5⟩
            · rename_i x5 e5 eb
              cases hf
              exact ⟨e4, f4, he4, nd4, _, eb, fun dx5 σ5 H5 g5 fm5 kp5 xr5 he5 nd5 => k4 dx5 σ5 H5 g5 fm5 kp5.tail xr5 he5 nd5⟩
          · cases hf
      · cases hf
  · rename_i d0 hd el
    split at eo
    · cases eo
    rename_i l el2
    obtain ⟨v, g0, ev, rv, _⟩ := mV_slot he el
    cases d0 with
    | tup l1 =>
      unfold itemsD at el2
      dsimp only at el2
      split at el2
      · rename_i hp
        cases el2
        obtain ⟨a, vs, rfl, q, rs⟩ := rv
        exact .inr (.inl ⟨_, ev, a, rfl, ⟨vs, SqT.of q⟩, done (wk_tup (c := cx X ξ) q (rs.toP hp) he.own) eo⟩)
      · cases el2
    | fz l1 =>
      unfold itemsD at el2
      dsimp only at el2
      split at el2
      · rename_i hp
        cases el2
        obtain ⟨a, vs, rfl, q, rs, rfl⟩ := rv
        have z := rs.toP hp
        refine .inl ⟨_, ev, a, rfl, ⟨vs, q.sq⟩, done (J := Itl X.K a) ?_ eo⟩
        exact { go := fun i H1 hi b => ⟨vs, vs[i]'(by rw [z.length]; exact hi), (q.but b he.own).sq, List.getElem?_eq_getElem _⟩
                yld := fun i H1 x H2 hi b ⟨e1, e2⟩ => by
                  subst e1
                  have e := e2 vs (q.but b he.own).sq
                  obtain ⟨d, g', ed, rd, s⟩ := z.getV e
                  have z' := List.eq_nil_of_sublist_nil s
                  subst z'
                  exact ⟨d, ed, Same.refl _, rd.but b he.own fun b hb => by cases hb⟩
                stop := fun H1 b => ⟨vs, (q.but b he.own).sq, by rw [z.length]; exact Nat.le_refl _⟩ }
      · cases el2
    | lst l1 => exact (hd l1 rfl).elim
    | str x =>
      cases el2
      obtain ⟨rfl, _⟩ := rv
      exact .inr (.inr ⟨_, ev, x, rfl, done wk_str eo⟩)
    | _ => cases el2
end
end DL
set_option maxHeartbeats 2000000
/-! DL7: list comprehensions over data. -/
namespace DL
open PySem PySem.Spec PyProof.Rows L2
open LamX (Tabs TabS CodeO)

section
variable {c : Cf} {W : WX} {κ : List Nat} {X : Cx} {ξ : Xi} {pos : Pos} {H : Hp}

/-- a slot that a block may take for its own: nothing in it, or something that may be copied -/
def okSlot (e : Env) (i : Nat) : Bool := match e[i]? with
  | some .gone => true
  | some d => d.pers
  | none => true
def wipeE : List Nat → Env → Option Env
  | [], e => some e
  | i :: vs, e => match wipeE vs e with
    | none => none
    | some e' => if okSlot e' i = true then some (e'.set i .gone) else none
/-- the block's own names as they were -/
def restE (e0 : Env) : List Nat → Env → Env
  | [], e => e
  | i :: vs, e => restE e0 vs (match e0[i]? with
    | some d => e.set i d
    | none => e)
theorem EnvR.setGone {e : Env} {σ : L2.St} {f : List Addr} {i : Nat} (h : EnvR c H e σ f) (k : okSlot e i = true) : EnvR c H (e.set i .gone) (σ.set i none) f := by
  induction e generalizing σ f i with
  | nil =>
    obtain ⟨rfl, rfl, tb⟩ := h
    exact ⟨rfl, rfl, tb⟩
  | cons d ds ih =>
    obtain ⟨o, σ', f1, f2, rfl, s, t, rfl⟩ := h
    cases i with
    | zero =>
      have e1 : f1 = [] := by
        rcases s with ⟨_, z⟩ | ⟨v, _, r⟩
        · exact z
        · cases d with
          | gone => exact r
          | _ => exact r.pers k
      subst e1
      exact ⟨none, σ', [], f2, rfl, .inl ⟨rfl, rfl⟩, t, rfl⟩
    | succ i => exact ⟨o, σ'.set i none, f1, f2, rfl, s, ih t k, rfl⟩
theorem wipeE_ok : ∀ {vs : List Nat} {e e' : Env} {σ : L2.St} {f : List Addr}, EnvR c H e σ f → wipeE vs e = some e' → EnvR c H e' (wipe σ vs) f
  | [], e, e', σ, f, h, k => by cases k; exact h
  | i :: vs, e, e', σ, f, h, k => by
    unfold wipeE at k
    split at k
    · cases k
    · rename_i e1 e2
      split at k
      · rename_i ho
        cases k
        exact (wipeE_ok h e2).setGone ho
      · cases k
/-- what the block's names held stands where it stood -/
def Held (c : Cf) (H : Hp) (e0 : Env) (σ : L2.St) (vs : List Nat) : Prop := ∀ i ∈ vs, ∀ d, e0[i]? = some d → okSlot e0 i = true ∧ ∃ o, σ[i]? = some o ∧ Slot c H d o []
theorem Held.but {O : List Addr} {H' : Hp} {e0 : Env} {σ : L2.St} {vs : List Nat} (k : But O H H') (ho : ∀ b ∈ O, Own1 H b) (h : Held c H e0 σ vs) : Held c H' e0 σ vs := fun i hi d e => by
  obtain ⟨p, o, eo, s⟩ := h i hi d e
  exact ⟨p, o, eo, s.but k ho fun b hb => by cases hb⟩
theorem wipeE_get : ∀ {vs : List Nat} {e e' : Env}, wipeE vs e = some e' → e'.length = e.length ∧ ∀ i, (i ∉ vs → e'[i]? = e[i]?) ∧ (i ∈ vs → okSlot e i = true ∧ (i < e.length → e'[i]? = some .gone))
  | [], e, e', k => by cases k; exact ⟨rfl, fun i => ⟨fun _ => rfl, fun h => by cases h⟩⟩
  | j :: vs, e, e', k => by
    unfold wipeE at k
    split at k
    · cases k
    · rename_i e1 e2
      split at k
      · rename_i ho
        cases k
        obtain ⟨l, q⟩ := wipeE_get e2
        refine ⟨by simp [l], fun i => ⟨fun hi => ?_, fun hi => ?_⟩⟩
        · rw [List.getElem?_set_ne (by rintro rfl; exact hi List.mem_cons_self)]
          exact (q i).1 fun z => hi (List.mem_cons_of_mem _ z)
        · by_cases hj : i ∈ vs
          · obtain ⟨a, b⟩ := (q i).2 hj
            refine ⟨a, fun hl => ?_⟩
            by_cases hji : j = i
            · subst hji
              rw [List.getElem?_set_self (by rw [l]; exact hl)]
            · rw [List.getElem?_set_ne hji]
              exact b hl
          · have e3 : i = j := (List.mem_cons.mp hi).resolve_right hj
            subst e3
            refine ⟨?_, fun hl => by rw [List.getElem?_set_self (by rw [l]; exact hl)]⟩
            unfold okSlot at ho ⊢
            rw [(q i).1 hj] at ho
            exact ho
      · cases k
theorem held_of {vs : List Nat} {e e' : Env} {σ : L2.St} {f : List Addr} (h : EnvR c H e σ f) (k : wipeE vs e = some e') : Held c H e σ vs := fun i hi d ed => by
  obtain ⟨o, g, eo, s, _⟩ := h.get ed
  have z := ((wipeE_get k).2 i).2 hi
  refine ⟨z.1, o, eo, ?_⟩
  rcases s with ⟨e1, e2⟩ | ⟨v, rfl, r⟩
  · exact .inl ⟨e1, rfl⟩
  · cases d with
    | gone => exact .inl ⟨rfl, rfl⟩
    | _ =>
      have hp := z.1
      unfold okSlot at hp
      rw [ed] at hp
      have e3 := r.pers hp
      subst e3
      exact .inr ⟨v, rfl, r⟩
theorem restE_ok : ∀ {vs : List Nat} {e0 e : Env} {σ τ : L2.St} {f : List Addr}, EnvR c H e τ f → e.length = e0.length → Held c H e0 σ vs → (∀ i ∈ vs, i < e.length → okSlot e i = true) → (∀ i, i ∉ vs → τ[i]? = σ[i]?) → τ.length = σ.length → EnvR c H (restE e0 vs e) σ f
  | [], e0, e, σ, τ, f, h, hl, hh, ho, hs, hz => by
    have z : τ = σ := List.ext_getElem? fun i => hs i (by simp)
    subst z
    exact h
  | i :: vs, e0, e, σ, τ, f, h, hl, hh, ho, hs, hz => by
    unfold restE
    split
    · rename_i d ed
      obtain ⟨pd, o, eo, s⟩ := hh i List.mem_cons_self d ed
      have hi0 : i < e0.length := (List.getElem?_eq_some_iff.mp ed).1
      have hi : i < e.length := by rw [hl]; exact hi0
      have h1 := h.setGone (ho i List.mem_cons_self hi)
      obtain ⟨f', q, p⟩ := h1.put (i := i) (o := o) (by rw [List.getElem?_set_self hi]) s
      rw [List.set_set, List.set_set] at q
      have ef : f' = f ∨ True := .inr trivial
      -- the footprint is the same list: put of an empty one
      have q2 : EnvR c H (e.set i d) (τ.set i o) f := by
        clear q p ef
        have gen : ∀ {e : Env} {τ : L2.St} {f : List Addr} {i : Nat}, EnvR c H e τ f → okSlot e i = true → EnvR c H (e.set i d) (τ.set i o) f := by
          intro e
          induction e with
          | nil => intro τ f i h _; obtain ⟨rfl, rfl, tb⟩ := h; exact ⟨rfl, rfl, tb⟩
          | cons d1 ds ih =>
            intro τ f i h k
            obtain ⟨o1, τ', f1, f2, rfl, s1, t1, rfl⟩ := h
            cases i with
            | zero =>
              have e1 : f1 = [] := by
                rcases s1 with ⟨_, z⟩ | ⟨v, _, r⟩
                · exact z
                · cases d1 with
                  | gone => exact r
                  | _ => exact r.pers k
              subst e1
              exact ⟨o, τ', [], f2, rfl, s, t1, rfl⟩
            | succ i => exact ⟨o1, τ'.set i o, f1, f2, rfl, s1, ih t1 k, rfl⟩
        exact gen h (ho i List.mem_cons_self hi)
      refine restE_ok q2 (by simp [hl]) (fun j hj => hh j (List.mem_cons_of_mem _ hj)) (fun j hj hjl => ?_) (fun j hj => ?_) (by simp [hz])
      · by_cases e3 : i = j
        · subst e3
          unfold okSlot
          rw [List.getElem?_set_self hi]
          unfold okSlot at pd
          rw [ed] at pd
          exact pd
        · unfold okSlot
          rw [List.getElem?_set_ne e3]
          exact ho j (List.mem_cons_of_mem _ hj) (by simpa using hjl)
      · by_cases e3 : i = j
        · subst e3
          rw [List.getElem?_set_self (by rw [h.length]; exact hi), eo]
        · rw [List.getElem?_set_ne e3]
          exact hs j fun z => (List.mem_cons.mp z).elim (fun z => e3 z.symm) hj
    · rename_i ed
      refine restE_ok h hl (fun j hj => hh j (List.mem_cons_of_mem _ hj)) (fun j hj => ho j (List.mem_cons_of_mem _ hj)) (fun j hj => ?_) hz
      by_cases e3 : j = i
      · subst e3
        have l1 : e0.length ≤ j := List.getElem?_eq_none_iff.mp ed
        rw [List.getElem?_eq_none (by rw [h.length, hl]; exact l1), List.getElem?_eq_none (by rw [← hz, h.length, hl]; exact l1)]
      · exact hs j fun z => (List.mem_cons.mp z).elim e3 hj

theorem wipe_in {σ : L2.St} {i : Nat} : ∀ {vs : List Nat}, i ∈ vs → i < σ.length → (wipe σ vs)[i]? = some none
  | v :: vs, hi, hl => by
    unfold wipe
    by_cases e : v = i
    · subst e
      rw [List.getElem?_set_self (by rw [wipe_length]; exact hl)]
    · rw [List.getElem?_set_ne e]
      exact wipe_in ((List.mem_cons.mp hi).resolve_left fun z => e z.symm) hl
theorem wipe_eq {σ τ : L2.St} {vs : List Nat} (hl : τ.length = σ.length) (h : ∀ i, i ∉ vs → τ[i]? = (wipe σ vs)[i]?) : wipe τ vs = wipe σ vs := by
  apply List.ext_getElem?
  intro i
  by_cases hi : i ∈ vs
  · by_cases hn : i < σ.length
    · rw [wipe_in hi hn, wipe_in hi (by rw [hl]; exact hn)]
    · rw [List.getElem?_eq_none (by rw [wipe_length, hl]; omega), List.getElem?_eq_none (by rw [wipe_length]; omega)]
  · rw [wipe_out hi]
    exact h i hi
/-- one turn of a comprehension: what it adds -/
def lcTurn (gm : D → Env → Option Env) (tt : M Bool) (te : M D) (vs : List Nat) (x : D) (e : Env) : Option (Option D × Env) := match gm x e with
  | none => none
  | some e1 => match tt e1 with
    | some (.ok false e2) => match wipeE vs e2 with
      | none => none
      | some e3 => some (none, e3)
    | some (.ok true e2) => match te e2 with
      | some (.ok y e3) => match wipeE vs e3 with
        | none => none
        | some e4 => some (some y, e4)
      | _ => none
    | _ => none
def lcL (gm : D → Env → Option Env) (tt : M Bool) (te : M D) (vs : List Nat) : List D → List D → Env → Option (List D × Env)
  | [], acc, e => some (acc, e)
  | x :: xs, acc, e => if x.pers = true then match lcTurn gm tt te vs x e with
      | none => none
      | some (none, e') => lcL gm tt te vs xs acc e'
      | some (some y, e') => if acc.length < LIM then lcL gm tt te vs xs (acc ++ [y]) e' else none
    else none
/-- within the block -/
structure LcInv (c : Cf) (σ : L2.St) (vs : List Nat) (L : Addr) (f : List Addr) (H1 H2 : Hp) (e : Env) (acc : List D) : Prop where
  ex : ∃ av ga g, H2 L = some (.lst av) ∧ Reps c H2 acc av ga ∧ EnvR c H2 e (wipe σ vs) g ∧ (ga ++ g).Nodup ∧ L ∉ ga ++ g ∧ Frm f (ga ++ g) H1 H2
  gone : ∀ i ∈ vs, okSlot e i = true
theorem lc_turn {gm : D → Env → Option Env} {tt : M Bool} {te : M D} {vs ts : List Nat} {σ : L2.St} {L : Addr} {f : List Addr} {H1 H2 H3 : Hp} {e e' : Env} {acc : List D} {d : D} {x : V} {oy : Option D} {g : TG} {Nx : Hp → Prop} (W0 : WX)
    (hn1 : H1 L = none) (ht : TgS c ts g gm) (hts : ∀ i ∈ ts, i ∈ vs) (iv : LcInv c σ vs L f H1 H2 e acc) (s3 : Same H2 H3) (rd : Rep c H3 d x []) (et : lcTurn gm tt te vs d e = some (oy, e')) (hz : oy ≠ none → acc.length < LIM)
    (hN : ∀ H', LcInv c σ vs L f H1 H' e' (acc ++ oy.toList) → Nx H') :
    g x (wipe σ vs) H3 fun σ2 H4 => wipe σ2 vs = wipe σ vs ∧ tT c W0 tt σ2 H4 fun b H5 => if b = true then tE c W0 te σ2 H5 fun y H6 => ∃ acc, H6 L = some (.lst acc) ∧ acc.length < sizeLine ∧ Nx (upd H6 L (.lst (acc ++ [y]))) else Nx H5 := by
  obtain ⟨av, ga, g0, hL, ra, he, nd, nL, fm⟩ := iv.ex
  unfold lcTurn at et
  split at et
  · cases et
  rename_i e1 eg
  have nd0 := (List.nodup_append.mp nd).2.1
  refine ht x d e e1 (wipe σ vs) g0 H3 _ rd (he.same s3) nd0 eg fun σ2 f2 ch he2 nd2 sub2 => ?_
  have hw : wipe σ2 vs = wipe σ vs := wipe_eq (ch.1.trans (wipe_length _ _)) fun i hi => ch.2 i fun z => hi (hts i z)
  refine ⟨hw, e1, f2, he2, nd2, ?_⟩
  have ndA : (ga ++ f2).Nodup := List.nodup_append.mpr ⟨(List.nodup_append.mp nd).1, nd2, fun a ha b hb => (List.nodup_append.mp nd).2.2 a ha b (sub2 b hb)⟩
  have fm3 : Frm f (ga ++ f2) H1 H3 := (fm.trans (Frm.same s3)).sub fun b hb => by
    rcases List.mem_append.mp hb with hb | hb
    · exact List.mem_append_left _ hb
    · exact List.mem_append_right _ (sub2 b hb)
  have nL3 : L ∉ ga ++ f2 := fun hb => nL (by
    rcases List.mem_append.mp hb with hb | hb
    · exact List.mem_append_left _ hb
    · exact List.mem_append_right _ (sub2 L hb))
  have hL3 := s3 L _ hL
  have ra3 := ra.same s3
  -- what stands beside the block's own footprint
  have side : ∀ {H4 : Hp} {g4 : List Addr}, Frm f2 g4 H3 H4 → g4.Nodup → H4 L = some (.lst av) ∧ Reps c H4 acc av ga ∧ (ga ++ g4).Nodup ∧ L ∉ ga ++ g4 ∧ Frm f (ga ++ g4) H1 H4 := by
    intro H4 g4 fm4 nd4
    obtain ⟨_, fr, _, nd5⟩ := frame (c := c) (P := True) ndA ra3.own he2.own fm4 nd4
    refine ⟨fm4.keep L _ hL3 (fun z => nL3 (List.mem_append_right _ z)) noT_lst, fr ra3, nd5, fun hb => ?_, fm3.trans (fm4.left ga)⟩
    rcases List.mem_append.mp hb with hb | hb
    · exact nL3 (List.mem_append_left _ hb)
    · rcases fm4.foot L hb with z | z
      · exact nL3 (List.mem_append_right _ z)
      · exact z.not hL3 noT_lst
  split at et
  · rename_i e2 eb
    split at et
    · cases et
    rename_i e3 ew
    cases et
    refine ⟨_, eb, fun H5 g5 fm5 he5 nd5 => iteF (hN H5 ?_)⟩
    obtain ⟨a1, a2, a3, a4, a5⟩ := side fm5 nd5
    refine ⟨⟨av, ga, g5, a1, by simpa using a2, ?_, a3, a4, a5⟩, fun i hi => ?_⟩
    · rw [← hw]
      exact wipeE_ok he5 ew
    · obtain ⟨l, q⟩ := wipeE_get ew
      unfold okSlot
      by_cases hl : i < e2.length
      · rw [((q i).2 hi).2 hl]
      · rw [List.getElem?_eq_none (by rw [l]; omega)]
  · rename_i e2 eb
    split at et
    · rename_i y e3 ey
      split at et
      · cases et
      rename_i e4 ew
      cases et
      refine ⟨_, eb, fun H5 g5 fm5 he5 nd5 => iteT ⟨e2, g5, he5, nd5, _, ey, fun v H6 g6 g7 fm6 ry he6 nd6 => ?_⟩⟩
      obtain ⟨a1, a2, a3, a4, a5⟩ := side (fm5.trans fm6) nd6
      refine ⟨av, a1, by rw [a2.length]; exact limlt (hz (by simp)), hN _ ?_⟩
      have bL : But [L] H6 (upd H6 L (.lst (av ++ [v]))) := ⟨fun b o e n _ => by
        rw [upd_ne (fun z => n (by simp [z]))]
        exact e, tabs_upd ⟨_, a1⟩⟩
      have oL : ∀ b ∈ [L], Own1 H6 b := fun b hb => by
        have e : b = L := by simpa using hb
        rw [e]
        exact ⟨_, a1⟩
      have nm : ∀ {l : List Addr}, L ∉ l → ∀ b ∈ l, b ∉ [L] := fun {l} h b hb hc => by
        have e : b = L := by simpa using hc
        rw [e] at hb
        exact h hb
      have n1 : L ∉ ga := fun z => a4 (List.mem_append_left _ z)
      have n2 : L ∉ g6 := fun z => a4 (List.mem_append_right _ (List.mem_append_left _ z))
      have n3 : L ∉ g7 := fun z => a4 (List.mem_append_right _ (List.mem_append_right _ z))
      refine ⟨⟨av ++ [v], ga ++ g6, g7, upd_same, ?_, ?_, ?_, ?_, ?_⟩, fun i hi => ?_⟩
      · exact (a2.but bL oL (nm n1)).append ⟨v, [], g6, [], rfl, ry.but bL oL (nm n2), ⟨rfl, rfl⟩, by simp⟩
      · rw [← hw]
        exact wipeE_ok (he6.but bL oL (nm n3)) ew
      · rw [List.append_assoc]; exact a3
      · rw [List.append_assoc]; exact a4
      · refine ⟨fun b o e n t => ?_, fun T t => tabs_upd ⟨_, a1⟩ T (a5.tab T t), fun b hb => a5.foot b (by rw [← List.append_assoc]; exact hb)⟩
        have z := a5.keep b o e n t
        rw [upd_ne]
        · exact z
        · intro e2
          subst e2
          rw [a1] at z
          rw [hn1] at e
          cases e
      · obtain ⟨l, q⟩ := wipeE_get ew
        unfold okSlot
        by_cases hl : i < e3.length
        · rw [((q i).2 hi).2 hl]
        · rw [List.getElem?_eq_none (by rw [l]; omega)]
    · cases et
  · cases et

/-- [elt for tg in src if test] -/
def mLc (vs : List Nat) (src : M (List D)) (gm : D → Env → Option Env) (tt : M Bool) (te : M D) : M D := fun env => match src env with
  | none => none
  | some (.ex x e) => some (.ex x e)
  | some (.ok ds e) => match wipeE vs e with
    | none => none
    | some e0 => match lcL gm tt te vs ds [] e0 with
      | none => none
      | some (acc, e1) => some (.ok (.lst acc) (restE e vs e1))
theorem lc_start {vs : List Nat} {σ : L2.St} {L : Addr} {f : List Addr} {H1 : Hp} {e e0 : Env} (he : EnvR c H1 e σ f) (nd : f.Nodup) (hL : H1 L = none) (ew : wipeE vs e = some e0) : LcInv c σ vs L f H1 (upd H1 L (.lst [])) e0 [] where
  ex := ⟨[], [], f, upd_same, ⟨rfl, rfl⟩, (wipeE_ok he ew).same (Same.new hL), by simpa using nd, fun hb => fresh_own hL he.own (by simpa using hb), Frm.same (Same.new hL)⟩
  gone := fun i hi => by
    obtain ⟨l, q⟩ := wipeE_get ew
    unfold okSlot
    by_cases hl : i < e.length
    · rw [((q i).2 hi).2 hl]
    · rw [List.getElem?_eq_none (by rw [l]; omega)]
theorem lc_end {vs : List Nat} {σ : L2.St} {L : Addr} {f : List Addr} {H1 H2 : Hp} {e e0 e1 : Env} {acc : List D} (he : EnvR c H1 e σ f) (ew : wipeE vs e = some e0) (hn : H1 L = none) (iv : LcInv c σ vs L f H1 H2 e1 acc) :
    ∃ g1 g2, Frm f (g1 ++ g2) H1 H2 ∧ Rep c H2 (.lst acc) (.ref L) g1 ∧ EnvR c H2 (restE e vs e1) σ g2 ∧ (g1 ++ g2).Nodup := by
  obtain ⟨av, ga, g, hL, ra, he1, nd, nL, fm⟩ := iv.ex
  refine ⟨L :: ga, g, ⟨fm.keep, fm.tab, fun b hb => ?_⟩, ⟨L, av, ga, rfl, hL, ra, rfl⟩, ?_, List.nodup_cons.mpr ⟨nL, nd⟩⟩
  · rcases List.mem_cons.mp (show b ∈ L :: (ga ++ g) from hb) with rfl | hb
    · exact .inr (Free.none hn)
    · exact fm.foot b hb
  · refine restE_ok he1 ?_ ((held_of he ew).but fm.but he.own) (fun i hi _ => iv.gone i hi) (fun i hi => wipe_out hi) (wipe_length _ _)
    have a := he1.length
    rw [wipe_length, he.length] at a
    exact a.symm
theorem lc_tail {vs ts : List Nat} {g : TG} {gm : D → Env → Option Env} {tt : M Bool} {te : M D} {W0 : WX} (ht : TgS c ts g gm) (hts : ∀ i ∈ ts, i ∈ vs) {σ : L2.St} {H1 : Hp} {Q : VK} {J : It} {ds : List D} {e e0 e1 : Env} {acc : List D} {f1 : List Addr}
    (he1 : EnvR c H1 e σ f1) (nd1 : f1.Nodup) (wk : Wk c J H1 f1 ds) (ew : wipeE vs e = some e0) (el : lcL gm tt te vs ds [] e0 = some (acc, e1)) (k : PostE c W σ H1 f1 Q (.ok (.lst acc) (restE e vs e1))) :
    ∀ L, H1 L = none → ∃ Wv : Nat → Nat → Hp → Prop, (∃ m, Wv 0 m (upd H1 L (.lst []))) ∧ ∀ i m H, Wv i m H → (J.stop i H ∧ Q (.ref L) H) ∨ (J.go i H ∧ ∃ Nx : Hp → Prop, (∀ H', Nx H' → ∃ m', m' < m ∧ Wv (i + 1) m' H') ∧ ∀ x H', J.yld i H x H' → g x (wipe σ vs) H' fun σ2 H2 => wipe σ2 vs = wipe σ vs ∧ tT c W0 tt σ2 H2 fun b H3 =>
        if b = true then tE c W0 te σ2 H3 fun y H4 => ∃ acc, H4 L = some (.lst acc) ∧ acc.length < sizeLine ∧ Nx (upd H4 L (.lst (acc ++ [y]))) else Nx H3) := by
  intro L hL
  refine ⟨fun i mm H2 => mm = ds.length - i ∧ i ≤ ds.length ∧ ∃ e2 acc2, LcInv c σ vs L f1 H1 H2 e2 acc2 ∧ lcL gm tt te vs (ds.drop i) acc2 e2 = some (acc, e1), ⟨ds.length, rfl, Nat.zero_le _, e0, [], lc_start he1 nd1 hL ew, el⟩, ?_⟩
  rintro i mm H2 ⟨rfl, hi, e2, acc2, iv, hf⟩
  obtain ⟨av, ga, g2, hL2, ra2, he2, nd2, nL2, fm2⟩ := id iv.ex
  by_cases hlt : i < ds.length
  · refine .inr ⟨wk.go i H2 hlt fm2.but, fun H' => ∃ e2 acc2, LcInv c σ vs L f1 H1 H' e2 acc2 ∧ lcL gm tt te vs (ds.drop (i + 1)) acc2 e2 = some (acc, e1), fun H' q => ⟨ds.length - (i + 1), by omega, rfl, hlt, q⟩, fun x H3 y => ?_⟩
    obtain ⟨d, ed, s3, rd⟩ := wk.yld i H2 x H3 hlt fm2.but y
    have edr : ds.drop i = d :: ds.drop (i + 1) := by
      rw [List.drop_eq_getElem_cons hlt]
      congr 1
      rw [List.getElem?_eq_getElem hlt] at ed
      exact Option.some.inj ed
    rw [edr] at hf
    unfold lcL at hf
    split at hf
    · split at hf
      · cases hf
      · rename_i e3 et
        exact lc_turn W0 hL ht hts iv s3 rd et (fun z => (z rfl).elim) fun H' iv' => ⟨e3, acc2, by simpa using iv', hf⟩
      · rename_i y3 e3 et
        split at hf
        · rename_i hz
          exact lc_turn W0 hL ht hts iv s3 rd et (fun _ => hz) fun H' iv' => ⟨e3, acc2 ++ [y3], by simpa using iv', hf⟩
        · cases hf
    · cases hf
  · have e5 : i = ds.length := by omega
    subst e5
    rw [List.drop_length] at hf
    cases hf
    obtain ⟨g5, g6, fm5, r5, he5, nd5⟩ := lc_end he1 ew hL iv
    exact .inl ⟨wk.stop H2 fm2.but, k (.ref L) H2 g5 g6 fm5 r5 he5 nd5⟩
theorem tE_lc {vs ts : List Nat} {src : M (List D)} {g : TG} {gm : D → Env → Option Env} {tt : M Bool} {te : M D} {W0 : WX} (ht : TgS c ts g gm) (hts : ∀ i ∈ ts, i ∈ vs) {σ : L2.St} {H : Hp} {Q : VK} (h : tE c W (mLc vs src gm tt te) σ H Q) : tLc (tI c W src) g (tT c W0 tt) (tE c W0 te) vs σ H Q := by
  obtain ⟨env, f, he, nd, r, er, k⟩ := h
  unfold mLc at er
  split at er
  · cases er
  · rename_i x e em
    cases er
    exact ⟨env, f, he, nd, _, em, k⟩
  · rename_i ds e em
    split at er
    · cases er
    rename_i e0 ew
    split at er
    · cases er
    rename_i acc e1 el
    cases er
    exact ⟨env, f, he, nd, _, em, fun J H1 f1 fm1 he1 nd1 wk => lc_tail ht hts he1 nd1 wk ew el (k.later fm1)⟩
abbrev W00 : WX := fun _ _ _ _ => False
theorem e_lc {elt tg iter : Expr} {ifs : List Expr} {scope : Scope} {own : List (Str × Nat)} {src : M (List D)} {ts : List Nat} {g : TG} {gm : D → Env → Option Env} {tt : M Bool} {te : M D} (hc : X.calm = true) (hN : X.N.Nodup) (hi : DI X ξ W tg iter src) (ok : BlkOk X.N X.env.scope scope own)
    (hts : ∀ i ∈ ts, i ∈ own.map (·.2)) (hg : ∀ (s : Shared) (H : Hp) (C : Addr) (cl : List (Str × Addr)) (fp : List Addr), TgD (X.blk s H scope (compEnvC scope cl C X.env) fp) ξ ts tg g gm)
    (ht : ∀ (s : Shared) (H : Hp) (C : Addr) (cl : List (Str × Addr)) (fp : List Addr), PTs (X.blk s H scope (compEnvC scope cl C X.env) fp) ifs (tT (cx X ξ) W00 tt))
    (he : ∀ (s : Shared) (H : Hp) (C : Addr) (cl : List (Str × Addr)) (fp : List Addr), DE (X.blk s H scope (compEnvC scope cl C X.env) fp) ξ W00 elt te) (hs : ∀ x, foldedSetIterable iter X.env x = pure x := by intro _; rfl) :
    DE X ξ W (.ListComp elt [⟨tg, iter, ifs, 0⟩] scope pos) (mLc (own.map (·.2)) src gm tt te) :=
  (pe_lc (te := tE (cx X ξ) W00 te) hc hN hi ok (fun s H C cl fp => (hg s H C cl fp).pg) ht he hs).imp fun σ H Q h => tE_lc (c := cx X ξ) (hg X.s_0 H 0 [] []).sd hts h
/-- no tests -/
def mYes : M Bool := M.pure true
theorem ts_nil : PTs X [] (tT c W mYes) := ⟨fun pins s σ H Q I ⟨env, f, he, nd, r, er, k⟩ => by
  cases er
  exact pts_nil.run pins s σ H Q I (k H f Frm.refl he nd)⟩
theorem ts_one {e : Expr} {m : M Bool} (h : DT X ξ W e m) : PTs X [e] (tT (cx X ξ) W m) := pts_one h
/-- y = [..] on one line -/
theorem s_setLc {i : Nat} {y : Str} {py spos : Pos} {elt tg iter : Expr} {ifs : List Expr} {scope : Scope} {own : List (Str × Nat)} {src : M (List D)} {ts : List Nat} {g : TG} {gm : D → Env → Option Env} {tt : M Bool} {te : M D} (hκ : i ∉ κ) (hc : X.calm = true) (hN : X.N.Nodup)
    (hi : DI X ξ W tg iter src) (ok : BlkOk X.N X.env.scope scope own)
    (hts : ∀ i ∈ ts, i ∈ own.map (·.2)) (hg : ∀ (s : Shared) (H : Hp) (C : Addr) (cl : List (Str × Addr)) (fp : List Addr), TgD (X.blk s H scope (compEnvC scope cl C X.env) fp) ξ ts tg g gm)
    (ht : ∀ (s : Shared) (H : Hp) (C : Addr) (cl : List (Str × Addr)) (fp : List Addr), PTs (X.blk s H scope (compEnvC scope cl C X.env) fp) ifs (tT (cx X ξ) W00 tt))
    (he : ∀ (s : Shared) (H : Hp) (C : Addr) (cl : List (Str × Addr)) (fp : List Addr), DE (X.blk s H scope (compEnvC scope cl C X.env) fp) ξ W00 elt te)
    (hy : X.N[i]? = some y := by rfl) (hyl : X.env.scope.names.lookup y = some .local := by rfl) (hsw : swapsWith (.ListComp elt [⟨tg, iter, ifs, 0⟩] scope pos) (some (.Name y py)) spos.line X.env = pure true := by exact sw_true rfl rfl rfl (by decide +kernel)) (hs : ∀ x, foldedSetIterable iter X.env x = pure x := by intro _; rfl) :
    DS X ξ W κ (.Assign [.Name y py] (.ListComp elt [⟨tg, iter, ifs, 0⟩] scope pos) spos) (mSet i (mLc (own.map (·.2)) src gm tt te)) :=
  (ps_setLc (te := tE (cx X ξ) W00 te) hc hN hy hyl hsw hi ok (fun s H C cl fp => (hg s H C cl fp).pg) ht he hs).imp fun D' σ H h => by
    have z := tS_set (c := cx X ξ) (σ := σ) (H := H) hκ h
    exact tE_lc (c := cx X ξ) (hg X.s_0 H 0 [] []).sd hts z

/-! ### over a list that a name holds -/
def lcVN (gm : D → Env → Option Env) (tt : M Bool) (te : M D) (vs : List Nat) (i : Nat) : Nat → Nat → List D → Env → Option (List D × Env)
  | 0, _, _, _ => none
  | n + 1, j, acc, e => match mV i e with
    | some (.lst l) => match l[j]? with
      | none => some (acc, e)
      | some x => if x.pers = true then match lcTurn gm tt te vs x e with
          | none => none
          | some (none, e') => lcVN gm tt te vs i n (j + 1) acc e'
          | some (some y, e') => if acc.length < LIM then lcVN gm tt te vs i n (j + 1) (acc ++ [y]) e' else none
        else none
    | _ => none
theorem lcVN_mono {gm : D → Env → Option Env} {tt : M Bool} {te : M D} {vs : List Nat} {i : Nat} : ∀ {n j : Nat} {acc : List D} {e : Env} {o : List D × Env}, lcVN gm tt te vs i n j acc e = some o → lcVN gm tt te vs i (n + 1) j acc e = some o
  | 0, j, acc, e, o, h => by cases h
  | n + 1, j, acc, e, o, h => by
    have ih : ∀ {j : Nat} {acc : List D} {e : Env} {o : List D × Env}, lcVN gm tt te vs i n j acc e = some o → lcVN gm tt te vs i (n + 1) j acc e = some o := fun h => lcVN_mono h
    unfold lcVN at h ⊢
    split at h
    · split at h
      · exact h
      · split at h
        · first | rw [if_pos (by assumption)] | skip
          split at h
          · cases h
          · exact ih h
          · split at h
            · first | rw [if_pos (by assumption)] | skip
              exact ih h
            · cases h
        · cases h
    · cases h
theorem lcVN_le {gm : D → Env → Option Env} {tt : M Bool} {te : M D} {vs : List Nat} {i n m j : Nat} {acc : List D} {e : Env} {o : List D × Env} (h : lcVN gm tt te vs i n j acc e = some o) (hm : n ≤ m) : lcVN gm tt te vs i m j acc e = some o := by
  induction hm with
  | refl => exact h
  | step _ ih => exact lcVN_mono ih
theorem lcVN_det {gm : D → Env → Option Env} {tt : M Bool} {te : M D} {vs : List Nat} {i n m j : Nat} {acc : List D} {e : Env} {o o' : List D × Env} (h : lcVN gm tt te vs i n j acc e = some o) (h' : lcVN gm tt te vs i m j acc e = some o') : o = o' := by
  have a := lcVN_le h (Nat.le_max_left n m)
  have b := lcVN_le h' (Nat.le_max_right n m)
  rw [a] at b
  exact Option.some.inj b
open Classical in
noncomputable def lcVL (gm : D → Env → Option Env) (tt : M Bool) (te : M D) (vs : List Nat) (i j : Nat) (acc : List D) (e : Env) : Option (List D × Env) := if h : ∃ o, ∃ n, lcVN gm tt te vs i n j acc e = some o then some h.choose else none
theorem lcVL_of {gm : D → Env → Option Env} {tt : M Bool} {te : M D} {vs : List Nat} {i n j : Nat} {acc : List D} {e : Env} {o : List D × Env} (h : lcVN gm tt te vs i n j acc e = some o) : lcVL gm tt te vs i j acc e = some o := by
  have z : ∃ o, ∃ n, lcVN gm tt te vs i n j acc e = some o := ⟨o, n, h⟩
  unfold lcVL
  rw [dif_pos z]
  obtain ⟨m, hm⟩ := z.choose_spec
  rw [lcVN_det hm h]
theorem lcVL_some {gm : D → Env → Option Env} {tt : M Bool} {te : M D} {vs : List Nat} {i j : Nat} {acc : List D} {e : Env} {o : List D × Env} (h : lcVL gm tt te vs i j acc e = some o) : ∃ n, lcVN gm tt te vs i n j acc e = some o := by
  unfold lcVL at h
  split at h
  · rename_i z
    cases h
    exact z.choose_spec
  · cases h
noncomputable def mLcV (vs : List Nat) (i : Nat) (gm : D → Env → Option Env) (tt : M Bool) (te : M D) : M D := fun env => match mV i env with
  | none => none
  | some (.lst _) => match wipeE vs env with
    | none => none
    | some e0 => match lcVL gm tt te vs i 0 [] e0 with
      | none => none
      | some (acc, e1) => some (.ok (.lst acc) (restE env vs e1))
  | some d => match itemsD d with
    | none => none
    | some ds => match wipeE vs env with
      | none => none
      | some e0 => match lcL gm tt te vs ds [] e0 with
        | none => none
        | some (acc, e1) => some (.ok (.lst acc) (restE env vs e1))
theorem tE_lcV {vs ts : List Nat} {i : Nat} {g : TG} {gm : D → Env → Option Env} {tt : M Bool} {te : M D} {W0 : WX} (hiv : i ∉ vs) (ht : TgS c ts g gm) (hts : ∀ i ∈ ts, i ∈ vs) {σ : L2.St} {H : Hp} {Q : VK} (h : tE c W (mLcV vs i gm tt te) σ H Q) :
    tLc (fun σ H R => iList c.K (tVar i) σ H R ∨ iTup c.K (tVar i) σ H R ∨ iStr (tVar i) σ H R) g (tT c W0 tt) (tE c W0 te) vs σ H Q := by
  obtain ⟨env, f, he, nd, r, er, k⟩ := h
  unfold mLcV at er
  split at er
  · cases er
  · rename_i l0 el
    split at er
    · cases er
    rename_i e0 ew
    split at er
    · cases er
    rename_i acc e1 elc
    cases er
    obtain ⟨v, g0, ev, ⟨a, vs0, gg, rfl, q0, _, _⟩, _⟩ := mV_slot he el
    obtain ⟨n, hn⟩ := lcVL_some elc
    refine .inl ⟨_, ev, a, rfl, ⟨vs0, SqL.of q0⟩, fun L hL => ?_⟩
    refine ⟨fun j mm H2 => ∃ e2 acc2, LcInv c σ vs L f H H2 e2 acc2 ∧ lcVN gm tt te vs i mm j acc2 e2 = some (acc, e1), ⟨n, e0, [], lc_start he nd hL ew, hn⟩, ?_⟩
    rintro j mm H2 ⟨e2, acc2, iv, hf⟩
    obtain ⟨av, ga, g2, hL2, ra2, he2, nd2, nL2, fm2⟩ := id iv.ex
    cases mm with
    | zero => cases hf
    | succ mm =>
      unfold lcVN at hf
      split at hf
      · rename_i l2 el2
        obtain ⟨v2, g3, ev2, ⟨a2, vs2, gg2, rfl, q2, r2, hg2⟩, sub2⟩ := mV_slot he2 el2
        rw [wipe_out hiv, ev] at ev2
        cases ev2
        split at hf
        · rename_i ej
          cases hf
          obtain ⟨g5, g6, fm5, r5, he5, nd5⟩ := lc_end he ew hL iv
          refine .inl ⟨⟨vs2, SqL.of q2, ?_⟩, k (.ref L) H2 g5 g6 fm5 r5 he5 nd5⟩
          rw [r2.length]
          exact List.getElem?_eq_none_iff.mp ej
        · rename_i d ej
          split at hf
          · rename_i hpd
            obtain ⟨x, g4, ex, rx, _⟩ := r2.get ej
            have z3 := rx.pers hpd
            subst z3
            refine .inr ⟨⟨vs2, x, SqL.of q2, ex⟩, fun H' => ∃ e2 acc2, LcInv c σ vs L f H H' e2 acc2 ∧ lcVN gm tt te vs i mm (j + 1) acc2 e2 = some (acc, e1), fun H' q => ⟨mm, Nat.lt_succ_self _, q⟩, fun x' H3 ⟨e3, y3⟩ => ?_⟩
            subst e3
            have ex' := y3 vs2 (SqL.of q2)
            rw [ex] at ex'
            cases ex'
            split at hf
            · cases hf
            · rename_i e3 et
              exact lc_turn W0 hL ht hts iv (Same.refl _) rx et (fun z => (z rfl).elim) fun H' iv' => ⟨e3, acc2, by simpa using iv', hf⟩
            · rename_i y3 e3 et
              split at hf
              · rename_i hz
                exact lc_turn W0 hL ht hts iv (Same.refl _) rx et (fun _ => hz) fun H' iv' => ⟨e3, acc2 ++ [y3], by simpa using iv', hf⟩
              · cases hf
          · cases hf
      · cases hf
  · rename_i d0 hd el
    obtain ⟨v, g0, ev, rv, _⟩ := mV_slot he el
    split at er
    · cases er
    rename_i ds eds
    split at er
    · cases er
    rename_i e0 ew
    split at er
    · cases er
    rename_i acc e1 elc
    cases er
    cases d0 with
    | tup l1 =>
      unfold itemsD at eds
      dsimp only at eds
      split at eds
      · rename_i hp
        cases eds
        obtain ⟨a, vs0, rfl, q, rs⟩ := rv
        exact .inr (.inl ⟨_, ev, a, rfl, ⟨vs0, SqT.of q⟩, lc_tail ht hts he nd (wk_tup q (rs.toP hp) he.own) ew elc k⟩)
      · cases eds
    | fz l1 =>
      unfold itemsD at eds
      dsimp only at eds
      split at eds
      · rename_i hp
        cases eds
        obtain ⟨a, vs0, rfl, q, rs, rfl⟩ := rv
        have z := rs.toP hp
        refine .inl ⟨_, ev, a, rfl, ⟨vs0, q.sq⟩, lc_tail (J := Itl c.K a) ht hts he nd ?_ ew elc k⟩
        exact { go := fun i H1 hi b => ⟨vs0, vs0[i]'(by rw [z.length]; exact hi), (q.but b he.own).sq, List.getElem?_eq_getElem _⟩
                yld := fun i H1 x H2 hi b ⟨e1, e2⟩ => by
                  subst e1
                  have e := e2 vs0 (q.but b he.own).sq
                  obtain ⟨d, g', ed, rd, s⟩ := z.getV e
                  have z' := List.eq_nil_of_sublist_nil s
                  subst z'
                  exact ⟨d, ed, Same.refl _, rd.but b he.own fun b hb => by cases hb⟩
                stop := fun H1 b => ⟨vs0, (q.but b he.own).sq, by rw [z.length]; exact Nat.le_refl _⟩ }
      · cases eds
    | lst l1 => exact (hd l1 rfl).elim
    | str x =>
      cases eds
      obtain ⟨rfl, _⟩ := rv
      exact .inr (.inr ⟨_, ev, x, rfl, lc_tail ht hts he nd wk_str ew elc k⟩)
    | _ => cases eds
theorem e_lcV {elt tg : Expr} {y : Str} {p : Pos} {i : Nat} {ifs : List Expr} {scope : Scope} {own : List (Str × Nat)} {ts : List Nat} {g : TG} {gm : D → Env → Option Env} {tt : M Bool} {te : M D} (hc : X.calm = true) (hN : X.N.Nodup) (hv : PE X (.Name y p) (tVar i)) (ok : BlkOk X.N X.env.scope scope own)
    (hiv : i ∉ own.map (·.2)) (hts : ∀ i ∈ ts, i ∈ own.map (·.2)) (hg : ∀ (s : Shared) (H : Hp) (C : Addr) (cl : List (Str × Addr)) (fp : List Addr), TgD (X.blk s H scope (compEnvC scope cl C X.env) fp) ξ ts tg g gm)
    (ht : ∀ (s : Shared) (H : Hp) (C : Addr) (cl : List (Str × Addr)) (fp : List Addr), PTs (X.blk s H scope (compEnvC scope cl C X.env) fp) ifs (tT (cx X ξ) W00 tt))
    (he : ∀ (s : Shared) (H : Hp) (C : Addr) (cl : List (Str × Addr)) (fp : List Addr), DE (X.blk s H scope (compEnvC scope cl C X.env) fp) ξ W00 elt te) (hs : ∀ x, foldedSetIterable (.Name y p) X.env x = pure x := by intro _; rfl) :
    DE X ξ W (.ListComp elt [⟨tg, .Name y p, ifs, 0⟩] scope pos) (mLcV (own.map (·.2)) i gm tt te) :=
  (pe_lc (te := tE (cx X ξ) W00 te) hc hN (PI.or (pi_list hv) (PI.or (pi_tup hv) (pi_str hv))) ok (fun s H C cl fp => (hg s H C cl fp).pg) ht he hs).imp fun σ H Q h => tE_lcV (c := cx X ξ) hiv (hg X.s_0 H 0 [] []).sd hts h
theorem s_setLcV {j : Nat} {z y : Str} {py p spos : Pos} {i : Nat} {elt tg : Expr} {ifs : List Expr} {scope : Scope} {own : List (Str × Nat)} {ts : List Nat} {g : TG} {gm : D → Env → Option Env} {tt : M Bool} {te : M D} (hκ : j ∉ κ) (hc : X.calm = true) (hN : X.N.Nodup)
    (hv : PE X (.Name y p) (tVar i)) (ok : BlkOk X.N X.env.scope scope own) (hiv : i ∉ own.map (·.2))
    (hts : ∀ i ∈ ts, i ∈ own.map (·.2)) (hg : ∀ (s : Shared) (H : Hp) (C : Addr) (cl : List (Str × Addr)) (fp : List Addr), TgD (X.blk s H scope (compEnvC scope cl C X.env) fp) ξ ts tg g gm)
    (ht : ∀ (s : Shared) (H : Hp) (C : Addr) (cl : List (Str × Addr)) (fp : List Addr), PTs (X.blk s H scope (compEnvC scope cl C X.env) fp) ifs (tT (cx X ξ) W00 tt))
    (he : ∀ (s : Shared) (H : Hp) (C : Addr) (cl : List (Str × Addr)) (fp : List Addr), DE (X.blk s H scope (compEnvC scope cl C X.env) fp) ξ W00 elt te)
    (hy : X.N[j]? = some z := by rfl) (hyl : X.env.scope.names.lookup z = some .local := by rfl) (hsw : swapsWith (.ListComp elt [⟨tg, .Name y p, ifs, 0⟩] scope pos) (some (.Name z py)) spos.line X.env = pure true := by exact sw_true rfl rfl rfl (by decide +kernel)) (hs : ∀ x, foldedSetIterable (.Name y p) X.env x = pure x := by intro _; rfl) :
    DS X ξ W κ (.Assign [.Name z py] (.ListComp elt [⟨tg, .Name y p, ifs, 0⟩] scope pos) spos) (mSet j (mLcV (own.map (·.2)) i gm tt te)) :=
  (ps_setLc (te := tE (cx X ξ) W00 te) hc hN hy hyl hsw (PI.or (pi_list hv) (PI.or (pi_tup hv) (pi_str hv))) ok (fun s H C cl fp => (hg s H C cl fp).pg) ht he hs).imp fun D' σ H h => by
    have q := tS_set (c := cx X ξ) (σ := σ) (H := H) hκ h
    exact tE_lcV (c := cx X ξ) hiv (hg X.s_0 H 0 [] []).sd hts q
end
end DL
set_option maxHeartbeats 2000000
/-! DL8: lists that change, built-ins. -/
namespace DL
open PySem PySem.Spec PyProof.Rows L2
open LamX (Tabs TabS CodeO)

section
variable {c : Cf} {W : WX} {κ : List Nat} {X : Cx} {ξ : Xi} {pos : Pos} {H : Hp}

/-! ### a list that a name holds -/
theorem upd_frm {f g : List Addr} {H H1 : Hp} {a : Addr} {o : HO} {xs : List V} (q : H1 a = some (.lst xs)) (fm : Frm f g H H1) (ha : a ∈ g) : Frm f g H (upd H1 a o) where
  tab := fun T t => tabs_upd ⟨_, q⟩ T (fm.tab T t)
  keep := fun b u e n t => by
    rw [upd_ne]
    · exact fm.keep b u e n t
    · rintro rfl
      rcases fm.foot b ha with z | z
      · exact n z
      · exact z.not e t
  foot := fm.foot
theorem but_upd {a : Addr} {o : HO} {xs : List V} (q : H a = some (.lst xs)) : But [a] H (upd H a o) := ⟨fun b u e n _ => by
  rw [upd_ne (fun z => n (by simp [z]))]
  exact e, tabs_upd ⟨_, q⟩⟩
theorem own_one {a : Addr} {xs : List V} (h : H a = some (.lst xs)) : ∀ b ∈ [a], Own1 H b := fun b hb => by
  have e : b = a := by simpa using hb
  rw [e]
  exact ⟨_, h⟩
theorem not_one {a : Addr} {l : List Addr} (h : a ∉ l) : ∀ b ∈ l, b ∉ [a] := fun b hb hc => by
  have e : b = a := by simpa using hc
  rw [e] at hb
  exact h hb
/-- the list in slot i: its object, its items, the others -/
theorem EnvR.lst {e : Env} {σ : L2.St} {g : List Addr} {i : Nat} {l : List D} (h : EnvR c H e σ g) (el : e[i]? = some (.lst l)) : ∃ a vs ga f2, σ[i]? = some (some (.ref a)) ∧ H a = some (.lst vs) ∧ Reps c H l vs ga ∧ EnvR c H (e.set i .gone) σ f2 ∧ ((a :: ga) ++ f2).Perm g := by
  obtain ⟨o, f1, f2, eo, s, t, p⟩ := h.take el
  obtain ⟨v, rfl, a, vs, ga, rfl, q, r, rfl⟩ := s.val (by simp)
  exact ⟨a, vs, ga, f2, eo, q, r, t, p⟩
/-- .. with other items -/
theorem EnvR.relst {e : Env} {σ : L2.St} {f2 ga' : List Addr} {i : Nat} {a : Addr} {l l' : List D} {vs' : List V} (el : e[i]? = some (.lst l)) (ei : σ[i]? = some (some (.ref a))) (t : EnvR c H (e.set i .gone) σ f2) (q : H a = some (.lst vs')) (r : Reps c H l' vs' ga') :
    ∃ f', EnvR c H (e.set i (.lst l')) σ f' ∧ f'.Perm ((a :: ga') ++ f2) := by
  have hi : i < e.length := (List.getElem?_eq_some_iff.mp el).1
  obtain ⟨f', q', p⟩ := t.back (d := .lst l') (o := some (.ref a)) (by rw [List.getElem?_set_self hi]) ei (.inr ⟨_, rfl, a, vs', ga', rfl, q, r, rfl⟩)
  rw [List.set_set] at q'
  exact ⟨f', q', p⟩
/-- xs.append(e) -/
def mAppend (i : Nat) (m : M D) : M D := fun env => match mV i env with
  | some (.lst _) => m.bind (fun d env' => match mV i env' with
    | some (.lst l) => if l.length < LIM then some (.ok .non (env'.set i (.lst (l ++ [d])))) else none
    | _ => none) env
  | _ => none
theorem e_append {y : Str} {p apos : Pos} {i : Nat} {e : Expr} {m : M D} (hv : PE X (.Name y p) (tVar i)) (he : DE X ξ W e m) (hbase : attributeBase (.Name y p) "append" X.env (eval (.Name y p) X.env) = eval (.Name y p) X.env := by rfl)
    (hfew : ((backTo pos (starEach (e :: []) X.env)).all (fun x => !x.1) && (backToKw pos (keywordEach [] X.env)).all (fun x => x.1.isSome)
      && decide ((e :: []).length + ([] : List Keyword).length + (if ([] : List Keyword).isEmpty then 0 else 1) < 30)) = true := by rfl)
    (hline : (apos.endLine == pos.line) = true := by rfl) (hs : starEach (e :: []) X.env = (false, eval e X.env) :: starEach [] X.env := by rfl) (hplain : (backTo pos (starEach [] X.env)).any (·.1) = false := by rfl) :
    DE X ξ W (.Call (.Attribute (.Name y p) "append" apos) [e] [] pos) (mAppend i m) :=
  (pe_bm PySem.F.plainAttrs_list PySem.F.slot_list_append PySem.F.type_list_append mt_append hv (pa_cons he pa_nil hs) hbase hfew hline hs hplain).imp fun σ H Q ⟨env, f, he, nd, r, er, k⟩ => by
    unfold mAppend at er
    split at er
    · rename_i l0 el0
      obtain ⟨v0, g0, ev0, ⟨a0, vs0, gg, rfl, q0, _, _⟩, _⟩ := mV_slot he el0
      refine ⟨_, ev0, .inl ⟨rfl, vs0, SqL.of q0⟩, ?_⟩
      rcases bind_some er with ⟨x, e1, ea, rfl⟩ | ⟨d, e1, ea, er⟩
      · exact ⟨env, f, he, nd, _, ea, k⟩
      · refine ⟨env, f, he, nd, _, ea, fun v H1 g1 g2 fm rv he1 nd1 => ?_⟩
        split at er
        · rename_i l el
          split at er
          · rename_i hz
            cases er
            obtain ⟨el', _⟩ := mV_some el
            obtain ⟨a, vs, ga, f2, ei, q, rs, t, pm⟩ := he1.lst el'
            rw [ev0] at ei
            cases ei
            have nd2 : (g1 ++ ((a0 :: ga) ++ f2)).Nodup := (List.Perm.append_left g1 pm).nodup_iff.mpr nd1
            obtain ⟨n1, n2, n3⟩ := List.nodup_append.mp nd2
            obtain ⟨n4, n5, n6⟩ := List.nodup_append.mp n2
            have na1 : a0 ∉ g1 := fun z => n3 a0 z a0 (List.mem_append_left _ List.mem_cons_self) rfl
            have na2 : a0 ∉ ga := (List.nodup_cons.mp n4).1
            have na3 : a0 ∉ f2 := fun z => n6 a0 List.mem_cons_self a0 z rfl
            have bt := but_upd (H := H1) (a := a0) (o := .lst (vs ++ [v])) q
            have r1 := (rs.but bt (own_one q) (not_one na2)).append (f := ga) (g := g1) (es := [d]) (ws := [v]) ⟨v, [], g1, [], rfl, rv.but bt (own_one q) (not_one na1), ⟨rfl, rfl⟩, by simp⟩
            obtain ⟨f', q', p'⟩ := EnvR.relst el' ev0 (t.but bt (own_one q) (not_one na3)) upd_same r1
            refine ⟨a0, vs, v, rfl, rfl, q, by rw [rs.length]; exact limlt hz, ?_⟩
            have pp : ((a0 :: (ga ++ g1)) ++ f2).Perm (g1 ++ ((a0 :: ga) ++ f2)) := by
              have z1 : ((a0 :: (ga ++ g1)) ++ f2) = (((a0 :: ga) ++ g1) ++ f2) := by simp
              rw [z1, ← List.append_assoc]
              exact List.Perm.append_right _ List.perm_append_comm
            have fm2 : Frm f (g1 ++ g2) H (upd H1 a0 (.lst (vs ++ [v]))) := upd_frm q fm (List.mem_append_right _ (pm.mem_iff.mp (List.mem_append_left _ List.mem_cons_self)))
            refine k .non _ [] f' (fm2.sub fun b hb => ?_) ⟨rfl, rfl⟩ q' ?_
            · have z := pp.mem_iff.mp (p'.mem_iff.mp hb)
              exact (List.Perm.append_left g1 pm).mem_iff.mp z
            · show f'.Nodup
              exact (p'.trans pp).nodup_iff.mpr nd2
          · cases er
        · cases er
    · cases er
/-- xs.pop() -/
def mPop (i : Nat) : M D := fun env => match mV i env with
  | some (.lst l) => match l.getLast? with
    | some d => some (.ok d (env.set i (.lst l.dropLast)))
    | none => none
  | _ => none
theorem Reps.last {l : List D} {vs : List V} {f : List Addr} {d : D} (r : Reps c H l vs f) (h : l.getLast? = some d) : ∃ v g1 g2, vs[vs.length - 1]? = some v ∧ Rep c H d v g2 ∧ Reps c H l.dropLast vs.dropLast g1 ∧ f = g1 ++ g2 := by
  obtain ⟨init, rfl⟩ := List.getLast?_eq_some_iff.mp h
  obtain ⟨us, ws, f1, f2, rfl, r1, r2, rfl⟩ := r.split
  obtain ⟨v, rfl, rv⟩ := r2.one
  refine ⟨v, f1, f2, ?_, rv, ?_, rfl⟩
  · simp
  · rw [List.dropLast_concat, List.dropLast_concat]
    exact r1
theorem e_pop {y : Str} {p apos : Pos} {i : Nat} (hv : PE X (.Name y p) (tVar i)) (hbase : attributeBase (.Name y p) "pop" X.env (eval (.Name y p) X.env) = eval (.Name y p) X.env := by rfl) (hline : (apos.endLine == pos.line) = true := by rfl) :
    DE X ξ W (.Call (.Attribute (.Name y p) "pop" apos) [] [] pos) (mPop i) :=
  (pe_bm0 PySem.F.plainAttrs_list PySem.F.slot_list_pop PySem.F.type_list_pop mt_pop hv hbase hline).imp fun σ H Q ⟨env, f, he, nd, r, er, k⟩ => by
    unfold mPop at er
    split at er
    · rename_i l el
      split at er
      · rename_i d ed
        cases er
        obtain ⟨el', _⟩ := mV_some el
        obtain ⟨a, vs, ga, f2, ei, q, rs, t, pm⟩ := he.lst el'
        obtain ⟨v, g1, g2, ev, rv, rd, rfl⟩ := rs.last ed
        refine ⟨_, ei, .inl ⟨rfl, vs, SqL.of q⟩, a, vs, v, rfl, rfl, q, ev, ?_⟩
        have nd2 : ((a :: (g1 ++ g2)) ++ f2).Nodup := pm.nodup_iff.mpr nd
        obtain ⟨n4, n5, n6⟩ := List.nodup_append.mp nd2
        obtain ⟨n7, n8⟩ := List.nodup_cons.mp n4
        have na1 : a ∉ g1 := fun z => n7 (List.mem_append_left _ z)
        have na2 : a ∉ g2 := fun z => n7 (List.mem_append_right _ z)
        have na3 : a ∉ f2 := fun z => n6 a List.mem_cons_self a z rfl
        have bt := but_upd (H := H) (a := a) (o := .lst vs.dropLast) q
        obtain ⟨f', q', p'⟩ := EnvR.relst el' ei (t.but bt (own_one q) (not_one na3)) upd_same (rd.but bt (own_one q) (not_one na1))
        have fm2 : Frm f f H (upd H a (.lst vs.dropLast)) := upd_frm q Frm.refl (pm.mem_iff.mp (List.mem_append_left _ List.mem_cons_self))
        have pp : (g2 ++ ((a :: g1) ++ f2)).Perm ((a :: (g1 ++ g2)) ++ f2) := by
          have z1 : ((a :: (g1 ++ g2)) ++ f2) = (((a :: g1) ++ g2) ++ f2) := by simp
          rw [z1, ← List.append_assoc]
          exact List.Perm.append_right _ List.perm_append_comm
        refine k v _ g2 f' (fm2.sub fun b hb => ?_) (rv.but bt (own_one q) (not_one na2)) q' ?_
        · exact pm.mem_iff.mp (pp.mem_iff.mp ((List.Perm.append_left g2 p').mem_iff.mp hb))
        · exact ((List.Perm.append_left g2 p').trans pp).nodup_iff.mpr nd2
      · cases er
    · cases er
/-- xs[j] = e -/
theorem Reps.setD {l : List D} {vs : List V} {f g : List Addr} {j : Nat} {d : D} {v : V} (r : Reps c H l vs f) (hj : j < l.length) (rv : Rep c H d v g) : ∃ f', Reps c H (l.set j d) (vs.set j v) f' ∧ ∀ b ∈ f', b ∈ g ∨ b ∈ f := by
  induction l generalizing vs f j with
  | nil => cases hj
  | cons d0 ds ih =>
    obtain ⟨v0, vs', f1, f2, rfl, r1, r2, rfl⟩ := r
    cases j with
    | zero =>
      refine ⟨g ++ f2, ⟨v, vs', g, f2, rfl, rv, r2, rfl⟩, fun b hb => ?_⟩
      rcases List.mem_append.mp hb with hb | hb
      · exact .inl hb
      · exact .inr (List.mem_append_right _ hb)
    | succ j =>
      obtain ⟨f', q, sub⟩ := ih (j := j) r2 (by simpa using hj)
      refine ⟨f1 ++ f', ⟨v0, vs'.set j v, f1, f', rfl, r1, q, rfl⟩, fun b hb => ?_⟩
      rcases List.mem_append.mp hb with hb | hb
      · exact .inr (List.mem_append_left _ hb)
      · rcases sub b hb with z | z
        · exact .inl z
        · exact .inr (List.mem_append_right _ z)
theorem Reps.setNd {l : List D} {vs : List V} {f g : List Addr} {j : Nat} {d : D} {v : V} (r : Reps c H l vs f) (hj : j < l.length) (rv : Rep c H d v g) (nd : (g ++ f).Nodup) : ∃ f', Reps c H (l.set j d) (vs.set j v) f' ∧ f'.Nodup ∧ ∀ b ∈ f', b ∈ g ∨ b ∈ f := by
  induction l generalizing vs f j with
  | nil => cases hj
  | cons d0 ds ih =>
    obtain ⟨v0, vs', f1, f2, rfl, r1, r2, rfl⟩ := r
    obtain ⟨n1, n2, n3⟩ := List.nodup_append.mp nd
    obtain ⟨n4, n5, n6⟩ := List.nodup_append.mp n2
    cases j with
    | zero =>
      refine ⟨g ++ f2, ⟨v, vs', g, f2, rfl, rv, r2, rfl⟩, List.nodup_append.mpr ⟨n1, n5, fun x hx y hy => n3 x hx y (List.mem_append_right _ hy)⟩, fun b hb => ?_⟩
      rcases List.mem_append.mp hb with hb | hb
      · exact .inl hb
      · exact .inr (List.mem_append_right _ hb)
    | succ j =>
      obtain ⟨f', q, nf, sub⟩ := ih (j := j) r2 (by simpa using hj) (List.nodup_append.mpr ⟨n1, n5, fun x hx y hy => n3 x hx y (List.mem_append_right _ hy)⟩)
      refine ⟨f1 ++ f', ⟨v0, vs'.set j v, f1, f', rfl, r1, q, rfl⟩, List.nodup_append.mpr ⟨n4, nf, fun x hx y hy e => ?_⟩, fun b hb => ?_⟩
      · subst e
        rcases sub x hy with z | z
        · exact n3 x z x (List.mem_append_left _ hx) rfl
        · exact n6 x hx x z rfl
      · rcases List.mem_append.mp hb with hb | hb
        · exact .inr (List.mem_append_left _ hb)
        · rcases sub b hb with z | z
          · exact .inl z
          · exact .inr (List.mem_append_right _ z)
def mSetIx (i : Nat) (mj : MP) (m : M D) : MS := fun env => match m env with
  | none => none
  | some (.ex x e) => some (.ex x e)
  | some (.ok d e) => match mV i e with
    | some (.lst l) => match mj e with
      | some (.int z) => match ixN l.length z with
        | some j => some (.nx (e.set i (.lst (l.set j d))))
        | none => none
      | _ => none
    | _ => none
theorem s_setIx {y : Str} {p p2 : Pos} {i : Nat} {ej e : Expr} {mj : MP} {m : M D} {f1 : Bool} (hg : PG X (.Subscript (.Name y p) ej p2) (gSub (tVar i) (tP (cx X ξ) f1 mj) rSetL)) (he : DE X ξ W e m) (hs : swapsWithSole [.Subscript (.Name y p) ej p2] e pos.line X.env = pure false := by rfl)
    (hw : swappedStores [.Subscript (.Name y p) ej p2] e X.env = pure none := by rfl) (h1 : (assignEach [.Subscript (.Name y p) ej p2] X.env).map (·.2) = [assign (.Subscript (.Name y p) ej p2) X.env] := by rfl) :
    DS X ξ W κ (.Assign [.Subscript (.Name y p) ej p2] e pos) (mSetIx i mj m) :=
  (ps_asg he hg hs hw h1).imp fun D' σ H ⟨env, f, he, nd, o, eo, k⟩ => by
    unfold mSetIx at eo
    split at eo
    · cases eo
    · rename_i x e em
      cases eo
      exact ⟨env, f, he, nd, _, em, PostE.exOf k⟩
    · rename_i d e em
      split at eo
      · rename_i l el
        split at eo
        · rename_i z ez
          split at eo
          · rename_i j ej
            cases eo
            refine ⟨env, f, he, nd, _, em, fun v H1 g1 g2 fm rv he1 nd1 => ?_⟩
            obtain ⟨x0, gx, ex0, _, _⟩ := mV_slot he1 el
            refine ⟨x0, ex0, e, g2, he1, (List.nodup_append.mp nd1).2.1, _, ez, fun iv H2 gi s2 ri _ _ => ?_⟩
            obtain ⟨rfl, _⟩ := ri
            obtain ⟨el', _⟩ := mV_some el
            have he2 := he1.same s2
            obtain ⟨a, vs, ga, f2, ei, q, rs, t, pm⟩ := he2.lst el'
            rw [ex0] at ei
            cases ei
            have hjl : j < l.length := (ixN_seq ej).2.1
            have nd2 : (g1 ++ ((a :: ga) ++ f2)).Nodup := (List.Perm.append_left g1 pm).nodup_iff.mpr nd1
            obtain ⟨n1, n2, n3⟩ := List.nodup_append.mp nd2
            obtain ⟨n4, n5, n6⟩ := List.nodup_append.mp n2
            have na1 : a ∉ g1 := fun z => n3 a z a (List.mem_append_left _ List.mem_cons_self) rfl
            have na2 : a ∉ ga := (List.nodup_cons.mp n4).1
            have na3 : a ∉ f2 := fun z => n6 a List.mem_cons_self a z rfl
            have bt := but_upd (H := H2) (a := a) (o := .lst (vs.set j v)) q
            obtain ⟨ga', r1, nga, sub⟩ := (rs.but bt (own_one q) (not_one na2)).setNd hjl ((rv.same s2).but bt (own_one q) (not_one na1)) (List.nodup_append.mpr ⟨n1, (List.nodup_cons.mp n4).2, fun x hx y hy => n3 x hx y (List.mem_append_left _ (List.mem_cons_of_mem _ hy))⟩)
            obtain ⟨f', q', p'⟩ := EnvR.relst el' ex0 (t.but bt (own_one q) (not_one na3)) upd_same r1
            refine ⟨a, vs, _, j, rfl, rfl, q, by rw [rs.length]; exact ej, ?_⟩
            have fm2 : Frm f (g1 ++ g2) H (upd H2 a (.lst (vs.set j v))) := upd_frm q (fm.trans (Frm.same s2)) (List.mem_append_right _ (pm.mem_iff.mp (List.mem_append_left _ List.mem_cons_self)))
            refine k σ _ f' (fm2.sub fun b hb => ?_) Keep.refl q' ?_
            · rcases List.mem_append.mp (p'.mem_iff.mp hb) with hb | hb
              · rcases List.mem_cons.mp hb with rfl | hb
                · exact List.mem_append_right _ (pm.mem_iff.mp (List.mem_append_left _ List.mem_cons_self))
                · rcases sub b hb with z | z
                  · exact List.mem_append_left _ z
                  · exact List.mem_append_right _ (pm.mem_iff.mp (List.mem_append_left _ (List.mem_cons_of_mem _ z)))
              · exact List.mem_append_right _ (pm.mem_iff.mp (List.mem_append_right _ hb))
            · refine p'.nodup_iff.mpr (List.nodup_append.mpr ⟨List.nodup_cons.mpr ⟨fun z => ?_, nga⟩, n5, fun x hx y hy e => ?_⟩)
              · rcases sub a z with z | z
                · exact na1 z
                · exact na2 z
              · subst e
                rcases List.mem_cons.mp hx with rfl | hx
                · exact na3 hy
                · rcases sub x hx with z | z
                  · exact n3 x z x (List.mem_append_right _ hy) rfl
                  · exact n6 x (List.mem_cons_of_mem _ z) x hy rfl
          · cases eo
        · cases eo
      · cases eo

/-! ### built-ins -/
/-- a built-in of pure arguments, of others -/
theorem p_callB {x : Str} {id : String} {p : Pos} {e : Expr} {es : List Expr} {r : List V → Hp → VK → Prop} {op : List D → Option D} {ms : Env → Option (List D)} (hc : CallR X (.builtin id) r) (hd : CaD (cx X ξ) r op) (hm : X.mg x = none) (ha : DPA X ξ (e :: es) ms) (hg : Gl X x := by rfl)
    (hv : bootBuiltins x = some (.builtin id) := by first | rfl | decide +kernel) (hn : x ≠ "__name__" := by decide) (hdb : (x == ("__debug__" : Str)) = false := by decide) (he : starEach (e :: es) X.env = (false, eval e X.env) :: starEach es X.env := by rfl) (hpl : (backTo pos (starEach es X.env)).any (·.1) = false := by rfl) :
    DP X ξ true (.Call (.Name x p) (e :: es) [] pos) (mCaP op ms) := (pe_callB hc hg hm hv ha hn hdb he hpl).imp fun _ _ _ h => tP_ca hd h
theorem e_callB {x : Str} {id : String} {p : Pos} {e : Expr} {es : List Expr} {r : List V → Hp → VK → Prop} {op : List D → Option D} {ms : M (List D)} (hc : CallR X (.builtin id) r) (hd : CaD (cx X ξ) r op) (hm : X.mg x = none) (ha : DA X ξ W (e :: es) ms) (hg : Gl X x := by rfl)
    (hv : bootBuiltins x = some (.builtin id) := by first | rfl | decide +kernel) (hn : x ≠ "__name__" := by decide) (hdb : (x == ("__debug__" : Str)) = false := by decide) (he : starEach (e :: es) X.env = (false, eval e X.env) :: starEach es X.env := by rfl) (hpl : (backTo pos (starEach es X.env)).any (·.1) = false := by rfl) :
    DE X ξ W (.Call (.Name x p) (e :: es) [] pos) (mCaE op ms) := (pe_callB hc hg hm hv ha hn hdb he hpl).imp fun _ _ _ h => tE_ca hd h
theorem p_callTy {x : Str} {T : String} {p : Pos} {e : Expr} {es : List Expr} {r : List V → Hp → VK → Prop} {op : List D → Option D} {ms : Env → Option (List D)} (hc : CallR X (.type T) r) (hd : CaD (cx X ξ) r op) (hm : X.mg x = none) (ha : DPA X ξ (e :: es) ms) (hg : Gl X x := by rfl)
    (hv : bootBuiltins x = some (.type T) := by first | rfl | decide +kernel) (hn : x ≠ "__name__" := by decide) (hdb : (x == ("__debug__" : Str)) = false := by decide) (he : starEach (e :: es) X.env = (false, eval e X.env) :: starEach es X.env := by rfl) (hpl : (backTo pos (starEach es X.env)).any (·.1) = false := by rfl) :
    DP X ξ true (.Call (.Name x p) (e :: es) [] pos) (mCaP op ms) := (pe_callTy hc hg hm hv ha hn hdb he hpl).imp fun _ _ _ h => tP_ca hd h
theorem e_callTy {x : Str} {T : String} {p : Pos} {e : Expr} {es : List Expr} {r : List V → Hp → VK → Prop} {op : List D → Option D} {ms : M (List D)} (hc : CallR X (.type T) r) (hd : CaD (cx X ξ) r op) (hm : X.mg x = none) (ha : DA X ξ W (e :: es) ms) (hg : Gl X x := by rfl)
    (hv : bootBuiltins x = some (.type T) := by first | rfl | decide +kernel) (hn : x ≠ "__name__" := by decide) (hdb : (x == ("__debug__" : Str)) = false := by decide) (he : starEach (e :: es) X.env = (false, eval e X.env) :: starEach es X.env := by rfl) (hpl : (backTo pos (starEach es X.env)).any (·.1) = false := by rfl) :
    DE X ξ W (.Call (.Name x p) (e :: es) [] pos) (mCaE op ms) := (pe_callTy hc hg hm hv ha hn hdb he hpl).imp fun _ _ _ h => tE_ca hd h
/-- operators of pure operands, of others -/
theorem p_op {op : Operator} {a b : Expr} {r : R2} {d : D → D → Option D} {ma mb : MP} {f1 f2 : Bool} (ho : OpR X (binaryOp op) r) (hd : OpD (cx X ξ) r d) (ha : DP X ξ f1 a ma) (hb : DP X ξ f2 b mb) : DP X ξ true (.BinOp a op b pos) (mPP d ma mb) := (pe_op ho ha hb).imp fun _ _ _ h => tP_bin hd h
theorem e_op {op : Operator} {a b : Expr} {r : R2} {d : D → D → Option D} {ma mb : M D} (ho : OpR X (binaryOp op) r) (hd : OpD (cx X ξ) r d) (ha : DE X ξ W a ma) (hb : DE X ξ W b mb) : DE X ξ W (.BinOp a op b pos) (mEE d ma mb) := (pe_op ho ha hb).imp fun _ _ _ h => tE_bin hd h
theorem e_opEP {op : Operator} {a b : Expr} {r : R2} {d : D → D → Option D} {ma : M D} {mb : MP} {f2 : Bool} (ho : OpR X (binaryOp op) r) (hd : OpD (cx X ξ) r d) (ha : DE X ξ W a ma) (hb : DP X ξ f2 b mb) : DE X ξ W (.BinOp a op b pos) (mEP d ma mb) := (pe_op ho ha hb).imp fun _ _ _ h => tE_binEP hd h
theorem e_opVE {op : Operator} {y : Str} {p : Pos} {i : Nat} {b : Expr} {r : R2} {d : D → D → Option D} {mb : M D} (ho : OpR X (binaryOp op) r) (hd : OpD (cx X ξ) r d) (ha : PE X (.Name y p) (tVar i)) (hb : DE X ξ W b mb) : DE X ξ W (.BinOp (.Name y p) op b pos) (mVE d i mb) := (pe_op ho ha hb).imp fun _ _ _ h => tE_binVE hd h
theorem p_un {op : UnaryOp} {a : Expr} {r : V → Hp → VK → Prop} {d : D → Option D} {ma : MP} {f1 : Bool} (ho : UnR X (unaryOp op) r) (hd : UnD (cx X ξ) r d) (ha : DP X ξ f1 a ma) : DP X ξ true (.UnaryOp op a pos) (mUnP d ma) := (pe_un ho ha).imp fun _ _ _ h => tP_un hd h
theorem e_un {op : UnaryOp} {a : Expr} {r : V → Hp → VK → Prop} {d : D → Option D} {ma : M D} (ho : UnR X (unaryOp op) r) (hd : UnD (cx X ξ) r d) (ha : DE X ξ W a ma) : DE X ξ W (.UnaryOp op a pos) (mUnE d ma) := (pe_un ho ha).imp fun _ _ _ h => tE_un hd h
theorem p_cmp {op : CmpOp} {a b : Expr} {r : R2} {d : D → D → Option D} {ma mb : MP} {f1 f2 : Bool} (ho : OpR X (compareOp op) r) (hd : OpD (cx X ξ) r d) (ha : DP X ξ f1 a ma) (hb : DP X ξ f2 b mb) (hm : behindInMarks op b = false := by first | exact nomark _ | rfl) : DP X ξ true (.Compare a [op] [b] pos) (mPP d ma mb) := (pe_cmpR ho ha hb hm).imp fun _ _ _ h => tP_bin hd h
theorem e_cmp {op : CmpOp} {a b : Expr} {r : R2} {d : D → D → Option D} {ma mb : M D} (ho : OpR X (compareOp op) r) (hd : OpD (cx X ξ) r d) (ha : DE X ξ W a ma) (hb : DE X ξ W b mb) (hm : behindInMarks op b = false := by first | exact nomark _ | rfl) : DE X ξ W (.Compare a [op] [b] pos) (mEE d ma mb) := (pe_cmpR ho ha hb hm).imp fun _ _ _ h => tE_bin hd h
theorem e_cmpEP {op : CmpOp} {a b : Expr} {r : R2} {d : D → D → Option D} {ma : M D} {mb : MP} {f2 : Bool} (ho : OpR X (compareOp op) r) (hd : OpD (cx X ξ) r d) (ha : DE X ξ W a ma) (hb : DP X ξ f2 b mb) (hm : behindInMarks op b = false := by first | exact nomark _ | rfl) : DE X ξ W (.Compare a [op] [b] pos) (mEP d ma mb) := (pe_cmpR ho ha hb hm).imp fun _ _ _ h => tE_binEP hd h
/-- .. as tests -/
theorem t_cmp {op : CmpOp} {a b : Expr} {r : R2} {d : D → D → Option D} {ma mb : MP} {f1 f2 : Bool} (ho : OpR X (compareOp op) r) (hd : OpD (cx X ξ) r d) (ha : DP X ξ f1 a ma) (hb : DP X ξ f2 b mb) (hm : behindInMarks op b = false := by first | exact nomark _ | rfl) : DT X ξ W (.Compare a [op] [b] pos) (mTb (mF (mPP d ma mb))) :=
  (pt_cmpR ho ha hb hm).imp fun σ H Q h => by
    obtain ⟨env, f, he, nd, rr, er, k⟩ := tT_b h
    obtain ⟨dd, e1, rfl⟩ := mF_some er
    refine tP_bin (c := cx X ξ) hd ⟨env, f, he, nd, dd, e1, fun v H' g s rp ng fo => ?_⟩
    have fo' : ∀ b ∈ g, H b = none := fun b hb => (fo b hb).elim id fun z => by cases z.1
    exact post_op k Frm.refl he nd v H' g s rp ng fo'
theorem t_cmpE {op : CmpOp} {a b : Expr} {r : R2} {d : D → D → Option D} {ma mb : M D} (ho : OpR X (compareOp op) r) (hd : OpD (cx X ξ) r d) (ha : DE X ξ W a ma) (hb : DE X ξ W b mb) (hm : behindInMarks op b = false := by first | exact nomark _ | rfl) : DT X ξ W (.Compare a [op] [b] pos) (mTb (mEE d ma mb)) :=
  (pt_cmpR ho ha hb hm).imp fun σ H Q h => tE_bin (c := cx X ξ) hd (tT_b h)
theorem t_cmpEP {op : CmpOp} {a b : Expr} {r : R2} {d : D → D → Option D} {ma : M D} {mb : MP} {f2 : Bool} (ho : OpR X (compareOp op) r) (hd : OpD (cx X ξ) r d) (ha : DE X ξ W a ma) (hb : DP X ξ f2 b mb) (hm : behindInMarks op b = false := by first | exact nomark _ | rfl) : DT X ξ W (.Compare a [op] [b] pos) (mTb (mEP d ma mb)) :=
  (pt_cmpR ho ha hb hm).imp fun σ H Q h => tE_binEP (c := cx X ξ) hd (tT_b h)
/-- a < b < c, pure -/
def mChain (o o' : D → D → Option D) (ma mb mc : MP) : MP := fun env => match ma env with
  | none => none
  | some x => match mb env with
    | none => none
    | some y => match o x y with
      | some (.bl true) => match mc env with
        | none => none
        | some z => o' y z
      | some (.bl false) => some (.bl false)
      | _ => none
theorem tP_chain {r r' : R2} {o o' : D → D → Option D} {ma mb mc : MP} {f1 f2 f3 : Bool} (hd : OpD c r o) (hd' : OpD c r' o') {σ : L2.St} {H : Hp} {Q : VK} (h : tP c true (mChain o o' ma mb mc) σ H Q) : tChain r r' (tP c f1 ma) (tP c f2 mb) (tP c f3 mc) σ H Q := by
  obtain ⟨env, f, he, nd, dz, ez, k⟩ := h
  unfold mChain at ez
  split at ez
  · cases ez
  rename_i dx ex
  split at ez
  · cases ez
  rename_i dy ey
  refine ⟨env, f, he, nd, dx, ex, fun x H1 gx s1 rx nx fx => ?_⟩
  refine ⟨env, f, he.same s1, nd, dy, ey, fun y H2 gy s2 ry ny fy => ?_⟩
  split at ez
  · rename_i eo
    split at ez
    · cases ez
    rename_i dc ec
    refine hd H2 x y dx dy _ gx gy _ (rx.same s2) ry eo fun z H3 g s3 rz ng fo => ?_
    obtain ⟨rfl, _⟩ := rz
    refine ⟨true, rfl, iteT ⟨env, f, ((he.same s1).same s2).same s3, nd, dc, ec, fun w H4 gw s4 rw _ _ => ?_⟩⟩
    refine hd' H4 y w dy dc dz gy gw Q ((ry.same s3).same s4) rw ez fun z' H5 g' s5 rz' ng' fo' => ?_
    have s := ((s1.trans s2).trans s3).trans s4
    exact k z' H5 g' (s.trans s5) rz' ng' fun b hb => .inl (s.free (fo' b hb))
  · rename_i eo
    cases ez
    refine hd H2 x y dx dy _ gx gy _ (rx.same s2) ry eo fun z H3 g s3 rz ng fo => ?_
    obtain ⟨rfl, _⟩ := rz
    refine ⟨false, rfl, iteF (k (.bl false) H3 [] ((s1.trans s2).trans s3) ⟨rfl, rfl⟩ List.nodup_nil fun b hb => by cases hb)⟩
  · cases ez
theorem p_chain {op op' : CmpOp} {a b e : Expr} {r r' : R2} {o o' : D → D → Option D} {ma mb mc : MP} {f1 f2 f3 : Bool} (ho : OpR X (compareOp op) r) (hd : OpD (cx X ξ) r o) (ho' : OpR X (compareOp op') r') (hd' : OpD (cx X ξ) r' o') (ha : DP X ξ f1 a ma) (hb : DP X ξ f2 b mb) (hc : DP X ξ f3 e mc)
    (hm : lastMarks [op, op'] [b, e] = false := by with_unfolding_all rfl) : DP X ξ true (.Compare a [op, op'] [b, e] pos) (mChain o o' ma mb mc) := (pe_chain ho ho' ha hb hc hm).imp fun _ _ _ h => tP_chain hd hd' h
theorem t_chain {op op' : CmpOp} {a b e : Expr} {r r' : R2} {o o' : D → D → Option D} {ma mb mc : MP} {f1 f2 f3 : Bool} (ho : OpR X (compareOp op) r) (hd : OpD (cx X ξ) r o) (ho' : OpR X (compareOp op') r') (hd' : OpD (cx X ξ) r' o') (ha : DP X ξ f1 a ma) (hb : DP X ξ f2 b mb) (hc : DP X ξ f3 e mc)
    (hm : lastMarks [op, op'] [b, e] = false := by with_unfolding_all rfl) : DT X ξ W (.Compare a [op, op'] [b, e] pos) (mTb (mF (mChain o o' ma mb mc))) := (pt_chain ho ho' ha hb hc hm).imp fun σ H Q h => by
    obtain ⟨env, f, he, nd, rr, er, k⟩ := tT_b h
    obtain ⟨dd, e1, rfl⟩ := mF_some er
    refine tP_chain (c := cx X ξ) hd hd' ⟨env, f, he, nd, dd, e1, fun v H' g s rp ng fo => ?_⟩
    have fo' : ∀ b ∈ g, H b = none := fun b hb => (fo b hb).elim id fun z => by cases z.1
    exact post_op k Frm.refl he nd v H' g s rp ng fo'
/-- subscripts -/
theorem p_ix {a b : Expr} {ma mb : MP} {f1 f2 : Bool} (ha : DP X ξ f1 a ma) (hb : DP X ξ f2 b mb) (hs : PlainIx b := by exact fun _ _ => rfl) : DP X ξ f1 (.Subscript a b pos) (mPP dIx ma mb) := (pe_ix ix_seq ha hb hs).imp fun _ _ _ h => tP_sub sbd_ix h
theorem e_ix {a b : Expr} {ma mb : M D} (ha : DE X ξ W a ma) (hb : DE X ξ W b mb) (hs : PlainIx b := by exact fun _ _ => rfl) : DE X ξ W (.Subscript a b pos) (mEE dIx ma mb) := (pe_ix ix_seq ha hb hs).imp fun _ _ _ h => tE_sub sbd_ix h
theorem e_ixVE {y : Str} {p : Pos} {i : Nat} {b : Expr} {mb : M D} (ha : PE X (.Name y p) (tVar i)) (hb : DE X ξ W b mb) (hs : PlainIx b := by exact fun _ _ => rfl) : DE X ξ W (.Subscript (.Name y p) b pos) (mIxVE i mb) := (pe_ix ix_seq ha hb hs).imp fun _ _ _ h => tE_ixVE sbd_ix h
/-! the built-ins' own -/
def dAbs : List D → Option D
  | [.int i] => some (.int (if i < 0 then -i else i))
  | _ => none
theorem cad_abs : CaD c (fun xs H Q => ∃ i, xs = [.int i] ∧ Q (.int (if i < 0 then -i else i)) H) dAbs := fun H xs ds dz g Q r e k => by
  unfold dAbs at e
  split at e
  · cases e
    obtain ⟨v, rfl, rfl, _⟩ := r.one
    exact ⟨_, rfl, giveP (d := .int _) ⟨rfl, rfl⟩ k⟩
  · cases e
def dMax : List D → Option D
  | [.int i, .int j] => some (.int (if j > i then j else i))
  | _ => none
theorem cad_max : CaD c (fun xs H Q => ∃ i j, xs = [.int i, .int j] ∧ Q (.int (if j > i then j else i)) H) dMax := fun H xs ds dz g Q r e k => by
  unfold dMax at e
  split at e
  · cases e
    obtain ⟨v, w, f1, f2, rfl, ⟨rfl, _⟩, ⟨rfl, _⟩, _⟩ := r.two
    exact ⟨_, _, rfl, giveP (d := .int _) ⟨rfl, rfl⟩ k⟩
  · cases e
def dMin : List D → Option D
  | [.int i, .int j] => some (.int (if j < i then j else i))
  | _ => none
theorem cad_min : CaD c (fun xs H Q => ∃ i j, xs = [.int i, .int j] ∧ Q (.int (if j < i then j else i)) H) dMin := fun H xs ds dz g Q r e k => by
  unfold dMin at e
  split at e
  · cases e
    obtain ⟨v, w, f1, f2, rfl, ⟨rfl, _⟩, ⟨rfl, _⟩, _⟩ := r.two
    exact ⟨_, _, rfl, giveP (d := .int _) ⟨rfl, rfl⟩ k⟩
  · cases e
def dInt : List D → Option D
  | [.int i] => some (.int i)
  | [.bl b] => some (.int (if b then 1 else 0))
  | _ => none
theorem cad_int : CaD c (fun xs H Q => (∃ i, xs = [.int i] ∧ Q (.int i) H) ∨ ∃ k, xs = [.bl k] ∧ Q (.int (if k then 1 else 0)) H) dInt := fun H xs ds dz g Q r e k => by
  unfold dInt at e
  split at e
  · cases e
    obtain ⟨v, rfl, rfl, _⟩ := r.one
    exact .inl ⟨_, rfl, giveP (d := .int _) ⟨rfl, rfl⟩ k⟩
  · cases e
    obtain ⟨v, rfl, rfl, _⟩ := r.one
    exact .inr ⟨_, rfl, giveP (d := .int _) ⟨rfl, rfl⟩ k⟩
  · cases e
def dOrd : List D → Option D
  | [.str x] => if x.length = 1 then some (.int (x.cps.getD 0 0 : Nat)) else none
  | _ => none
theorem cad_ord : CaD c (fun xs H Q => ∃ x, xs = [.str x] ∧ x.length = 1 ∧ Q (.int (x.cps.getD 0 0 : Nat)) H) dOrd := fun H xs ds dz g Q r e k => by
  unfold dOrd at e
  split at e
  · split at e
    · rename_i hc
      cases e
      obtain ⟨v, rfl, rfl, _⟩ := r.one
      exact ⟨_, rfl, hc, giveP (d := .int _) ⟨rfl, rfl⟩ k⟩
    · cases e
  · cases e
def dTuple : List D → Option D
  | [.lst l] => if persAll l = true then some (.tup l) else none
  | [.fz l] => if persAll l = true then some (.tup l) else none
  | [.tup l] => if persAll l = true then some (.tup l) else none
  | _ => none
theorem cad_tuple : CaD (cx X ξ) (fun xs H Q => ∃ p ys, xs = [.ref p] ∧ ((SqL X.K H p ys ∧ ∀ l, H l = none → Q (.ref l) (upd H l (.tup ys))) ∨ (SqT X.K H p ys ∧ Q (.ref p) H))) dTuple := fun H xs ds dz g Q r e k => by
  unfold dTuple at e
  split at e
  · split at e
    · rename_i hp
      cases e
      obtain ⟨v, rfl, a, vs, g', rfl, q, rs, _⟩ := r.one
      exact ⟨a, vs, rfl, .inl ⟨SqL.of q, fun l hl => giveT (rs.toP hp) hl k⟩⟩
    · cases e
  · split at e
    · rename_i hp
      cases e
      obtain ⟨v, rfl, a, vs, rfl, q, rs, _⟩ := r.one
      exact ⟨a, vs, rfl, .inl ⟨q.sq, fun l hl => giveT (rs.toP hp) hl k⟩⟩
    · cases e
  · split at e
    · rename_i hp
      cases e
      obtain ⟨v, rfl, a, vs, rfl, q, rs⟩ := r.one
      exact ⟨a, vs, rfl, .inr ⟨SqT.of q, giveP (c := cx X ξ) (d := .tup _) ⟨a, vs, rfl, q, rs.toP hp⟩ k⟩⟩
    · cases e
  · cases e
def dList : List D → Option D
  | [.lst l] => if persAll l = true then some (.lst l) else none
  | [.fz l] => if persAll l = true then some (.lst l) else none
  | [.tup l] => if persAll l = true then some (.lst l) else none
  | _ => none
theorem cad_list : CaD (cx X ξ) (fun xs H Q => ∃ p ys, xs = [.ref p] ∧ (SqL X.K H p ys ∨ SqT X.K H p ys) ∧ ∀ l, H l = none → Q (.ref l) (upd H l (.lst ys))) dList := fun H xs ds dz g Q r e k => by
  unfold dList at e
  split at e
  · split at e
    · rename_i hp
      cases e
      obtain ⟨v, rfl, a, vs, g', rfl, q, rs, _⟩ := r.one
      exact ⟨a, vs, rfl, .inl (SqL.of q), fun l hl => giveL (rs.toP hp) hl k⟩
    · cases e
  · split at e
    · rename_i hp
      cases e
      obtain ⟨v, rfl, a, vs, rfl, q, rs, _⟩ := r.one
      exact ⟨a, vs, rfl, .inl q.sq, fun l hl => giveL (rs.toP hp) hl k⟩
    · cases e
  · split at e
    · rename_i hp
      cases e
      obtain ⟨v, rfl, a, vs, rfl, q, rs⟩ := r.one
      exact ⟨a, vs, rfl, .inr (SqT.of q), fun l hl => giveL (rs.toP hp) hl k⟩
    · cases e
  · cases e
/-- all(xs), any(xs): truths -/
def blsOf : List D → Option (List Bool)
  | [] => some []
  | .bl b :: ds => (blsOf ds).map (b :: ·)
  | _ :: _ => none
theorem blsOf_map : ∀ {ds : List D} {bs : List Bool}, blsOf ds = some bs → ds = bs.map D.bl
  | [], bs, h => by cases h; rfl
  | d :: ds, bs, h => by
    cases d with
    | bl b =>
      obtain ⟨r, e, rfl⟩ := Option.map_eq_some_iff.mp (show (blsOf ds).map (b :: ·) = some bs from h)
      rw [blsOf_map e]
      rfl
    | _ => cases h
theorem Reps.bls : ∀ {bs : List Bool} {vs : List V} {g : List Addr}, Reps c H (bs.map D.bl) vs g → vs = bs.map V.bl
  | [], vs, g, h => h.1
  | b :: bs, vs, g, h => by
    obtain ⟨v, vs', f1, f2, rfl, ⟨rfl, _⟩, rs, _⟩ := h
    rw [Reps.bls rs]
    rfl
def dAll : List D → Option D
  | [.lst l] => (blsOf l).map fun bs => .bl (bs.all id)
  | _ => none
theorem cad_all : CaD (cx X ξ) (rAll X.K) dAll := fun H xs ds dz g Q r e k => by
  unfold dAll at e
  split at e
  · obtain ⟨bs, eb, rfl⟩ := Option.map_eq_some_iff.mp e
    obtain ⟨v, rfl, a, vs, g', rfl, q, rs, _⟩ := r.one
    rw [blsOf_map eb] at rs
    have z := rs.bls
    subst z
    exact ⟨a, bs, rfl, SqL.of q, giveP (c := cx X ξ) (d := .bl _) ⟨rfl, rfl⟩ k⟩
  · cases e
def dAny : List D → Option D
  | [.lst l] => (blsOf l).map fun bs => .bl (bs.any id)
  | _ => none
theorem cad_any : CaD (cx X ξ) (rAny X.K) dAny := fun H xs ds dz g Q r e k => by
  unfold dAny at e
  split at e
  · obtain ⟨bs, eb, rfl⟩ := Option.map_eq_some_iff.mp e
    obtain ⟨v, rfl, a, vs, g', rfl, q, rs, _⟩ := r.one
    rw [blsOf_map eb] at rs
    have z := rs.bls
    subst z
    exact ⟨a, bs, rfl, SqL.of q, giveP (c := cx X ξ) (d := .bl _) ⟨rfl, rfl⟩ k⟩
  · cases e
end
end DL
set_option maxHeartbeats 4000000
/-! DL9: isinstance, raise, try over data. -/
namespace DL
open PySem PySem.Spec PyProof.Rows L2
open LamX (Tabs TabS CodeO)

section
variable {c : Cf} {W : WX} {κ : List Nat} {X : Cx} {ξ : Xi} {pos : Pos} {H : Hp}

/-! ### isinstance of a built-in class -/
inductive Ty where
  | tup | str | int | bool | lst
def Ty.nm : Ty → String
  | .tup => "tuple" | .str => "str" | .int => "int" | .bool => "bool" | .lst => "list"
def Ty.has : Ty → D → Option Bool
  | .tup, .tup _ => some true
  | .str, .str _ => some true
  | .int, .int _ => some true
  | .int, .bl _ => some true
  | .bool, .bl _ => some true
  | .lst, .lst _ => some true
  | .lst, .fz _ => some true
  | _, .set _ => none
  | _, .dic _ _ => none
  | _, .exc _ _ _ => none
  | _, .gone => none
  | _, .hole => none
  | _, _ => some false
def tyOf : D → String
  | .non => "NoneType" | .bl _ => "bool" | .int _ => "int" | .str _ => "str" | .tup _ => "tuple" | .lst _ => "list" | .fz _ => "list" | _ => ""
theorem kit_all (T : Ty) : kitB "NoneType" T.nm = some false ∧ kitB "bool" T.nm = some (match T with | .int => true | .bool => true | _ => false) ∧ kitB "int" T.nm = some (match T with | .int => true | _ => false) ∧ kitB "str" T.nm = some (match T with | .str => true | _ => false) ∧
    kitB "tuple" T.nm = some (match T with | .tup => true | _ => false) ∧ kitB "list" T.nm = some (match T with | .lst => true | _ => false) := by
  cases T <;> decide +kernel
theorem Ty.kit {T : Ty} {d : D} {b : Bool} (h : T.has d = some b) : kitB (tyOf d) T.nm = some b := by
  obtain ⟨h1, h2, h3, h4, h5, h6⟩ := kit_all T
  cases d with
  | non => rw [show tyOf .non = "NoneType" from rfl, h1]; cases T <;> exact h
  | bl x => rw [show tyOf (.bl x) = "bool" from rfl, h2]; cases T <;> exact h
  | int x => rw [show tyOf (.int x) = "int" from rfl, h3]; cases T <;> exact h
  | str x => rw [show tyOf (.str x) = "str" from rfl, h4]; cases T <;> exact h
  | tup x => rw [show tyOf (.tup x) = "tuple" from rfl, h5]; cases T <;> exact h
  | lst x => rw [show tyOf (.lst x) = "list" from rfl, h6]; cases T <;> exact h
  | fz x => rw [show tyOf (.fz x) = "list" from rfl, h6]; cases T <;> exact h
  | set x => cases T <;> cases h
  | dic x y => cases T <;> cases h
  | exc x y z => cases T <;> cases h
  | gone => cases T <;> cases h
  | hole => cases T <;> cases h
theorem Rep.ty {d : D} {v : V} {f : List Addr} {T : Ty} {b : Bool} (r : Rep c H d v f) (h : T.has d = some b) : TyX c.K H v (.type (tyOf d)) := by
  cases d with
  | non => obtain ⟨rfl, _⟩ := r; exact .base .non
  | bl x => obtain ⟨rfl, _⟩ := r; exact .base (.bl _)
  | int x => obtain ⟨rfl, _⟩ := r; exact .base (.int _)
  | str x => obtain ⟨rfl, _⟩ := r; exact .base (.str _)
  | tup x => obtain ⟨a, vs, rfl, q, _⟩ := r; exact .base (.tup q)
  | lst x => obtain ⟨a, vs, g, rfl, q, _⟩ := r; exact .base (.lst q)
  | fz x =>
    obtain ⟨a, vs, rfl, q, _⟩ := r
    rcases q with ⟨o, q⟩ | ⟨o, its, n, q, q2, _⟩
    · exact .base (.frz q)
    · exact .kList q q2
  | set x => cases T <;> cases h
  | dic x y => cases T <;> cases h
  | exc x y z => cases T <;> cases h
  | gone => cases T <;> cases h
  | hole => cases T <;> cases h
def mIsi (T : Ty) (m : MP) : MP := fun env => match m env with
  | none => none
  | some d => (T.has d).map .bl
theorem p_isi {T : Ty} {x : Str} {p p2 : Pos} {e : Expr} {m : MP} {f1 : Bool} (hm : X.mg "isinstance" = none) (hmT : X.mg x = none) (he : DP X ξ f1 e m) (hvT : bootBuiltins x = some (.type T.nm) := by first | rfl | decide +kernel) (hg : Gl X "isinstance" := by rfl) (hgT : Gl X x := by rfl)
    (hnT : x ≠ "__name__" := by decide) (hdT : (x == ("__debug__" : Str)) = false := by decide) (hs1 : starEach (e :: [.Name x p2]) X.env = (false, eval e X.env) :: starEach [.Name x p2] X.env := by rfl) (hs2 : starEach [.Name x p2] X.env = (false, eval (.Name x p2) X.env) :: starEach [] X.env := by rfl) (hpl : (backTo pos (starEach [.Name x p2] X.env)).any (·.1) = false := by rfl) :
    DP X ξ true (.Call (.Name "isinstance" p) [e, .Name x p2] [] pos) (mIsi T m) :=
  (pe_callB call_isi hg hm (by first | rfl | decide +kernel) (pa_cons he (pa_cons (pe_bltn (v := .ty T.nm) hgT hmT hvT rfl hnT hdT) pa_nil hs2) hs1) (by decide) (by decide) hs1 hpl).imp fun σ H Q ⟨env, f, he, nd, d, ed, k⟩ => by
    unfold mIsi at ed
    split at ed
    · cases ed
    rename_i d0 e0
    obtain ⟨b, eb, rfl⟩ := Option.map_eq_some_iff.mp ed
    refine ⟨env, f, he, nd, d0, e0, fun v H1 g s r ng fo => ?_⟩
    refine ⟨v, .ty T.nm, _, _, b, rfl, .ty _, r.ty eb, kit_ty (Ty.kit eb), ?_⟩
    exact k (.bl b) H1 [] s ⟨rfl, rfl⟩ List.nodup_nil fun b hb => by cases hb

/-! ### raise -/
/-- what __init__(self, f1, f2) does -/
def spIni2 (C : Addr) (f1 f2 : Str) : Sp := fun vs H Q _ => ∃ a v1 v2, vs = [.ref a, v1, v2] ∧ H a = some (exo a C none) ∧ ∀ dx, H dx = none → dx ≠ a → Q .non (upd (upd (upd H dx (exd dx [(f1, v1)])) a (exo a C (some dx))) dx (exd dx [(f2, v2), (f1, v1)]))
def spIni1 (C : Addr) (f1 : Str) : Sp := fun vs H Q _ => ∃ a v1, vs = [.ref a, v1] ∧ H a = some (exo a C none) ∧ ∀ dx, H dx = none → dx ≠ a → Q .non (upd (upd H dx (exd dx [(f1, v1)])) a (exo a C (some dx)))
theorem ini2_read {K : PySem.W.Frag} {C : Addr} {f1 f2 x0 x1 x2 : Str} (T : OexC K C) (n1 : PySem.W.findIn K (.ref C) f1 = some none) (n2 : PySem.W.findIn K (.ref C) f2 = some none) (vs : List V) (H : Hp) (Q : VK) (E : XK) (h : spIni2 C f1 f2 vs H Q E) :
    tSeq (tOst K f1 (tVar 0) (tVar 1)) (tOst K f2 (tVar 0) (tVar 2)) { nx := fun _ H' => Q .non H', rt := Q } (L2.start [x0, x1, x2] vs) H := by
  obtain ⟨a, v1, v2, rfl, e, k⟩ := h
  refine ⟨_, rfl, _, rfl, a, C, rfl, T, n1, .inl ⟨e, fun dx nx ne => ?_⟩⟩
  refine ⟨_, rfl, _, rfl, a, C, rfl, T, n2, .inr ⟨dx, [(f1, v1)], upd_same, ?_, (by show 1 ≤ 900; decide), k dx nx ne⟩⟩
  rw [upd_ne ne]
  exact upd_same
theorem ini1_read {K : PySem.W.Frag} {C : Addr} {f1 x0 x1 : Str} (T : OexC K C) (n1 : PySem.W.findIn K (.ref C) f1 = some none) (vs : List V) (H : Hp) (Q : VK) (E : XK) (h : spIni1 C f1 vs H Q E) :
    tOst K f1 (tVar 0) (tVar 1) { nx := fun _ H' => Q .non H', rt := Q } (L2.start [x0, x1] vs) H := by
  obtain ⟨a, v1, rfl, e, k⟩ := h
  exact ⟨_, rfl, _, rfl, a, C, rfl, T, n1, .inl ⟨e, fun dx nx ne => k dx nx ne⟩⟩
/-- raise C(..): the fields' names from the last on -/
def mRaise (cn : Str) (fs : List Str) (ms : Env → Option (List D)) : MS := fun env => match ms env with
  | none => none
  | some ds => if ds.length = fs.length ∧ ds.length ≤ 2 ∧ persAll ds = true then some (.ex ⟨cn, fs.reverse, ds.reverse⟩ env) else none
theorem s_raise2 {x f1 f2 : Str} {e : Expr} {es : List Expr} {p pos2 : Pos} {k : Nat} {fI : Addr} {fd : FuncData} {ps : List Str} {ms : Env → Option (List D)} (hc : X.calm = true) (tk : Takes X W) (T : OexC X.K (He.ga X.K x)) (iC : PySem.W.findIn X.K (.ref (He.ga X.K x)) "__init__" = some (some (.ref fI))) (tI : PySem.W.typeIn X.K (.ref fI) = some (.type "function"))
    (F1 : FnOk X.prog X.w X.K X.mg X.base CX0 k fI fd ps (spIni2 (He.ga X.K x) f1 f2)) (hr : Room (k + 1) X.A) (hb : Binds X.K fd ps []) (hm : X.mg x = some (.ref (He.ga X.K x))) (ha : DPA X ξ (e :: es) ms) (hg : Gl X x := by rfl)
    (hdb : (x == ("__debug__" : Str)) = false := by decide) (he : starEach (e :: es) X.env = (false, eval e X.env) :: starEach es X.env := by rfl) (hpl : (backTo pos (starEach es X.env)).any (·.1) = false := by rfl) :
    DS X ξ W κ (.Raise (some (.Call (.Name x p) (e :: es) [] pos)) none pos2) (mRaise x [f1, f2] ms) :=
  (ps_raise hc tk (pmk_oex T iC tI F1 hr hb .nil (fun _ _ _ _ _ _ _ h => h.elim) hg hm ha hdb he hpl)).imp fun D' σ H ⟨env, f, he, nd, o, eo, k⟩ => by
    unfold mRaise at eo
    split at eo
    · cases eo
    rename_i ds eds
    split at eo
    · rename_i hcond
      cases eo
      obtain ⟨hlen, _, hp⟩ := hcond
      match ds, hlen, hp, eds with
      | [d1, d2], _, hp, eds =>
        refine ⟨env, f, he, nd, _, eds, fun vs H1 g s rs => ?_⟩
        have rs' := rs.toP hp
        obtain ⟨v1, v2, g1, g2, rfl, r1, r2, hg0⟩ := rs'.two
        obtain ⟨rfl, rfl⟩ := List.append_eq_nil_iff.mp hg0.symm
        refine ⟨(by show 2 ≤ 1000; decide), fun a na => ⟨a, v1, v2, rfl, upd_same, fun dx nx ne => ⟨rfl, dx, [(f2, v2), (f1, v1)], ?_, upd_same, ?_, ?_⟩⟩⟩
        · rw [upd_ne (Ne.symm ne)]
          exact upd_same
        · rw [upd_ne ne] at nx
          exact nx
        · have nx1 : H1 dx = none := by
            rw [upd_ne ne] at nx
            exact nx
          have sm : Same H1 (upd (del (upd (upd (upd (upd H1 a (exo a (He.ga X.K x) none)) dx (exd dx [(f1, v1)])) a (exo a (He.ga X.K x) (some dx))) dx (exd dx [(f2, v2), (f1, v1)])) a) dx (.xd [(f2, v2), (f1, v1)])) := fun b u eb => by
            have e1 := ne_of_none eb nx1
            have e2 := ne_of_none eb na
            rw [upd_ne e1, del_ne e2, upd_ne e1, upd_ne e2, upd_ne e1, upd_ne e2]
            exact eb
          have sm0 := s.trans sm
          exact k dx σ _ f (Frm.same sm0) Keep.refl ⟨[v2, v1], upd_same, rfl, ⟨v2, [v1], [], [], rfl, r2.same sm, ⟨v1, [], [], [], rfl, r1.same sm, ⟨rfl, rfl⟩, rfl⟩, rfl⟩⟩ (he.same sm0) nd
    · cases eo

/-! ### try -/
/-- no caught exception in it -/
def D.nox : D → Bool
  | .tup l => noxAll l
  | .lst l => noxAll l
  | .fz l => noxAll l
  | .set l => noxAll l
  | .dic k v => noxAll k && noxAll v
  | .exc _ _ _ => false
  | .hole => false
  | _ => true
where noxAll : List D → Bool
  | [] => true
  | d :: ds => d.nox && noxAll ds
abbrev noxAll : List D → Bool := D.nox.noxAll
section
variable {K : PySem.W.Frag} {w : World} {x1 x2 : Xi}
mutual
theorem Rep.xi : ∀ {d : D} {v : V} {f : List Addr}, Rep ⟨K, w, x1⟩ H d v f → d.nox = true → Rep ⟨K, w, x2⟩ H d v f
  | .non, v, f, h, _ => h
  | .bl _, v, f, h, _ => h
  | .int _, v, f, h, _ => h
  | .str _, v, f, h, _ => h
  | .tup l, v, f, h, n => by
    obtain ⟨a, vs, e, q, r⟩ := h
    exact ⟨a, vs, e, q, Reps.xi r n⟩
  | .fz l, v, f, h, n => by
    obtain ⟨a, vs, e, q, r, z⟩ := h
    exact ⟨a, vs, e, q, Reps.xi r n, z⟩
  | .lst l, v, f, h, n => by
    obtain ⟨a, vs, g, e, q, r, z⟩ := h
    exact ⟨a, vs, g, e, q, Reps.xi r n, z⟩
  | .set _, v, f, h, n => by cases h
  | .dic _ _, v, f, h, n => by cases h
  | .exc _ _ _, v, f, h, n => by cases n
  | .hole, v, f, h, n => by cases n
  | .gone, v, f, h, _ => h
theorem Reps.xi : ∀ {ds : List D} {vs : List V} {f : List Addr}, Reps ⟨K, w, x1⟩ H ds vs f → noxAll ds = true → Reps ⟨K, w, x2⟩ H ds vs f
  | [], vs, f, h, _ => h
  | d :: ds, vs, f, h, n => by
    obtain ⟨v, vs', f1, f2, e, r, rs, z⟩ := h
    have n' : (d.nox && noxAll ds) = true := n
    obtain ⟨n1, n2⟩ := Bool.and_eq_true_iff.mp n'
    exact ⟨v, vs', f1, f2, e, Rep.xi r n1, Reps.xi rs n2, z⟩
end
theorem EnvR.xi (hx : x1.T = x2.T) : ∀ {ds : Env} {σ : L2.St} {f : List Addr}, EnvR ⟨K, w, x1⟩ H ds σ f → noxAll ds = true → EnvR ⟨K, w, x2⟩ H ds σ f
  | [], σ, f, h, _ => ⟨h.1, h.2.1, hx ▸ h.2.2⟩
  | d :: ds, σ, f, h, n => by
    obtain ⟨o, σ', f1, f2, e, s, t, z⟩ := h
    have n' : (d.nox && noxAll ds) = true := n
    obtain ⟨n1, n2⟩ := Bool.and_eq_true_iff.mp n'
    refine ⟨o, σ', f1, f2, e, ?_, EnvR.xi hx t n2, z⟩
    rcases s with s | ⟨v, ev, r⟩
    · exact .inl s
    · exact .inr ⟨v, ev, r.xi n1⟩
end
/-- a clause: whom it takes, the class it speaks of, its name's slot, its suite -/
structure Hd where
  cm : Str → Option Bool
  cn : Str
  i : Nat
  s : MS
def hdEnd (i : Nat) : O → Option O
  | .nx e => if noxAll (e.set i .gone) = true then some (.nx (e.set i .gone)) else none
  | .bk e => if noxAll (e.set i .gone) = true then some (.bk (e.set i .gone)) else none
  | .ct e => if noxAll (e.set i .gone) = true then some (.ct (e.set i .gone)) else none
  | .ret d e => if noxAll (e.set i .gone) = true ∧ d.nox = true then some (.ret d (e.set i .gone)) else none
  | .ex _ _ => none
def hdRun : List Hd → Ex → Env → Option O
  | [], x, e => some (.ex x e)
  | h :: hs, x, e => match h.cm x.cls with
    | none => none
    | some false => hdRun hs x e
    | some true => if h.cn = x.cls ∧ h.i < e.length ∧ noxAll e = true ∧ noxAll x.vs = true then match h.s (e.set h.i (.exc x.cls x.ns x.vs)) with
        | none => none
        | some o => hdEnd h.i o
      else none
def mTry (m : MS) (hs : List Hd) : MS := fun env => match m env with
  | some (.ex x e) => hdRun hs x e
  | o => o

/-- what the clauses wish of an exception of the body -/
abbrev TSu := Addr → Value → Option Addr → TS
def wAsM (K : PySem.W.Frag) (Wout : WX) (D : Ends) : List (Value × Nat × TSu) → WX
  | [] => Wout
  | (c, i, ts) :: r => fun cls d σ H => ∃ b, PySem.W.exmOne K cls c = some b ∧ (b = true → ∀ a, H a = none → ts a cls d { nx := fun σ' H' => D.nx (σ'.set i none) H', rt := D.rt, bk := fun σ' H' => D.bk (σ'.set i none) H', ct := fun σ' H' => D.ct (σ'.set i none) H' } (σ.set i (some (.ref a))) H) ∧
    (b = false → wAsM K Wout D r cls d σ H)
inductive HdsAs (X : Cx) : List ExceptHandler → List (Value × Nat × TSu) → Prop
  | nil : HdsAs X [] []
  | cons {x n : Str} {c : Value} {i : Nat} {ts : TSu} {b₀ : Stmt} {suite : List Stmt} {np pos' : Pos} {hds : List ExceptHandler} {l : List (Value × Nat × TSu)} (hc : Names X x c) (hi : X.N[i]? = some n) (hln : X.env.kindOf n = some .local)
      (hsu : ∀ (a : Addr) (oe : Obj) (cls : Value) (d : Option Addr) (pn : List (Addr × Obj)), Zc cls d oe → (∃ vs, oe.data = .fields vs) → PSs (X.suite a ((a, oe) :: pn)) (b₀ :: suite) (ts a cls d)) (r : HdsAs X hds l) :
      HdsAs X (.ExceptHandler (some (.Name x np)) (some n) (b₀ :: suite) pos' :: hds) ((c, i, ts) :: l)
theorem ps_try_asM {body : List Stmt} {h₀ : ExceptHandler} {hds : List ExceptHandler} {l : List (Value × Nat × TSu)} {tb : WX → TS} {Wout : WX} (hs : X.stack = X.env :: X.outer) (hf : X.env.frame = some X.env.locals) (hN : X.N.Nodup) (tk : Takes X Wout)
    (hb : ∀ (W : WX) (pn : List (Addr × Obj)) (xe : Value → Shared → Prop), Takes (X.tr pn xe) W → PassesOwn (model X.prog X.w) X.A X.env xe → PSs (X.tr pn xe) body (tb W))
    (hh : HdsAs X (h₀ :: hds) l) : PS X (.Try body (h₀ :: hds) [] [] pos) (fun D σ H => tb (wAsM X.K Wout D l) D σ H) := by
  refine ⟨fun pins s σ H D I h => ?_⟩
  have ok := I.ok
  have hfr : X.A.frames = some (X.env :: X.outer) := by rw [ok.frames, hs]
  refine wpAny_Try_except ?_
  refine wpAny_mono ((hb (wAsM X.K Wout D l) (X.pn ++ pins) (fun e s₁ => wpAny (model X.prog X.w) X.A (noteFrame e X.env) (fun _ s₂ => wpAny (model X.prog X.w) X.A (setFlight e none) (fun _ s₃ =>
    wpAny (model X.prog X.w) X.A (handleBy e X.env (h₀ :: hds)) (SP X pins D) X.xe s₃) X.xe s₂) X.xe s₁) (fun u s' xx => ?_) PassesOwn.looking).run [] s σ H D (I.toTry _) h) (fun f s1 hsp => ?_) (fun e s1 he => he)
  · -- the catch
    obtain ⟨a, B, sI, pins', σ', H', cls, d, rfl, J', nb, up, sky, na, os, ag, w⟩ := xx
    have J : Inv X pins σ' H' sI := J'.ofTry ok
    have sky' : Sky B (X.env :: X.outer) a (Zc cls d) X.env.locals s'.heap := by rw [← hs]; exact sky
    show wpAny (model X.prog X.w) X.A (noteFrame (.ref a) X.env) _ _ _
    refine Sky.land Zc.steady hfr hf sky' fun h3 fl3 up3 => ?_
    have J3 : Inv X pins σ' H' { s' with heap := h3 } := J.landed nb fl3.1 (up.trans up3) os ag
    obtain ⟨oe3, vs3, he3, hz3, hd3⟩ := fl3.there
    have notFr : ∀ {h : Heap} {o : Obj} {vs : Array Value}, h.FunFrames B (X.env :: X.outer) → h.get? a = some o → o.data = .fields vs → a ∉ frs (X.env :: X.outer) := fun {h o vs} ff e dd hm => by
      obtain ⟨_, o', e', hnf⟩ := ff.mem hm
      rw [e] at e'; cases e'
      exact hnf _ dd
    have nfr := notFr fl3.2.2.1 he3 hd3
    have nL : a ≠ X.env.locals := fun z => nfr (List.mem_filterMap.mpr ⟨X.env, List.mem_cons_self, by rw [hf, z]⟩)
    have nF : a ∉ X.fs := fun hm => by
      obtain ⟨e, he, q⟩ := List.mem_filterMap.mp hm
      exact nfr (List.mem_filterMap.mpr ⟨e, List.mem_cons_of_mem _ he, q⟩)
    have S3 := J3.suite he3 hd3 na nL nF
    have go : ∀ {hds' : List ExceptHandler} {l' : List (Value × Nat × TSu)}, HdsAs X hds' l' → wAsM X.K Wout D l' cls d σ' H' →
        wpAny (model X.prog X.w) X.A (handleBy (.ref a) X.env hds') (SP X pins D) X.xe { s' with heap := h3 } := by
      intro hds' l' hk
      induction hk with
      | nil =>
        intro w
        refine wpAny_handleBy_nil ?_
        obtain ⟨k1, k2, k3, oe, vs, T, oT, ts', he, hz, hd, h1, hr⟩ := id fl3
        unfold PySem.passOn
        refine wpAny_bind (wpAny_field he hd h1 ?_)
        rw [if_neg (show ¬ ((Value.ref T == Value.none) = true) from by simp)]
        have fin : wpAny (model X.prog X.w) X.A (setFlight (.ref a) X.env.frame) (fun _ s4 => wpAny (model X.prog X.w) X.A (throw (.ref a) : Sem Flow) (SP X pins D) X.xe s4) X.xe { s' with heap := h3 } := by
          rw [hf]
          refine HandSPX.setFlight_upZ fl3 fun h4 hh4 up4 => wpAny_throw (tk _ _ ?_)
          exact ⟨a, B, sI, pins, σ', H', cls, d, rfl, J, nb, (up.trans up3).trans up4, .inr (.inr (by rw [hs]; exact hh4)), na, os, ag, w⟩
        first
          | exact wpAny_bind (wpAny_pure (wpAny_bind fin))
          | exact wpAny_bind fin
      | @cons x n c i ts b₀ suite np pos' hds2 l2 hc hi hln hsu r ih =>
        intro w
        obtain ⟨b, hb1, hyes, hno⟩ := w
        have hloc : Loc X.env.scope n := .inl hln
        refine wpAny_handleBy_cons (codeAny_handlers_test ?_) (by intro q; cases q)
        have LT : PySem.W.Looks (model X.prog X.w) h3 (typeOf (.ref a)) cls := fun A Q E s k q => wpAny_typeOf_ref (k _ _ he3) (by rw [hz3.1]; exact q)
        have LM := PySem.W.exm_one (M := model X.prog X.w) (J3.kIn) LT hb1
        have test : ∀ {Q : Value → Shared → Prop} {E : Value → Shared → Prop}, Q c { s' with heap := h3 } → wpAny (model X.prog X.w) (X.A.mark (some (.ref a))) (eval (.Name x np) X.env) Q E { s' with heap := h3 } := fun {Q E} q => by
          obtain ⟨hg, hdbg, hm | ⟨hm, hv, hnn⟩⟩ := hc
          · exact ld_glob (X := X.suite a ((a, oe3) :: (X.pn ++ pins))) S3 hg hm q hdbg
          · exact ld_blt (X := X.suite a ((a, oe3) :: (X.pn ++ pins))) S3 hg hm hv q hnn hdbg
        refine test (LM.here ?_)
        cases b with
        | true =>
          refine codeAny_handlers_suite_as ?_
          refine HandSPX.lands_againZ fl3 fun h4 fl4 up4 => ?_
          have J4 : Inv X pins σ' H' { s' with heap := h4 } := J.landed nb fl4.1 ((up.trans up3).trans up4) os ag
          obtain ⟨oe4, vs4, he4, hz4, hd4⟩ := fl4.there
          have S4 := J4.suite he4 hd4 na nL nF
          refine store_ok (X := X.suite a ((a, oe4) :: (X.pn ++ pins))) (v := .ref a) S4 hN hi hloc rfl (fun s5 S5 => ?_) (.inr hln)
          refine wpAny_mono ((hsu a oe4 cls d (X.pn ++ pins) hz4 ⟨_, hd4⟩).run [] s5 _ H' _ S5 (hyes rfl a na)) (fun f s6 hsp => ?_) (fun _ _ z => False.elim z)
          have end_ : ∀ {σ6 : L2.St} {H6 : Hp} {Q : Shared → Prop}, Inv (X.suite a ((a, oe4) :: (X.pn ++ pins))) [] σ6 H6 s6 → (∀ s7, Inv X pins (σ6.set i none) H6 s7 → Q s7) →
              wpAny (model X.prog X.w) X.A (do bindName X.env n .none; unbindBehindTheSuite X.env n pos') (fun _ s7 => Q s7) X.xe s6 := fun {σ6 H6 Q} S6 hq => gone_ok (S6.unsuite ok) hN hi hln hq
          cases f with
          | next =>
            obtain ⟨σ6, H6, S6, q6⟩ := hsp
            exact end_ S6 fun s7 J7 => ⟨_, _, J7, q6⟩
          | brk =>
            obtain ⟨σ6, H6, S6, q6⟩ := hsp
            exact end_ S6 fun s7 J7 => ⟨_, _, J7, q6⟩
          | cont =>
            obtain ⟨σ6, H6, S6, q6⟩ := hsp
            exact end_ S6 fun s7 J7 => ⟨_, _, J7, q6⟩
          | ret u =>
            obtain ⟨v6, σ6, H6, S6, r6, q6⟩ := hsp
            exact end_ S6 fun s7 J7 => ⟨_, _, _, J7, r6, q6⟩
        | false =>
          show wpAny _ X.A (handleBy (.ref a) X.env hds2) _ _ _
          exact ih (hno rfl)
    exact go hh w
  · cases f with
    | next =>
      obtain ⟨σ', H', J', q⟩ := hsp
      exact wpAny_execs_nil ⟨σ', H', J'.ofTry ok, q⟩
    | brk =>
      obtain ⟨σ', H', J', q⟩ := hsp
      exact ⟨σ', H', J'.ofTry ok, q⟩
    | cont =>
      obtain ⟨σ', H', J', q⟩ := hsp
      exact ⟨σ', H', J'.ofTry ok, q⟩
    | ret u =>
      obtain ⟨v, σ', H', J', r, q⟩ := hsp
      exact ⟨v, σ', H', J'.ofTry ok, r, q⟩
/-- a suite's reading: the exception is of the class, with a dict -/
def tSu (K : PySem.W.Frag) (w : World) (T : List (Addr × Str)) (κ : List Nat) (cn : Str) (m : MS) : TSu := fun a cls d D σ H => cls = .ref (He.ga K cn) ∧ ∃ dd, d = some dd ∧ tS ⟨K, w, ⟨some (a, dd), T⟩⟩ W00 κ m D σ H
structure HdD (X : Cx) (T : List (Addr × Str)) (κ : List Nat) (h : Hd) (t : Value × Nat × TSu) : Prop where
  ts : t = (.ref (He.ga X.K h.cn), h.i, tSu X.K X.w T κ h.cn h.s)
  cm : ∀ n b, h.cm n = some b → PySem.W.exmOne X.K (.ref (He.ga X.K n)) (.ref (He.ga X.K h.cn)) = some b
  nk : h.i ∉ κ
inductive HdsD (X : Cx) (T : List (Addr × Str)) (κ : List Nat) : List ExceptHandler → List Hd → List (Value × Nat × TSu) → Prop
  | nil : HdsD X T κ [] [] []
  | cons {n : Str} {cm : Str → Option Bool} {cn : Str} {i : Nat} {m : MS} {b₀ : Stmt} {suite : List Stmt} {np pos' : Pos} {hds : List ExceptHandler} {hs : List Hd} {l : List (Value × Nat × TSu)} (hc : Names X cn (.ref (He.ga X.K cn))) (hi : X.N[i]? = some n) (hln : X.env.kindOf n = some .local) (nk : i ∉ κ)
      (hcm : ∀ n b, cm n = some b → PySem.W.exmOne X.K (.ref (He.ga X.K n)) (.ref (He.ga X.K cn)) = some b)
      (hsu : ∀ (a dd : Addr) (oe : Obj) (pn : List (Addr × Obj)), Zc (.ref (He.ga X.K cn)) (some dd) oe → (∃ vs, oe.data = .fields vs) → DSs (X.suite a ((a, oe) :: pn)) ⟨some (a, dd), T⟩ W00 κ (b₀ :: suite) m) (r : HdsD X T κ hds hs l) :
      HdsD X T κ (.ExceptHandler (some (.Name cn np)) (some n) (b₀ :: suite) pos' :: hds) (⟨cm, cn, i, m⟩ :: hs) ((.ref (He.ga X.K cn), i, tSu X.K X.w T κ cn m) :: l)
theorem HdsD.as {hds : List ExceptHandler} {hs : List Hd} {l : List (Value × Nat × TSu)} (h : HdsD X T κ hds hs l) : HdsAs X hds l := by
  induction h with
  | nil => exact .nil
  | cons hc hi hln nk hcm hsu r ih =>
    refine .cons hc hi hln (fun a oe cls d pn hz hf => ⟨fun pins s σ H D I ⟨e1, dd, e2, q⟩ => ?_⟩) ih
    subst e1 e2
    exact (hsu a dd oe pn hz hf).run pins s σ H D I q
theorem wAsM_of {D' : Ends} {σ : L2.St} {H : Hp} {f : List Addr} {hds : List ExceptHandler} {hs : List Hd} {l : List (Value × Nat × TSu)} (h : HdsD X T κ hds hs l) : ∀ {x : Ex} {e : Env} {o : O}, hdRun hs x e = some o → PostS (cx X ⟨none, T⟩) W κ D' σ H f o →
    ∀ dx σ' H' g, Frm f g H H' → Keep κ σ σ' → ExR (cx X ⟨none, T⟩) H' x dx → EnvR (cx X ⟨none, T⟩) H' e σ' g → g.Nodup → wAsM X.K W D' l (.ref (He.ga X.K x.cls)) (some dx) σ' H' := by
  induction h with
  | nil =>
    intro x e o hr k dx σ' H' g fm kp xr he nd
    cases hr
    exact k dx σ' H' g fm kp xr he nd
  | @cons n cm cn i m b₀ suite np pos' hds hs l hc hi hln nk hcm hsu r ih =>
    intro x e o hr k dx σ' H' g fm kp xr he nd
    unfold hdRun at hr
    split at hr
    · cases hr
    · rename_i ec
      exact ⟨false, hcm _ _ ec, (fun z => by cases z), fun _ => ih hr k dx σ' H' g fm kp xr he nd⟩
    · rename_i ec
      refine ⟨true, hcm _ _ ec, fun _ a na => ?_, fun z => by cases z⟩
      split at hr
      · rename_i hcond
        obtain ⟨e1, e2, e3, e4⟩ := hcond
        dsimp only at e1 e2 hr
        subst e1
        refine ⟨rfl, dx, rfl, ?_⟩
        obtain ⟨xv, hx1, hx2, hx3⟩ := xr
        have he' : EnvR ⟨X.K, X.w, ⟨some (a, dx), T⟩⟩ H' e σ' g := EnvR.xi (x1 := ⟨none, T⟩) (x2 := ⟨some (a, dx), T⟩) rfl he e3
        have rx : Rep ⟨X.K, X.w, ⟨some (a, dx), T⟩⟩ H' (.exc x.cls x.ns x.vs) (.ref a) [] := ⟨a, dx, xv, rfl, rfl, hx1, hx2, hx3.xi e4, rfl⟩
        obtain ⟨f', q, n', sub⟩ := he'.store e2 rx (by simpa using nd)
        split at hr
        · cases hr
        rename_i o1 eo1
        refine ⟨_, f', q, n', o1, eo1, ?_⟩
        have fm' : Frm f f' H H' := fm.sub fun b hb => by simpa using sub b hb
        have kp' : Keep κ σ (σ'.set i (some (.ref a))) := kp.trans (Keep.set nk)
        have back : ∀ {e5 : Env} {σ5 : L2.St} {H5 : Hp} {g5 : List Addr}, EnvR ⟨X.K, X.w, ⟨some (a, dx), T⟩⟩ H5 e5 σ5 g5 → g5.Nodup → noxAll (e5.set i .gone) = true → ∃ g6, EnvR (cx X ⟨none, T⟩) H5 (e5.set i .gone) (σ5.set i none) g6 ∧ g6.Nodup ∧ ∀ b ∈ g6, b ∈ g5 := by
          intro e5 σ5 H5 g5 he5 nd5 hnx
          by_cases hil : i < e5.length
          · obtain ⟨o6, f6, f7, eo6, s6, t6, p6⟩ := he5.take (List.getElem?_eq_getElem hil)
            obtain ⟨f8, q8, p8⟩ := t6.put (i := i) (d := .gone) (o := none) (by rw [List.getElem?_set_self hil]) (.inl ⟨rfl, rfl⟩)
            rw [List.set_set] at q8
            refine ⟨f8, EnvR.xi (x1 := ⟨some (a, dx), T⟩) (x2 := ⟨none, T⟩) rfl q8 hnx, p8.nodup_iff.mpr (by simpa using (List.nodup_append.mp (p6.nodup_iff.mpr nd5)).2.1), fun b hb => p6.mem_iff.mp (List.mem_append_right _ (by simpa using p8.mem_iff.mp hb))⟩
          · have z1 : e5.set i .gone = e5 := List.set_eq_of_length_le (by omega)
            have z2 : σ5.set i none = σ5 := List.set_eq_of_length_le (by rw [he5.length]; omega)
            rw [z1] at hnx ⊢
            rw [z2]
            exact ⟨g5, EnvR.xi (x1 := ⟨some (a, dx), T⟩) (x2 := ⟨none, T⟩) rfl he5 hnx, nd5, fun b hb => hb⟩
        cases o1 with
        | nx e5 =>
          unfold hdEnd at hr
          dsimp only at hr
          split at hr
          · rename_i hnx
            cases hr
            intro σ5 H5 g5 fm5 kp5 he5 nd5
            obtain ⟨g6, q6, n6, s6⟩ := back he5 nd5 hnx
            exact k _ H5 g6 ((fm'.trans fm5).sub s6) ((kp'.trans kp5).trans (Keep.set nk)) q6 n6
          · cases hr
        | bk e5 =>
          unfold hdEnd at hr
          dsimp only at hr
          split at hr
          · rename_i hnx
            cases hr
            intro σ5 H5 g5 fm5 kp5 he5 nd5
            obtain ⟨g6, q6, n6, s6⟩ := back he5 nd5 hnx
            exact k _ H5 g6 ((fm'.trans fm5).sub s6) ((kp'.trans kp5).trans (Keep.set nk)) q6 n6
          · cases hr
        | ct e5 =>
          unfold hdEnd at hr
          dsimp only at hr
          split at hr
          · rename_i hnx
            cases hr
            intro σ5 H5 g5 fm5 kp5 he5 nd5
            obtain ⟨g6, q6, n6, s6⟩ := back he5 nd5 hnx
            exact k _ H5 g6 ((fm'.trans fm5).sub s6) ((kp'.trans kp5).trans (Keep.set nk)) q6 n6
          · cases hr
        | ret d5 e5 =>
          unfold hdEnd at hr
          dsimp only at hr
          split at hr
          · rename_i hnx
            cases hr
            intro v5 σ5 H5 g4 g5 fm5 kp5 r5 he5 nd5
            obtain ⟨n1, n2, n3⟩ := List.nodup_append.mp nd5
            obtain ⟨g6, q6, n6, s6⟩ := back he5 n2 hnx.1
            refine k v5 _ H5 g4 g6 ((fm'.trans fm5).sub fun b hb => ?_) ((kp'.trans kp5).trans (Keep.set nk)) (r5.xi hnx.2) q6 (List.nodup_append.mpr ⟨n1, n6, fun x hx y hy => n3 x hx y (s6 y hy)⟩)
            rcases List.mem_append.mp hb with hb | hb
            · exact List.mem_append_left _ hb
            · exact List.mem_append_right _ (s6 b hb)
          · cases hr
        | ex x5 e5 => cases hr
      · cases hr
theorem s_try {body : List Stmt} {h₀ : ExceptHandler} {hds : List ExceptHandler} {hs : List Hd} {l : List (Value × Nat × TSu)} {m : MS} (hst : X.stack = X.env :: X.outer) (hf : X.env.frame = some X.env.locals) (hN : X.N.Nodup) (tk : Takes X W)
    (hb : ∀ (W' : WX) (pn : List (Addr × Obj)) (xe : Value → Shared → Prop), Bx (X.tr pn xe) W' → DSs (X.tr pn xe) ⟨none, T⟩ W' κ body m) (hh : HdsD X T κ (h₀ :: hds) hs l) : DS X ⟨none, T⟩ W κ (.Try body (h₀ :: hds) [] [] pos) (mTry m hs) :=
  (ps_try_asM (tb := fun W' => tS (cx X ⟨none, T⟩) W' κ m) hst hf hN tk (fun W' pn xe a b => hb W' pn xe ⟨a, b⟩) hh.as).imp fun D' σ H ⟨env, f, he, nd, o, eo, k⟩ => by
    unfold mTry at eo
    split at eo
    · rename_i x e em
      exact ⟨env, f, he, nd, _, em, wAsM_of hh eo k⟩
    · rename_i hn
      refine ⟨env, f, he, nd, o, eo, ?_⟩
      cases o with
      | ex x e => exact (hn x e eo).elim
      | nx e => exact k
      | bk e => exact k
      | ct e => exact k
      | ret d e => exact k
/-- e.f within the suite -/
def fldOf (f : Str) : List Str → List D → Option D
  | n :: ns, d :: ds => if f = n then some d else fldOf f ns ds
  | _, _ => none
def mXf (i : Nat) (f : Str) : MP := fun env => match env[i]? with
  | some (.exc _ ns vs) => fldOf f ns vs
  | _ => none
theorem fldOf_ok {f : Str} {d : D} : ∀ {ns : List Str} {ds : List D} {vs : List V}, fldOf f ns ds = some d → Reps c H ds vs [] → ns.length = vs.length → ∃ v, (ns.zip vs).lookup f = some v ∧ Rep c H d v []
  | [], ds, vs, h, r, l => by cases ds <;> cases h
  | n :: ns, [], vs, h, r, l => by cases h
  | n :: ns, d0 :: ds, vs, h, r, l => by
    obtain ⟨v, vs', f1, f2, rfl, r1, r2, hf⟩ := r
    obtain ⟨rfl, rfl⟩ := List.append_eq_nil_iff.mp hf.symm
    unfold fldOf at h
    split at h
    · rename_i e
      cases h
      subst e
      exact ⟨v, by simp [List.lookup], r1⟩
    · rename_i hne
      obtain ⟨v', e, rv⟩ := fldOf_ok h r2 (by simpa using l)
      refine ⟨v', ?_, rv⟩
      have q : (f == n) = false := by simpa using hne
      rw [List.zip_cons_cons, List.lookup, q]
      exact e
theorem p_xf {a dd : Addr} {oe : Obj} {pn : List (Addr × Obj)} {y n cn : Str} {p : Pos} {i : Nat} (T : XfC X.K (He.ga X.K cn)) (hno : PySem.W.findIn X.K (.ref (He.ga X.K cn)) n = some none) (hz : Zc (.ref (He.ga X.K cn)) (some dd) oe) (hf : ∃ vs, oe.data = .fields vs) (hv : PE (X.suite a ((a, oe) :: pn)) (.Name y p) (tVar i))
    (hb : attributeBase (.Name y p) n X.env (eval (.Name y p) X.env) = eval (.Name y p) X.env := by rfl) : DP (X.suite a ((a, oe) :: pn)) ⟨some (a, dd), Tcs⟩ true (.Attribute (.Name y p) n pos) (mXf i n) :=
  (pe_xf T hno hz hf hv hb).imp fun σ H Q ⟨env, f, he, nd, d, ed, k⟩ => by
    unfold mXf at ed
    split at ed
    · rename_i cl ns vs ei
      obtain ⟨o, g, eo, s, _⟩ := he.get ei
      obtain ⟨v, rfl, a', dd', xv, e1, rfl, e2, e3, e4, _⟩ := s.val (by simp)
      have e1' : (some (a, dd) : Option (Addr × Addr)) = some (a', dd') := e1
      cases e1'
      obtain ⟨v', el, rv⟩ := fldOf_ok ed e4 e3
      exact ⟨_, eo, rfl, rfl, dd, _, v', rfl, e2, el, k v' H [] (Same.refl H) rv List.nodup_nil fun b hb => by cases hb⟩
    · cases ed
/-- isinstance(e, C) within the suite -/
structure ExcF (K : PySem.W.Frag) (D : Addr) : Prop where
  cl : (PySem.W.clsIn K D).isSome = true
  hg : PySem.W.findIn K (.ref D) "__getattribute__" = some (some (.builtin "BaseException.__getattribute__"))
  hk : PySem.W.findIn K (.ref D) "__getattr__" = some none
  hs : PySem.W.subIn K (.ref D) (.type "BaseException") = some true
  ha : PySem.W.findIn K (.ref D) "__class__" = some (some (.builtin "object.__class__"))
  hn : PySem.W.specialIn K (.builtin "object.__class__") "__get__" = some (some (.builtin "getset_descriptor.__get__"))
  ht : PySem.W.takesIn K (.builtin "object.__class__") = some true
  hm : PySem.W.mroIn K D (.type "object") = some true
def rIsX (K : PySem.W.Frag) (D a dd : Addr) (C : Addr) (b : Bool) : List V → Hp → VK → Prop := fun xs H Q => xs = [.ref a, .ref C] ∧ (∃ fs, H dd = some (.xd fs)) ∧ Q (.bl b) H
theorem call_isX {a dd D C : Addr} {oe : Obj} {pn : List (Addr × Obj)} {b : Bool} (T : ExcF X.K D) (hz : Zc (.ref D) (some dd) oe) (hf : ∃ vs, oe.data = .fields vs) (hk : PySem.W.kitOne X.K (.ref D) (.ref C) = some b) : CallR (X.suite a ((a, oe) :: pn)) (.builtin "isinstance") (rIsX X.K D a dd C b) := by
  intro pins s σ H xs us Q I r h
  obtain ⟨rfl, ⟨fs, hx⟩, q⟩ := h
  cases r with
  | cons rx rr =>
    cases rr with
    | cons rt rr =>
      cases rr
      cases rx
      cases rt
      obtain ⟨hget, _⟩ := I.pin (a, oe) (List.mem_append.mpr (.inl List.mem_cons_self))
      obtain ⟨vs, hv⟩ := hf
      have hx' : ObjOk X.prog X.w H s.heap dd (.xd fs) := I.hok dd _ hx
      obtain ⟨mA, hns, hr⟩ := hx'
      obtain ⟨od, ho, hl⟩ := lookIn_ns hns
      have J : PySem.W.InstAt s.heap a oe D (some od) := ⟨hget, hz.1, by unfold PySem.W.notCls; rw [hv] <;> rfl, by rw [hz.2]; exact ho⟩
      exact PySem.W.kia_one (PySem.W.kitx_exc T.cl T.hg T.hk T.hs T.ha T.hn T.ht T.hm) I.kIn J hk (fun z => nomatch z) fun tk => ⟨.bl b, H, I.kept (t' := tk) fun _ _ z => z, rfl, q⟩
def mIsX (i : Nat) (b : Bool) : MP := fun env => match env[i]? with
  | some (.exc _ _ _) => some (.bl b)
  | _ => none
theorem p_isX {a dd C : Addr} {oe : Obj} {pn : List (Addr × Obj)} {b : Bool} {y x cn : Str} {p p2 p3 : Pos} {i : Nat} (T : ExcF X.K (He.ga X.K cn)) (hz : Zc (.ref (He.ga X.K cn)) (some dd) oe) (hf : ∃ vs, oe.data = .fields vs) (hk : PySem.W.kitOne X.K (.ref (He.ga X.K cn)) (.ref C) = some b) (hv : PE (X.suite a ((a, oe) :: pn)) (.Name y p) (tVar i))
    (hm : X.mg "isinstance" = none) (hmC : X.mg x = some (.ref C)) (hg : Gl X "isinstance" := by rfl) (hgC : Gl X x := by rfl) (hdC : (x == ("__debug__" : Str)) = false := by decide) (hs1 : starEach (.Name y p :: [.Name x p2]) X.env = (false, eval (.Name y p) X.env) :: starEach [.Name x p2] X.env := by rfl)
    (hs2 : starEach [.Name x p2] X.env = (false, eval (.Name x p2) X.env) :: starEach [] X.env := by rfl) (hpl : (backTo pos (starEach [.Name x p2] X.env)).any (·.1) = false := by rfl) :
    DP (X.suite a ((a, oe) :: pn)) ⟨some (a, dd), Tcs⟩ true (.Call (.Name "isinstance" p3) [.Name y p, .Name x p2] [] pos) (mIsX i b) :=
  (pe_callB (X := X.suite a ((a, oe) :: pn)) (call_isX T hz hf hk) hg hm (by first | rfl | decide +kernel) (pa_cons hv (pa_cons (pe_glob (X := X.suite a ((a, oe) :: pn)) (v := .ref C) hgC hmC rfl hdC) pa_nil hs2) hs1) (by decide) (by decide) hs1 hpl).imp fun σ H Q ⟨env, f, he, nd, d, ed, k⟩ => by
    unfold mIsX at ed
    split at ed
    · rename_i cl ns vs ei
      cases ed
      obtain ⟨o, g, eo, s, _⟩ := he.get ei
      obtain ⟨v, rfl, a', dd', xv, e1, rfl, e2, e3, e4, _⟩ := s.val (by simp)
      have e1' : (some (a, dd) : Option (Addr × Addr)) = some (a', dd') := e1
      cases e1'
      exact ⟨_, eo, rfl, ⟨_, e2⟩, k (.bl b) H [] (Same.refl H) ⟨rfl, rfl⟩ List.nodup_nil fun b hb => by cases hb⟩
    · cases ed
end
end DL
set_option maxHeartbeats 4000000
/-! DL10: defs by name, keyword calls, pairs stored, slices with calls in them. -/
namespace DL
open PySem PySem.Spec PyProof.Rows L2
open LamX (Tabs TabS CodeO)

/-- the module's name x holds the def that st is -/
abbrev Fx (K : PySem.W.Frag) (mg : Str → Option Value) (x : Str) (st : Stmt) : Prop := ∃ f fd, FunD K x x (defArgs st) (defBody st) (defScope st) [] [] f fd ∧ mg x = some (.ref f)
/-- .. and does what m does: level, parameters -/
structure Fd (P : Program) (w : World) (K : PySem.W.Frag) (T : List (Addr × Str)) (mg : Str → Option Value) (base : Heap) (x : Str) (st : Stmt) (k : Nat) (ps : List Str) (m : MF) : Prop where
  ex : ∃ (f : Addr) (fd : FuncData), FunD K x x (defArgs st) (defBody st) (defScope st) [] [] f fd ∧ mg x = some (.ref f) ∧ FnOk P w K mg base (L2.CX P w) k f fd ps (spM (cf0 K w T) ps.length m) ∧ Binds K fd ps []
theorem fd_ok {P : Program} {w : World} {K : PySem.W.Frag} {mg : Str → Option Value} {base : Heap} {x : Str} {st : Stmt} {N ps : List Str} {k : Nat} {κ : List Nat} {m : MS} (F : Fx K mg x st) (S : FnScope N ps (defScope st))
    (hb : ∀ (kV doc pm : Value) (an : Option Addr) (cdv ct : Value) (us : List Value), us.length = ps.length → bindArgs (PySem.W.fnOf x x (defArgs st) (defBody st) (defScope st) .none kV doc pm an cdv ct) ⟨us, []⟩ = pure (ps.zip us))
    (hbody : ∀ (f : Addr) (cdv : Value) (A : Around) (outer : List PySem.Env) (s : Shared) (H : Hp) (E : XK), Room k (A.deeper (envOfC x (defScope st) s.heap.objs.size f cdv)) → ∀ W, Bx (cxOf (L2.CX P w) P w K mg base N x (defScope st) f cdv A outer s H E) W →
      DSs (cxOf (L2.CX P w) P w K mg base N x (defScope st) f cdv A outer s H E) ⟨none, T⟩ W κ (defBody st) m) (hn : ps.length ≤ N.length := by decide) :
    Fd P w K T mg base x st (k + 1) ps (mFn N.length ps.length κ m) := by
  obtain ⟨f, fd, F, hm⟩ := F
  exact ⟨f, fd, F, hm, def_ok F S hn (hbody f), F.bindsN hb⟩
section
variable {c : Cf} {W : WX} {κ : List Nat} {X : Cx} {ξ : Xi} {pos : Pos} {H : Hp}
theorem e_callF {x : Str} {st : Stmt} {p : Pos} {e : Expr} {es : List Expr} {k j : Nat} {ps : List Str} {m : MF} {as : List Ag} (F : Fd X.prog X.w X.K T X.mg X.base x st k ps m) (hr : Room j X.A) (tk : Takes X W) (ha : DV X ⟨none, T⟩ W (e :: es) as) (hkj : k ≤ j := by decide) (hlen : as.length = ps.length := by rfl) (hg : Gl X x := by rfl)
    (hdb : (x == ("__debug__" : Str)) = false := by decide) (he : starEach (e :: es) X.env = (false, eval e X.env) :: starEach es X.env := by rfl) (hpl : (backTo pos (starEach es X.env)).any (·.1) = false := by rfl) :
    DE X ⟨none, T⟩ W (.Call (.Name x p) (e :: es) [] pos) (mCall m as) := by
  obtain ⟨f, fd, F, hm, G, hb⟩ := F.ex
  exact e_call G (hr.mono hkj) hm F.kp hb tk ha hlen hg hdb he hpl
/-! ### keyword calls -/
theorem PK.imp {kws : List Keyword} {t t' : TA} (h : PK X kws t) (k : ∀ σ H Q, t' σ H Q → t σ H Q) : PK X kws t' := ⟨fun pos pins s σ H Q I q => h.run pos pins s σ H Q I (k _ _ _ q)⟩
abbrev DPK (X : Cx) (ξ : Xi) (kws : List Keyword) (m : Env → Option (List D)) : Prop := PK X kws (tPA (cx X ξ) m)
theorem k_nil : DPK X ξ [] mPnil := PK.imp pk_nil fun σ H Q ⟨env, f, he, nd, ds, e, k⟩ => by
  cases e
  exact k [] H [] (Same.refl H) ⟨rfl, rfl⟩
theorem k_cons {nm : Option Str} {kpos : Pos} {e : Expr} {kws : List Keyword} {fr : Bool} {m : MP} {ms : Env → Option (List D)} (h : DP X ξ fr e m) (hs : DPK X ξ kws ms) : DPK X ξ (⟨nm, e, kpos⟩ :: kws) (mPcons m ms) :=
  PK.imp (pk_cons h hs) fun σ H Q ⟨env, f, he, nd, ds, ed, k⟩ => by
    obtain ⟨d, r, e1, e2, rfl⟩ := mPcons_some ed
    refine ⟨env, f, he, nd, d, e1, fun v H1 g s1 rv _ _ => ⟨env, f, he.same s1, nd, r, e2, fun vs H2 g2 s2 rs => ?_⟩⟩
    exact k (v :: vs) H2 (g ++ g2) (s1.trans s2) ⟨v, vs, g, g2, rfl, rv.same s2, rs, rfl⟩
def pick {α : Type} [Inhabited α] (pi : List Nat) (l : List α) : List α := pi.map fun i => l.getD i default
instance : Inhabited V := ⟨.non⟩
instance : Inhabited Value := ⟨.none⟩
theorem vals_pick {pi : List Nat} {vs : List V} {us : List Value} (r : Vals vs us) : Vals (pick pi vs) (pick pi us) := by
  induction pi with
  | nil => exact .nil
  | cons i pi ih =>
    refine .cons ?_ ih
    cases e : vs[i]? with
    | none =>
      have z := r.none_of e
      show RelV (vs.getD i default) (us.getD i default)
      rw [List.getD_eq_getElem?_getD, List.getD_eq_getElem?_getD, e, z]
      rfl
    | some v =>
      obtain ⟨u, eu, rv⟩ := r.get e
      show RelV (vs.getD i default) (us.getD i default)
      rw [List.getD_eq_getElem?_getD, List.getD_eq_getElem?_getD, e, eu]
      exact rv
def mCallK (f : MF) (n : Nat) (pi : List Nat) (ms : Env → Option (List D)) : M D := fun env => match ms env with
  | none => none
  | some ds => if persAll ds = true ∧ ds.length = n ∧ pi.all (fun i => decide (i < n)) = true then match f (pick pi ds) with
      | some (.ok d _) => some (.ok d env)
      | _ => none
    else none
theorem reps_pick {ds : List D} {vs : List V} {n : Nat} (r : Reps c H ds vs []) (hn : ds.length = n) : ∀ {pi : List Nat}, pi.all (fun i => decide (i < n)) = true → Reps c H (pick pi ds) (pick pi vs) []
  | [], _ => ⟨rfl, rfl⟩
  | i :: pi, h => by
    rw [List.all_cons, Bool.and_eq_true_iff] at h
    have hi : i < ds.length := by rw [hn]; exact of_decide_eq_true h.1
    obtain ⟨v, g, ev, rv, _⟩ := r.get (List.getElem?_eq_getElem hi)
    have rv' := r.at (List.getElem?_eq_getElem hi) ev
    refine ⟨v, pick pi vs, [], [], ?_, ?_, reps_pick r hn h.2, rfl⟩
    · show vs.getD i default :: _ = _
      rw [List.getD_eq_getElem?_getD, ev]
      rfl
    · show Rep c H (ds.getD i default) v []
      rw [List.getD_eq_getElem?_getD, List.getElem?_eq_getElem hi]
      exact rv'
theorem tE_callK {n : Nat} {ps : List Str} {pi : List Nat} {m : MF} {ms : Env → Option (List D)} {σ : L2.St} {Q : VK} {K : PySem.W.Frag} {w : World} (hlen : pi.length = ps.length) (h : tE (cf0 K w T) W (mCallK m n pi ms) σ H Q) :
    tPA (cf0 K w T) ms σ H fun zs H2 => zs.length = n ∧ spM (cf0 K w T) ps.length m (pick pi zs) H2 Q E0 := by
  obtain ⟨env, f, he, nd, r, er, k⟩ := h
  unfold mCallK at er
  split at er
  · cases er
  rename_i ds eds
  split at er
  · rename_i hc
    refine ⟨env, f, he, nd, ds, eds, fun vs H1 g s1 rs => ⟨by rw [rs.length]; exact hc.2.1, ?_⟩⟩
    split at er
    · rename_i d ds' em
      cases er
      refine ⟨by unfold pick; rw [List.length_map]; exact hlen, (he.same s1).tabs, pick pi ds, [], reps_pick (rs.toP hc.1) hc.2.1 hc.2.2, List.nodup_nil, _, em, fun v H2 g1 g2 fm rv rs2 nd2 => ?_⟩
      have he1 := he.same s1
      have fm1 : Frm [] g1 H1 H2 := fm.sub fun b hb => List.mem_append_left _ hb
      have ng1 := (List.nodup_append.mp nd2).1
      obtain ⟨_, _, fr, nd3⟩ := frame (c := cf0 K w T) (P := True) (k := f) (f := []) (by simpa using nd) he1.own (fun b hb => by cases hb) fm1 ng1
      have fmL : Frm f (f ++ g1) H H2 := (Frm.same s1).trans (by simpa using fm1.left f)
      exact k v H2 g1 f (fmL.sub fun b hb => (List.mem_append.mp hb).elim (List.mem_append_right _) (List.mem_append_left _)) rv (fr he1) (List.perm_append_comm.nodup_iff.mp nd3)
    · cases er
  · cases er
/-- f(k = v, ..), all by keywords -/
theorem e_callK {x : Str} {st : Stmt} {p : Pos} {kws : List Keyword} {k j : Nat} {ps ks : List Str} {pi : List Nat} {m : MF} {ms : Env → Option (List D)} (F : Fd X.prog X.w X.K T X.mg X.base x st k ps m) (hr : Room j X.A) (hkw : DPK X ⟨none, T⟩ kws ms)
    (hb : ∀ (kV doc pm : Value) (an : Option Addr) (cdv ct : Value) (ws : List Value), ws.length = ks.length → bindArgs (PySem.W.fnOf x x (defArgs st) (defBody st) (defScope st) .none kV doc pm an cdv ct) ⟨[], ks.zip ws⟩ = pure (ps.zip (pick pi ws)))
    (hkj : k ≤ j := by decide) (hpi : pi.length = ps.length := by rfl)
    (hg : Gl X x := by rfl) (hdb : (x == ("__debug__" : Str)) = false := by decide) (hall : (backToKw pos (keywordEach kws X.env)).all (·.1.isSome) = true := by rfl) (hks : (backToKw pos (keywordEach kws X.env)).filterMap (·.1) = ks := by rfl)
    (hpl : ((backTo pos (starEach [] X.env)).any (·.1) || (backToKw pos (keywordEach kws X.env)).any (·.1.isNone)) = false := by rfl) :
    DE X ⟨none, T⟩ W (.Call (.Name x p) [] kws pos) (mCallK m ks.length pi ms) := by
  obtain ⟨f, fd, F, hm, G, _⟩ := F.ex
  have hB : KBn X.K fd ps 0 ks (fun _ ws => pick pi ws) (fun _ zs => pick pi zs) := by
    obtain ⟨oc, od, dV, kV, doc, pm, an, cdv, ct, osl, rfl, lk, hcd, hD, hK⟩ := F.ex
    rcases hD with ⟨_, rfl⟩ | ⟨e, _⟩
    · refine ⟨fun s us ws _ l1 l2 => ?_, fun _ r => vals_pick r⟩
      cases us with
      | nil => exact .of_eq (hb kV doc pm an cdv ct ws l2)
      | cons _ _ => cases l1
    · exact absurd rfl e
  refine ⟨fun pins s σ H Q I h => ?_⟩
  refine wpAny_Call_Name_kw (ld_glob I hg hm ?_ hdb)
  refine PySem.W.callWith_KW0 (h₀ := X.base) I.ok.mod.kin F.kp hall (thn (hkw.run pos pins s σ H _ I (tE_callK hpi h)) fun ws s2 ⟨zs, H2, I2, rz, l2, q2⟩ => ⟨I2.kIn, ?_⟩) hpl
  rw [hks]
  exact run_fnN G (hr.mono hkj) hB (passL) I2 .nil rz rfl l2 q2
/-! ### classes of exceptions with two fields -/
structure Exc2 (P : Program) (w : World) (K : PySem.W.Frag) (mg : Str → Option Value) (base : Heap) (x f1 f2 : Str) : Prop where
  T : OexC K (He.ga K x)
  hm : mg x = some (.ref (He.ga K x))
  ini : ∃ (fI : Addr) (fd : FuncData) (ps : List Str), PySem.W.findIn K (.ref (He.ga K x)) "__init__" = some (some (.ref fI)) ∧ PySem.W.typeIn K (.ref fI) = some (.type "function") ∧ FnOk P w K mg base CX0 1 fI fd ps (spIni2 (He.ga K x) f1 f2) ∧ Binds K fd ps []
theorem s_raiseX {x f1 f2 : Str} {e : Expr} {es : List Expr} {p pos2 : Pos} {j : Nat} {ms : Env → Option (List D)} (hc : X.calm = true) (tk : Takes X W) (C : Exc2 X.prog X.w X.K X.mg X.base x f1 f2) (hr : Room j X.A) (ha : DPA X ξ (e :: es) ms) (hj : 2 ≤ j := by decide) (hg : Gl X x := by rfl)
    (hdb : (x == ("__debug__" : Str)) = false := by decide) (he : starEach (e :: es) X.env = (false, eval e X.env) :: starEach es X.env := by rfl) (hpl : (backTo pos (starEach es X.env)).any (·.1) = false := by rfl) :
    DS X ξ W κ (.Raise (some (.Call (.Name x p) (e :: es) [] pos)) none pos2) (mRaise x [f1, f2] ms) := by
  obtain ⟨fI, fd, ps, i1, i2, i3, i4⟩ := C.ini
  exact s_raise2 hc tk C.T i1 i2 i3 (hr.mono hj) i4 C.hm ha hg hdb he hpl
/-! ### two names stored at once -/
theorem s_par {i j : Nat} {x y : Str} {a b : Expr} {ms : M (List D)} {px py pt : Pos} {kt k2 pt2} (h1 : i ∉ κ) (h2 : j ∉ κ) (hc : X.calm = true) (hN : X.N.Nodup) (ha : DA X ξ W [a, b] ms) (hi : X.N[i]? = some x := by rfl) (hj : X.N[j]? = some y := by rfl) (hij : i ≠ j := by decide)
    (hx : X.env.scope.names.lookup x = some .local := by rfl) (hy : X.env.scope.names.lookup y = some .local := by rfl)
    (hw : swappedStores [.Tuple [.Name x px, .Name y py] kt pt] (.Tuple [a, b] k2 pt2) X.env = pure (some [x, y]) := by rfl)
    (hs : swapsWithSole [.Tuple [.Name x px, .Name y py] kt pt] (.Tuple [a, b] k2 pt2) pos.line X.env = pure false := by rfl) :
    DS X ξ W κ (.Assign [.Tuple [.Name x px, .Name y py] kt pt] (.Tuple [a, b] k2 pt2) pos) (mPar i j ms) := (ps_par hc hN hi hj hij hx hy ha hw hs).imp fun _ _ _ h => tS_par h1 h2 h
/-! ### slices whose bounds call -/
def mBdE : Option (M D) → M (Option Int)
  | none => M.pure none
  | some m => m.bind fun d => match d with
    | .int i => M.pure (some i)
    | _ => fun _ => none
def PostO (c : Cf) (W : WX) (σ : L2.St) (H : Hp) (f : List Addr) (Q : Option Int → Hp → Prop) : R (Option Int) → Prop
  | .ok o e => ∀ H' g, Frm f g H H' → EnvR c H' e σ g → g.Nodup → Q o H'
  | .ex x e => ∀ dx H' g, Frm f g H H' → ExR c H' x dx → EnvR c H' e σ g → g.Nodup → W (.ref (He.ga c.K x.cls)) (some dx) σ H'
def tO (c : Cf) (W : WX) (m : M (Option Int)) : TO := fun σ H Q => ∃ env f, EnvR c H env σ f ∧ f.Nodup ∧ ∃ r, m env = some r ∧ PostO c W σ H f Q r
theorem _root_.L2.PO.imp {e : Option Expr} {t t' : TO} (h : PO X e t) (k : ∀ σ H Q, t' σ H Q → t σ H Q) : PO X e t' := ⟨fun pins s σ H Q I q => h.run pins s σ H Q I (k _ _ _ q)⟩
theorem o_none : PO X none (tO (cx X ξ) W (mBdE none)) := po_none.imp fun σ H Q ⟨env, f, he, nd, r, er, k⟩ => by
  cases er
  exact k H f Frm.refl he nd
theorem o_some {e : Expr} {m : M D} (h : DE X ξ W e m) : PO X (some e) (tO (cx X ξ) W (mBdE (some m))) := (po_some h).imp fun σ H Q ⟨env, f, he, nd, r, er, k⟩ => by
  rcases bind_some er with ⟨x, e1, ea, rfl⟩ | ⟨d, e1, ea, er⟩
  · exact ⟨env, f, he, nd, _, ea, k⟩
  · refine ⟨env, f, he, nd, _, ea, fun v H' g1 g2 fm rv he' nd' => ?_⟩
    split at er
    · cases er
      obtain ⟨rfl, _⟩ := rv
      exact ⟨_, rfl, k H' g2 (fm.sub fun b hb => List.mem_append_right _ hb) he' (List.nodup_append.mp nd').2.1⟩
    · cases er
def mSlE (ma : M D) (lo hi : Option (M D)) : M D := ma.bind fun x => (mBdE lo).bind fun l => (mBdE hi).bind fun u => M.ofO (dSl x l u)
theorem tE_sl {ma : M D} {lo hi : Option (M D)} {σ : L2.St} {H : Hp} {Q : VK} (h : tE (cx X ξ) W (mSlE ma lo hi) σ H Q) : tSl (rSlD X.K) (tE (cx X ξ) W ma) (tO (cx X ξ) W (mBdE lo)) (tO (cx X ξ) W (mBdE hi)) σ H Q := by
  obtain ⟨env, f, he, nd, rz, ez, k⟩ := h
  rcases bind_some ez with ⟨x, e1, ea, rfl⟩ | ⟨dx, e1, ea, ez⟩
  · exact ⟨env, f, he, nd, _, ea, k⟩
  · refine ⟨env, f, he, nd, _, ea, fun x H1 gx fe1 fm1 rx he1 nd1 => ?_⟩
    obtain ⟨nx, ne1, dis⟩ := List.nodup_append.mp nd1
    rcases bind_some ez with ⟨xx, e2, eb, rfl⟩ | ⟨l, e2, eb, ez⟩
    · exact ⟨e1, fe1, he1, ne1, _, eb, fun dx' H2 g fm2 xr he2 ng => k dx' H2 g (fm1.trans ((fm2.wide fun b hb => List.mem_append_right _ hb))) xr he2 ng⟩
    · refine ⟨e1, fe1, he1, ne1, _, eb, fun H2 fe2 fm2 he2 ne2 => ?_⟩
      obtain ⟨fr1, _, _, nd3⟩ := frame (c := cx X ξ) (P := True) nd1 rx.own he1.own fm2 ne2
      have fm3 := fm1.trans (fm2.left gx)
      rcases bind_some ez with ⟨xx, e3, ec, rfl⟩ | ⟨u, e3, ec, ez⟩
      · exact ⟨e2, fe2, he2, ne2, _, ec, fun dx' H3 g fm4 xr he3 ng => k dx' H3 g (fm3.trans ((fm4.wide fun b hb => List.mem_append_right _ hb))) xr he3 ng⟩
      · obtain ⟨dz, eo, rfl⟩ := ofO_some ez
        refine ⟨e2, fe2, he2, ne2, _, ec, fun H3 fe3 fm4 he3 ne3 => ?_⟩
        have rx2 := fr1 rx
        obtain ⟨fr2, _, _, nd5⟩ := frame (c := cx X ξ) (P := True) nd3 rx2.own he2.own fm4 ne3
        exact dSl_some eo (fr2 rx2) (post_op k ((fm3.trans (fm4.left gx)).sub fun b hb => List.mem_append_right _ hb) he3 ne3)
theorem e_sl {a : Expr} {ma : M D} {lo hi : Option (M D)} {elo ehi : Option Expr} {p2 : Pos} (ha : DE X ξ W a ma) (hl : PO X elo (tO (cx X ξ) W (mBdE lo))) (hh : PO X ehi (tO (cx X ξ) W (mBdE hi))) : DE X ξ W (.Subscript a (.Slice elo ehi none p2) pos) (mSlE ma lo hi) :=
  (pe_slice sl_D ha hl hh).imp fun _ _ _ h => tE_sl h
/-- xs[::-1] of a list -/
def dRevL : D → Option D
  | .lst l => if persAll l = true then some (.lst l.reverse) else none
  | .fz l => if persAll l = true then some (.lst l.reverse) else none
  | _ => none
theorem Reps.rev : ∀ {ds : List D} {vs : List V}, Reps c H ds vs [] → Reps c H ds.reverse vs.reverse [] := fun {ds vs} r => Reps.of (by simp [r.length]) fun i d v h1 h2 => by
  have l := r.length
  by_cases hi : i < ds.length
  · rw [List.getElem?_reverse hi] at h1
    rw [List.getElem?_reverse (by rw [l]; exact hi), l] at h2
    exact r.at h1 h2
  · rw [List.getElem?_eq_none (by simpa using hi)] at h1
    cases h1
theorem p_revL {a : Expr} {m : MP} {f1 : Bool} {k : Nat} {p1 p2 p3 : Pos} (h : DP X ξ f1 a m) : DP X ξ true (.Subscript a (.Slice none none (some (.UnaryOp .USub (.Constant (.int 1) k p1) p2)) p3) pos) (mUnP dRevL m) := (pe_revL h).imp fun σ H Q ⟨env, f, he, nd, d, ed, kk⟩ => by
  obtain ⟨x, e1, e2⟩ := mUnP_some ed
  refine ⟨env, f, he, nd, x, e1, fun v H1 g s r ng fo => ?_⟩
  have fin : ∀ {a : Addr} {vs : List V} {l : List D}, Reps (cx X ξ) H1 l vs [] → ∀ p, H1 p = none → d = .lst l.reverse → Q (.ref p) (upd H1 p (.lst vs.reverse)) := fun {a vs l} rs p hp e => by
    subst e
    refine giveL (rs.rev) hp fun z H' g' s' r' n' f' => kk z H' g' (s.trans s') r' n' fun b hb => .inl (s.free (f' b hb))
  unfold dRevL at e2
  split at e2
  · split at e2
    · rename_i hp
      cases e2
      obtain ⟨a, vs, g', rfl, q, rs, _⟩ := r
      exact ⟨a, vs, rfl, SqL.of q, fun p hpn => fin (a := a) (rs.toP hp) p hpn rfl⟩
    · cases e2
  · split at e2
    · rename_i hp
      cases e2
      obtain ⟨a, vs, rfl, q, rs, _⟩ := r
      exact ⟨a, vs, rfl, q.sq, fun p hpn => fin (a := a) (rs.toP hp) p hpn rfl⟩
    · cases e2
  · cases e2
end
end DL
set_option maxHeartbeats 4000000
/-! DL11: more rules. -/
namespace DL
open PySem PySem.Spec PyProof.Rows L2
open LamX (Tabs TabS CodeO)
theorem _root_.L2.Room.units65 {k : Nat} {A : Around} (r : Room k A) : A.units + 65 < cLine := by have := r.un; omega
/-! ### t[::-1] of a tuple -/
section
variable {prog : Program} {w : World} {A : Around} {E : Value → Shared → Prop} {s : Shared}
open _root_.HT in
theorem sliceApplied_rev {sl : Addr} {vl vu vs : Value} {n : Nat} {Q : Int × Int × Nat → Shared → Prop} (hs : s.heap.IsSliceOf sl vl vu vs) (pl : IsPart vl none) (pu : IsPart vu none) (ps : IsPart vs (some (-1)))
    (h : Q ((n : Int) - 1, -1, n) s) : wpAny (model prog w) A (Builtin.Slice.sliceApplied (.ref sl) (pure (n : Int))) Q E s := by
  obtain ⟨os, hos, hcs, hds⟩ := id hs
  unfold Builtin.Slice.sliceApplied Builtin.Slice.sliceFields
  refine wpAny_bind (wpAny_bind (wpAny_field hos hds (x := vl) rfl (wpAny_bind (wpAny_field hos hds (x := vu) rfl (wpAny_bind (wpAny_field hos hds (x := vs) rfl (wpAny_pure ?_)))))))
  refine wpAny_bind (slicePart_ ps ?_)
  show wpAny _ _ (if ((-1 : Int) == 0) = true then _ else _) _ _ s
  rw [if_neg (by decide)]
  refine wpAny_bind (slicePart_ pl (wpAny_bind (slicePart_ pu (wpAny_bind (wpAny_pure ?_)))))
  show wpAny _ _ (match Builtin.Slice.sliceAdjust none none (-1) (n : Int) with | (lo, hi) => pure (lo, (-1 : Int), Builtin.Slice.slicePlaces lo hi (-1))) _ _ s
  have e1 : Builtin.Slice.sliceAdjust none none (-1) (n : Int) = ((n : Int) - 1, -1) := by
    unfold Builtin.Slice.sliceAdjust
    simp
  rw [e1]
  have e2 : Builtin.Slice.slicePlaces ((n : Int) - 1) (-1) (-1) = n := by
    unfold Builtin.Slice.slicePlaces
    have h1 : ¬ ((-1 : Int) > 0) := by decide
    simp only [h1, if_false, show (- -1 : Int) = 1 by decide, Int.ediv_one]
    split <;> omega
  show wpAny _ _ (pure ((n : Int) - 1, (-1 : Int), Builtin.Slice.slicePlaces ((n : Int) - 1) (-1) (-1))) _ _ s
  rw [e2]
  exact wpAny_pure h
theorem fm_congr {α β : Type} {f g : α → Option β} : ∀ {l : List α}, (∀ a ∈ l, f a = g a) → l.filterMap f = l.filterMap g
  | [], _ => rfl
  | a :: l, h => by
    rw [List.filterMap_cons, List.filterMap_cons, h a List.mem_cons_self, fm_congr fun b hb => h b (List.mem_cons_of_mem _ hb)]
theorem pick_rev (xs : List Value) : ((List.range xs.length).filterMap fun (m : Nat) => xs.toArray[(((xs.length : Int) - 1) + (m : Int) * (-1)).toNat]?) = xs.reverse := by
  have e : ((List.range xs.length).filterMap fun (m : Nat) => xs.toArray[(((xs.length : Int) - 1) + (m : Int) * (-1)).toNat]?) = (List.range xs.length).filterMap fun m => xs.reverse[m]? := by
    apply fm_congr
    intro m hm
    have hm' := List.mem_range.mp hm
    rw [List.getElem?_reverse hm']
    have : (((xs.length : Int) - 1) + (m : Int) * (-1)).toNat = xs.length - 1 - m := by omega
    rw [this]
    simp
  rw [e]
  have l : xs.length = xs.reverse.length := by simp
  rw [l]
  generalize xs.reverse = ys
  clear e l
  induction ys with
  | nil => rfl
  | cons y ys ih =>
    rw [List.length_cons, List.range_succ_eq_map, List.filterMap_cons]
    show y :: _ = _
    rw [List.filterMap_map]
    congr 1
open _root_.HT in
theorem getItem_tuple_rev {t sl : Addr} {its : List Value} {vl vu vs : Value} {Q : Value → Shared → Prop} (ht : IsTup s.heap t its.toArray) (hs : s.heap.IsSliceOf sl vl vu vs) (pl : IsPart vl none) (pu : IsPart vu none) (ps : IsPart vs (some (-1)))
    (h : Q (.ref s.heap.objs.size) { s with heap := s.heap.push { cls := .type "tuple", data := .seq its.reverse.toArray } })
    (hsz : its.length ≤ sizeLine) : wpAny (model prog w) A (getItem (.ref t) (.ref sl)) Q E s := by
  have htake : sizeOk (.seq its.reverse.toArray) := by
    show its.reverse.toArray.size ≤ sizeLine
    rw [List.size_toArray, List.length_reverse]
    exact hsz
  obtain ⟨os, hos, hcs, hds⟩ := id hs
  have hTs : s.TypeIs (.ref sl) "slice" := ⟨os, hos, hcs⟩
  unfold getItem
  try with_reducible refine wpAny_holding ?_
  first | refine wpAny_bind (wpAny_pure ?_) | skip
  refine wpAny_bind (wpAny_sequenceKey ht.typeIs (by decide) ?_)
  refine wpAny_bind (wpAny_callSpecial?_slot (name := Str.ofString "__getitem__") ht.typeIs PyProof.Rows.slot_tuple_getitem
    (wpAny_call_entry PyProof.Rows.slot_tuple_getitem ht.typeIs entry_tuple_getitem ?_ (args_tuple_getitem _ _)))
  show wpAny _ _ (Builtin.Tuple.tupleItemsOf (.ref t) >>= _) _ _ s
  refine wpAny_bind (tupleItemsOf_ ht ?_)
  refine wpAny_bind (wpAny_typeOf hTs ?_)
  rw [if_pos (by decide)]
  refine wpAny_bind (sliceApplied_rev (n := its.toArray.size) hs pl pu ps ?_)
  have hno : ¬ ((((its.toArray.size : Int) - 1) == 0 && (-1 : Int) == 1 && its.toArray.size == its.toArray.size) = true) := by
    intro q
    rw [Bool.and_eq_true, Bool.and_eq_true] at q
    exact absurd q.1.2 (by decide)
  show wpAny _ _ (if (((its.toArray.size : Int) - 1) == 0 && (-1 : Int) == 1 && its.toArray.size == its.toArray.size) = true then _ else _) _ _ s
  rw [if_neg hno]
  have ep : ((List.range its.toArray.size).filterMap fun (m : Nat) => its.toArray[(((its.toArray.size : Int) - 1) + (m : Int) * (-1)).toNat]?).toArray = its.reverse.toArray := by
    rw [List.size_toArray, pick_rev]
  rw [ep]
  first
    | exact wpAny_bind (m := Builtin.Tuple.tupleExact _) (wpAny_newObj_type (wpAny_pure ⟨_, rfl, wpAny_pure h⟩) htake)
    | exact wpAny_bind (m := Builtin.Tuple.tupleExact _) (wpAny_newObj_type (wpAny_bind (wpAny_pure (wpAny_pure ⟨_, rfl, wpAny_pure h⟩))) htake)
    | exact wpAny_bind (wpAny_bind (m := Builtin.Tuple.tupleExact _) (wpAny_newObj_type (wpAny_pure (wpAny_pure ⟨_, rfl, wpAny_pure h⟩)) htake))
    | exact wpAny_bind (wpAny_bind (m := Builtin.Tuple.tupleExact _) (wpAny_newObj_type (wpAny_pure ⟨_, rfl, wpAny_pure h⟩) htake))
end
def tRevD (K : PySem.W.Frag) (te : TE) : TE := fun σ H Q => te σ H fun x H1 => ∃ a xs, x = .ref a ∧ ((SqL K H1 a xs ∧ ∀ p, H1 p = none → Q (.ref p) (upd H1 p (.lst xs.reverse))) ∨ (SqT K H1 a xs ∧ ∀ p, H1 p = none → Q (.ref p) (upd H1 p (.tup xs.reverse))))
theorem pe_revD {X : Cx} {e : Expr} {te : TE} {k : Nat} {p1 p2 p3 pos : Pos} (he : PE X e te) : PE X (.Subscript e (.Slice none none (some (.UnaryOp .USub (.Constant (.int 1) k p1) p2)) p3) pos) (tRevD X.K te) := by
  refine ⟨fun pins s σ H Q I h => ?_⟩
  refine Subscript_ (thn (he.run pins s σ H _ I h) fun v s1 ⟨x, H1, I1, r1, q1⟩ => ?_)
  obtain ⟨a, xs, ex, hq⟩ := q1
  subst ex
  cases r1
  have hst : PO X (some (.UnaryOp .USub (.Constant (.int 1) k p1) p2)) (tPart (tUn (rU fun i => .int (-i)) (tC (.int 1)))) := po_some (pe_un un_neg pe_int)
  refine wpAny_Slice (thn (po_none.run pins s1 σ H1 (fun o H2 => o = none ∧ H2 = H1) I1 ⟨rfl, rfl⟩) fun vl s2 ⟨l, H2, I2, pl, el, e2⟩ => ?_)
  subst el e2
  refine thn (po_none.run pins s2 σ H2 (fun o H3 => o = none ∧ H3 = H2) I2 ⟨rfl, rfl⟩) fun vu s3 ⟨u, H3, I3, pu, eu, e3⟩ => ?_
  subst eu e3
  refine thn (hst.run pins s3 σ H3 (fun o H4 => o = some (-1) ∧ H4 = H3) I3 ⟨1, rfl, -1, rfl, rfl, rfl⟩) fun vs s4 ⟨o, H4, I4, ps, eo, e4⟩ => ?_
  subst eo e4
  have I5 : Inv X pins σ H4 { s4 with heap := s4.heap.push { cls := .type "slice", data := .fields #[vl, vu, vs] } } := I4.kept (t' := s4.toks) fun b ob q => Heap.get?_push_of_some _ q
  show wpAny (model X.prog X.w) X.A (subscriptTail e (.Slice none none (some (.UnaryOp .USub (.Constant (.int 1) k p1) p2)) p3) (.ref a) (.ref s4.heap.objs.size)) (EP X pins σ Q) X.xe { s4 with heap := s4.heap.push { cls := .type "slice", data := .fields #[vl, vu, vs] } }
  rcases hq with ⟨hx, q⟩ | ⟨hx, q⟩
  · obtain ⟨its, r, ht, hz⟩ := I5.list hx
    have hlen := r.length
    refine tail_any (ops := [.ref a, .ref s4.heap.objs.size]) ht.isList.typeIs (PySem.slot_list_getitem.lookup) ?_ (by with_unfolding_all rfl)
    refine wpAny_getItem_list_slice ht.isList (Heap.IsSliceOf.new _ vl vu vs) pl pu ps (by decide) ?_ (by rw [List.size_toArray]; omega)
    rw [PySem.W.krv_pick]
    refine ⟨.ref _, _, I5.laid (t' := s4.toks) (o := .lst xs.reverse) (fun b ob q => Heap.get?_push_of_some _ q) (Nat.le_refl _) ?_, rfl, q _ (I5.hok.fresh (Nat.le_refl _))⟩
    exact ⟨by rw [List.length_reverse]; exact hz, _, 0, r.reverse, Heap.get?_push_size _ rfl⟩
  · obtain ⟨its, r, ht, hz⟩ := I5.tuple hx
    have hlen := r.length
    refine tail_any (ops := [.ref a, .ref s4.heap.objs.size]) ht.typeIs (PyProof.Rows.slot_tuple_getitem.lookup) ?_ (by with_unfolding_all rfl)
    refine getItem_tuple_rev ht (Heap.IsSliceOf.new _ vl vu vs) pl pu ps ?_ (by omega)
    refine ⟨.ref _, _, I5.laid (t' := s4.toks) (o := .tup xs.reverse) (fun b ob q => Heap.get?_push_of_some _ q) (Nat.le_refl _) ?_, rfl, q _ (I5.hok.fresh (Nat.le_refl _))⟩
    exact ⟨by rw [List.length_reverse]; exact hz, _, r.reverse, IsTup.new _ _⟩
section
variable {c : Cf} {W : WX} {κ : List Nat} {X : Cx} {ξ : Xi} {pos : Pos} {H : Hp}
/-! ### xs[j] = e, j with calls -/
def mSetIxE (i : Nat) (mj : M D) (m : M D) : MS := fun env => match m env with
  | none => none
  | some (.ex x e) => some (.ex x e)
  | some (.ok d e0) => match mV i e0 with
    | some (.lst _) => match mj e0 with
      | none => none
      | some (.ex x e) => some (.ex x e)
      | some (.ok (.int z) e) => match mV i e with
        | some (.lst l) => match ixN l.length z with
          | some j => some (.nx (e.set i (.lst (l.set j d))))
          | none => none
        | _ => none
      | _ => none
    | _ => none
theorem s_setIxE {y : Str} {p p2 : Pos} {i : Nat} {ej e : Expr} {mj : M D} {m : M D} (hg : PG X (.Subscript (.Name y p) ej p2) (gSub (tVar i) (tE (cx X ξ) W mj) rSetL)) (he : DE X ξ W e m) (hs : swapsWithSole [.Subscript (.Name y p) ej p2] e pos.line X.env = pure false := by rfl)
    (hw : swappedStores [.Subscript (.Name y p) ej p2] e X.env = pure none := by rfl) (h1 : (assignEach [.Subscript (.Name y p) ej p2] X.env).map (·.2) = [assign (.Subscript (.Name y p) ej p2) X.env] := by rfl) :
    DS X ξ W κ (.Assign [.Subscript (.Name y p) ej p2] e pos) (mSetIxE i mj m) :=
  (ps_asg he hg hs hw h1).imp fun D' σ H ⟨env, f, he, nd, o, eo, k⟩ => by
    unfold mSetIxE at eo
    split at eo
    · cases eo
    · rename_i x e em
      cases eo
      exact ⟨env, f, he, nd, _, em, PostE.exOf k⟩
    · rename_i d e0 em
      split at eo
      · rename_i l0 el0
        refine ⟨env, f, he, nd, _, em, fun v H1 g1 g2 fm rv he1 nd1 => ?_⟩
        obtain ⟨x0, gx, ex0, _, _⟩ := mV_slot he1 el0
        have ng2 := (List.nodup_append.mp nd1).2.1
        split at eo
        · cases eo
        · rename_i x e ej
          cases eo
          refine ⟨x0, ex0, e0, g2, he1, ng2, _, ej, fun dx H2 g fm2 xr he2 n2 => k dx σ H2 g (fm.trans ((fm2.wide fun b hb => List.mem_append_right _ hb))) Keep.refl xr he2 n2⟩
        · rename_i z e ez
          split at eo
          · rename_i l el
            split at eo
            · rename_i j ej
              cases eo
              refine ⟨x0, ex0, e0, g2, he1, ng2, _, ez, fun iv H2 gi fe2 fm2 ri he2 nde => ?_⟩
              obtain ⟨rfl, rfl⟩ := ri
              obtain ⟨fr1, _, _, nd3⟩ := frame (c := cx X ξ) (P := True) nd1 rv.own he1.own (fm2.sub fun b hb => hb) (by simpa using nde)
              have rv2 := fr1 rv
              obtain ⟨el', _⟩ := mV_some el
              obtain ⟨a, vs, ga, f2, ei, q, rs, t, pm⟩ := he2.lst el'
              rw [ex0] at ei
              cases ei
              have hjl : j < l.length := (ixN_seq ej).2.1
              have nd2 : (g1 ++ ((a :: ga) ++ f2)).Nodup := (List.Perm.append_left g1 pm).nodup_iff.mpr nd3
              obtain ⟨n1, n2, n3⟩ := List.nodup_append.mp nd2
              obtain ⟨n4, n5, n6⟩ := List.nodup_append.mp n2
              have na1 : a ∉ g1 := fun z => n3 a z a (List.mem_append_left _ List.mem_cons_self) rfl
              have na2 : a ∉ ga := (List.nodup_cons.mp n4).1
              have na3 : a ∉ f2 := fun z => n6 a List.mem_cons_self a z rfl
              have bt := but_upd (H := H2) (a := a) (o := .lst (vs.set j v)) q
              obtain ⟨ga', r1, nga, sub⟩ := (rs.but bt (own_one q) (not_one na2)).setNd hjl (rv2.but bt (own_one q) (not_one na1)) (List.nodup_append.mpr ⟨n1, (List.nodup_cons.mp n4).2, fun x hx y hy => n3 x hx y (List.mem_append_left _ (List.mem_cons_of_mem _ hy))⟩)
              obtain ⟨f', q', p'⟩ := EnvR.relst el' ex0 (t.but bt (own_one q) (not_one na3)) upd_same r1
              refine ⟨a, vs, _, j, rfl, rfl, q, by rw [rs.length]; exact ej, ?_⟩
              have fm3 : Frm f (g1 ++ fe2) H (upd H2 a (.lst (vs.set j v))) := upd_frm q (fm.trans ((show Frm g2 fe2 H1 H2 from by simpa using fm2).left g1)) (List.mem_append_right _ (pm.mem_iff.mp (List.mem_append_left _ List.mem_cons_self)))
              refine k σ _ f' (fm3.sub fun b hb => ?_) Keep.refl q' ?_
              · rcases List.mem_append.mp (p'.mem_iff.mp hb) with hb | hb
                · rcases List.mem_cons.mp hb with rfl | hb
                  · exact List.mem_append_right _ (pm.mem_iff.mp (List.mem_append_left _ List.mem_cons_self))
                  · rcases sub b hb with z | z
                    · exact List.mem_append_left _ z
                    · exact List.mem_append_right _ (pm.mem_iff.mp (List.mem_append_left _ (List.mem_cons_of_mem _ z)))
                · exact List.mem_append_right _ (pm.mem_iff.mp (List.mem_append_right _ hb))
              · refine p'.nodup_iff.mpr (List.nodup_append.mpr ⟨List.nodup_cons.mpr ⟨fun z => ?_, nga⟩, n5, fun x hx y hy e => ?_⟩)
                · rcases sub a z with z | z
                  · exact na1 z
                  · exact na2 z
                · subst e
                  rcases List.mem_cons.mp hx with rfl | hx
                  · exact na3 hy
                  · rcases sub x hx with z | z
                    · exact n3 x z x (List.mem_append_right _ hy) rfl
                    · exact n6 x (List.mem_cons_of_mem _ z) x hy rfl
            · cases eo
          · cases eo
        · cases eo
      · cases eo
/-- xs[::-1] of a list, of a tuple -/
def dRev : D → Option D
  | .lst l => if persAll l = true then some (.lst l.reverse) else none
  | .fz l => if persAll l = true then some (.lst l.reverse) else none
  | .tup l => if persAll l = true then some (.tup l.reverse) else none
  | _ => none
theorem p_rev {a : Expr} {m : MP} {f1 : Bool} {k : Nat} {p1 p2 p3 : Pos} (h : DP X ξ f1 a m) : DP X ξ true (.Subscript a (.Slice none none (some (.UnaryOp .USub (.Constant (.int 1) k p1) p2)) p3) pos) (mUnP dRev m) := (pe_revD h).imp fun σ H Q ⟨env, f, he, nd, d, ed, kk⟩ => by
  obtain ⟨x, e1, e2⟩ := mUnP_some ed
  refine ⟨env, f, he, nd, x, e1, fun v H1 g s r ng fo => ?_⟩
  have fin : ∀ {vs : List V} {l : List D}, Reps (cx X ξ) H1 l vs [] → ∀ p, H1 p = none → d = .lst l.reverse → Q (.ref p) (upd H1 p (.lst vs.reverse)) := fun {vs l} rs p hp e => by
    subst e
    refine giveL (rs.rev) hp fun z H' g' s' r' n' f' => kk z H' g' (s.trans s') r' n' fun b hb => .inl (s.free (f' b hb))
  have finT : ∀ {vs : List V} {l : List D}, Reps (cx X ξ) H1 l vs [] → ∀ p, H1 p = none → d = .tup l.reverse → Q (.ref p) (upd H1 p (.tup vs.reverse)) := fun {vs l} rs p hp e => by
    subst e
    refine giveT (rs.rev) hp fun z H' g' s' r' n' f' => kk z H' g' (s.trans s') r' n' fun b hb => .inl (s.free (f' b hb))
  unfold dRev at e2
  split at e2
  · split at e2
    · rename_i hp
      cases e2
      obtain ⟨a, vs, g', rfl, q, rs, _⟩ := r
      exact ⟨a, vs, rfl, .inl ⟨SqL.of q, fun p hpn => fin (rs.toP hp) p hpn rfl⟩⟩
    · cases e2
  · split at e2
    · rename_i hp
      cases e2
      obtain ⟨a, vs, rfl, q, rs, _⟩ := r
      exact ⟨a, vs, rfl, .inl ⟨q.sq, fun p hpn => fin (rs.toP hp) p hpn rfl⟩⟩
    · cases e2
  · split at e2
    · rename_i hp
      cases e2
      obtain ⟨a, vs, rfl, q, rs⟩ := r
      exact ⟨a, vs, rfl, .inr ⟨SqT.of q, fun p hpn => finT (rs.toP hp) p hpn rfl⟩⟩
    · cases e2
  · cases e2
/-! ### facts of classes that clauses name -/
structure ExcX (K : PySem.W.Frag) (mg : Str → Option Value) (x : Str) (fs : List Str) : Prop where
  hm : mg x = some (.ref (He.ga K x))
  xf : XfC K (He.ga K x)
  ef : ExcF K (He.ga K x)
  fs : ∀ f ∈ fs, PySem.W.findIn K (.ref (He.ga K x)) f = some none
theorem names_x {x : Str} {fs : List Str} (hg : Gl X x) (h : ExcX X.K X.mg x fs) (hd : (x == ("__debug__" : Str)) = false := by decide) : Names X x (.ref (He.ga X.K x)) := ⟨hg, hd, .inl h.hm⟩
end
end DL
set_option maxHeartbeats 4000000
/-! DL12: y = xs[j], a list in a list, used by that name to the body's end; xs[j][k] = e. -/
namespace DL
open PySem PySem.Spec PyProof.Rows L2
open LamX (Tabs TabS CodeO)
section
variable {c : Cf} {W : WX} {κ : List Nat} {X : Cx} {ξ : Xi} {pos : Pos} {H : Hp}
/-- an item of a list taken out, o what stands there now -/
theorem Reps.out : ∀ {l : List D} {vs : List V} {f : List Addr} {j : Nat} {d : D}, Reps c H l vs f → l[j]? = some d → ∃ v g r, vs[j]? = some v ∧ Rep c H d v g ∧ (g ++ r).Perm f ∧ ∀ (d' : D) (g' : List Addr), Rep c H d' v g' → ∃ f', Reps c H (l.set j d') vs f' ∧ f'.Perm (g' ++ r)
  | [], vs, f, j, d, h, e => by simp at e
  | d0 :: ds, vs, f, 0, d, h, e => by
    obtain ⟨v, vs', f1, f2, rfl, r, rs, rfl⟩ := h
    have e' : d0 = d := by simpa using e
    subst e'
    exact ⟨v, f1, f2, rfl, r, .refl _, fun d' g' r' => ⟨g' ++ f2, ⟨v, vs', g', f2, rfl, r', rs, rfl⟩, .refl _⟩⟩
  | d0 :: ds, vs, f, j + 1, d, h, e => by
    obtain ⟨v, vs', f1, f2, rfl, r, rs, rfl⟩ := h
    obtain ⟨w, g, r2, e1, rw_, p, k⟩ := Reps.out (j := j) rs (by simpa using e)
    refine ⟨w, g, f1 ++ r2, by simpa using e1, rw_, ?_, fun d' g' r' => ?_⟩
    · refine List.Perm.trans ?_ (List.Perm.append_left f1 p)
      rw [← List.append_assoc, ← List.append_assoc]
      exact List.Perm.append_right r2 List.perm_append_comm
    · obtain ⟨f', q, p'⟩ := k d' g' r'
      refine ⟨f1 ++ f', ⟨v, vs', f1, f', rfl, r, q, rfl⟩, (List.Perm.append_left f1 p').trans ?_⟩
      rw [← List.append_assoc, ← List.append_assoc]
      exact List.Perm.append_right r2 List.perm_append_comm
def isHole : D → Bool
  | .hole => true
  | _ => false
/-- the block's end: the list is put back -/
def alE (y i j : Nat) (e : Env) : Option Env := match e[i]? with
  | some (.lst l) => match l[j]? with
    | some .hole => match e[y]? with
      | some (.lst c) => if noxAll ((e.set y .gone).set i (.lst (l.set j (.lst c)))) = true ∧ y ≠ i then some ((e.set y .gone).set i (.lst (l.set j (.lst c)))) else none
      | _ => none
    | _ => none
  | _ => none
def alEnd (y i j : Nat) : O → Option O
  | .nx e => (alE y i j e).map .nx
  | .ret d e => if d.nox = true then (alE y i j e).map (.ret d) else none
  | _ => none
def mAl (y i j : Nat) (m : MS) : MS := fun env => match mV i env with
  | some (.lst l) => match l[j]? with
    | some (.lst c) => if noxAll env = true ∧ y < env.length ∧ y ≠ i then match m ((env.set i (.lst (l.set j .hole))).set y (.lst c)) with
        | some o => alEnd y i j o
        | none => none
      else none
    | _ => none
  | _ => none
theorem alE_ok {K : PySem.W.Frag} {w : World} {y i j : Nat} {e e' : Env} {σ : L2.St} {H : Hp} {g : List Addr} {a dd : Addr} (he : EnvR ⟨K, w, ⟨some (a, dd), T⟩⟩ H e σ g) (nd : g.Nodup) (hy : σ[y]? = some (some (.ref a))) (h : alE y i j e = some e') :
    ∃ g', EnvR ⟨K, w, ⟨none, T⟩⟩ H e' σ g' ∧ g'.Nodup ∧ ∀ b ∈ g', b ∈ g := by
  unfold alE at h
  split at h
  · rename_i l el
    split at h
    · rename_i ej
      split at h
      · rename_i c ec
        split at h
        · rename_i hc
          cases h
          obtain ⟨hn, hyi⟩ := hc
          obtain ⟨o1, f1, f2, eo, s, t, p⟩ := he.take ec
          rw [hy] at eo
          cases eo
          obtain ⟨v, ev, rv⟩ := s.val (by simp)
          cases ev
          have el2 : (e.set y .gone)[i]? = some (.lst l) := by rw [List.getElem?_set_ne hyi]; exact el
          obtain ⟨ax, vs, ga, f3, ei, q, rs, t2, p2⟩ := t.lst el2
          obtain ⟨v2, g2, r2, ej2, rh, p3, put⟩ := rs.out ej
          obtain ⟨a', dd', ex, rfl, rfl⟩ := rh
          cases ex
          obtain ⟨f', rs', p4⟩ := put (.lst c) f1 rv
          obtain ⟨f5, q5, p5⟩ := EnvR.relst el2 ei t2 q rs'
          have key : f5.Perm g := by
            refine p5.trans ?_
            have h1 : ((ax :: f') ++ f3).Perm (f1 ++ ((ax :: ga) ++ f3)) := by
              have z : f'.Perm (f1 ++ ga) := p4.trans (List.Perm.append_left f1 (by simpa using p3))
              have z2 : ((ax :: f') ++ f3).Perm ((ax :: (f1 ++ ga)) ++ f3) := List.Perm.append_right f3 (List.Perm.cons ax z)
              refine z2.trans ?_
              have z3 : (ax :: (f1 ++ ga)).Perm (f1 ++ (ax :: ga)) := List.perm_middle.symm
              have z4 := List.Perm.append_right f3 z3
              rw [List.append_assoc] at z4
              exact z4
            exact h1.trans ((List.Perm.append_left f1 p2).trans p)
          exact ⟨f5, EnvR.xi (x1 := ⟨some (a, dd), T⟩) (x2 := ⟨none, T⟩) rfl q5 hn, key.nodup_iff.mpr nd, fun b hb => key.mem_iff.mp hb⟩
        · cases h
      · cases h
    · cases h
  · cases h
theorem ss_al {y i j : Nat} {xn yn : Str} {p1 p2 p3 p4 : Pos} {k4 : Nat} {rest : List Stmt} {m : MS} (hy : y ∉ κ) (hN : X.N.Nodup) (hiN : X.N[y]? = some yn) (hv : PE X (.Name xn p1) (tVar i))
    (hrest : ∀ a, DSs X ⟨some (a, 0), T⟩ W00 (i :: y :: κ) rest m)
    (hx : Loc X.env.scope yn := by first | exact Or.inl rfl | exact Or.inr rfl) (hs : swapsWith (.Subscript (.Name xn p1) (.Constant (.int (j : Nat)) k4 p2) p3) (some (.Name yn p4)) pos.line X.env = pure false := by rfl)
    (hf : X.fn yn = true ∨ X.env.scope.names.lookup yn = some .local := by first | exact .inl rfl | exact .inr rfl | assumption) :
    DSs X ⟨none, T⟩ W κ (.Assign [.Name yn p4] (.Subscript (.Name xn p1) (.Constant (.int (j : Nat)) k4 p2) p3) pos :: rest) (mAl y i j m) := by
  have r' : PSs X rest (fun D' σ H => ∃ a, tS (cx X ⟨some (a, 0), T⟩) W00 (i :: y :: κ) m D' σ H) := ⟨fun pins s σ H D' I ⟨a, h⟩ => (hrest a).run pins s σ H D' I h⟩
  refine (pss_cons (ps_set (i := y) hN hiN hx (pe_ix ix_seq hv pe_int (fun _ _ => rfl)) hs hf) r').imp fun D' σ H ⟨env, f, he, nd, o, eo, k⟩ => ?_
  unfold mAl at eo
  split at eo
  · rename_i l el
    split at eo
    · rename_i cl ec
      split at eo
      · rename_i hc
        obtain ⟨hn, hyl, hyi⟩ := hc
        split at eo
        · rename_i o' em
          obtain ⟨el', _⟩ := mV_some el
          obtain ⟨ax, vs, ga, f2, ei, q, rs, t, p⟩ := he.lst el'
          have hjl : j < l.length := (List.getElem?_eq_some_iff.mp ec).1
          have hil : i < env.length := (List.getElem?_eq_some_iff.mp el').1
          obtain ⟨v, g, r, ej, rv, pr, put⟩ := rs.out ec
          obtain ⟨a, cvs, gc, rfl, qc, rc, rfl⟩ := rv
          have eat : L2.atI vs (j : Int) = some (.ref a) := by
            unfold L2.atI
            have : ixN vs.length (j : Int) = some j := by
              unfold ixN
              rw [rs.length]
              have h1 : (0 : Int) ≤ (j : Int) := by omega
              have h2 : (j : Int) < (l.length : Int) := by omega
              simp [h1, h2]
            rw [this]
            exact ej
          refine ⟨_, ei, .inl ⟨ax, vs, j, .ref a, rfl, rfl, SqL.of q, eat, ?_⟩⟩
          refine ⟨a, ?_⟩
          -- the environment inside
          have hxi : EnvR (cx X ⟨some (a, 0), T⟩) H env σ f := EnvR.xi (x1 := ⟨none, T⟩) (x2 := ⟨some (a, 0), T⟩) rfl he hn
          obtain ⟨ax', vs', ga', f2', ei', q', rs', t', p'⟩ := hxi.lst el'
          rw [ei] at ei'
          cases ei'
          rw [q] at q'
          cases q'
          obtain ⟨v', g', r', ej', rv', pr', put'⟩ := rs'.out ec
          rw [ej] at ej'
          cases ej'
          obtain ⟨f6, rs6, p6⟩ := put' .hole [] ⟨a, 0, rfl, rfl, rfl⟩
          obtain ⟨f7, q7, p7⟩ := EnvR.relst el' ei t' q rs6
          have tot : (g' ++ f7).Perm f := by
            have z1 : (ax :: f6).Perm (ax :: r') := List.Perm.cons ax (by simpa using p6)
            have z2 : f7.Perm ((ax :: r') ++ f2') := p7.trans (List.Perm.append_right f2' z1)
            refine (List.Perm.append_left g' z2).trans ?_
            have z3 : (g' ++ ((ax :: r') ++ f2')).Perm ((ax :: (g' ++ r')) ++ f2') := by
              rw [← List.append_assoc]
              exact List.Perm.append_right f2' List.perm_middle
            exact z3.trans ((List.Perm.append_right f2' (List.Perm.cons ax pr')).trans p')
          have nd7 : (g' ++ f7).Nodup := tot.nodup_iff.mpr nd
          obtain ⟨f8, q8, n8, sub8⟩ := q7.store (i := y) (d := .lst cl) (v := .ref a) (by rw [List.length_set]; exact hyl) rv' nd7
          refine ⟨_, f8, q8, n8, o', em, ?_⟩
          have sl : σ.length = env.length := he.length
          have fm8 : ∀ {H' : Hp} {gg : List Addr}, Frm f8 gg H H' → Frm f gg H H' := fun fm => fm.wide fun b hb => tot.mem_iff.mp (sub8 b hb)
          have kp : ∀ {σ' : L2.St}, Keep (i :: y :: κ) (σ.set y (some (.ref a))) σ' → Keep κ σ σ' ∧ σ'[y]? = some (some (.ref a)) := fun {σ'} kk => by
            refine ⟨fun n hn => ?_, ?_⟩
            · rw [kk n (List.mem_cons_of_mem _ (List.mem_cons_of_mem _ hn))]
              exact Keep.set (o := some (.ref a)) hy n hn
            · rw [kk y (List.mem_cons_of_mem _ List.mem_cons_self), List.getElem?_set_self (by rw [sl]; exact hyl)]
          cases o' with
          | nx e =>
            unfold alEnd at eo
            obtain ⟨e2, ee, rfl⟩ := Option.map_eq_some_iff.mp eo
            intro σ' H' gg fm kk he2 nd2
            obtain ⟨g9, q9, n9, s9⟩ := alE_ok (K := X.K) (w := X.w) he2 nd2 (kp kk).2 ee
            exact k σ' H' g9 ((fm8 fm).sub s9) (kp kk).1 q9 n9
          | ret d e =>
            have eo' : (if d.nox = true then (alE y i j e).map (.ret d) else none) = some o := eo
            split at eo'
            · rename_i hd
              obtain ⟨e2, ee, rfl⟩ := Option.map_eq_some_iff.mp eo'
              intro vv σ' H' h1 h2 fm kk rvv he2 nd2
              obtain ⟨n1, n2, n3⟩ := List.nodup_append.mp nd2
              obtain ⟨g9, q9, n9, s9⟩ := alE_ok (K := X.K) (w := X.w) he2 n2 (kp kk).2 ee
              refine k vv σ' H' h1 g9 ((fm8 fm).sub fun b hb => ?_) (kp kk).1 (Rep.xi rvv hd) q9 (List.nodup_append.mpr ⟨n1, n9, fun x hx z hz => n3 x hx z (s9 z hz)⟩)
              rcases List.mem_append.mp hb with hb | hb
              · exact List.mem_append_left _ hb
              · exact List.mem_append_right _ (s9 b hb)
            · cases eo'
          | bk e => cases eo
          | ct e => cases eo
          | ex x e => cases eo
        · cases eo
      · cases eo
    · cases eo
  · cases eo
/-! ### xs[j][k] = e -/
def mSetIx2 (i j : Nat) (mk : MP) (m : M D) : MS := fun env => match m env with
  | none => none
  | some (.ex x e) => some (.ex x e)
  | some (.ok d e) => match mV i e with
    | some (.lst l) => match l[j]? with
      | some (.lst c) => match mk e with
        | some (.int z) => match ixN c.length z with
          | some k => if d.pers = true then some (.nx (e.set i (.lst (l.set j (.lst (c.set k d)))))) else none
          | none => none
        | _ => none
      | _ => none
    | _ => none
theorem atI_nat {α : Type} {l : List α} {j : Nat} {d : α} (h : l[j]? = some d) : L2.atI l (j : Int) = some d := by
  have hjl : j < l.length := (List.getElem?_eq_some_iff.mp h).1
  unfold L2.atI
  have : ixN l.length (j : Int) = some j := by
    unfold ixN
    have h1 : (0 : Int) ≤ (j : Int) := by omega
    have h2 : (j : Int) < (l.length : Int) := by omega
    simp [h1, h2]
  rw [this]
  exact h
theorem s_setIx2 {y : Str} {p p2 p3 p4 : Pos} {i j n4 : Nat} {ek e : Expr} {mk : MP} {m : M D} {f1 : Bool} (hg : PG X (.Subscript (.Subscript (.Name y p) (.Constant (.int (j : Nat)) n4 p4) p3) ek p2) (gSub (tOp (rIx X.K) (tVar i) (tC (.int (j : Nat)))) (tP (cx X ξ) f1 mk) rSetL)) (he : DE X ξ W e m)
    (hs : swapsWithSole [.Subscript (.Subscript (.Name y p) (.Constant (.int (j : Nat)) n4 p4) p3) ek p2] e pos.line X.env = pure false := by rfl)
    (hw : swappedStores [.Subscript (.Subscript (.Name y p) (.Constant (.int (j : Nat)) n4 p4) p3) ek p2] e X.env = pure none := by rfl) (h1 : (assignEach [.Subscript (.Subscript (.Name y p) (.Constant (.int (j : Nat)) n4 p4) p3) ek p2] X.env).map (·.2) = [assign (.Subscript (.Subscript (.Name y p) (.Constant (.int (j : Nat)) n4 p4) p3) ek p2) X.env] := by rfl) :
    DS X ξ W κ (.Assign [.Subscript (.Subscript (.Name y p) (.Constant (.int (j : Nat)) n4 p4) p3) ek p2] e pos) (mSetIx2 i j mk m) :=
  (ps_asg he hg hs hw h1).imp fun D' σ H ⟨env, f, he, nd, o, eo, k⟩ => by
    unfold mSetIx2 at eo
    split at eo
    · cases eo
    · rename_i x e em
      cases eo
      exact ⟨env, f, he, nd, _, em, PostE.exOf k⟩
    · rename_i d e em
      split at eo
      · rename_i l el
        split at eo
        · rename_i cl ecl
          split at eo
          · rename_i z ez
            split at eo
            · rename_i n en
              split at eo
              · rename_i hp
                cases eo
                refine ⟨env, f, he, nd, _, em, fun v H1 g1 g2 fm rv he1 nd1 => ?_⟩
                have eg : g1 = [] := Rep.pers rv hp
                subst eg
                have nd1' : g2.Nodup := by simpa using nd1
                have fm' : Frm f g2 H H1 := by simpa using fm
                obtain ⟨el', _⟩ := mV_some el
                obtain ⟨ax, vs, ga, f2, ei, q, rs, t, pm⟩ := he1.lst el'
                obtain ⟨v1, gj, r, ej, rj, pr, put⟩ := rs.out ecl
                refine ⟨.ref ax, ei, .inl ⟨ax, vs, j, v1, rfl, rfl, SqL.of q, atI_nat ej, ?_⟩⟩
                refine ⟨e, g2, he1, nd1', _, ez, fun iv H2 gi s2 ri _ _ => ?_⟩
                obtain ⟨rfl, _⟩ := ri
                have he2 := he1.same s2
                obtain ⟨ax', vs', ga', f2', ei', q', rs', t', pm'⟩ := he2.lst el'
                rw [ei] at ei'
                cases ei'
                have q2 := s2 _ _ q
                rw [q2] at q'
                cases q'
                obtain ⟨v2, gj', r', ej', rj', pr', put'⟩ := rs'.out ecl
                rw [ej] at ej'
                cases ej'
                obtain ⟨a, cvs, gc, rfl, qc, rc, rfl⟩ := rj'
                have hkl : n < cl.length := (ixN_seq en).2.1
                have nda : ((ax :: ga') ++ f2').Nodup := pm'.nodup_iff.mpr nd1'
                obtain ⟨n4, n5, n6⟩ := List.nodup_append.mp nda
                have nga : ga'.Nodup := (List.nodup_cons.mp n4).2
                have hax : ax ∉ ga' := (List.nodup_cons.mp n4).1
                have ndr : ((a :: gc) ++ r').Nodup := pr'.nodup_iff.mpr nga
                obtain ⟨m1, m2, m3⟩ := List.nodup_append.mp ndr
                have aga : a ∈ ga' := pr'.mem_iff.mp (List.mem_append_left _ List.mem_cons_self)
                have nax : ax ≠ a := fun z => hax (z ▸ aga)
                have na1 : a ∉ gc := (List.nodup_cons.mp m1).1
                have na2 : a ∉ r' := fun z => m3 a List.mem_cons_self a z rfl
                have na3 : a ∉ f2' := fun z => n6 a (List.mem_cons_of_mem _ aga) a z rfl
                have bt := but_upd (H := H2) (a := a) (o := .lst (cvs.set n v)) qc
                have rv2 : Rep (cx X ξ) (upd H2 a (.lst (cvs.set n v))) d v [] := (rv.same s2).but bt (own_one qc) (not_one (by simp))
                obtain ⟨gc', r1, ngc, sub⟩ := (rc.but bt (own_one qc) (not_one na1)).setNd hkl rv2 (by simpa using (List.nodup_cons.mp m1).2)
                obtain ⟨f0, rs0, p0⟩ := put' .gone [] rfl
                have p0' : f0.Perm r' := by simpa using p0
                have rs1 := rs0.but bt (own_one qc) (not_one (fun z => na2 (p0'.mem_iff.mp z)))
                have hjl : j < l.length := (List.getElem?_eq_some_iff.mp ecl).1
                obtain ⟨v3, g3, r3, ej3, rg, p3, put3⟩ := rs1.out (j := j) (d := .gone) (by rw [List.getElem?_set_self hjl])
                rw [ej] at ej3
                cases ej3
                have eg3 : g3 = [] := rg
                subst eg3
                obtain ⟨f4, rs4, p4⟩ := put3 (.lst (cl.set n d)) (a :: gc') ⟨a, _, gc', rfl, upd_same, r1, rfl⟩
                rw [List.set_set] at rs4
                obtain ⟨f', q', p'⟩ := EnvR.relst el' ei (t'.but bt (own_one qc) (not_one na3)) (by rw [upd_ne nax]; exact q2) rs4
                have mem : ∀ b, b ∈ f' → b ∈ g2 := fun b hb => by
                  refine pm'.mem_iff.mp ?_
                  rcases List.mem_append.mp (p'.mem_iff.mp hb) with hb | hb
                  · rcases List.mem_cons.mp hb with rfl | hb
                    · exact List.mem_append_left _ List.mem_cons_self
                    · refine List.mem_append_left _ (List.mem_cons_of_mem _ (pr'.mem_iff.mp ?_))
                      rcases List.mem_append.mp (p4.mem_iff.mp hb) with hb | hb
                      · rcases List.mem_cons.mp hb with rfl | hb
                        · exact List.mem_append_left _ List.mem_cons_self
                        · rcases sub b hb with z | z
                          · cases z
                          · exact List.mem_append_left _ (List.mem_cons_of_mem _ z)
                      · exact List.mem_append_right _ (p0'.mem_iff.mp (p3.mem_iff.mp (by simpa using hb)))
                  · exact List.mem_append_right _ hb
                have ndf : f'.Nodup := by
                  refine p'.nodup_iff.mpr (List.nodup_append.mpr ⟨List.nodup_cons.mpr ⟨fun z => ?_, p4.nodup_iff.mpr (List.nodup_append.mpr ⟨List.nodup_cons.mpr ⟨fun z => ?_, ngc⟩, (by simpa using p3.nodup_iff.mpr (p0'.nodup_iff.mpr m2)), fun x hx y hy e => ?_⟩)⟩, n5, fun x hx y hy e => ?_⟩)
                  · rcases List.mem_append.mp (p4.mem_iff.mp z) with hb | hb
                    · rcases List.mem_cons.mp hb with rfl | hb
                      · exact nax rfl
                      · rcases sub ax hb with z | z
                        · cases z
                        · exact hax (pr'.mem_iff.mp (List.mem_append_left _ (List.mem_cons_of_mem _ z)))
                    · exact hax (pr'.mem_iff.mp (List.mem_append_right _ (p0'.mem_iff.mp (p3.mem_iff.mp (by simpa using hb)))))
                  · rcases sub a z with z | z
                    · cases z
                    · exact na1 z
                  · subst e
                    have hy' : x ∈ r' := p0'.mem_iff.mp (p3.mem_iff.mp (by simpa using hy))
                    rcases List.mem_cons.mp hx with rfl | hx
                    · exact na2 hy'
                    · rcases sub x hx with z | z
                      · cases z
                      · exact m3 x (List.mem_cons_of_mem _ z) x hy' rfl
                  · subst e
                    rcases List.mem_cons.mp hx with rfl | hx
                    · exact n6 x List.mem_cons_self x hy rfl
                    · rcases List.mem_append.mp (p4.mem_iff.mp hx) with hb | hb
                      · rcases List.mem_cons.mp hb with rfl | hb
                        · exact na3 hy
                        · rcases sub x hb with z | z
                          · cases z
                          · exact n6 x (List.mem_cons_of_mem _ (pr'.mem_iff.mp (List.mem_append_left _ (List.mem_cons_of_mem _ z)))) x hy rfl
                      · exact n6 x (List.mem_cons_of_mem _ (pr'.mem_iff.mp (List.mem_append_right _ (p0'.mem_iff.mp (p3.mem_iff.mp (by simpa using hb)))))) x hy rfl
                refine ⟨a, cvs, _, n, rfl, rfl, qc, by rw [rc.length]; exact en, ?_⟩
                have ag2 : a ∈ g2 := pm'.mem_iff.mp (List.mem_append_left _ (List.mem_cons_of_mem _ aga))
                have fm2 : Frm f g2 H (upd H2 a (.lst (cvs.set n v))) := upd_frm qc (fm'.trans (Frm.same s2)) ag2
                exact k σ _ f' (fm2.sub mem) Keep.refl q' ndf
              · cases eo
            · cases eo
          · cases eo
        · cases eo
      · cases eo
end
end DL
set_option maxHeartbeats 8000000
/-! DL13: sets of nested tuples, sorted. -/
namespace DL
open PySem PySem.Spec PyProof.Rows L2 DLS
open PySem.W (AllAlike Sortable EachIs dataLe dataLt alike alikeAll keyToks keyToksAll)
/-! ### keys and data -/
mutual
def unK : NK → D
  | .none => .non
  | .num i => .int i
  | .text x => .str x
  | .tup ks => .tup (unKs ks)
def unKs : List NK → List D
  | [] => []
  | k :: ks => unK k :: unKs ks
end
theorem unKs_map : ∀ ks : List NK, unKs ks = ks.map unK
  | [] => by rw [unKs] <;> rfl
  | k :: ks => by rw [unKs, unKs_map ks] <;> rfl
mutual
def D.key : D → Option NK
  | .non => some .none
  | .int i => some (.num i)
  | .str x => some (.text x)
  | .tup l => (keyAll l).map .tup
  | _ => none
def keyAll : List D → Option (List NK)
  | [] => some []
  | d :: ds => match d.key, keyAll ds with
    | some k, some ks => some (k :: ks)
    | _, _ => none
end
mutual
theorem key_un : ∀ k : NK, (unK k).key = some k
  | .none => by rw [unK, D.key]
  | .num i => by rw [unK, D.key]
  | .text x => by rw [unK, D.key]
  | .tup ks => by rw [unK, D.key, keyAll_un ks] <;> rfl
theorem keyAll_un : ∀ ks : List NK, keyAll (unKs ks) = some ks
  | [] => by rw [unKs, keyAll]
  | k :: ks => by rw [unKs, keyAll, key_un k, keyAll_un ks]
end
mutual
theorem un_key : ∀ {d : D} {k : NK}, d.key = some k → d = unK k
  | .non, k, h => by rw [D.key] at h; cases h; rw [unK]
  | .int i, k, h => by rw [D.key] at h; cases h; rw [unK]
  | .str x, k, h => by rw [D.key] at h; cases h; rw [unK]
  | .tup l, k, h => by
    rw [D.key] at h
    obtain ⟨ks, e, rfl⟩ := Option.map_eq_some_iff.mp h
    rw [unK, ← un_keyAll e]
  | .bl _, k, h => by rw [D.key] at h <;> first | cases h | (intros; simp)
  | .lst _, k, h => by rw [D.key] at h <;> first | cases h | (intros; simp)
  | .fz _, k, h => by rw [D.key] at h <;> first | cases h | (intros; simp)
  | .set _, k, h => by rw [D.key] at h <;> first | cases h | (intros; simp)
  | .dic _ _, k, h => by rw [D.key] at h <;> first | cases h | (intros; simp)
  | .exc _ _ _, k, h => by rw [D.key] at h <;> first | cases h | (intros; simp)
  | .gone, k, h => by rw [D.key] at h <;> first | cases h | (intros; simp)
  | .hole, k, h => by rw [D.key] at h <;> first | cases h | (intros; simp)
theorem un_keyAll : ∀ {ds : List D} {ks : List NK}, keyAll ds = some ks → ds = unKs ks
  | [], ks, h => by rw [keyAll] at h; cases h; rw [unKs]
  | d :: ds, ks, h => by
    rw [keyAll] at h
    split at h
    · rename_i k ks' e1 e2
      cases h
      rw [unKs, ← un_key e1, ← un_keyAll e2]
    · cases h
end
section
variable {c : Cf} {H : Hp}
mutual
theorem pers_un : ∀ k : NK, (unK k).pers = true
  | .none => by rw [unK]; rfl
  | .num i => by rw [unK]; rfl
  | .text x => by rw [unK]; rfl
  | .tup ks => by rw [unK]; exact persAll_un ks
theorem persAll_un : ∀ ks : List NK, persAll (unKs ks) = true
  | [] => by rw [unKs]; rfl
  | k :: ks => by
    rw [unKs]
    show ((unK k).pers && persAll (unKs ks)) = true
    rw [pers_un k, persAll_un ks] <;> rfl
end
variable {X : Cx} {pins : List (Addr × Obj)} {σ : L2.St} {s : Shared} {ξ : Xi}
mutual
theorem nest_of (I : Inv X pins σ H s) : ∀ (k : NK) (v : V) (u : Value) (f : List Addr), Rep (cx X ξ) H (unK k) v f → RelV v u → NestedIs s.heap k u ∧ Reads s.heap u k.data []
  | .none, v, u, f, h, r => by
    rw [unK] at h
    obtain ⟨rfl, _⟩ := h
    cases r
    exact ⟨.none, by rw [NestedKey.data]; exact .none⟩
  | .num i, v, u, f, h, r => by
    rw [unK] at h
    obtain ⟨rfl, _⟩ := h
    obtain ⟨t, rfl⟩ := r
    exact ⟨.int i t, by rw [NestedKey.data]; exact .int i t⟩
  | .text x, v, u, f, h, r => by
    rw [unK] at h
    obtain ⟨rfl, _⟩ := h
    obtain ⟨t, rfl⟩ := r
    exact ⟨.text x t, by rw [NestedKey.data]; exact .str x t⟩
  | .tup ks, v, u, f, h, r => by
    rw [unK] at h
    obtain ⟨a, vs, rfl, q, rs⟩ := h
    cases r
    obtain ⟨its, rv, ⟨o, ho, hc, n, hd⟩, _⟩ := I.tuple (SqT.of q)
    obtain ⟨n1, n2⟩ := nests_of I ks vs its f rs rv
    refine ⟨.tup ho hc hd (by simpa using n1), ?_⟩
    rw [NestedKey.data]
    exact .tuple ho hc hd (by simpa using n2)
theorem nests_of (I : Inv X pins σ H s) : ∀ (ks : List NK) (vs : List V) (us : List Value) (f : List Addr), Reps (cx X ξ) H (unKs ks) vs f → Vals vs us → NestedAll s.heap ks us ∧ ReadsAll s.heap us (NestedKey.datas ks) []
  | [], vs, us, f, h, r => by
    rw [unKs] at h
    obtain ⟨rfl, _⟩ := h
    cases r
    exact ⟨.nil, by rw [NestedKey.datas]; exact .nil⟩
  | k :: ks, vs, us, f, h, r => by
    rw [unKs] at h
    obtain ⟨v, vs', f1, f2, rfl, r1, r2, _⟩ := h
    cases r with
    | cons ra rb =>
      obtain ⟨a1, a2⟩ := nest_of I k _ _ f1 r1 ra
      obtain ⟨b1, b2⟩ := nests_of I ks _ _ f2 r2 rb
      refine ⟨.cons a1 b1, ?_⟩
      rw [NestedKey.datas]
      exact ReadsAll.cons a2 b2
end
end
/-! ### the order -/
def leK (a b : NK) : Bool := dataLe false NestedKey.data a b
theorem leK_lt (a b : NK) : leK a b = !dataLt b.data a.data := rfl
def AlikeK (ks : List NK) : Prop := ∀ k ∈ ks, ∀ k' ∈ ks, alike k.data k'.data = true
theorem leK_trans (a b c : NK) (h1 : leK a b = true) (h2 : leK b c = true) : leK a c = true := by
  rw [leK_lt, Bool.not_eq_true'] at *
  cases e : dataLt c.data a.data with
  | false => rfl
  | true =>
    exfalso
    rcases lex_negTrans (O := itemOrd) _ (keyToks b.data) _ e with z | z
    · exact absurd (z.symm.trans h2) (by decide)
    · exact absurd (z.symm.trans h1) (by decide)
theorem leK_total (a b : NK) : (leK a b || leK b a) = true := by
  rw [leK_lt, leK_lt]
  cases e : dataLt b.data a.data with
  | false => rfl
  | true =>
    cases e2 : dataLt a.data b.data with
    | false => rfl
    | true =>
      exfalso
      have z := lex_trans (O := itemOrd) _ _ _ e e2
      rw [lex_irrefl] at z
      cases z

mutual
theorem eqv_eq : ∀ a b : NK, PyData.eqv a.data b.data = true → a = b
  | .none, b, h => by
    cases b with
    | none => rfl
    | num j => simp [NestedKey.data, PyData.eqv] at h
    | text y => simp [NestedKey.data, PyData.eqv] at h
    | tup ls => simp [NestedKey.data, PyData.eqv] at h
  | .num i, b, h => by
    cases b with
    | none => simp [NestedKey.data, PyData.eqv] at h
    | num j => simp [NestedKey.data, PyData.eqv] at h; rw [h]
    | text y => simp [NestedKey.data, PyData.eqv] at h
    | tup ls => simp [NestedKey.data, PyData.eqv] at h
  | .text x, b, h => by
    cases b with
    | none => simp [NestedKey.data, PyData.eqv] at h
    | num j => simp [NestedKey.data, PyData.eqv] at h
    | text y => simp [NestedKey.data, PyData.eqv] at h; rw [h]
    | tup ls => simp [NestedKey.data, PyData.eqv] at h
  | .tup ks, b, h => by
    cases b with
    | none => simp [NestedKey.data, PyData.eqv] at h
    | num j => simp [NestedKey.data, PyData.eqv] at h
    | text y => simp [NestedKey.data, PyData.eqv] at h
    | tup ls =>
      rw [NestedKey.data, NestedKey.data, PyData.eqv] at h
      rw [eqvs_eq ks ls h]
theorem eqvs_eq : ∀ as bs : List NK, PyData.eqvAll (NestedKey.datas as) (NestedKey.datas bs) = true → as = bs
  | [], [], _ => rfl
  | [], b :: bs, h => by simp [NestedKey.datas, PyData.eqvAll] at h
  | a :: as, [], h => by simp [NestedKey.datas, PyData.eqvAll] at h
  | a :: as, b :: bs, h => by
    rw [NestedKey.datas, NestedKey.datas, PyData.eqvAll, Bool.and_eq_true] at h
    rw [eqv_eq a b h.1, eqvs_eq as bs h.2]
end
theorem leK_anti {a b : NK} (al : alike a.data b.data = true) (h1 : leK a b = true) (h2 : leK b a = true) : a = b := by
  rw [leK_lt, Bool.not_eq_true'] at h1 h2
  have te : keyToks a.data = keyToks b.data := lex_total (O := itemOrd) _ _ h2 h1
  refine eqv_eq a b ?_
  cases e : PyData.eqv a.data b.data with
  | true => rfl
  | false =>
    exfalso
    have q := (PySem.W.toks_eqv a.data b.data al).2 e [.inl 0] [.inl 1]
    rw [te, PySem.W.lex_pre, lex_irrefl] at q
    revert q
    decide
def onceK : List NK → List NK
  | [] => []
  | k :: ks => if k ∈ onceK ks then onceK ks else k :: onceK ks
theorem onceK_mem {x : NK} : ∀ {ks : List NK}, x ∈ onceK ks ↔ x ∈ ks
  | [] => Iff.rfl
  | k :: ks => by
    unfold onceK
    split
    · rename_i h
      rw [onceK_mem, List.mem_cons]
      exact ⟨.inr, fun z => z.elim (fun e => by rw [e]; exact onceK_mem.mp h) id⟩
    · rw [List.mem_cons, List.mem_cons, onceK_mem]
theorem onceK_nodup : ∀ ks : List NK, (onceK ks).Nodup
  | [] => List.nodup_nil
  | k :: ks => by
    unfold onceK
    split
    · exact onceK_nodup ks
    · rename_i h
      exact List.nodup_cons.mpr ⟨h, onceK_nodup ks⟩
/-- the members in order, each once -/
def sortK (ks : List NK) : List NK := (onceK ks).mergeSort leK
theorem sorted_unique {α : Type} {le : α → α → Bool} : ∀ {l m : List α}, l.Perm m → (∀ a ∈ l, ∀ b ∈ l, le a b = true → le b a = true → a = b) → l.Pairwise (fun a b => le a b = true) → m.Pairwise (fun a b => le a b = true) → l = m
  | [], m, p, _, _, _ => by rw [List.nil_perm.mp p]
  | a :: l, [], p, _, _, _ => by cases List.perm_nil.mp p
  | a :: l, b :: m, p, an, s1, s2 => by
    have hab : a = b := by
      have ha : a ∈ b :: m := p.mem_iff.mp List.mem_cons_self
      have hb : b ∈ a :: l := p.mem_iff.mpr List.mem_cons_self
      rcases List.mem_cons.mp ha with e | ha
      · exact e
      rcases List.mem_cons.mp hb with e | hb
      · exact e.symm
      exact an a List.mem_cons_self b (List.mem_cons_of_mem _ hb) ((List.pairwise_cons.mp s1).1 b hb) ((List.pairwise_cons.mp s2).1 a ha)
    subst hab
    rw [sorted_unique (List.perm_cons a |>.mp p) (fun x hx y hy => an x (List.mem_cons_of_mem _ hx) y (List.mem_cons_of_mem _ hy)) (List.pairwise_cons.mp s1).2 (List.pairwise_cons.mp s2).2]
theorem sortK_of {ks ls : List NK} (al : AlikeK ks) (nd : ls.Nodup) (mem : ∀ k, k ∈ ls ↔ k ∈ ks) : ls.mergeSort leK = sortK ks := by
  unfold sortK
  have pw : ∀ l : List NK, (l.mergeSort leK).Pairwise (fun a b => leK a b = true) := fun l => List.pairwise_mergeSort (le := leK) (fun a b c => leK_trans a b c) (fun a b => leK_total a b) l
  have p : ls.Perm (onceK ks) := (List.perm_ext_iff_of_nodup nd (onceK_nodup ks)).mpr fun k => by rw [mem k, onceK_mem]
  refine sorted_unique (((List.mergeSort_perm ls leK).trans p).trans (List.mergeSort_perm _ leK).symm) (fun a ha b hb h1 h2 => ?_) (pw _) (pw _)
  have ha' : a ∈ ks := (mem a).mp ((List.mergeSort_perm ls leK).mem_iff.mp ha)
  have hb' : b ∈ ks := (mem b).mp ((List.mergeSort_perm ls leK).mem_iff.mp hb)
  exact leK_anti (al a ha' b hb') h1 h2
end DL
set_option maxHeartbeats 8000000
/-! DL14: sorted(set(xs)). -/
namespace DL
open PySem PySem.Spec PyProof.Rows L2 DLS
open LamX (Tabs TabS CodeO)
open PySem.W (AllAlike Sortable EachIs dataLe dataLt alike alikeAll keyToks keyToksAll)
structure SetK0 (P : Program) (w : World) (h : Heap) (a : Addr) (L : List (Addr × NK)) : Prop where
  ex : ∃ (es : Array (Int × Value)) (ep : Nat) (t : SetTable), (∃ o, h.get? a = some o ∧ o.ExactSet ∧ o.data = .set es ep t) ∧ es.toList = ents w L ∧ TabQ t (hsh w L) ∧ (L.map (·.2)).Nodup ∧ (w.params.followText "set-order" = true ∨ t.led = true) ∧ L.length * 5 < t.mask * 3 ∧ L.length < 300
def SetKO (P : Program) (w : World) (a : Addr) (L : List (Addr × NK)) : HO := .ext fun h => SetK0 P w h a L
theorem SetK0.of {P : Program} {w : World} {h : Heap} {a : Addr} {L : List (Addr × NK)} {es : Array (Int × Value)} {ep : Nat} {t : SetTable} (R : SetK P w h a L es ep t) : SetK0 P w h a L := ⟨es, ep, t, R.ob, R.rows, R.tab, R.nd, R.led, R.room, R.few⟩
theorem SetK0.full {P : Program} {w : World} {h : Heap} {a : Addr} {L : List (Addr × NK)} (R : SetK0 P w h a L) (hk : ∀ p ∈ L, IsK h p.2 p.1) : ∃ es ep t, SetK P w h a L es ep t := by
  obtain ⟨es, ep, t, h1, h2, h3, h4, h5, h6, h7⟩ := R.ex
  exact ⟨es, ep, t, h1, h2, h3, h4, hk, h5, h6, h7⟩
theorem setKO_ok {P : Program} {w : World} {H : Hp} {h : Heap} {a : Addr} {L : List (Addr × NK)} (R : SetK0 P w h a L) : ObjOk P w H h a (SetKO P w a L) := by
  have ⟨es, ep, t, ⟨o, ho, r⟩, q⟩ := R.ex
  refine ⟨R, ⟨o, ho⟩, fun h1 h2 p k => ?_⟩
  have ⟨es', ep', t', ⟨o', ho', r'⟩, q'⟩ := SetK0.ex p
  exact ⟨es', ep', t', ⟨o', k o' ho', r'⟩, q'⟩
theorem refs_vals : ∀ {ks : List (Addr × NK)} {us : List Value}, Vals (ks.map fun p => V.ref p.1) us → us = ks.map fun p => Value.ref p.1
  | [], _, .nil => rfl
  | p :: ks, _, .cons r t => by
    cases r
    rw [refs_vals t] <;> rfl
theorem vals_refs : ∀ (ks : List (Addr × NK)), Vals (ks.map fun p => V.ref p.1) (ks.map fun p => Value.ref p.1)
  | [] => .nil
  | p :: ks => .cons rfl (vals_refs ks)
theorem perm_map_ex {α β : Type} {f : α → β} {us vs : List β} (p : us.Perm vs) : ∀ L : List α, vs = L.map f → ∃ L1 : List α, L1.Perm L ∧ us = L1.map f := by
  induction p with
  | nil => intro L e; exact ⟨L, .refl _, e⟩
  | @cons x l1 l2 _ ih =>
    intro L e
    cases L with
    | nil => cases e
    | cons y L =>
      rw [List.map_cons] at e
      injection e with e1 e2
      obtain ⟨L1, p1, r1⟩ := ih L e2
      exact ⟨y :: L1, p1.cons y, by rw [List.map_cons, ← r1, e1]⟩
  | swap x y l =>
    intro L e
    match L, e with
    | a :: b :: L, e =>
      rw [List.map_cons, List.map_cons] at e
      injection e with e1 e2
      injection e2 with e2 e3
      exact ⟨b :: a :: L, .swap a b L, by rw [List.map_cons, List.map_cons, ← e1, ← e2, ← e3]⟩
  | trans _ _ ih1 ih2 =>
    intro L e
    obtain ⟨L2, p2, r2⟩ := ih2 L e
    obtain ⟨L1, p1, r1⟩ := ih1 L2 r2
    exact ⟨L1, p1.trans p2, r1⟩
theorem each_refs : ∀ L : List (Addr × NK), EachIs (fun (v : Value) (q : Addr × NK) => v = Value.ref q.1) (L.map fun q => Value.ref q.1) L
  | [] => .nil
  | q :: L => .cons rfl (each_refs L)
theorem refs_each : ∀ {us : List Value} {L : List (Addr × NK)}, EachIs (fun (v : Value) (q : Addr × NK) => v = Value.ref q.1) us L → us = L.map fun q => Value.ref q.1
  | _, _, .nil => rfl
  | _, _, .cons e t => by rw [e, refs_each t] <;> rfl
theorem each_all {R : Value → Addr × NK → Prop} : ∀ {L : List (Addr × NK)}, (∀ q ∈ L, R (.ref q.1) q) → EachIs R (L.map fun q => Value.ref q.1) L
  | [], _ => .nil
  | q :: L, h => .cons (h q List.mem_cons_self) (each_all fun p hp => h p (List.mem_cons_of_mem _ hp))
/-- fit to be sorted -/
structure FitK (ks : List NK) : Prop where
  al : AlikeK ks
  tup : ∀ k ∈ ks, ∃ x r, k = .tup (x :: r)
  d1 : ∀ k ∈ ks, k.depth ≤ 8
  d2 : ∀ k ∈ ks, k.data.depth ≤ 8
section
variable {P : Program} {w : World} {A : Around} {E : Value → Shared → Prop} {s : Shared}
theorem sorted_setK {a : Addr} {L : List (Addr × NK)} {es : Array (Int × Value)} {ep : Nat} {t : SetTable} {Q : Value → Shared → Prop} (R : SetK P w s.heap a L es ep t) (hh : A.handled = none) (rd : ∀ p ∈ L, Reads s.heap (.ref p.1) p.2.data [])
    (F : FitK (L.map (·.2))) (hu : A.units + 11 < cLine)
    (hQ : ∀ s' p (out : Array Value) (c : Nat) (L1 : List (Addr × NK)), (∀ b o, s.heap.get? b = some o → s'.heap.get? b = some o) → s'.gens = s.gens → s'.os = s.os → s.heap.objs.size ≤ p →
      s'.heap.get? p = some (seqObj "list" out c) → L1.Perm L → out.toList = (L1.mergeSort (dataLe false fun q => q.2.data)).map (fun q => Value.ref q.1) → Q (.ref p) s') :
    wpAny (model P w) A (call (.builtin "sorted") [.ref a]) Q E s := by
  obtain ⟨o, ho, hex, hd⟩ := R.ob
  have hsz := R.size
  have hfew := R.few
  refine Calls.call_function_entry kind_sorted plain_sorted entry_sorted (args_sorted1 _) ?_
  unfold Builtin.«sorted»
  refine wpAny_bind (m := checkCount "sorted" 1 1 _) (wpAny_pure ?_)
  refine wpAny_bind (collect_set (A := A.in1) hh ⟨o, ho, hex.1, hd⟩ R.fits (by unfold scanBound; omega) R.tab.ris R.led fun s1 vs k1 hz g1 o1 pm => ?_)
  have hes : es.toList.map (·.2) = L.map fun q => Value.ref q.1 := by
    rw [R.rows]
    simp [ents]
  rw [hes] at pm
  obtain ⟨L1, p1, rfl⟩ := perm_map_ex pm L rfl
  have hl : L1.length < 300 := by rw [p1.length_eq]; exact hfew
  refine wpAny_bind (wpAny_newList ?_ (by rw [List.length_map, sizeLine_eq]; omega))
  have hoL : (s1.heap.push (seqObj "list" (L1.map fun q => Value.ref q.1).toArray 0)).get? s1.heap.objs.size = some (seqObj "list" (L1.map fun q => Value.ref q.1).toArray 0) := Heap.get?_push_size _ rfl
  have mem : ∀ q ∈ L1, q.2 ∈ L.map (·.2) := fun q hq => List.mem_map.mpr ⟨q, p1.mem_iff.mp hq, rfl⟩
  refine wpAny_bind (wpAny_holding (PySem.W.list_sort_data (β := Addr × NK) (s := { s1 with heap := s1.heap.push (seqObj "list" (L1.map fun q => Value.ref q.1).toArray 0) }) (R := fun (v : Value) (q : Addr × NK) => v = Value.ref q.1) (enc := fun q => q.2.data) (bs := L1) (vs := L1.map fun q => Value.ref q.1) hoL
    (each_refs L1) (each_all fun q hq => ⟨[], PyProof.Rows.Reads.keeps (fun b u e => Heap.get?_push_of_some _ (k1 b u e)) (rd q (p1.mem_iff.mp hq)), by simp⟩) (fun d hd d' hd' => ?_) (.inl fun d hd => ?_) (by rw [sizeLine_eq]; omega) (fun q hq => ?_) fun out hlen a1 => ?_))
  · obtain ⟨q, hq, rfl⟩ := List.mem_map.mp hd
    obtain ⟨q', hq', rfl⟩ := List.mem_map.mp hd'
    exact F.al _ (mem q hq) _ (mem q' hq')
  · obtain ⟨q, hq, rfl⟩ := List.mem_map.mp hd
    obtain ⟨x, r, e⟩ := F.tup _ (mem q hq)
    refine ⟨x.data, NestedKey.datas r, ?_⟩
    show q.2.data = _
    rw [e, NestedKey.data, NestedKey.datas]
  · have := F.d2 _ (mem q hq)
    show A.units + 1 + 1 + q.2.data.depth < cLine
    omega
  · obtain ⟨c, hc⟩ := sortedHeap_at (vs := L1.map fun q => Value.ref q.1) (out := out.toArray) hoL
    refine wpAny_pure ⟨_, rfl, hQ _ s1.heap.objs.size out.toArray c L1 (fun b u e => ?_) g1 o1 hz hc p1 (by simpa using refs_each a1)⟩
    have q := k1 b u e
    have hlt := Heap.lt_size q
    show (sortedHeap (s1.heap.push (seqObj "list" (L1.map fun q => Value.ref q.1).toArray 0)) s1.heap.objs.size (L1.map fun q => Value.ref q.1) out.toArray).get? b = some u
    rw [sortedHeap_old (Nat.ne_of_lt hlt) (by rw [size_push']; exact Nat.lt_succ_of_lt hlt)]
    exact Heap.get?_push_of_some _ q
end
section
variable {c : Cf} {W : WX} {κ : List Nat} {X : Cx} {ξ : Xi} {pos : Pos} {H : Hp}
def rSetOfK (X : Cx) (ξ : Xi) : List V → Hp → VK → Prop := fun xs H Q => ∃ (l : Addr) (ks : List (Addr × NK)), xs = [V.ref l] ∧ SqT X.K H l (ks.map fun p => V.ref p.1) ∧ (∀ p ∈ ks, Rep (cx X ξ) H (unK p.2) (.ref p.1) []) ∧ (∀ p ∈ ks, p.2.depth ≤ 8) ∧ FewK ks ∧
  ∀ a L, H a = none → (∀ p ∈ L, p ∈ ks) → (∀ p ∈ ks, p.2 ∈ L.map (·.2)) → (L.map (·.2)).Nodup → Q (.ref a) (upd H a (SetKO X.prog X.w a L))
theorem cr_setOfK (hc : X.calm = true) (hu : X.A.units + 64 < cLine) : CallR X (.type "set") (rSetOfK X ξ) := by
  intro pins s σ H xs us Q I r h
  obtain ⟨l, ks, rfl, hl, hk, hd, hf, q⟩ := h
  rw [Vals.ref1 r]
  obtain ⟨its, rv, pl, hz⟩ := I.tuple hl
  have hn : H s.heap.objs.size = none := I.hok.fresh (Nat.le_refl _)
  have ei : its = ks.map fun p => Value.ref p.1 := refs_vals rv
  refine call_set_tup (P := X.prog) (w := X.w) ks (I.ok.hd hc) (by obtain ⟨o, ho, hcc, n, hdd⟩ := pl; exact ⟨o, ho, hcc, n, hdd⟩) (by simpa using ei) (fun p hp => ⟨(nest_of I p.2 _ _ [] (hk p hp) rfl).1, hd p hp⟩) hf (by omega) fun h' tk L es ep t R g k => ?_
  refine ⟨.ref s.heap.objs.size, upd H s.heap.objs.size (SetKO X.prog X.w s.heap.objs.size L), I.laid (t' := tk) k (Nat.le_refl _) (setKO_ok (SetK0.of R)), rfl, q _ L hn (fun p hp => ?_) (fun p hp => ?_) R.nd⟩
  · exact List.mem_of_mem_take (g.sub p hp)
  · exact g.all p (by rw [List.take_length]; exact hp)
def rSortedK (X : Cx) (ξ : Xi) : List V → Hp → VK → Prop := fun vs H Q => ∃ (a : Addr) (L : List (Addr × NK)), vs = [V.ref a] ∧ H a = some (SetKO X.prog X.w a L) ∧ (∀ p ∈ L, Rep (cx X ξ) H (unK p.2) (.ref p.1) []) ∧ FitK (L.map (·.2)) ∧
  ∀ (L1 : List (Addr × NK)) (p : Addr), L1.Perm L → H p = none → (L.map (·.2)).Nodup → Q (.ref p) (upd H p (.lst ((L1.mergeSort (dataLe false fun q => q.2.data)).map fun q => V.ref q.1)))
theorem cr_sortedK (hc : X.calm = true) (hu : X.A.units + 64 < cLine) : CallR X (.builtin "sorted") (rSortedK X ξ) := by
  intro pins s σ H vs us Q I r h
  obtain ⟨a, L, rfl, ha, hk, F, q⟩ := h
  have R0 : SetK0 X.prog X.w s.heap a L := (I.hok a _ ha).1
  have nk : ∀ p ∈ L, NestedIs s.heap p.2 (.ref p.1) ∧ Reads s.heap (.ref p.1) p.2.data [] := fun p hp => nest_of I p.2 (.ref p.1) (.ref p.1) [] (hk p hp) rfl
  obtain ⟨es, ep, t, R⟩ := R0.full fun p hp => ⟨(nk p hp).1, F.d1 _ (List.mem_map.mpr ⟨p, hp, rfl⟩)⟩
  rw [Vals.ref1 r]
  refine sorted_setK R (I.ok.hd hc) (fun p hp => (nk p hp).2) F (by omega) fun s' p out c L1 k g o hp hg pm hout => ?_
  have hfew : L1.length < 300 := by rw [pm.length_eq]; exact R.few
  have hlen : ((L1.mergeSort (dataLe false fun q => q.2.data)).map fun q => V.ref q.1).length ≤ sizeLine := by rw [List.length_map, List.length_mergeSort, sizeLine_eq]; omega
  have hn : H p = none := I.hok.fresh hp
  have hv : Vals ((L1.mergeSort (dataLe false fun q => q.2.data)).map fun q => V.ref q.1) out.toList := by rw [hout]; exact vals_refs _
  have J : Inv X pins σ (upd H p (.lst ((L1.mergeSort (dataLe false fun q => q.2.data)).map fun q => V.ref q.1))) { s with heap := s'.heap, gens := s'.gens, drawn := s'.drawn, toks := s'.toks } :=
    I.call (ch := []) (Un.laid k hp hn) (I.hok.laid k hp ⟨hlen, out.toList, c, hv, hg⟩) (by rw [g]; exact I.bare) (fun _ z => nomatch z)
  have e : s' = { s with heap := s'.heap, gens := s'.gens, drawn := s'.drawn, toks := s'.toks } := by
    cases s'
    cases s
    cases o
    rfl
  rw [e]
  exact ⟨.ref p, _, J, rfl, q L1 p pm hn R.nd⟩
/-! ### the rule over data -/
def FewD (ks : List NK) : Prop := ∀ l : List NK, l.Nodup → (∀ k ∈ l, k ∈ ks) → l.length < 300
open Classical in
noncomputable def dSortSet : D → Option D
  | .tup l => match keyAll l with
    | some ks => if FitK ks ∧ FewD ks then some (.lst ((sortK ks).map unK)) else none
    | none => none
  | _ => none
theorem reps_keys : ∀ {ks : List NK} {vs : List V} {f : List Addr}, (∀ k ∈ ks, ∃ x r, k = .tup (x :: r)) → Reps (cx X ξ) H (unKs ks) vs f → ∃ prs : List (Addr × NK), vs = prs.map (fun p => V.ref p.1) ∧ prs.map (·.2) = ks ∧ ∀ p ∈ prs, Rep (cx X ξ) H (unK p.2) (.ref p.1) []
  | [], vs, f, _, h => by
    rw [unKs] at h
    obtain ⟨rfl, _⟩ := h
    exact ⟨[], rfl, rfl, fun p hp => by cases hp⟩
  | k :: ks, vs, f, ht, h => by
    rw [unKs] at h
    obtain ⟨v, vs', f1, f2, rfl, r1, r2, _⟩ := h
    obtain ⟨prs, e1, e2, e3⟩ := reps_keys (fun k hk => ht k (List.mem_cons_of_mem _ hk)) r2
    obtain ⟨x, r, rfl⟩ := ht k List.mem_cons_self
    have ef : f1 = [] := Rep.pers r1 (pers_un _)
    subst ef
    have r1' := r1
    obtain ⟨a, ws, rfl, hrest⟩ := (show Rep (cx X ξ) H (.tup (unKs (x :: r))) v [] by rw [← show unK (.tup (x :: r)) = .tup (unKs (x :: r)) by rw [unK]]; exact r1')
    refine ⟨(a, .tup (x :: r)) :: prs, by rw [List.map_cons, ← e1], by rw [List.map_cons, e2], fun p hp => ?_⟩
    rcases List.mem_cons.mp hp with rfl | hp
    · exact r1'
    · exact e3 p hp
theorem prs_reps : ∀ (prs : List (Addr × NK)), (∀ p ∈ prs, Rep (cx X ξ) H (unK p.2) (.ref p.1) []) → Reps (cx X ξ) H ((prs.map (·.2)).map unK) (prs.map fun p => V.ref p.1) []
  | [], _ => ⟨rfl, rfl⟩
  | p :: prs, h => ⟨.ref p.1, _, [], [], rfl, h p List.mem_cons_self, prs_reps prs fun q hq => h q (List.mem_cons_of_mem _ hq), rfl⟩
theorem p_sortSet {a : Expr} {m : MP} {f1 : Bool} {p1 p2 p3 : Pos} (hc : X.calm = true) (hu : X.A.units + 64 < cLine) (hs : X.mg "sorted" = none) (ht : X.mg "set" = none) (h : DP X ξ f1 a m) (hgs : Gl X "sorted" := by rfl) (hgt : Gl X "set" := by rfl)
    (hv1 : bootBuiltins "set" = some (.type "set") := by first | rfl | decide +kernel) (hv2 : bootBuiltins "sorted" = some (.builtin "sorted") := by first | rfl | decide +kernel)
    (he1 : starEach [a] X.env = (false, eval a X.env) :: starEach [] X.env := by rfl) (he2 : starEach [.Call (.Name "set" p1) [a] [] p2] X.env = (false, eval (.Call (.Name "set" p1) [a] [] p2) X.env) :: starEach [] X.env := by rfl) :
    DP X ξ true (.Call (.Name "sorted" p3) [.Call (.Name "set" p1) [a] [] p2] [] pos) (mUnP dSortSet m) :=
  (pe_callB (cr_sortedK hc hu) hgs hs hv2 (pa_cons (pe_callTy (cr_setOfK (ξ := ξ) hc hu) hgt ht hv1 (pa_cons h pa_nil he1) (he := he1)) pa_nil he2) (he := he2)).imp fun σ H Q ⟨env, f, he, nd, d, ed, kk⟩ => by
    obtain ⟨x, e1, e2⟩ := mUnP_some ed
    refine ⟨env, f, he, nd, x, e1, fun v H1 g s1 rv ng fo => ?_⟩
    unfold dSortSet at e2
    split at e2
    · rename_i l
      split at e2
      · rename_i ks ek
        split at e2
        · rename_i hcnd
          obtain ⟨F, few⟩ := hcnd
          cases e2
          obtain ⟨av, vs, rfl, q, rs⟩ := rv
          have el := un_keyAll ek
          subst el
          obtain ⟨prs, rfl, ek2, er⟩ := reps_keys F.tup rs
          have mk : ∀ p ∈ prs, p.2 ∈ ks := fun p hp => by rw [← ek2]; exact List.mem_map.mpr ⟨p, hp, rfl⟩
          refine ⟨av, prs, rfl, SqT.of q, er, fun p hp => F.d1 _ (mk p hp), fun l hn hl => few l hn fun k hk => by rw [← ek2]; exact hl k hk, fun a L hn hsub hall hnd => ?_⟩
          have sm : Same H1 (upd H1 a (SetKO X.prog X.w a L)) := Same.new hn
          have mL : ∀ p ∈ L, p.2 ∈ ks := fun p hp => mk p (hsub p hp)
          have F2 : FitK (L.map (·.2)) := ⟨fun k hk k' hk' => by
            obtain ⟨p, hp, rfl⟩ := List.mem_map.mp hk
            obtain ⟨p', hp', rfl⟩ := List.mem_map.mp hk'
            exact F.al _ (mL p hp) _ (mL p' hp'), fun k hk => by
            obtain ⟨p, hp, rfl⟩ := List.mem_map.mp hk
            exact F.tup _ (mL p hp), fun k hk => by
            obtain ⟨p, hp, rfl⟩ := List.mem_map.mp hk
            exact F.d1 _ (mL p hp), fun k hk => by
            obtain ⟨p, hp, rfl⟩ := List.mem_map.mp hk
            exact F.d2 _ (mL p hp)⟩
          refine ⟨a, L, rfl, upd_same, fun p hp => (er p (hsub p hp)).same sm, F2, fun L1 p pm hpn hnd2 => ?_⟩
          have reL : ∀ q ∈ L1.mergeSort (dataLe false fun q => q.2.data), Rep (cx X ξ) (upd H1 a (SetKO X.prog X.w a L)) (unK q.2) (.ref q.1) [] := fun q hq =>
            (er q (hsub q (pm.mem_iff.mp ((List.mergeSort_perm _ _).mem_iff.mp hq)))).same sm
          have rL := prs_reps (L1.mergeSort (dataLe false fun q => q.2.data)) reL
          have eS : (L1.mergeSort (dataLe false fun q => q.2.data)).map (·.2) = sortK ks := by
            have e3 : (L1.mergeSort (dataLe false fun q => q.2.data)).map (·.2) = (L1.map (·.2)).mergeSort leK := List.map_mergeSort fun x _ y _ => rfl
            rw [e3]
            refine sortK_of F.al ((pm.map (·.2)).nodup_iff.mpr hnd) fun k => ?_
            rw [(pm.map (·.2)).mem_iff]
            constructor
            · intro hk
              obtain ⟨p, hp, rfl⟩ := List.mem_map.mp hk
              exact mL p hp
            · intro hk
              rw [← ek2] at hk
              obtain ⟨p, hp, rfl⟩ := List.mem_map.mp hk
              exact hall p hp
          rw [eS] at rL
          exact giveL rL hpn fun z H' g' s' r' n' f' => kk z H' g' ((s1.trans sm).trans s') r' n' fun b hb => .inl ((s1.trans sm).free (f' b hb))
        · cases e2
      · cases e2
    · cases e2
end
end DL
set_option maxHeartbeats 8000000
/-! DL15: sorted(xs, key=len), tuples compared. -/
namespace DL
open PySem PySem.Spec PyProof.Rows L2 DLS
open LamX (Tabs TabS CodeO)
open PySem.W (AllAlike Sortable EachIs dataLe dataLt alike alikeAll keyToks keyToksAll)
section
variable {c : Cf} {W : WX} {κ : List Nat} {X : Cx} {ξ : Xi} {pos : Pos} {H : Hp}
/-! ### t < u -/
def dLtT : D → D → Option D := fun x y => match x, y with
  | .tup l, .tup m => if plainAll l = true ∧ plainAll m = true ∧ alikeAll (pyAll l) (pyAll m) = true ∧ PyData.depthAll (pyAll l) < 60 then some (.bl (dataLt (.tuple (pyAll l)) (.tuple (pyAll m)))) else none
  | _, _ => none
def rLtD (K : PySem.W.Frag) : R2 := fun x y H Q => ∃ d e, Dp K H x d ∧ Dp K H y e ∧ alike d e = true ∧ d ≠ .none ∧ d.depth ≤ 60 ∧ Q (.bl (dataLt d e)) H
theorem op_ltData (hu : X.A.units + 64 < cLine) : OpR X (compareOp .Lt) (rLtD X.K) := by
  intro pins s σ H x y v u Q I rx ry h
  obtain ⟨d, e, hd, he, al, nn, dp, q⟩ := h
  obtain ⟨as, r1⟩ := Dp.reads I d x v hd rx
  obtain ⟨bs, r2⟩ := Dp.reads I e y u he ry
  exact PySem.W.rcLt_alike d e X.A s v u as bs r1 r2 al nn (by have := Nat.min_le_left d.depth e.depth; omega) _ _ _ _ ⟨.bl _, H, I, rfl, q⟩
theorem opd_ltT : OpD (cx X ξ) (rLtD X.K) dLtT := fun H x y dx dy dz gx gy Q rx ry e k => by
  unfold dLtT at e
  split at e
  · rename_i l m
    split at e
    · rename_i hc
      cases e
      refine ⟨.tuple (pyAll l), .tuple (pyAll m), Rep.dp (d := .tup l) rx hc.1, Rep.dp (d := .tup m) ry hc.2.1, hc.2.2.1, by simp, ?_, giveP (d := .bl _) ⟨rfl, rfl⟩ k⟩
      show PyData.depthAll (pyAll l) + 1 ≤ 60
      omega
    · cases e
  · cases e
/-! ### sorted(xs, key=len) -/
def lenT : D → Nat
  | .tup l => l.length
  | _ => 0
def isTupD : D → Bool
  | .tup l => persAll l
  | _ => false
/-- a list by length, the old sequence among equals -/
def sortLen (l : List D) : List D := l.mergeSort fun a b => decide (lenT a ≤ lenT b)
def dSortLen : D → Option D
  | .lst l => if l.all isTupD = true ∧ l.length ≤ LIM then some (.lst (sortLen l)) else none
  | _ => none
theorem all_pers : ∀ {l : List D}, l.all isTupD = true → persAll l = true
  | [], _ => rfl
  | d :: ds, h => by
    rw [List.all_cons, Bool.and_eq_true] at h
    show (d.pers && persAll ds) = true
    rw [all_pers h.2, Bool.and_true]
    cases d <;> first | exact h.1 | cases h.1
theorem reps_zip : ∀ {l : List D} {vs : List V}, Reps c H l vs [] → ∀ p ∈ vs.zip l, Rep c H p.2 p.1 []
  | [], vs, r, p, hp => by obtain ⟨rfl, _⟩ := r; cases hp
  | d :: ds, vs, r, p, hp => by
    obtain ⟨v, vs', f1, f2, rfl, r1, r2, e⟩ := r
    obtain ⟨e1, e2⟩ := List.append_eq_nil_iff.mp e.symm
    subst e1 e2
    rcases List.mem_cons.mp hp with rfl | hp
    · exact r1
    · exact reps_zip r2 p hp
theorem zip_reps : ∀ {L : List (V × D)}, (∀ p ∈ L, Rep c H p.2 p.1 []) → Reps c H (L.map (·.2)) (L.map (·.1)) []
  | [], _ => ⟨rfl, rfl⟩
  | p :: L, h => ⟨p.1, _, [], [], rfl, h p List.mem_cons_self, zip_reps fun q hq => h q (List.mem_cons_of_mem _ hq), rfl⟩
theorem zip_map2 : ∀ {l : List D} {vs : List V}, vs.length = l.length → (vs.zip l).map (·.2) = l ∧ (vs.zip l).map (·.1) = vs
  | [], [], _ => ⟨rfl, rfl⟩
  | d :: ds, [], h => by cases h
  | [], v :: vs, h => by cases h
  | d :: ds, v :: vs, h => by
    obtain ⟨a, b⟩ := zip_map2 (l := ds) (vs := vs) (by simpa using h)
    exact ⟨by rw [List.zip_cons_cons, List.map_cons, a], by rw [List.zip_cons_cons, List.map_cons, b]⟩
theorem each_zip : ∀ {us : List Value} {vs : List V} {l : List D}, Vals vs us → vs.length = l.length → EachIs (fun (u : Value) (p : V × D) => RelV p.1 u) us (vs.zip l)
  | _, _, [], .nil, _ => .nil
  | _, _, d :: ds, .nil, h => by cases h
  | _, _, [], .cons _ _, h => by cases h
  | _, _, d :: ds, .cons r t, h => .cons r (each_zip t (by simpa using h))
theorem zip_each : ∀ {us : List Value} {L : List (V × D)}, EachIs (fun (u : Value) (p : V × D) => RelV p.1 u) us L → Vals (L.map (·.1)) us
  | _, _, .nil => .nil
  | _, _, .cons r t => .cons r (zip_each t)
def tSortLen (K : PySem.W.Frag) (c : Cf) (te : TE) : TE := fun σ H Q => te σ H fun x H1 => ∃ (a : Addr) (vs : List V) (l : List D), x = .ref a ∧ SqL K H1 a vs ∧ Reps c H1 l vs [] ∧ l.all isTupD = true ∧ l.length ≤ LIM ∧
  ∀ (L : List (V × D)) p, (∀ q ∈ L, Rep c H1 q.2 q.1 []) → L.map (·.2) = sortLen l → H1 p = none → Q (.ref p) (upd H1 p (.lst (L.map (·.1))))
theorem keyPure_int' {k k' : Int} {s1 : Shared} {tk : Nat} {t : Tok} (e : k = k') : PySem.W.KeyPure (.int k') s1 (.int k t) { s1 with toks := tk } := by
  subst e
  exact ⟨s1.heap, tk, rfl, fun b o h => h, .int k t⟩
theorem pe_sortLen {e : Expr} {te : TE} {p p2 : Pos} {kp : Pos} (hu : X.A.units + 64 < cLine) (hs : X.mg "sorted" = none) (hl : X.mg "len" = none) (he : PE X e te) (hgs : Gl X "sorted" := by rfl) (hgl : Gl X "len" := by rfl)
    (hv1 : bootBuiltins "sorted" = some (.builtin "sorted") := by first | rfl | decide +kernel) (hv2 : bootBuiltins "len" = some (.builtin "len") := by first | rfl | decide +kernel)
    (he0 : backTo pos (starEach [e] X.env) = (false, eval e X.env) :: backTo pos (starEach [] X.env) := by rfl) (hpl : (backTo pos (starEach [e] X.env)).any (·.1) = false := by rfl)
    (hse : starEach [e] X.env = (false, eval e X.env) :: starEach [] X.env := by rfl) :
    PE X (.Call (.Name "sorted" p) [e] [⟨some "key", .Name "len" p2, kp⟩] pos) (tSortLen X.K (cx X ξ) te) := by
  refine ⟨fun pins s σ H Q I h => ?_⟩
  refine wpAny_Call_Name_kw (ld_blt I hgs hs hv1 ?_)
  refine PyProof.Rows.callWith_kw (thn ((pa_cons he pa_nil hse).run pos pins s σ H (fun vs H1 => match vs with
    | [x] => ∃ (a : Addr) (vs : List V) (l : List D), x = .ref a ∧ SqL X.K H1 a vs ∧ Reps (cx X ξ) H1 l vs [] ∧ l.all isTupD = true ∧ l.length ≤ LIM ∧
        ∀ (L : List (V × D)) p, (∀ q ∈ L, Rep (cx X ξ) H1 q.2 q.1 []) → L.map (·.2) = sortLen l → H1 p = none → Q (.ref p) (upd H1 p (.lst (L.map (·.1))))
    | _ => False) I h) fun us s1 ⟨xs, H1, I1, r1, q1⟩ => ?_) he0 hpl rfl rfl
  match xs, r1, q1 with
  | [x], r1, q1 =>
    obtain ⟨a, vs, l, rfl, hq, rs, ht, hlim, fin⟩ := q1
    rw [Vals.ref1 r1]
    show wpAny _ _ (evalAll ((do let v ← eval (.Name "len" p2) X.env; standAt pos; pure v) :: [])) _ _ s1
    refine wpAny_evalAll_cons (wpAny_bind (ld_blt I1 hgl hl hv2 (wpAny_bind (wpAny_standAt (wpAny_pure ?_)))))
    refine wpAny_evalAll_nil ?_
    obtain ⟨its, rv, pl, hz⟩ := I1.list hq
    have hvl := rs.length
    have lz : (vs.zip l).length = l.length := by rw [List.length_zip, hvl, Nat.min_self]
    have memL : ∀ q ∈ vs.zip l, isTupD q.2 = true := fun q hq => (List.all_eq_true.mp ht) q.2 (List.of_mem_zip hq).2
    have rz := reps_zip rs
    refine PySem.W.sorted_key_data (β := V × D) (b := false) (R := fun (u : Value) (p : V × D) => RelV p.1 u) (bs := vs.zip l) (vs := its) (fun p => .int (lenT p.2)) pl.isList (each_zip rv hvl)
      (fun d hd d' hd' => ?_) (.inr fun d hd => ?_) (by rw [lz]; exact Nat.le_trans hlim (by decide)) (fun p _ => ?_) (ksk_s1 _ _) (fun _ => ksk_l1 _ _) (fun _ => ksk_t4 _ _) (fun u p hu2 hp h tk kp => ?_) fun out cc h' tk kp hn hg hlen ea => ?_
    · obtain ⟨p, _, rfl⟩ := List.mem_map.mp hd
      obtain ⟨p', _, rfl⟩ := List.mem_map.mp hd'
      rfl
    · obtain ⟨p, _, rfl⟩ := List.mem_map.mp hd
      exact ⟨by simp, fun xs => by simp⟩
    · show X.A.units + 2 + 0 < cLine
      omega
    · have tp := memL p hp
      have rp := rz p hp
      obtain ⟨pv, pd⟩ := p
      cases pd with
      | tup m =>
        obtain ⟨b, ws, rfl, qb, rws⟩ := rp
        cases hu2
        obtain ⟨its2, r2, pl2, hz2⟩ := I1.tuple (SqT.of qb)
        have e2 := r2.length
        have hn63 := line63
        obtain ⟨o, ho, hcl, n, hd⟩ := pl2
        have pl3 : IsTup ({ s1 with heap := h, toks := tk } : Shared).heap b its2.toArray := ⟨o, kp _ _ ho, hcl, n, hd⟩
        refine len_tuple pl3 (by simp only [List.size_toArray] <;> omega) (keyPure_int' ?_)
        show ((its2.toArray.size : Nat) : Int) = (m.length : Int)
        rw [List.size_toArray, ← e2, rws.length]
      | _ => cases tp
    · have hE : (vs.zip l).mergeSort (dataLe false fun p : V × D => PyData.int (lenT p.2)) = (vs.zip l).mergeSort fun p q => decide (lenT p.2 ≤ lenT q.2) := by
        congr 1
        rw [PySem.W.dataLe_int fun p : V × D => (lenT p.2 : Int)]
        funext p q
        exact decide_eq_decide.mpr Int.ofNat_le
      rw [hE] at ea
      have hL2 : ((vs.zip l).mergeSort fun p q => decide (lenT p.2 ≤ lenT q.2)).map (·.2) = sortLen l := by
        unfold sortLen
        rw [List.map_mergeSort (f := fun p : V × D => p.2) (s := fun a b => decide (lenT a ≤ lenT b)) fun x _ y _ => rfl, (zip_map2 hvl).1]
      have hrep : ∀ q ∈ (vs.zip l).mergeSort fun p q => decide (lenT p.2 ≤ lenT q.2), Rep (cx X ξ) H1 q.2 q.1 [] := fun q hq => rz q ((List.mergeSort_perm _ _).mem_iff.mp hq)
      have hp : H1 (s1.heap.objs.size + 1) = none := I1.hok.fresh (Nat.le_succ _)
      refine ⟨.ref (s1.heap.objs.size + 1), _, I1.laid (t' := tk) (o := .lst (((vs.zip l).mergeSort fun p q => decide (lenT p.2 ≤ lenT q.2)).map (·.1))) kp (Nat.le_succ _) ?_, rfl, fin _ _ hrep hL2 hp⟩
      exact ⟨by rw [List.length_map, List.length_mergeSort, lz]; exact Nat.le_trans hlim (by decide), out, cc, zip_each ea, hg⟩
/-- sorted(xs, key=len), xs a list -/
theorem p_sortLen {e : Expr} {m : MP} {f1 : Bool} {p p2 : Pos} {kp : Pos} (hu : X.A.units + 64 < cLine) (hs : X.mg "sorted" = none) (hl : X.mg "len" = none) (h : DP X ξ f1 e m) (hgs : Gl X "sorted" := by rfl) (hgl : Gl X "len" := by rfl)
    (hv1 : bootBuiltins "sorted" = some (.builtin "sorted") := by first | rfl | decide +kernel) (hv2 : bootBuiltins "len" = some (.builtin "len") := by first | rfl | decide +kernel)
    (he0 : backTo pos (starEach [e] X.env) = (false, eval e X.env) :: backTo pos (starEach [] X.env) := by rfl) (hpl : (backTo pos (starEach [e] X.env)).any (·.1) = false := by rfl)
    (hse : starEach [e] X.env = (false, eval e X.env) :: starEach [] X.env := by rfl) :
    DP X ξ true (.Call (.Name "sorted" p) [e] [⟨some "key", .Name "len" p2, kp⟩] pos) (mUnP dSortLen m) :=
  (pe_sortLen (ξ := ξ) hu hs hl h hgs hgl hv1 hv2 he0 hpl hse).imp fun σ H Q ⟨env, f, he, nd, d, ed, kk⟩ => by
    obtain ⟨x, e1, e2⟩ := mUnP_some ed
    refine ⟨env, f, he, nd, x, e1, fun v H1 g s1 rv ng fo => ?_⟩
    unfold dSortLen at e2
    split at e2
    · rename_i l
      split at e2
      · rename_i hc
        cases e2
        obtain ⟨a, vs, g', rfl, q, rs, _⟩ := rv
        refine ⟨a, vs, l, rfl, SqL.of q, rs.toP (all_pers hc.1), hc.1, hc.2, fun L p hL e hp => ?_⟩
        have rL := zip_reps hL
        rw [e] at rL
        exact giveL rL hp fun z H' g' s' r' n' f' => kk z H' g' (s1.trans s') r' n' fun b hb => .inl (s1.free (f' b hb))
      · cases e2
    · cases e2
end
end DL
set_option maxHeartbeats 8000000
/-! DL16: a list that is never changed from here on. -/
namespace DL
open PySem PySem.Spec PyProof.Rows L2
open LamX (Tabs TabS CodeO)
section
variable {c : Cf} {W : WX} {κ : List Nat} {X : Cx} {ξ : Xi} {pos : Pos} {H : Hp}
theorem inv_frz {pins : List (Addr × Obj)} {σ : L2.St} {s : Shared} {a : Addr} {vs : List V} (I : Inv X pins σ H s) (h : H a = some (.lst vs)) : ∃ ob, Inv X pins σ (upd H a (.frz ob (.lst vs))) s := by
  obtain ⟨hz, its, n, rv, ho⟩ := (show ObjOk X.prog X.w H s.heap a (.lst vs) from I.hok a _ h)
  refine ⟨_, Inv.write (x := a) (e := a) (t' := s.toks) (h' := s.heap) I (by rw [h]; trivial) (.inl rfl) (fun b u _ e => e) ⟨_, ho⟩ (o := .frz { cls := .type "list", data := .seq its.toArray n } (.lst vs)) ⟨ho, hz, its, n, rv, ho⟩⟩
def frzD : D → Option D
  | .lst l => if persAll l = true then some (.fz l) else none
  | d => if d.pers = true then some d else none
def mFz (m : M D) : M D := m.bind fun d => M.ofO (frzD d)
theorem upd_self_frm {f g : List Addr} {H H' : Hp} {a : Addr} {o : HO} {xs : List V} (q : H' a = some (.lst xs)) (fm : Frm f (a :: g) H H') : Frm f g H (upd H' a o) := by
  refine ⟨fun b u e n t => ?_, fun T t => tabs_upd ⟨_, q⟩ T (fm.tab T t), fun b hb => fm.foot b (List.mem_cons_of_mem _ hb)⟩
  have hne : b ≠ a := fun z => by
    subst z
    rcases fm.foot b List.mem_cons_self with q | q
    · exact n q
    · exact q.not e t
  rw [upd_ne hne]
  exact fm.keep b u e n t
theorem e_fz {e : Expr} {m : M D} (h : DE X ξ W e m) : DE X ξ W e (mFz m) := ⟨fun pins s σ H Q I ⟨env, f, he, nd, r, er, k⟩ => by
  have main : tE (cx X ξ) W m σ H (fun v H1 => Q v H1 ∨ ∃ a vs, H1 a = some (.lst vs) ∧ ∀ ob, Q v (upd H1 a (.frz ob (.lst vs)))) := by
    rcases bind_some er with ⟨x, e1, ea, rfl⟩ | ⟨d, e1, ea, er⟩
    · exact ⟨env, f, he, nd, _, ea, k⟩
    · obtain ⟨dz, eo, rfl⟩ := ofO_some er
      refine ⟨env, f, he, nd, _, ea, fun v H' g1 g2 fm rv he' nd' => ?_⟩
      unfold frzD at eo
      split at eo
      · rename_i l
        split at eo
        · rename_i hp
          cases eo
          obtain ⟨a, vs, g, rfl, q, rs, rfl⟩ := rv
          have eg : g = [] := rs.pers hp
          subst eg
          refine .inr ⟨a, vs, q, fun ob => ?_⟩
          have nd2 : (a :: g2).Nodup := by simpa using nd'
          have na : a ∉ g2 := (List.nodup_cons.mp nd2).1
          have bt := but_upd (H := H') (a := a) (o := .frz ob (.lst vs)) q
          refine k (.ref a) _ [] g2 (by simpa using upd_self_frm (o := .frz ob (.lst vs)) q (show Frm f (a :: g2) H H' from by simpa using fm)) ⟨a, vs, rfl, .inl ⟨ob, upd_same⟩, rs.but bt (own_one q) (not_one (by simp)), rfl⟩ (he'.but bt (own_one q) (not_one na)) (by simpa using (List.nodup_cons.mp nd2).2)
        · cases eo
      · split at eo
        · cases eo
          exact .inl (k v H' g1 g2 fm rv he' nd')
        · cases eo
  exact thn (h.run pins s σ H _ I main) fun u s1 ⟨v, H1, I1, r1, q1⟩ => by
    rcases q1 with q | ⟨a, vs, hq, q⟩
    · exact ⟨v, H1, I1, r1, q⟩
    · obtain ⟨ob, I2⟩ := inv_frz I1 hq
      exact ⟨v, _, I2, r1, q ob⟩⟩
/-- x < y of ints or of tuples -/
def dLtX : D → D → Option D := fun x y => match dLt x y with
  | some z => some z
  | none => dLtT x y
theorem op_ltX (hu : X.A.units + 64 < cLine) : OpR X (compareOp .Lt) (fun x y H Q => rI0 (fun i j => .bl (decide (i < j))) x y H Q ∨ rLtD X.K x y H Q) := op_lt.or (op_ltData hu)
theorem opd_ltX : OpD (cx X ξ) (fun x y H Q => rI0 (fun i j => .bl (decide (i < j))) x y H Q ∨ rLtD X.K x y H Q) dLtX := OpD.or opd_cmpI opd_ltT
end
end DL
set_option maxHeartbeats 8000000
/-! DL17: a lambda with parameters, called. -/
namespace DL
open PySem PySem.Spec PyProof.Rows L2
open LamX (Tabs TabS CodeO)
/-- a lambda's object, called: its body is walked in a frame of its own -/
theorem run_lam {CX : CXT} {P : Program} {w : World} {K : PySem.W.Frag} {mg : Str → Option Value} {base : Heap} {k : Nat} {f c' : Addr} {qual : Str} {params : Arguments} {body : Expr} {scope : Scope} {pm ctv : Value} {N ps : List Str}
    {A : Around} {outer : List PySem.Env} {s : Shared} {H : Hp} {us : List Value} {vs : List V} {Q : VK} {E : XK} (ho : s.heap.get? f = some (PySem.W.kla_obj "<lambda>" qual params body scope [] pm c' ctv)) (hcd : s.heap.CodeRec (.ref c') qual) (S : FnScope N ps scope)
    (hr : Room (k + 1) A) (e0 : Env0 P w K mg base A outer s H) (hb : bindArgs (PySem.W.kla_fn "<lambda>" qual params body scope [] pm (.ref c') ctv) ⟨us, []⟩ = pure (ps.zip us)) (r : Vals vs us) (hl : vs.length = ps.length)
    (hbody : Room k (A.deeper (envOfC qual scope s.heap.objs.size f (.ref c'))) → ∃ t, PE (cxOf CX P w K mg base N qual scope f (.ref c') A outer s H E) body t ∧ t (L2.start N vs) H Q) :
    codeAny (model P w) A (.call (.ref f) ⟨us, []⟩) (CR CX outer P w H s Q E) s := by
  have lim : s.heap.NoLimit := e0.mod.nolimit.keeps fun b o e => (e0.bs b o e).1
  have hkind : ∀ y ∈ ps.zip us, scope.names.lookup y.1 = some .local ∨ (scope.names.lookup y.1 = some .cell ∧ ((cellsFrom (s.heap.objs.size + 1) scope.names []).lookup y.1).isSome = true) := fun ⟨n, v⟩ hy => by
    rcases S.par n (List.of_mem_zip hy).1 with q | q
    · exact .inl q
    · exact .inr ⟨q, PySem.W.cellsFrom_some _ _ _ (.inl q)⟩
  refine PySem.W.kla_callFunE hr.depth ho rfl S.co S.gen rfl hcd ?_
  rw [hb]
  refine wpAny_pure (wpAny_newFunctionEnv_cells S.kind hkind fun env he s1 x => ?_)
  subst he
  refine ⟨lim.keeps x.toInCall.keep, PySem.W.kla_codeExpr ?_⟩
  obtain ⟨t, ht, hq⟩ := hbody (hr.deeper _)
  have I : Inv (cxOf CX P w K mg base N qual scope f (.ref c') A outer s H E) [] (L2.start N vs) H s1 := inv_start S hr.hd e0 hl r x
  refine wpAny_mono (ht.run [] s1 (L2.start N vs) H _ I hq) (fun u s' hs => ?_) fun e s' hs => ?_
  · obtain ⟨v, H', J, rv, q⟩ := hs
    exact ⟨v, H', J.os, J.bare, J.base, J.hok, rv, q⟩
  · exact hs
/-- .. told of the heap itself: the frame's heap holds all that stood -/
theorem run_lamR {P : Program} {w : World} {K : PySem.W.Frag} {mg : Str → Option Value} {base : Heap} {k : Nat} {f c' : Addr} {qual : Str} {params : Arguments} {body : Expr} {scope : Scope} {pm ctv : Value} {N ps : List Str}
    {A : Around} {outer : List PySem.Env} {s : Shared} {H : Hp} {us : List Value} {vs : List V} {R : Result → Shared → Prop} (ho : s.heap.get? f = some (PySem.W.kla_obj "<lambda>" qual params body scope [] pm c' ctv)) (hcd : s.heap.CodeRec (.ref c') qual) (S : FnScope N ps scope)
    (hr : Room (k + 1) A) (e0 : Env0 P w K mg base A outer s H) (hb : bindArgs (PySem.W.kla_fn "<lambda>" qual params body scope [] pm (.ref c') ctv) ⟨us, []⟩ = pure (ps.zip us)) (r : Vals vs us) (hl : vs.length = ps.length)
    (hbody : ∀ h1 tk, Inv (cxOf CX0 P w K mg base N qual scope f (.ref c') A outer s H E0) [] (L2.start N vs) H { s with heap := h1, toks := tk } → (∀ b o, s.heap.get? b = some o → h1.get? b = some o) →
      wpAny (model P w) (A.deeper (envOfC qual scope s.heap.objs.size f (.ref c'))) (eval body (envOfC qual scope s.heap.objs.size f (.ref c'))) (fun u s' => R (.ok (.ret u)) s') (fun _ _ => False) { s with heap := h1, toks := tk }) :
    codeAny (model P w) A (.call (.ref f) ⟨us, []⟩) R s := by
  have lim : s.heap.NoLimit := e0.mod.nolimit.keeps fun b o e => (e0.bs b o e).1
  have hkind : ∀ y ∈ ps.zip us, scope.names.lookup y.1 = some .local ∨ (scope.names.lookup y.1 = some .cell ∧ ((cellsFrom (s.heap.objs.size + 1) scope.names []).lookup y.1).isSome = true) := fun ⟨n, v⟩ hy => by
    rcases S.par n (List.of_mem_zip hy).1 with q | q
    · exact .inl q
    · exact .inr ⟨q, PySem.W.cellsFrom_some _ _ _ (.inl q)⟩
  refine PySem.W.kla_callFunE hr.depth ho rfl S.co S.gen rfl hcd ?_
  rw [hb]
  refine wpAny_pure (wpAny_newFunctionEnv_cells S.kind hkind fun env he s1 x => ?_)
  subst he
  refine ⟨lim.keeps x.toInCall.keep, PySem.W.kla_codeExpr ?_⟩
  have I : Inv (cxOf CX0 P w K mg base N qual scope f (.ref c') A outer s H E0) [] (L2.start N vs) H s1 := inv_start S hr.hd e0 hl r x
  obtain ⟨h1, tk, rfl, kp⟩ := x.done
  exact wpAny_mono (hbody h1 tk I kp) (fun u s' hs => hs) fun e s' hs => hs.elim
section
variable {X : Cx} {pins : List (Addr × Obj)} {σ : L2.St} {H : Hp} {s : Shared}
/-- a name of the frame, the heap as it is -/
theorem ld_var {i : Nat} {x : Str} {pos : Pos} {v : V} {E : Value → Shared → Prop} {Q : Value → Shared → Prop} (I : Inv X pins σ H s) (hN : X.N[i]? = some x) (hv : Vis X.env.scope x) (e : σ[i]? = some (some v)) (h : ∀ u, RelV v u → Q u s)
    (hd : (x == ("__debug__" : Str)) = false := by decide) (hcd : (x == ("__classdict__" : Str)) = false := by decide) : wpAny (model X.prog X.w) X.A (eval (.Name x pos) X.env) Q E s := by
  obtain ⟨m, hn, hl⟩ := I.loc
  obtain ⟨u, r, l⟩ := hl i x v hN e hv
  rcases l with ⟨hk, hm⟩ | ⟨hk, c, hc, hcell⟩
  · exact wpAny_Name (wpAny_loadName_local I.ok.kind hk hn hm (h u r)) hd
  · rcases hk with hk | hk
    · exact wpAny_Name (wpAny_loadName_cell I.ok.kind hk hc hcell (h u r)) hd
    · exact wpAny_Name (wpAny_loadName_free I.ok.kind hk hc hcell (h u r) hcd) hd
end
/-- lambda t: (len(t), t), called with a tuple -/
theorem call_lenSelf {P : Program} {w : World} {K : PySem.W.Frag} {mg : Str → Option Value} {base : Heap} {k : Nat} {f c' b : Addr} {qual t : Str} {params : Arguments} {scope : Scope} {pm ctv : Value} {p3 p4 p5 p6 p8 : Pos} {n7}
    {A : Around} {outer : List PySem.Env} {s : Shared} {H : Hp} {items : Array Value} {Q : Value → Shared → Prop} {E : Value → Shared → Prop}
    (ho : s.heap.get? f = some (PySem.W.kla_obj "<lambda>" qual params (.Tuple [.Call (.Name "len" p3) [.Name t p4] [] p5, .Name t p6] n7 p8) scope [] pm c' ctv)) (hcd : s.heap.CodeRec (.ref c') qual) (S : FnScope [t] [t] scope)
    (hr : Room (k + 1) A) (e0 : Env0 P w K mg base A outer s H) (hb : bindArgs (PySem.W.kla_fn "<lambda>" qual params (.Tuple [.Call (.Name "len" p3) [.Name t p4] [] p5, .Name t p6] n7 p8) scope [] pm (.ref c') ctv) ⟨[.ref b], []⟩ = pure [(t, .ref b)])
    (hlen : mg "len" = none) (gl : scope.names.lookup ("len" : Str) = some .globalImplicit) (vt : scope.names.lookup t = some .local) (ht : IsTup s.heap b items) (hz : items.size ≤ sizeLine)
    (nd : (t == ("__debug__" : Str)) = false := by decide) (nc : (t == ("__classdict__" : Str)) = false := by decide)
    (h : ∀ h' tk p tk2, (∀ c o, s.heap.get? c = some o → h'.get? c = some o) → s.heap.objs.size ≤ p → h'.get? p = some { cls := .type "tuple", data := .seq #[.int (items.size : Int) tk2, .ref b] } → Q (.ref p) { s with heap := h', toks := tk }) :
    wpAny (model P w) A (call (.ref f) [.ref b]) Q E s := by
  refine wpAny_call (codeAny_mono (run_lamR (R := fun r s' => ∃ u, r = .ok (.ret u) ∧ Q u s') (ps := [t]) (N := [t]) (vs := [.ref b]) (us := [.ref b]) ho hcd S hr e0 hb (.cons rfl .nil) rfl fun h1 tk I kp => ?_) fun r s' hq => ?_)
  · have n63 := line63
    refine wpAny_Tuple_spliced (PyProof.Rows.args_cons ?_)
    refine wpAny_Call_Name_kw (ld_blt I gl hlen (by first | rfl | decide +kernel) ?_)
    refine PyProof.Rows.callWith_builtin1 (PyProof.Rows.args_cons (ld_var (i := 0) I rfl (.inl vt) rfl (fun u hu => PyProof.Rows.args_nil ?_) nd nc))
    cases hu
    have ht1 : IsTup h1 b items := by
      obtain ⟨o, a1, a2, n, a3⟩ := ht
      exact ⟨o, kp _ _ a1, a2, n, a3⟩
    refine len_tuple ht1 (by omega) ?_
    refine PyProof.Rows.args_cons (ld_var (i := 0) (I.tok _) rfl (.inl vt) rfl (fun u hu => PyProof.Rows.args_nil ?_) nd nc)
    cases hu
    refine ⟨by show 2 ≤ sizeLine; rw [sizeLine_eq]; decide, _, rfl, ?_⟩
    refine h _ _ _ (tk + 1) (fun c o e => Heap.get?_push_of_some _ (kp c o e)) ?_ (Heap.get?_push_size _ rfl)
    exact Nat.le_of_lt I.lt
  · obtain ⟨u, rfl, q⟩ := hq
    exact q
end DL
set_option maxHeartbeats 8000000
/-! DL18: min(t, key=lambda t: (len(t), t), default=None). -/
namespace DL
open PySem PySem.Spec PyProof.Rows L2 DLS
open LamX (Tabs TabS CodeO)
open PySem.W (AllAlike Sortable EachIs dataLe dataLt alike alikeAll keyToks keyToksAll)
def lenK : NK → Nat
  | .tup ks => ks.length
  | _ => 0
def keyD (k : NK) : PyData := .tuple [.int (lenK k : Int), k.data]
def btK (ks : List NK) (i j : Nat) : Bool := dataLt (keyD (ks.getD i .none)) (keyD (ks.getD j .none))
def minI (ks : List NK) : Nat := argBest (btK ks) (ks.length - 1)
section
variable {X : Cx} {pins : List (Addr × Obj)} {σ : L2.St} {H : Hp} {s : Shared}
theorem call_minLT {k : Nat} {a f c' : Addr} {qual t : Str} {params : Arguments} {scope : Scope} {pm ctv : Value} {p3 p4 p5 p6 p8 : Pos} {n7} {prs : List (Addr × NK)} {Q : VK} (I : Inv X pins σ H s) (hc : X.calm = true) (hr : Room (k + 2) X.A)
    (ha : s.heap.IsTuple a (prs.map fun p => Value.ref p.1).toArray) (hk : ∀ p ∈ prs, ∃ ks, p.2 = .tup ks) (hrd : ∀ p ∈ prs, Reads s.heap (.ref p.1) p.2.data []) (hal : ∀ p ∈ prs, ∀ q ∈ prs, alike p.2.data q.2.data = true) (hdp : ∀ p ∈ prs, p.2.data.depth ≤ 8) (hln : ∀ p ∈ prs, lenK p.2 ≤ LIM)
    (ho : s.heap.get? f = some (PySem.W.kla_obj "<lambda>" qual params (.Tuple [.Call (.Name "len" p3) [.Name t p4] [] p5, .Name t p6] n7 p8) scope [] pm c' ctv)) (hcd : s.heap.CodeRec (.ref c') qual) (S : FnScope [t] [t] scope)
    (hb : ∀ b : Addr, bindArgs (PySem.W.kla_fn "<lambda>" qual params (.Tuple [.Call (.Name "len" p3) [.Name t p4] [] p5, .Name t p6] n7 p8) scope [] pm (.ref c') ctv) ⟨[.ref b], []⟩ = pure [(t, .ref b)])
    (hlen : X.mg "len" = none) (gl : scope.names.lookup ("len" : Str) = some .globalImplicit) (vt : scope.names.lookup t = some .local) (nd : (t == ("__debug__" : Str)) = false) (nc : (t == ("__classdict__" : Str)) = false)
    (h0 : prs = [] → Q .non H) (h1 : ∀ p, prs[minI (prs.map (·.2))]? = some p → Q (.ref p.1) H) :
    wpAny (model X.prog X.w) X.A (call (.builtin "min") [.ref a] [(Str.ofString "key", .ref f), (Str.ofString "default", .none)]) (EP X pins σ Q) X.xe s := by
  have hh : X.A.in1.handled = none := I.ok.hd hc
  have hlS : a < s.heap.objs.size := by obtain ⟨o, e, _⟩ := ha; exact Heap.lt_size e
  have hne : a ≠ s.heap.objs.size := Nat.ne_of_lt hlS
  let ks := prs.map (·.2)
  have lks : ks.length = prs.length := List.length_map ..
  have szI : (prs.map fun p => Value.ref p.1).toArray.size = prs.length := by rw [List.size_toArray, List.length_map]
  have ksAt : ∀ {i p}, prs[i]? = some p → ks.getD i .none = p.2 := fun {i p} e => by
    show (prs.map (·.2)).getD i .none = p.2
    rw [List.getD_eq_getElem?_getD, List.getElem?_map, e] <;> rfl
  refine PySem.call_min_walkKD (wpAny_pyIter_tuple (A := X.A.in1) ha ?_)
  have hsz2 : (s.heap.push { cls := .type "tuple_iterator", data := .fields #[.ref a, .int 0 0] }).objs.size = s.heap.objs.size + 1 := Heap.size_push ..
  have old : ∀ {b : Addr} {o : Obj}, s.heap.get? b = some o → b ≠ s.heap.objs.size ∧ b ≠ s.heap.objs.size + 1 := fun {b o} e => by
    have := Heap.lt_size e
    exact ⟨Nat.ne_of_lt this, Nat.ne_of_lt (Nat.lt_succ_of_lt this)⟩
  refine ⟨s.heap.objs.size, [s.heap.objs.size, a], [s.heap.objs.size], _, _, _, _, (fun s' => (∀ b o, s.heap.get? b = some o → s'.heap.get? b = some o) ∧ s'.gens = s.gens ∧ s'.drawn = s.drawn ∧ s'.os = s.os),
    (fun i kv s' => ∃ (tt : Addr) (tk : Tok) (p : Addr × NK), kv = .ref tt ∧ tt ≠ s.heap.objs.size ∧ tt ≠ s.heap.objs.size + 1 ∧ prs[i]? = some p ∧ s'.heap.get? tt = some { cls := .type "tuple", data := .seq #[.int (lenK p.2 : Int) tk, .ref p.1] }),
    btK ks, rfl, (Walks.tuple (A := X.A.in1) hh s.heap.objs.size a hne (prs.map fun p => Value.ref p.1).toArray).toS, ⟨⟨_, Heap.get?_push_size _ rfl, rfl, rfl⟩, ha.push _⟩, fun b hb => ?_, ?_, ⟨fun b o e => Heap.get?_push_of_some _ e, rfl, rfl, rfl⟩, fun hn s' hJ => ?_, fun hn v s' hv hJ => ?_⟩
  · show b < (s.heap.push _).objs.size
    rw [hsz2]
    rcases List.mem_cons.mp hb with rfl | hb
    · exact Nat.lt_succ_self _
    · rw [List.mem_singleton.mp hb]
      exact Nat.lt_succ_of_lt hlS
  · -- the key's turns
    show PySem.KeyRun _ _ _ _ _ (s.heap.push _).objs.size _ _ _ _ _ _ _ _
    rw [hsz2]
    refine ⟨fun s2 s3 ⟨j1, j2, j3, j4⟩ m => ⟨fun b o e => m.heap b o (fun z => ?_) (j1 b o e), m.gens.trans j2, m.drawn.trans j3, m.os.trans j4⟩, fun i kv s2 s3 ⟨tt, tk, p, e1, e2, e3, e4, e5⟩ m => ⟨tt, tk, p, e1, e2, e3, e4, m.heap tt _ (fun z => ?_) e5⟩, ?_, ?_⟩
    · obtain ⟨n1, n2⟩ := old e
      simp only [List.mem_cons, List.not_mem_nil, or_false] at z
      rcases z with z | z
      · exact n2 z
      · exact n1 z
    · simp only [List.mem_cons, List.not_mem_nil, or_false] at z
      rcases z with z | z
      · exact e3 z
      · exact e2 z
    · intro i v s2 o Q2 E2 hi hv ⟨j1, j2, j3, j4⟩ st hS cont
      have hv' : (prs.map fun p => Value.ref p.1)[i]? = some v := by simpa using hv
      rw [List.getElem?_map] at hv'
      obtain ⟨p, ep, rfl⟩ := Option.map_eq_some_iff.mp hv'
      have pm := List.mem_of_getElem? ep
      obtain ⟨kk, ekk⟩ := hk p pm
      have rp := hrd p pm
      have e2s : s2 = { s with heap := s2.heap, toks := s2.toks } := by
        cases s2
        cases s
        cases j2
        cases j3
        cases j4
        rfl
      have I2 : Inv X pins σ H s2 := by
        rw [e2s]
        exact I.kept j1
      rw [ekk, NestedKey.data] at rp
      cases rp with
      | @tuple _ o2 vs2 n2 xs2 as2 g1 g2 g3 g4 =>
        have lv : vs2.toList.length = kk.length := by
          have q : ∀ {us : List Value} {l : List NK} {as : List Addr}, ReadsAll s.heap us (NestedKey.datas l) as → us.length = l.length := by
            intro us l
            induction l generalizing us with
            | nil =>
              intro as r
              rw [NestedKey.datas] at r
              cases r
              rfl
            | cons x l ih =>
              intro as r
              rw [NestedKey.datas] at r
              cases r with
              | cons r1 r2 => simp [ih r2]
          exact q g4
        have hln' := hln p pm
        rw [ekk] at hln'
        have szv : vs2.size = kk.length := by simpa using lv
        refine call_lenSelf (k := k) (items := vs2) (j1 _ _ ho) (by obtain ⟨c, oc, vs, tq, q1, q2, q3, q4⟩ := hcd; exact ⟨c, oc, vs, tq, q1, j1 _ _ q2, q3, q4⟩) S hr.in1 I2.env0.in1 (hb p.1) hlen gl vt ⟨o2, j1 _ _ g1, g2, n2, g3⟩ (by rw [szv]; exact Nat.le_trans hln' (by decide)) nd nc fun h' tk q tk2 kp hq hg => ?_
        have lt2 : ∀ {b : Addr} {u : Obj}, s2.heap.get? b = some u → b < q := fun e => Nat.lt_of_lt_of_le (Heap.lt_size e) hq
        refine cont (.ref q) _ ⟨fun b o e => kp b o (j1 b o e), j2, j3, j4⟩ ?_ (kp _ _ hS) ⟨q, tk2, p, rfl, ?_, ?_, ep, ?_⟩ fun j kv ⟨tt, tk3, p2, e1, e2, e3, e4, e5⟩ => ⟨tt, tk3, p2, e1, e2, e3, e4, kp _ _ e5⟩
        · exact ⟨st.1.at fun o e => kp _ o e, st.2.at fun o e => kp _ o e⟩
        · obtain ⟨oi, ei, _⟩ := st.1
          exact Nat.ne_of_gt (lt2 ei)
        · exact Nat.ne_of_gt (lt2 hS)
        · rw [show (lenK p.2 : Int) = (vs2.size : Int) by rw [ekk, szv] <;> rfl]
          exact hg
    · intro i j ki kj s2 Q2 E2 ⟨j1, _, _, _⟩ ⟨t1, k1, q1, e1, _, _, e4, e5⟩ ⟨t2, k2, q2, f1, _, _, f4, f5⟩ hq
      subst e1 f1
      have m1 := List.mem_of_getElem? e4
      have m2 := List.mem_of_getElem? f4
      have rd : ∀ {tt : Addr} {tk : Tok} {q : Addr × NK}, q ∈ prs → s2.heap.get? tt = some { cls := .type "tuple", data := .seq #[.int (lenK q.2 : Int) tk, .ref q.1] } → Reads s2.heap (.ref tt) (keyD q.2) [] := fun {tt tk q} hm e =>
        .tuple e rfl rfl (ReadsAll.cons (as := []) (bs := []) (.int _ _) (ReadsAll.cons (as := []) (bs := []) (PyProof.Rows.Reads.keeps j1 (hrd q hm)) .nil))
      have e : btK ks i j = dataLt (keyD q1.2) (keyD q2.2) := by
        show dataLt (keyD (ks.getD i .none)) (keyD (ks.getD j .none)) = _
        rw [ksAt e4, ksAt f4]
      rw [e] at hq
      refine PySem.W.rcLt_alike (keyD q1.2) (keyD q2.2) X.A.in1 s2 (.ref t1) (.ref t2) [] [] (rd m1 e5) (rd m2 f5) ?_ (by simp [keyD]) ?_ _ _ _ _ hq
      · simp [keyD, alike, alikeAll, hal q1 m1 q2 m2]
      · have h8 := hdp q1 m1
        have un := hr.un
        have hd1 : (keyD q1.2).depth ≤ 9 := by
          simp only [keyD, PyData.depth, PyData.depthAll]
          omega
        have := Nat.min_le_left (keyD q1.2).depth (keyD q2.2).depth
        show X.A.units + 1 + _ < cLine
        omega
  · have hp : prs = [] := by
      rw [szI] at hn
      exact List.length_eq_zero_iff.mp hn
    obtain ⟨j1, j2, j3, j4⟩ := hJ
    have e2s : s' = { s with heap := s'.heap, toks := s'.toks } := by
      cases s'
      cases s
      cases j2
      cases j3
      cases j4
      rfl
    rw [e2s]
    exact ⟨.non, H, I.kept j1, rfl, h0 hp⟩
  · obtain ⟨j1, j2, j3, j4⟩ := hJ
    have e2s : s' = { s with heap := s'.heap, toks := s'.toks } := by
      cases s'
      cases s
      cases j2
      cases j3
      cases j4
      rfl
    have hv' : (prs.map fun p => Value.ref p.1)[argBest (btK ks) ((prs.map fun p => Value.ref p.1).toArray.size - 1)]? = some v := by simpa using hv
    rw [szI, List.getElem?_map] at hv'
    obtain ⟨p, ep, rfl⟩ := Option.map_eq_some_iff.mp hv'
    rw [e2s]
    refine ⟨.ref p.1, H, I.kept j1, rfl, h1 p ?_⟩
    show prs[argBest (btK ks) (ks.length - 1)]? = some p
    rw [lks]
    exact ep
end
end DL
set_option maxHeartbeats 8000000
/-! DL19: the rule of min(t, key=lambda t: (len(t), t), default=None) over data. -/
namespace DL
open PySem PySem.Spec PyProof.Rows L2 DLS
open LamX (Tabs TabS CodeO)
open PySem.W (alike alikeAll)
open Classical in
/-- all tables of the name that stand -/
noncomputable def Tmx (n : Nat) (H : Hp) : List (Addr × Str) := ((List.range n).filter fun P => decide (TabS H P lamQ)).map fun P => (P, lamQ)
theorem Tmx_tabs (n : Nat) (H : Hp) : Tabs (Tmx n H) H := fun p hp => by
  unfold Tmx at hp
  obtain ⟨P, hP, rfl⟩ := List.mem_map.mp hp
  have z := (List.mem_filter.mp hP).2
  simpa using z
theorem Tmx_name {n : Nat} {H : Hp} : ∀ p ∈ Tmx n H, p.2 = lamQ := fun p hp => by
  unfold Tmx at hp
  obtain ⟨P, _, rfl⟩ := List.mem_map.mp hp
  rfl
theorem Tmx_mem {n : Nat} {H : Hp} {P : Addr} (hn : P < n) (h : TabS H P lamQ) : (P, lamQ) ∈ Tmx n H := by
  unfold Tmx
  exact List.mem_map.mpr ⟨P, List.mem_filter.mpr ⟨List.mem_range.mpr hn, by simpa using h⟩, rfl⟩
structure FitM (ks : List NK) : Prop where
  tup : ∀ k ∈ ks, ∃ r, k = .tup r
  al : ∀ a ∈ ks, ∀ b ∈ ks, alike a.data b.data = true
  dp : ∀ k ∈ ks, k.data.depth ≤ 8
  ln : ∀ k ∈ ks, lenK k ≤ LIM
open Classical in
noncomputable def dMinLen : D → Option D
  | .tup l => match keyAll l with
    | some ks => if FitM ks then some (match ks[minI ks]? with
      | some k => unK k
      | none => .non) else none
    | none => none
  | _ => none
section
variable {c : Cf} {W : WX} {κ : List Nat} {X : Cx} {pos : Pos} {H : Hp} {T : List (Addr × Str)}
theorem reps_tups {ξ : Xi} : ∀ {ks : List NK} {vs : List V} {f : List Addr}, (∀ k ∈ ks, ∃ r, k = .tup r) → Reps (cx X ξ) H (unKs ks) vs f → ∃ prs : List (Addr × NK), vs = prs.map (fun p => V.ref p.1) ∧ prs.map (·.2) = ks ∧ ∀ p ∈ prs, Rep (cx X ξ) H (unK p.2) (.ref p.1) []
  | [], vs, f, _, h => by
    rw [unKs] at h
    obtain ⟨rfl, _⟩ := h
    exact ⟨[], rfl, rfl, fun p hp => by cases hp⟩
  | k :: ks, vs, f, ht, h => by
    rw [unKs] at h
    obtain ⟨v, vs', f1, f2, rfl, r1, r2, _⟩ := h
    obtain ⟨prs, e1, e2, e3⟩ := reps_tups (fun k hk => ht k (List.mem_cons_of_mem _ hk)) r2
    obtain ⟨r, rfl⟩ := ht k List.mem_cons_self
    have ef : f1 = [] := Rep.pers r1 (pers_un _)
    subst ef
    obtain ⟨a, ws, rfl, hrest⟩ := (show Rep (cx X ξ) H (.tup (unKs r)) v [] by rw [← show unK (.tup r) = .tup (unKs r) by rw [unK]]; exact r1)
    refine ⟨(a, .tup r) :: prs, by rw [List.map_cons, ← e1], by rw [List.map_cons, e2], fun p hp => ?_⟩
    rcases List.mem_cons.mp hp with rfl | hp
    · exact r1
    · exact e3 p hp
theorem e_minLam {e : Expr} {m : MP} {fr : Bool} {params : Arguments} {scope : Scope} {t : Str} {p1 p3 p4 p5 p6 p8 lpos kp1 kp2 cp : Pos} {n7 nc0} {j : Nat} {c P : Addr} (hc : X.calm = true) (hr : Room j X.A) (hmin : X.mg "min" = none) (hlen : X.mg "len" = none)
    (TB : LamX.TabB X.base X.mg c P) (hcode : X.env.code = .ref c) (hP : (P, lamQ) ∈ T) (h : DP X ⟨none, T⟩ fr e m) (S : FnScope [t] [t] scope) (hj : 2 ≤ j := by decide)
    (hq : X.env.qual ++ "<lambda>" = lamQ := by rfl)
    (hb : ∀ (qual : Str) (pm ctv : Value) (c' b : Addr), bindArgs (PySem.W.kla_fn "<lambda>" qual params (.Tuple [.Call (.Name "len" p3) [.Name t p4] [] p5, .Name t p6] n7 p8) scope [] pm (.ref c') ctv) ⟨[.ref b], []⟩ = pure [(t, .ref b)] := by intros; rfl)
    (gl : scope.names.lookup ("len" : Str) = some .globalImplicit := by rfl) (vt : scope.names.lookup t = some .local := by rfl) (hdef : defaultsOf params X.env = ([], []) := by rfl) (hclo : cloFrom X.env.cells scope.names [] = [] := by rfl)
    (hnf : ∀ y ∈ scope.names, y.2 ≠ .free) (ndn : (t == ("__debug__" : Str)) = false := by decide) (ncn : (t == ("__classdict__" : Str)) = false := by decide) (hg : Gl X "min" := by rfl)
    (hv : bootBuiltins "min" = some (.builtin "min") := by first | rfl | decide +kernel) (hse : starEach [e] X.env = (false, eval e X.env) :: starEach [] X.env := by rfl)
    (he0 : backTo pos (starEach [e] X.env) = (false, eval e X.env) :: backTo pos (starEach [] X.env) := by rfl) (hpl : (backTo pos (starEach [e] X.env)).any (·.1) = false := by rfl) :
    DE X ⟨none, T⟩ W (.Call (.Name "min" p1) [e] [⟨some "key", .Lambda params (.Tuple [.Call (.Name "len" p3) [.Name t p4] [] p5, .Name t p6] n7 p8) scope lpos, kp1⟩, ⟨some "default", .Constant .none nc0 cp, kp2⟩] pos) (mF (mUnP dMinLen m)) := ⟨fun pins s σ H Q I ⟨env, f, he, nd, r, er, kk⟩ => by
  obtain ⟨d, ed, rfl⟩ := mF_some er
  obtain ⟨x, e1, e2⟩ := mUnP_some ed
  unfold dMinLen at e2
  split at e2
  rotate_left
  · cases e2
  rename_i l
  split at e2
  rotate_left
  · cases e2
  rename_i ks ek
  split at e2
  rotate_left
  · cases e2
  rename_i F
  have el := un_keyAll ek
  subst el
  refine wpAny_Call_Name_kw (ld_blt I hg hmin hv ?_)
  refine PyProof.Rows.callWith_kw (thn ((pa_cons h pa_nil hse).run pos pins s σ H (fun vs H1 => match vs with
    | [v] => Same H H1 ∧ Rep (cx X ⟨none, T⟩) H1 (.tup (unKs ks)) v []
    | _ => False) I ⟨env, f, he, nd, _, e1, fun v H1 g s1 rv _ _ => ⟨s1, by
      have eg : g = [] := Rep.pers rv (by show persAll (unKs ks) = true; exact persAll_un ks)
      subst eg
      exact rv⟩⟩) fun us s1 ⟨xs, H1, I1, r1, q1⟩ => ?_) he0 hpl rfl rfl
  match xs, r1, q1 with
  | [v], r1, ⟨sm, rv⟩ =>
    obtain ⟨a, vs, rfl, q, rs⟩ := rv
    rw [Vals.ref1 r1]
    obtain ⟨prs, rfl, ek2, er2⟩ := reps_tups F.tup rs
    have he1 := he.same sm
    obtain ⟨tn, tbs⟩ := he1.tabs
    have tP := tbs _ hP
    have hPn : P < s1.heap.objs.size := by
      obtain ⟨ps, hps, _⟩ := tP
      exact (I1.hok P _ hps).lt
    show wpAny _ _ (evalAll ((do let v ← eval (.Lambda params (.Tuple [.Call (.Name "len" p3) [.Name t p4] [] p5, .Name t p6] n7 p8) scope lpos) X.env; standAt pos; pure v) :: (do let v ← eval (.Constant .none nc0 cp) X.env; standAt pos; pure v) :: [])) _ _ s1
    refine wpAny_evalAll_cons (wpAny_bind ?_)
    refine LamX.lam_make2 (T := Tmx s1.heap.objs.size H1) I1 TB hcode (by rw [hq]; exact Tmx_mem hPn tP) (fun p hp _ => by rw [hq]; exact Tmx_name p hp) (Tmx_tabs _ _) hdef (fun y hy e => absurd e (hnf y hy)) fun fl c' pm ctv H2 s2 I2 ext tb2 ho hn hfr hc' => ?_
    rw [hclo] at ho
    refine wpAny_bind (wpAny_standAt (wpAny_pure (wpAny_evalAll_cons (wpAny_bind (Constant_none (wpAny_bind (wpAny_standAt (wpAny_pure (wpAny_evalAll_nil ?_)))))))))
    show wpAny _ _ (call (.builtin "min") [.ref a] [(Str.ofString "key", .ref fl), (Str.ofString "default", .none)]) _ _ _
    -- what stands at H2
    have q2 : H2 a = some (.tup (prs.map fun p => V.ref p.1)) := ext _ _ q noT_tup
    have bt : But [] H1 H2 := ⟨fun b o e _ n => ext b o e n, fun T' t' => ⟨t'.1, fun p hp => by
      have nm := t'.1 p hp
      have tp := t'.2 p hp
      have lt : p.1 < s1.heap.objs.size := by
        obtain ⟨ps, hps, _⟩ := tp
        exact (I1.hok p.1 _ hps).lt
      rw [nm] at tp ⊢
      exact tb2 _ (Tmx_mem lt tp)⟩⟩
    have er3 : ∀ p ∈ prs, Rep (cx X ⟨none, T⟩) H2 (unK p.2) (.ref p.1) [] := fun p hp => (er2 p hp).but bt (fun b hb => by cases hb) fun b hb => by cases hb
    obtain ⟨its, rvv, ⟨oa, ha1, ha2, na, ha3⟩, _⟩ := I2.tuple (SqT.of q2)
    have ei : its = prs.map fun p => Value.ref p.1 := refs_vals rvv
    subst ei
    have memk : ∀ p ∈ prs, p.2 ∈ ks := fun p hp => by rw [← ek2]; exact List.mem_map.mpr ⟨p, hp, rfl⟩
    have cr : s2.heap.CodeRec (.ref c') (X.env.qual ++ "<lambda>") := by
      obtain ⟨⟨oc, vs', tt, z1, z2, z3⟩, _⟩ := (show ObjOk X.prog X.w H2 s2.heap c' (CodeO c' (X.env.qual ++ "<lambda>")) from I2.hok c' _ hc')
      exact ⟨c', oc, vs', tt, rfl, z1, z2, z3⟩
    have fm : Frm f f H H2 := (Frm.same sm).trans ⟨fun b o e _ n => ext b o e n, bt.tab, fun b hb => .inl hb⟩
    have he2 : EnvR (cx X ⟨none, T⟩) H2 env σ f := he1.but bt (fun b hb => by cases hb) fun b _ hb => by cases hb
    refine call_minLT (k := 0) (prs := prs) I2 hc (hr.mono hj) ⟨oa, ha1, ha2, na, ha3⟩ (fun p hp => F.tup _ (memk p hp)) (fun p hp => (nest_of I2 p.2 (.ref p.1) (.ref p.1) [] (er3 p hp) rfl).2) (fun p hp p' hp' => F.al _ (memk p hp) _ (memk p' hp')) (fun p hp => F.dp _ (memk p hp)) (fun p hp => F.ln _ (memk p hp))
      ho cr S (fun b => hb _ _ _ _ _) hlen gl vt ndn ncn (fun hp => ?_) fun p hp => ?_
    · subst hp
      have hks : ks = [] := by rw [← ek2]; rfl
      subst hks
      cases e2
      exact kk .non H2 [] f (by simpa using fm) ⟨rfl, rfl⟩ he2 (by simpa using nd)
    · rw [ek2] at hp
      have e5 : ks[minI ks]? = some p.2 := by rw [← ek2, List.getElem?_map, ek2, hp] <;> rfl
      rw [e5] at e2
      cases e2
      exact kk (.ref p.1) H2 [] f (by simpa using fm) (er3 p (List.mem_of_getElem? hp)) he2 (by simpa using nd)⟩
end
/-- the module's name x holds the def that st is; its code object's table is one of T's -/
abbrev FxL (K : PySem.W.Frag) (mg : Str → Option Value) (base : Heap) (T : List (Addr × Str)) (x : Str) (st : Stmt) : Prop := ∃ f fd c P, FunD K x x (defArgs st) (defBody st) (defScope st) [] [] f fd ∧ mg x = some (.ref f) ∧ fd.code = .ref c ∧ LamX.TabB base mg c P ∧ (P, lamQ) ∈ T
theorem fd_okL {P : Program} {w : World} {K : PySem.W.Frag} {mg : Str → Option Value} {base : Heap} {T : List (Addr × Str)} {x : Str} {st : Stmt} {N ps : List Str} {k : Nat} {κ : List Nat} {m : MS} (F : FxL K mg base T x st) (S : FnScope N ps (defScope st))
    (hb : ∀ (kV doc pm : Value) (an : Option Addr) (cdv ct : Value) (us : List Value), us.length = ps.length → bindArgs (PySem.W.fnOf x x (defArgs st) (defBody st) (defScope st) .none kV doc pm an cdv ct) ⟨us, []⟩ = pure (ps.zip us))
    (hbody : ∀ (f c Pt : Addr), LamX.TabB base mg c Pt → (Pt, lamQ) ∈ T → ∀ (A : Around) (outer : List PySem.Env) (s : Shared) (H : Hp) (E : XK), Room k (A.deeper (envOfC x (defScope st) s.heap.objs.size f (.ref c))) → ∀ W, Bx (cxOf (L2.CX P w) P w K mg base N x (defScope st) f (.ref c) A outer s H E) W →
      DSs (cxOf (L2.CX P w) P w K mg base N x (defScope st) f (.ref c) A outer s H E) ⟨none, T⟩ W κ (defBody st) m) (hn : ps.length ≤ N.length := by decide) :
    Fd P w K T mg base x st (k + 1) ps (mFn N.length ps.length κ m) := by
  obtain ⟨f, fd, c, Pt, F, hm, hcode, TB, hT⟩ := F
  refine ⟨f, fd, F, hm, ?_, F.bindsN hb⟩
  obtain ⟨oc, od, dV, kV, doc, pm, an, cdv, ct, osl, rfl, lk, hcd, _, _⟩ := F.ex
  have e : cdv = .ref c := hcode
  subst e
  refine fn_of lk hcd S (fun vs H Q E h => h.1) fun A outer s H vs Q E hr hsp => ?_
  refine ⟨_, hbody f c Pt TB hT A outer s H E hr (WF E) ⟨takes_of rfl rfl rfl rfl, passes_of rfl⟩, ?_⟩
  exact fn_start (K := K) (w := w) (κ := κ) hn hsp
end DL
set_option maxHeartbeats 8000000
/-! DL20: reversed(range(n)), reversed(t), enumerate(t), xs.extend(t). -/
namespace DL
open PySem PySem.Spec PyProof.Rows L2
open LamX (Tabs TabS CodeO)
open RT (pi_revA ItvT iRevA)
section
variable {c : Cf} {W : WX} {κ : List Nat} {X : Cx} {ξ : Xi} {pos : Pos} {H : Hp}
theorem rev_get {α : Type} {l : List α} {i : Nat} (h : i < l.length) : l.reverse[i]? = l[l.length - 1 - i]? := List.getElem?_reverse h
/-! ### reversed(range(n)) -/
theorem wk_revR {n : Nat} {g : List Addr} : Wk c (Itc (0 + (n : Int) - 1) (-1) n) H g (rangeD 0 n).reverse where
  go := fun i H1 hi b => by
    rw [List.length_reverse, rangeD_length] at hi
    exact hi
  yld := fun i H1 x H2 hi b ⟨e1, e2⟩ => by
    rw [List.length_reverse, rangeD_length] at hi
    subst e1 e2
    refine ⟨.int (0 + (n : Int) - 1 + (i : Nat) * (-1)), ?_, Same.refl _, rfl, rfl⟩
    rw [rev_get (by rw [rangeD_length]; exact hi), rangeD_length, rangeD_get (by omega)]
    congr 2
    omega
  stop := fun H1 b => by rw [List.length_reverse, rangeD_length]; exact Nat.le_refl n
def rngR (d : D) : Option (List D) := (rng1 [d]).map List.reverse
def mRvR (m : M D) : M (List D) := m.bind fun d => M.ofO (rngR d)
theorem i_revR {tg a : Expr} {m : M D} {p p2 pos2 : Pos} (hm : X.mg "reversed" = none) (hm2 : X.mg "range" = none) (ha : DE X ξ W a m) (hg : Gl X "reversed" := by rfl) (hg2 : Gl X "range" := by rfl) (na : starEach [a] X.env = (false, eval a X.env) :: starEach [] X.env := by rfl)
    (hs : starEach [.Call (.Name "range" p2) [a] [] pos2] X.env = (false, eval (.Call (.Name "range" p2) [a] [] pos2) X.env) :: starEach [] X.env := by rfl) :
    DI X ξ W tg (.Call (.Name "reversed" p) [.Call (.Name "range" p2) [a] [] pos2] [] pos) (mRvR m) :=
  (pi_revR hg hm (prg_1 hg2 hm2 ha na) hs).imp fun σ H R ⟨env, f, he, nd, r, er, k⟩ => by
    rcases bind_some er with ⟨x, e1, ea, rfl⟩ | ⟨d, e1, ea, er⟩
    · exact ⟨env, f, he, nd, _, ea, k⟩
    · obtain ⟨l, el, rfl⟩ := ofO_some er
      refine ⟨env, f, he, nd, _, ea, fun v H' g1 g2 fm rv he' nd' => ?_⟩
      have fm' : Frm f g2 H H' := fm.sub fun b hb => List.mem_append_right _ hb
      have nd2 := (List.nodup_append.mp nd').2.1
      unfold rngR rng1 at el
      obtain ⟨l0, el0, rfl⟩ := Option.map_eq_some_iff.mp el
      split at el0
      · rename_i j ej
        injection ej with ej _
        subst ej
        split at el0
        · rename_i hc
          cases el0
          obtain ⟨rfl, _⟩ := rv
          have e2 : j - 0 = j := by omega
          refine ⟨_, rfl, by omega, by omega, hc.1, hc.2, ?_⟩
          rw [e2]
          exact k _ H' g2 fm' he' nd2 wk_revR
        · cases el0
      · cases el0
/-! ### reversed(x) -/
def itemsR (d : D) : Option (List D) := match d with
  | .str _ => none
  | d => (itemsD d).map List.reverse
def mRvI (m : M D) : M (List D) := m.bind fun d => M.ofO (itemsR d)
theorem i_revI {tg e : Expr} {m : M D} {p : Pos} (hm : X.mg "reversed" = none) (h : DE X ξ W e m) (hg : Gl X "reversed" := by rfl) (hs : starEach [e] X.env = (false, eval e X.env) :: starEach [] X.env := by rfl) :
    DI X ξ W tg (.Call (.Name "reversed" p) [e] [] pos) (mRvI m) := (pi_revA hg hm h hs).imp fun σ H R ⟨env, f, he, nd, r, er, k⟩ => by
  rcases bind_some er with ⟨x, e1, ea, rfl⟩ | ⟨d, e1, ea, er⟩
  · exact ⟨env, f, he, nd, _, ea, k⟩
  · obtain ⟨ds, ed, rfl⟩ := ofO_some er
    refine ⟨env, f, he, nd, _, ea, fun v H' g1 g2 fm rv he' nd' => ?_⟩
    have fm' : Frm f g2 H H' := fm.sub fun b hb => List.mem_append_right _ hb
    have nd2 := (List.nodup_append.mp nd').2.1
    have wkL : ∀ {a : Addr} {vs : List V} {l : List D}, (∀ H1, But g2 H' H1 → SqL X.K H1 a vs) → Reps (cx X ξ) H' l vs [] → Wk (cx X ξ) (Itv X.K a vs.length) H' g2 l.reverse := fun {a vs l} q z =>
      { go := fun i H1 hi b => by
          rw [List.length_reverse] at hi
          exact ⟨by rw [z.length]; exact hi, vs, vs[vs.length - 1 - i]'(by rw [z.length]; omega), q H1 b, List.getElem?_eq_getElem _⟩
        yld := fun i H1 x H2 hi b ⟨e1, e2⟩ => by
          rw [List.length_reverse] at hi
          subst e1
          have e := e2 vs (q _ b)
          obtain ⟨d, g', ed, rd, s⟩ := z.getV e
          have z' := List.eq_nil_of_sublist_nil s
          subst z'
          refine ⟨d, ?_, Same.refl _, rd.but b he'.own fun b hb => by cases hb⟩
          rw [rev_get hi, ← z.length]
          exact ed
        stop := fun H1 b => by
          show vs.length ≤ l.reverse.length
          rw [List.length_reverse, z.length]
          exact Nat.le_refl _ }
    cases d with
    | tup l =>
      obtain ⟨l0, el0, rfl⟩ := Option.map_eq_some_iff.mp (show (itemsD (.tup l)).map List.reverse = some ds from ed)
      unfold itemsD at el0
      dsimp only at el0
      split at el0
      · rename_i hp
        cases el0
        obtain ⟨a, vs, rfl, q, rs⟩ := rv
        have z := rs.toP hp
        refine ⟨a, vs, rfl, .inr ⟨SqT.of q, k _ H' g2 fm' he' nd2 ?_⟩⟩
        exact {
          go := fun i H1 hi b => by
            rw [List.length_reverse] at hi
            exact ⟨by rw [z.length]; exact hi, vs, vs[vs.length - 1 - i]'(by rw [z.length]; omega), SqT.of (tup_but b he'.own q), List.getElem?_eq_getElem _⟩
          yld := fun i H1 x H2 hi b ⟨e1, e2⟩ => by
            rw [List.length_reverse] at hi
            subst e1
            have e := e2 vs (SqT.of (tup_but b he'.own q))
            obtain ⟨d, g', ed, rd, s⟩ := z.getV e
            have z' := List.eq_nil_of_sublist_nil s
            subst z'
            refine ⟨d, ?_, Same.refl _, rd.but b he'.own fun b hb => by cases hb⟩
            rw [rev_get hi, ← z.length]
            exact ed
          stop := fun H1 b => by
            show vs.length ≤ l.reverse.length
            rw [List.length_reverse, z.length]
            exact Nat.le_refl _ }
      · cases el0
    | lst l =>
      obtain ⟨l0, el0, rfl⟩ := Option.map_eq_some_iff.mp (show (itemsD (.lst l)).map List.reverse = some ds from ed)
      unfold itemsD at el0
      dsimp only at el0
      split at el0
      · rename_i hp
        cases el0
        obtain ⟨a, vs, g', rfl, q, rs, rfl⟩ := rv
        have hn : a ∉ g2 := fun hb => (List.nodup_append.mp nd').2.2 a List.mem_cons_self a hb rfl
        exact ⟨a, vs, rfl, .inl ⟨SqL.of q, k _ H' g2 fm' he' nd2 (wkL (fun H1 b => SqL.of (b.keep a _ q hn noT_lst)) (rs.toP hp))⟩⟩
      · cases el0
    | fz l =>
      obtain ⟨l0, el0, rfl⟩ := Option.map_eq_some_iff.mp (show (itemsD (.fz l)).map List.reverse = some ds from ed)
      unfold itemsD at el0
      dsimp only at el0
      split at el0
      · rename_i hp
        cases el0
        obtain ⟨a, vs, rfl, q, rs, rfl⟩ := rv
        exact ⟨a, vs, rfl, .inl ⟨q.sq, k _ H' g2 fm' he' nd2 (wkL (fun H1 b => (q.but b he'.own).sq) (rs.toP hp))⟩⟩
      · cases el0
    | _ => cases ed
end
end DL
set_option maxHeartbeats 8000000
/-! DL21: for i, x in enumerate(t), t a tuple. -/
namespace PySem
open PySem.F
set_option maxHeartbeats 8000000 in
theorem meets_enumerate_newB1 {v : Value} {o : Obj} {H : Heap → Prop} (B : Begins v o H) :
    Meets (Builtin.«enumerate.__new__» ⟨[.type "enumerate", v], []⟩) (fun _ R s => H s.heap ∧
      R (.ok (.ret (.ref (s.heap.push o).objs.size))) { s with heap := (s.heap.push o).push { cls := .type "enumerate", data := .fields #[.none, .bool false, .ref s.heap.objs.size, rawInt 0, .none, .none] } }) :=
  .of_wp fun prog w A R s h => by
    obtain ⟨hp, g, d, tk, os⟩ := s; obtain ⟨h1, h⟩ := h
    have hsub := sub_enumerate
    have q1 : ∀ {A' : Around} {E : Value → Shared → Prop} {Q : Value → Shared → Prop}, Q (.ref hp.objs.size) ⟨hp.push o, g, d, tk, os⟩ → wpAny (model prog w) A' (pyIter v) Q E ⟨hp, g, d, tk, os⟩ :=
      fun q => B.iter prog w _ _ ⟨hp, g, d, tk, os⟩ _ h1 q
    wp_walk using q1
    refine wpAny_stack_any fun st => wpAny_pure ?_
    split
    · rename_i c _ _ _ _ _
      cases (c == Value.type "enumerate")
      · wp_walk using q1
        exact ⟨_, rfl, h⟩
      · wp_walk using q1
        exact ⟨_, rfl, h⟩
    · wp_walk using q1
      exact ⟨_, rfl, h⟩
theorem call_enumerate_begins {prog : Program} {w : World} {A : Around} {E : Value → Shared → Prop} {s : Shared} {v : Value} {o : Obj} {H : Heap → Prop} {Q : Value → Shared → Prop} (B : Begins v o H) (h1 : H s.heap)
    (h : ∀ h', IsEnum h' (s.heap.objs.size + 1) s.heap.objs.size 0 .none → h'.get? s.heap.objs.size = some o → h'.objs.size = s.heap.objs.size + 2 →
      (∀ b o, s.heap.get? b = some o → h'.get? b = some o) → Q (.ref (s.heap.objs.size + 1)) { s with heap := h' }) :
    wpAny (model prog w) A (call (.type "enumerate") [v]) Q E s := by
  refine callType_new F.called_enumerate (by decide) (F.typeCall_enumerate_1 _) (F.newCall_enumerate_1 _) (fun obj => F.args_object_init_2 obj _) F.entry_enumerate_new
    (meets_enumerate_newB1 B) ⟨h1, ?_⟩
  have hz : (s.heap.push o).objs.size = s.heap.objs.size + 1 := Heap.size_push ..
  show _ ∧ _
  rw [hz]
  have he : IsEnum ((s.heap.push o).push { cls := .type "enumerate", data := .fields #[.none, .bool false, .ref s.heap.objs.size, rawInt 0, .none, .none] }) (s.heap.objs.size + 1) s.heap.objs.size 0 .none := by
    have := Heap.get?_push_size (s.heap.push o) (o := { cls := .type "enumerate", data := .fields #[.none, .bool false, .ref s.heap.objs.size, rawInt 0, .none, .none] }) rfl
    rw [hz] at this; exact this
  refine ⟨⟨_, he, rfl⟩, h _ he (Heap.get?_push_of_some _ (Heap.get?_push_size _ B.free)) (by rw [Heap.size_push, hz]) fun b o x => Heap.get?_push_of_some _ (Heap.get?_push_of_some _ x)⟩
theorem wpAny_pyNext_enum_endT {prog : Program} {w : World} {A : Around} {E : Value → Shared → Prop} {s : Shared} {e it l : Addr} {i : Nat} {items : Array Value} {old : Value} {Q : Option Value → Shared → Prop} (hh : A.handled = none)
    (he : IsEnum s.heap e it i old) (hit : s.heap.IsTupleIter it l i) (hl : s.heap.IsTuple l items) (hx : items[i]? = none)
    (hQ : ∀ h', Heap.ExtBut it s.heap h' → Q none { s with heap := h' }) : wpAny (model prog w) A (pyNext (.ref e)) Q E s := by
  have hT : s.TypeIs (.ref e) "enumerate" := ⟨_, he, rfl⟩
  unfold pyNext
  refine wpAny_bind (wpAny_attempt (wpAny_callSpecial?_slot (name := Str.ofString "__next__") hT F.slot_enumerate_next
    (wpAny_call_entry F.slot_enumerate_next hT F.entry_enumerate_next ?_ (F.args_enumerate_next_1 _))))
  show wpAny _ _ (field (.ref e) 2 >>= _) _ _ _
  refine wpAny_bind (wpAny_field he rfl (x := .ref it) rfl ?_)
  refine wpAny_bind (wpAny_nextOf_tuple_end hh hit hl hx fun h' x he' hx' => ?_)
  obtain ⟨o, ho, hc⟩ := hx'
  refine wpAny_bind (wpAny_isInstance (T := "StopIteration") (b := true) ⟨o, ho, hc⟩ isSubtype_stop ?_)
  exact wpAny_pure (hQ _ he')
end PySem
namespace DL
open PySem PySem.Spec PyProof.Rows L2
open LamX (Tabs TabS CodeO)
/-- the tuple at a, its items in new pairs -/
def IteT (K : PySem.W.Frag) (a : Addr) : It :=
  ⟨fun i H => ∃ (xs : List V) (x : V), SqT K H a xs ∧ xs[i]? = some x,
    fun i H v H' => ∃ T x, v = .ref T ∧ H T = none ∧ H' = upd H T (.tup [.int (i : Nat), x]) ∧ ∀ xs, SqT K H a xs → xs[i]? = some x,
    fun i H => ∃ xs : List V, SqT K H a xs ∧ xs.length ≤ i⟩
theorem turn_enumT {P : Program} {w : World} {K : PySem.W.Frag} {elts : List Expr} {kk : Nat} {tpos : Pos} (a e it : Addr) :
    Turn P w K (.Tuple elts kk tpos) (IteT K a) [e, it] e (fun i h => (∃ old, IsEnum h e it (i : Nat) old) ∧ h.IsTupleIter it a i ∧ e ≠ it) where
  mem := by simp
  obj := fun i h st b hb => by
    obtain ⟨⟨old, he⟩, ⟨o, ho, hc, hd⟩, _⟩ := st
    have e' : b = e ∨ b = it := by simpa using hb
    rcases e' with z | z
    · rw [z]; exact ⟨_, he, fun v q => nomatch q⟩
    · rw [z]; exact ⟨o, ho, fun v q => by rw [hd] at q; cases q⟩
  keep := fun i h h' st k => let ⟨⟨old, he⟩, hi, hne⟩ := st; ⟨⟨old, k e (by simp) _ he⟩, hi.at fun o q => k it (by simp) o q, hne⟩
  item := by
    intro X hP hw hK hc i pins s σ H E I hf st hg
    subst hP hw hK
    obtain ⟨⟨old, he⟩, hit, hne⟩ := st
    obtain ⟨xs, x, hq, hx⟩ := hg
    obtain ⟨its, rv, p, hz⟩ := I.tuple hq
    obtain ⟨u, hu, ru⟩ := rv.get hx
    have hel : e < s.heap.objs.size := Heap.lt_size he
    have hil : it < s.heap.objs.size := by obtain ⟨_, q, _⟩ := hit; exact Heap.lt_size q
    have hai : a ≠ it := fun z => by
      obtain ⟨o1, g1, c1, n1, d1⟩ := p
      obtain ⟨o2, g2, c2, d2⟩ := hit
      rw [z, g2] at g1
      cases g1
      rw [d2] at d1
      cases d1
    have hea : e ≠ a := fun z => by
      obtain ⟨o1, g1, c1, n1, d1⟩ := p
      rw [← z, he] at g1
      cases g1
      cases d1
    have hh : X.A.in1.handled = none := I.ok.hd hc
    have hlt : i < its.toArray.size := by
      rw [List.size_toArray]
      exact (List.getElem?_eq_some_iff.mp hu).1
    refine wpAny_pyNext_enum_itemD (Draws.tuple (prog := X.prog) (w := X.w) (A := X.A.in1) hh it a hai its.toArray) he ⟨hit, p⟩ hlt hne (by simp [hne, hea]) fun u' h' tk hu' ho hst' hT hsz hk => ?_
    have euu : u' = u := by
      have z : its.toArray[i]? = some u' := hu'
      rw [List.getElem?_toArray, hu] at z
      exact (Option.some.inj z).symm
    subst euu
    refine ⟨_, rfl, wpAny_letOwnedTupleGo_enum (s := { s with heap := h', toks := tk + 1 }) ho fun h'' he' sb => ?_⟩
    have hT2 : h''.get? s.heap.objs.size = some { cls := .type "tuple", data := .seq #[.int i tk, u'] } := (sb.2 _ (Nat.ne_of_gt hel)).trans hT
    have new : ObjOk X.prog X.w (upd H s.heap.objs.size (.tup [.int (i : Nat), x])) h'' s.heap.objs.size (.tup [.int (i : Nat), x]) :=
      ⟨by show 2 ≤ sizeLine; decide, [.int i tk, u'], .cons ⟨_, rfl⟩ (.cons ru .nil), ⟨_, hT2, rfl, _, rfl⟩⟩
    have I1 : Inv X pins σ (upd H s.heap.objs.size (.tup [.int (i : Nat), x])) { s with heap := h'', toks := tk + 1 } :=
      I.turnedNew (ch := [e, it]) (fun b ob hb q => (sb.2 b (fun z => hb (by simp [z]))).trans (hk b ob (fun z => hb (by simp [z])) (fun z => hb (by simp [z])) q)) hf (Nat.le_refl _) new
    refine ⟨.ref s.heap.objs.size, _, I1, rfl, ⟨_, x, rfl, I.hok.fresh (Nat.le_refl _), rfl, fun ys hy => by rw [I.tuple_inj hy hq]; exact hx⟩, ⟨⟨u', ?_⟩, hst'.1.at fun o q => (sb.2 it (Ne.symm hne)).trans q, hne⟩, fun b hb => ?_⟩
    · have e1 : ((i + 1 : Nat) : Int) = (i : Int) + 1 := by omega
      rw [e1]; exact he'
    · have hb' : b < s.heap.objs.size := by
        have e' : b = e ∨ b = it := by simpa using hb
        rcases e' with z | z
        · rw [z]; exact hel
        · rw [z]; exact hil
      rw [upd_ne (Nat.ne_of_lt hb')]
      exact (hf b hb).1
  done := by
    intro X hP hw hK hc i pins s σ H E I hf st hg
    subst hP hw hK
    obtain ⟨⟨old, he⟩, hit, hne⟩ := st
    obtain ⟨xs, hq, hx⟩ := hg
    obtain ⟨its, rv, p, hz⟩ := I.tuple hq
    obtain ⟨f0, f1, f2, f3, f4, f5⟩ := hf it (by simp)
    have hl := rv.length
    exact wpAny_pyNext_enum_endT (I.ok.hd hc) he hit p (by simp; omega) fun h' eb => ⟨rfl, I.turned (t' := s.toks) (fun b o hb q => eb b o hb q) f0 f1 f3 f4 f5⟩
  self := fun A i s Q E st h => let ⟨⟨_, he⟩, _⟩ := st; wpAny_pyIter_enum he h
def iEnumT (K : PySem.W.Frag) (ta : TA) : TI := fun σ H R => ta σ H fun vs H1 => ∃ a xs, vs = [.ref a] ∧ SqT K H1 a xs ∧ R (IteT K a) H1
theorem pi_enumT {X : Cx} {e : Expr} {ta : TA} {p pos tpos : Pos} {elts : List Expr} {kk : Nat} (hg : Gl X "enumerate") (hm : X.mg "enumerate" = none) (ha : PA X [e] ta) (hs : starEach [e] X.env = [(false, eval e X.env)] := by rfl) :
    PI X (.Tuple elts kk tpos) (.Call (.Name "enumerate" p) [e] [] pos) (iEnumT X.K ta) := by
  refine ⟨fun pins s σ H R I h => ?_⟩
  refine Call_ (ld_blt I hg hm boot_enumerate (PyProof.Rows.callWith_type1 (thn (ha.run pos pins s σ H _ I h) fun us s1 ⟨vs, H1, I1, r1, q1⟩ => ?_) hs rfl))
  obtain ⟨a, xs, ex, hq, q⟩ := q1
  subst ex
  cases r1 with
  | cons r rr =>
    cases rr
    cases r
    obtain ⟨its, rv, p', hz⟩ := I1.tuple hq
    refine call_enumerate_begins (begins_tuple a its.toArray) p' fun h' he hit hsz hk => wpAny_pyIter_enum he ?_
    have I2 : Inv X pins σ H1 { s1 with heap := h' } := I1.kept (t' := s1.toks) hk
    refine ⟨s1.heap.objs.size + 1, [s1.heap.objs.size + 1, s1.heap.objs.size], _, _, H1, rfl, I2, turn_enumT a (s1.heap.objs.size + 1) s1.heap.objs.size, ⟨⟨.none, he⟩, ⟨_, hit, rfl, rfl⟩, Nat.succ_ne_self _⟩, fun b hb => ?_, q⟩
    have e' : b = s1.heap.objs.size + 1 ∨ b = s1.heap.objs.size := by simpa using hb
    have hle : s1.heap.objs.size ≤ b := by
      rcases e' with z | z
      · rw [z]; exact Nat.le_add_right _ _
      · rw [z]; exact Nat.le_refl _
    exact I1.fpOk hle (I1.hok.fresh hle)
section
variable {c : Cf} {W : WX} {κ : List Nat} {X : Cx} {ξ : Xi} {pos : Pos} {H : Hp}
/-- pairs of a number and an item -/
def pairsE (l : List D) : List D := l.zipIdx.map fun p => .tup [.int (p.2 : Nat), p.1]
theorem pairsE_len (l : List D) : (pairsE l).length = l.length := by unfold pairsE; simp
theorem pairsE_get {l : List D} {i : Nat} {d : D} (h : l[i]? = some d) : (pairsE l)[i]? = some (.tup [.int (i : Nat), d]) := by
  unfold pairsE
  rw [List.getElem?_map, List.getElem?_zipIdx, h]
  simp
def enumD : D → Option (List D)
  | .tup l => if persAll l = true then some (pairsE l) else none
  | _ => none
def mEnum (m : M D) : M (List D) := m.bind fun d => M.ofO (enumD d)
theorem i_enumT {e : Expr} {m : M D} {p tpos : Pos} {elts : List Expr} {kk : Nat} (hm : X.mg "enumerate" = none) (h : DE X ξ W e m) (hg : Gl X "enumerate" := by rfl) (hs : starEach [e] X.env = [(false, eval e X.env)] := by rfl) :
    DI X ξ W (.Tuple elts kk tpos) (.Call (.Name "enumerate" p) [e] [] pos) (mEnum m) := (pi_enumT hg hm (pa_cons h pa_nil hs) hs).imp fun σ H R ⟨env, f, he, nd, r, er, k⟩ => by
  rcases bind_some er with ⟨x, e1, ea, rfl⟩ | ⟨d, e1, ea, er⟩
  · exact ⟨env, f, he, nd, _, ea, k⟩
  · obtain ⟨ds, ed, rfl⟩ := ofO_some er
    refine ⟨env, f, he, nd, _, ea, fun v H' g1 g2 fm rv he' nd' => ?_⟩
    have fm' : Frm f g2 H H' := fm.sub fun b hb => List.mem_append_right _ hb
    have nd2 := (List.nodup_append.mp nd').2.1
    unfold enumD at ed
    split at ed
    · rename_i l
      split at ed
      · rename_i hp
        cases ed
        obtain ⟨a, vs, rfl, q, rs⟩ := rv
        have z := rs.toP hp
        refine ⟨a, vs, rfl, SqT.of q, k _ H' g2 fm' he' nd2 ?_⟩
        exact {
          go := fun i H1 hi b => by
            rw [pairsE_len] at hi
            exact ⟨vs, vs[i]'(by rw [z.length]; exact hi), SqT.of (tup_but b he'.own q), List.getElem?_eq_getElem _⟩
          yld := fun i H1 x H2 hi b ⟨T, y, e1, e2, e3, e4⟩ => by
            subst e1 e3
            have e := e4 vs (SqT.of (tup_but b he'.own q))
            obtain ⟨d, g', ed, rd, s⟩ := z.getV e
            have z' := List.eq_nil_of_sublist_nil s
            subst z'
            refine ⟨_, pairsE_get ed, Same.new e2, T, [.int (i : Nat), y], rfl, upd_same, ?_⟩
            have rd2 := (rd.but b he'.own fun b hb => by cases hb).same (Same.new (o := .tup [.int (i : Nat), y]) e2)
            exact ⟨_, _, [], [], rfl, ⟨rfl, rfl⟩, ⟨_, _, [], [], rfl, rd2, ⟨rfl, rfl⟩, rfl⟩, rfl⟩
          stop := fun H1 b => ⟨vs, SqT.of (tup_but b he'.own q), by rw [z.length, pairsE_len]; exact Nat.le_refl _⟩ }
      · cases ed
    · cases ed
end
end DL
set_option maxHeartbeats 8000000
/-! DL22: xs.extend(t), t a tuple. -/
namespace PySem
open AutoSeq1
theorem list_extend_tupleG (l : Addr) (items : Array Value) (n : Nat) (b : Addr) (items2 : Array Value) (n2 : Nat) (od : Option Addr) (sl : Array (Option Value)) (hs0 : ¬(!items.isEmpty && Builtin.List.listTooLong (items.size + items2.size)) = true) (hs1 : items.size ≤ sizeLine) (hs2 : items.size + items2.size ≤ sizeLine + 1) :
    Meets (Builtin.«list.extend» ⟨[.ref l, .ref b], []⟩) (fun _ R s => s.heap.get? l = some { cls := .type "list", dict := none, data := .seq items n, slots := #[] } ∧ s.heap.get? b = some { cls := .type "tuple", dict := od, data := .seq items2 n2, slots := sl } ∧ R (.ok (.ret Value.none)) { s with heap := s.heap.update l (Obj.mapSeq fun x => x ++ items2), toks := s.toks }) :=
  .of_wp fun prog w A R s h => by
    obtain ⟨hp, g, d, tk, os⟩ := s; obtain ⟨hl, hb, h⟩ := h; have f1 := idx_int; have f2 := sub_tuple_tuple; have f3 := sub_list_list; have f4 := sub_tuple_list; have f5 := sub_list_tuple;
    have hz' : (items ++ items2).size ≤ sizeLine + 1 := by rw [Array.size_append]; exact hs2
    wp_walk using (wpAny_updateSeq hl rfl (hz := hs1) (_hz' := hz')), wpAny_loadPart' hl, wpAny_loadPart' hb; exact ⟨_, rfl, h⟩
end PySem
namespace DL
open PySem PySem.Spec PyProof.Rows L2
open LamX (Tabs TabS CodeO)
def rExtendT (K : PySem.W.Frag) : V → List V → Hp → VK → Prop := fun x vs H Q => ∃ l b xs zs, x = .ref l ∧ vs = [.ref b] ∧ H l = some (.lst xs) ∧ SqT K H b zs ∧ xs.length + zs.length ≤ sizeLine ∧ Q .non (upd H l (.lst (xs ++ zs)))
theorem mt_extendT {X : Cx} : MtM X "list.extend" (rExtendT X.K) := by
  intro pins s σ H x vs v us Q I rx rv h
  obtain ⟨l, b, xs, zs, rfl, rfl, hH, hB, hz, q⟩ := h
  cases rx
  obtain ⟨u, rfl, ru⟩ := rv.one
  cases ru
  obtain ⟨z, its, n, r, hl, e⟩ := I.lstM hH
  obtain ⟨its2, r2, p2, hz2⟩ := I.tuple hB
  obtain ⟨⟨oc, od, dt, sl⟩, e2, hc2, n2, hd2⟩ := p2
  have hl2 := r2.length
  have hsz : its.toArray.size + its2.toArray.size ≤ sizeLine := by rw [List.size_toArray, List.size_toArray]; omega
  have hlong : ¬ (!its.toArray.isEmpty && Builtin.List.listTooLong (its.toArray.size + its2.toArray.size)) = true := by
    rw [notLongL hsz, Bool.and_false]
    exact Bool.false_ne_true
  replace hc2 : oc = .type "tuple" := hc2
  replace hd2 : dt = .seq its2.toArray n2 := hd2
  subst hc2 hd2
  refine call_meets PySem.F.slot_list_extend ⟨_, e, rfl⟩ PySem.F.entry_list_extend (PySem.F.args_list_extend_2 _ _)
    (PySem.list_extend_tupleG l its.toArray n b its2.toArray n2 od sl hlong (by rw [List.size_toArray]; omega) (by omega)) ⟨e, e2, ?_⟩
  refine ⟨.non, _, I.lset (its' := its ++ its2) hH e (by simp) (r.append r2) ?_, rfl, q⟩
  rw [List.length_append]
  omega
section
variable {c : Cf} {W : WX} {κ : List Nat} {X : Cx} {ξ : Xi} {pos : Pos} {H : Hp}
def mExtend (i : Nat) (m : M D) : M D := fun env => match mV i env with
  | some (.lst _) => m.bind (fun d env' => match d with
    | .tup l2 => match mV i env' with
      | some (.lst l) => if l.length + l2.length ≤ LIM ∧ persAll l2 = true then some (.ok .non (env'.set i (.lst (l ++ l2)))) else none
      | _ => none
    | _ => none) env
  | _ => none
theorem e_extend {y : Str} {p apos : Pos} {i : Nat} {e : Expr} {m : M D} (hv : PE X (.Name y p) (tVar i)) (he : DE X ξ W e m) (hbase : attributeBase (.Name y p) "extend" X.env (eval (.Name y p) X.env) = eval (.Name y p) X.env := by rfl)
    (hfew : ((backTo pos (starEach (e :: []) X.env)).all (fun x => !x.1) && (backToKw pos (keywordEach [] X.env)).all (fun x => x.1.isSome)
      && decide ((e :: []).length + ([] : List Keyword).length + (if ([] : List Keyword).isEmpty then 0 else 1) < 30)) = true := by rfl)
    (hline : (apos.endLine == pos.line) = true := by rfl) (hs : starEach (e :: []) X.env = (false, eval e X.env) :: starEach [] X.env := by rfl) (hplain : (backTo pos (starEach [] X.env)).any (·.1) = false := by rfl) :
    DE X ξ W (.Call (.Attribute (.Name y p) "extend" apos) [e] [] pos) (mExtend i m) :=
  (pe_bm PySem.F.plainAttrs_list PySem.F.slot_list_extend PySem.F.type_list_extend mt_extendT hv (pa_cons he pa_nil hs) hbase hfew hline hs hplain).imp fun σ H Q ⟨env, f, he, nd, r, er, k⟩ => by
    unfold mExtend at er
    split at er
    · rename_i l0 el0
      obtain ⟨v0, g0, ev0, ⟨a0, vs0, gg, rfl, q0, _, _⟩, _⟩ := mV_slot he el0
      refine ⟨_, ev0, .inl ⟨rfl, vs0, SqL.of q0⟩, ?_⟩
      rcases bind_some er with ⟨x, e1, ea, rfl⟩ | ⟨d, e1, ea, er⟩
      · exact ⟨env, f, he, nd, _, ea, k⟩
      · refine ⟨env, f, he, nd, _, ea, fun v H1 g1 g2 fm rv he1 nd1 => ?_⟩
        split at er
        · rename_i l2
          split at er
          · rename_i l el
            split at er
            · rename_i hz
              cases er
              obtain ⟨el', _⟩ := mV_some el
              obtain ⟨a, vs, ga, f2, ei, q, rs, t, pm⟩ := he1.lst el'
              rw [ev0] at ei
              cases ei
              obtain ⟨b0, ws, rfl, qb, rb⟩ := rv
              have zb := rb.toP hz.2
              have eg1 : g1 = [] := Reps.pers rb hz.2
              subst eg1
              have nd2 : ((a0 :: ga) ++ f2).Nodup := pm.nodup_iff.mpr (by simpa using nd1)
              obtain ⟨n4, n5, n6⟩ := List.nodup_append.mp nd2
              have na2 : a0 ∉ ga := (List.nodup_cons.mp n4).1
              have na3 : a0 ∉ f2 := fun z => n6 a0 List.mem_cons_self a0 z rfl
              have bt := but_upd (H := H1) (a := a0) (o := .lst (vs ++ ws)) q
              have r1 := (rs.but bt (own_one q) (not_one na2)).append (zb.but bt (own_one q) fun b hb => by cases hb)
              obtain ⟨f', q', p'⟩ := EnvR.relst el' ev0 (t.but bt (own_one q) (not_one na3)) upd_same r1
              refine ⟨a0, b0, vs, ws, rfl, rfl, q, SqT.of qb, by rw [rs.length, zb.length]; exact lim hz.1, ?_⟩
              have fm2 : Frm f ([] ++ g2) H (upd H1 a0 (.lst (vs ++ ws))) := upd_frm q fm (List.mem_append_right _ (pm.mem_iff.mp (List.mem_append_left _ List.mem_cons_self)))
              refine k .non _ [] f' (fm2.sub fun b hb => ?_) ⟨rfl, rfl⟩ q' ?_
              · have z := p'.mem_iff.mp hb
                have z2 : b ∈ (a0 :: ga) ++ f2 := by simpa using z
                exact List.mem_append_right _ (pm.mem_iff.mp z2)
              · show f'.Nodup
                refine p'.nodup_iff.mpr ?_
                simpa using nd2
            · cases er
          · cases er
        · cases er
    · cases er
end
end DL
set_option maxHeartbeats 1000000
/-! DL23: sorted(xs, key=lambda t: (len(t), t)) over data. -/
namespace DL
open PySem PySem.Spec PyProof.Rows L2 DLS
open LamX (Tabs TabS CodeO)
open PySem.W (AllAlike Sortable EachIs dataLe dataLt alike alikeAll keyToks keyToksAll)
def sortLK (ks : List NK) : List NK := ks.mergeSort (dataLe false keyD)
open Classical in
noncomputable def dSortLam : D → Option D
  | .lst l => match keyAll l with
    | some ks => if FitM ks ∧ ks.length ≤ LIM then some (.lst (unKs (sortLK ks))) else none
    | none => none
  | _ => none
section
variable {X : Cx} {pins : List (Addr × Obj)} {σ : L2.St} {H : Hp} {s : Shared}
theorem call_sortLam {k : Nat} {l f c' : Addr} {qual t : Str} {params : Arguments} {scope : Scope} {pm ctv : Value} {p3 p4 p5 p6 p8 : Pos} {n7} {prs : List (Addr × NK)} {Q : VK} (I : Inv X pins σ H s) (hc : X.calm = true) (hr : Room (k + 3) X.A)
    (hl : s.heap.IsList l (prs.map fun p => Value.ref p.1).toArray) (hk : ∀ p ∈ prs, ∃ ks, p.2 = .tup ks) (hrd : ∀ p ∈ prs, Reads s.heap (.ref p.1) p.2.data []) (hal : ∀ p ∈ prs, ∀ q ∈ prs, alike p.2.data q.2.data = true) (hdp : ∀ p ∈ prs, p.2.data.depth ≤ 8) (hln : ∀ p ∈ prs, lenK p.2 ≤ LIM) (hL : prs.length ≤ LIM)
    (ho : s.heap.get? f = some (PySem.W.kla_obj "<lambda>" qual params (.Tuple [.Call (.Name "len" p3) [.Name t p4] [] p5, .Name t p6] n7 p8) scope [] pm c' ctv)) (hcd : s.heap.CodeRec (.ref c') qual) (S : FnScope [t] [t] scope)
    (hb : ∀ b : Addr, bindArgs (PySem.W.kla_fn "<lambda>" qual params (.Tuple [.Call (.Name "len" p3) [.Name t p4] [] p5, .Name t p6] n7 p8) scope [] pm (.ref c') ctv) ⟨[.ref b], []⟩ = pure [(t, .ref b)])
    (hlen : X.mg "len" = none) (gl : scope.names.lookup ("len" : Str) = some .globalImplicit) (vt : scope.names.lookup t = some .local) (nd : (t == ("__debug__" : Str)) = false) (nc : (t == ("__classdict__" : Str)) = false)
    (h1 : ∀ p, H p = none → Q (.ref p) (upd H p (.lst ((prs.mergeSort (dataLe false fun p => keyD p.2)).map fun p => V.ref p.1)))) :
    wpAny (model X.prog X.w) X.A (call (.builtin "sorted") [.ref l] [(Str.ofString "key", .ref f)]) (EP X pins σ Q) X.xe s := by
  refine PySem.W.sorted_key_data (β := Addr × NK) (b := false) (R := fun (u : Value) (p : Addr × NK) => u = .ref p.1) (bs := prs) (vs := prs.map fun p => Value.ref p.1) (fun p => keyD p.2) hl (each_refs prs)
      (fun d hd d' hd' => ?_) (.inl fun d hd => ?_) (Nat.le_trans hL (by decide)) (fun p hp => ?_) (ksk_s1 _ _) (fun _ => ksk_l1 _ _) (fun _ => ksk_t1 _ _) (fun u p hu2 hp h tk kp => ?_) fun out cc h' tk kp hn hg hlen ea => ?_
  · obtain ⟨p, hp, rfl⟩ := List.mem_map.mp hd
    obtain ⟨p', hp', rfl⟩ := List.mem_map.mp hd'
    simp [keyD, alike, alikeAll, hal p hp p' hp']
  · obtain ⟨p, hp, rfl⟩ := List.mem_map.mp hd
    exact ⟨_, _, rfl⟩
  · have h8 := hdp p hp
    have un := hr.un
    have hd1 : (keyD p.2).depth ≤ 9 := by
      simp only [keyD, PyData.depth, PyData.depthAll]
      omega
    omega
  · subst hu2
    obtain ⟨kk, ekk⟩ := hk p hp
    have rp := hrd p hp
    rw [ekk, NestedKey.data] at rp
    cases rp with
    | @tuple _ o2 vs2 n2 xs2 as2 g1 g2 g3 g4 =>
      have lv : vs2.toList.length = kk.length := by
        have q : ∀ {us : List Value} {l : List NK} {as : List Addr}, ReadsAll s.heap us (NestedKey.datas l) as → us.length = l.length := by
          intro us l
          induction l generalizing us with
          | nil =>
            intro as r
            rw [NestedKey.datas] at r
            cases r
            rfl
          | cons x l ih =>
            intro as r
            rw [NestedKey.datas] at r
            cases r with
            | cons r1 r2 => simp [ih r2]
        exact q g4
      have hln' := hln p hp
      rw [ekk] at hln'
      have szv : vs2.size = kk.length := by simpa using lv
      have I2 : Inv X pins σ H { s with heap := h, toks := tk } := I.kept kp
      refine call_lenSelf (k := k) (items := vs2) (kp _ _ ho) (by obtain ⟨c, oc, vs, tq, q1, q2, q3, q4⟩ := hcd; exact ⟨c, oc, vs, tq, q1, kp _ _ q2, q3, q4⟩) S hr.in1.in1 I2.env0.in1.in1 (hb p.1) hlen gl vt ⟨o2, kp _ _ g1, g2, n2, g3⟩ (by rw [szv]; exact Nat.le_trans hln' (by decide)) nd nc fun h' tk1 q tk2 kp1 hq hg => ?_
      refine ⟨h', tk1, rfl, kp1, ?_⟩
      have e0 : (lenK p.2 : Int) = (vs2.size : Int) := by rw [ekk, szv] <;> rfl
      show Reads h' (.ref q) (keyD p.2) []
      unfold keyD
      rw [e0]
      exact .tuple hg rfl rfl (ReadsAll.cons (as := []) (bs := []) (.int _ _) (ReadsAll.cons (as := []) (bs := []) (PyProof.Rows.Reads.keeps (fun b o e => kp1 b o (kp b o e)) (hrd p hp)) .nil))
  · have hp : H (s.heap.objs.size + 1) = none := I.hok.fresh (Nat.le_succ _)
    refine ⟨.ref (s.heap.objs.size + 1), _, I.laid (t' := tk) (o := .lst ((prs.mergeSort (dataLe false fun p => keyD p.2)).map fun p => V.ref p.1)) kp (Nat.le_succ _) ?_, rfl, h1 _ hp⟩
    refine ⟨by rw [List.length_map, List.length_mergeSort]; exact Nat.le_trans hL (by decide), out, cc, ?_, hg⟩
    rw [refs_each ea]
    exact vals_refs _
end
theorem unKs_map2 : ∀ ks : List NK, unKs ks = ks.map unK
  | [] => by rw [unKs]; rfl
  | k :: ks => by rw [unKs, unKs_map2 ks]; rfl
theorem reps_refs {c : Cf} {H : Hp} : ∀ {L : List (Addr × NK)}, (∀ p ∈ L, Rep c H (unK p.2) (.ref p.1) []) → Reps c H (L.map fun p => unK p.2) (L.map fun p => V.ref p.1) []
  | [], _ => ⟨rfl, rfl⟩
  | p :: L, h => ⟨.ref p.1, _, [], [], rfl, h p List.mem_cons_self, reps_refs fun q hq => h q (List.mem_cons_of_mem _ hq), rfl⟩
section
variable {c : Cf} {W : WX} {κ : List Nat} {X : Cx} {pos : Pos} {H : Hp} {T : List (Addr × Str)}
theorem e_sortLam {e : Expr} {m : MP} {fr : Bool} {params : Arguments} {scope : Scope} {t : Str} {p1 p3 p4 p5 p6 p8 lpos kp1 : Pos} {n7} {j : Nat} {c P : Addr} (hc : X.calm = true) (hr : Room j X.A) (hmin : X.mg "sorted" = none) (hlen : X.mg "len" = none)
    (TB : LamX.TabB X.base X.mg c P) (hcode : X.env.code = .ref c) (hP : (P, lamQ) ∈ T) (h : DP X ⟨none, T⟩ fr e m) (S : FnScope [t] [t] scope) (hj : 3 ≤ j := by decide)
    (hq : X.env.qual ++ "<lambda>" = lamQ := by rfl)
    (hb : ∀ (qual : Str) (pm ctv : Value) (c' b : Addr), bindArgs (PySem.W.kla_fn "<lambda>" qual params (.Tuple [.Call (.Name "len" p3) [.Name t p4] [] p5, .Name t p6] n7 p8) scope [] pm (.ref c') ctv) ⟨[.ref b], []⟩ = pure [(t, .ref b)] := by intros; rfl)
    (gl : scope.names.lookup ("len" : Str) = some .globalImplicit := by rfl) (vt : scope.names.lookup t = some .local := by rfl) (hdef : defaultsOf params X.env = ([], []) := by rfl) (hclo : cloFrom X.env.cells scope.names [] = [] := by rfl)
    (hnf : ∀ y ∈ scope.names, y.2 ≠ .free) (ndn : (t == ("__debug__" : Str)) = false := by decide) (ncn : (t == ("__classdict__" : Str)) = false := by decide) (hg : Gl X "sorted" := by rfl)
    (hv : bootBuiltins "sorted" = some (.builtin "sorted") := by first | rfl | decide +kernel) (hse : starEach [e] X.env = (false, eval e X.env) :: starEach [] X.env := by rfl)
    (he0 : backTo pos (starEach [e] X.env) = (false, eval e X.env) :: backTo pos (starEach [] X.env) := by rfl) (hpl : (backTo pos (starEach [e] X.env)).any (·.1) = false := by rfl) :
    DE X ⟨none, T⟩ W (.Call (.Name "sorted" p1) [e] [⟨some "key", .Lambda params (.Tuple [.Call (.Name "len" p3) [.Name t p4] [] p5, .Name t p6] n7 p8) scope lpos, kp1⟩] pos) (mF (mUnP dSortLam m)) := ⟨fun pins s σ H Q I ⟨env, f, he, nd, r, er, kk⟩ => by
  obtain ⟨d, ed, rfl⟩ := mF_some er
  obtain ⟨x, e1, e2⟩ := mUnP_some ed
  unfold dSortLam at e2
  split at e2
  rotate_left
  · cases e2
  rename_i l
  split at e2
  rotate_left
  · cases e2
  rename_i ks ek
  split at e2
  rotate_left
  · cases e2
  rename_i F
  obtain ⟨F, hL⟩ := F
  cases e2
  have el := un_keyAll ek
  subst el
  refine wpAny_Call_Name_kw (ld_blt I hg hmin hv ?_)
  refine PyProof.Rows.callWith_kw (thn ((pa_cons h pa_nil hse).run pos pins s σ H (fun vs H1 => match vs with
    | [v] => Same H H1 ∧ ∃ g, Rep (cx X ⟨none, T⟩) H1 (.lst (unKs ks)) v g
    | _ => False) I ⟨env, f, he, nd, _, e1, fun v H1 g s1 rv _ _ => ⟨s1, g, rv⟩⟩) fun us s1 ⟨xs, H1, I1, r1, q1⟩ => ?_) he0 hpl rfl rfl
  match xs, r1, q1 with
  | [v], r1, ⟨sm, g, rv⟩ =>
    obtain ⟨a, vs, g', rfl, q, rs, _⟩ := rv
    rw [Vals.ref1 r1]
    obtain ⟨prs, rfl, ek2, er2⟩ := reps_tups F.tup rs
    have he1 := he.same sm
    obtain ⟨tn, tbs⟩ := he1.tabs
    have tP := tbs _ hP
    have hPn : P < s1.heap.objs.size := by
      obtain ⟨ps, hps, _⟩ := tP
      exact (I1.hok P _ hps).lt
    show wpAny _ _ (evalAll ((do let v ← eval (.Lambda params (.Tuple [.Call (.Name "len" p3) [.Name t p4] [] p5, .Name t p6] n7 p8) scope lpos) X.env; standAt pos; pure v) :: [])) _ _ s1
    refine wpAny_evalAll_cons (wpAny_bind ?_)
    refine LamX.lam_make2 (T := Tmx s1.heap.objs.size H1) I1 TB hcode (by rw [hq]; exact Tmx_mem hPn tP) (fun p hp _ => by rw [hq]; exact Tmx_name p hp) (Tmx_tabs _ _) hdef (fun y hy e => absurd e (hnf y hy)) fun fl c' pm ctv H2 s2 I2 ext tb2 ho hn hfr hc' => ?_
    rw [hclo] at ho
    refine wpAny_bind (wpAny_standAt (wpAny_pure (wpAny_evalAll_nil ?_)))
    show wpAny _ _ (call (.builtin "sorted") [.ref a] [(Str.ofString "key", .ref fl)]) _ _ _
    have q2 : H2 a = some (.lst (prs.map fun p => V.ref p.1)) := ext _ _ q noT_lst
    have bt : But [] H1 H2 := ⟨fun b o e _ n => ext b o e n, fun T' t' => ⟨t'.1, fun p hp => by
      have nm := t'.1 p hp
      have tp := t'.2 p hp
      have lt : p.1 < s1.heap.objs.size := by
        obtain ⟨ps, hps, _⟩ := tp
        exact (I1.hok p.1 _ hps).lt
      rw [nm] at tp ⊢
      exact tb2 _ (Tmx_mem lt tp)⟩⟩
    have er3 : ∀ p ∈ prs, Rep (cx X ⟨none, T⟩) H2 (unK p.2) (.ref p.1) [] := fun p hp => (er2 p hp).but bt (fun b hb => by cases hb) fun b hb => by cases hb
    obtain ⟨its, rvv, hisl, _⟩ := I2.list (SqL.of q2)
    have ei : its = prs.map fun p => Value.ref p.1 := refs_vals rvv
    subst ei
    have memk : ∀ p ∈ prs, p.2 ∈ ks := fun p hp => by rw [← ek2]; exact List.mem_map.mpr ⟨p, hp, rfl⟩
    have cr : s2.heap.CodeRec (.ref c') (X.env.qual ++ "<lambda>") := by
      obtain ⟨⟨oc, vs', tt, z1, z2, z3⟩, _⟩ := (show ObjOk X.prog X.w H2 s2.heap c' (CodeO c' (X.env.qual ++ "<lambda>")) from I2.hok c' _ hc')
      exact ⟨c', oc, vs', tt, rfl, z1, z2, z3⟩
    have fm : Frm f f H H2 := (Frm.same sm).trans ⟨fun b o e _ n => ext b o e n, bt.tab, fun b hb => .inl hb⟩
    have he2 : EnvR (cx X ⟨none, T⟩) H2 env σ f := he1.but bt (fun b hb => by cases hb) fun b _ hb => by cases hb
    refine call_sortLam (k := 0) (prs := prs) I2 hc (hr.mono hj) hisl.isList (fun p hp => F.tup _ (memk p hp)) (fun p hp => (nest_of I2 p.2 (.ref p.1) (.ref p.1) [] (er3 p hp) rfl).2) (fun p hp p' hp' => F.al _ (memk p hp) _ (memk p' hp')) (fun p hp => F.dp _ (memk p hp)) (fun p hp => F.ln _ (memk p hp)) (by rw [← ek2, List.length_map] at hL; exact hL)
      ho cr S (fun b => hb _ _ _ _ _) hlen gl vt ndn ncn fun p hp => ?_
    have eqD : (prs.mergeSort (dataLe false fun p => keyD p.2)).map (fun p => unK p.2) = unKs (sortLK ks) := by
      rw [unKs_map2, sortLK, ← ek2, ← List.map_mergeSort (f := fun p : Addr × NK => p.2) (r := dataLe false fun p : Addr × NK => keyD p.2) (s := dataLe false keyD) (fun x _ y _ => rfl), List.map_map]
      rfl
    have rL := reps_refs (c := cx X ⟨none, T⟩) (H := H2) (L := prs.mergeSort (dataLe false fun p => keyD p.2)) fun p hp => er3 p ((List.mergeSort_perm _ _).mem_iff.mp hp)
    rw [eqD] at rL
    exact giveL rL hp (post_op kk fm he2 nd)⟩
end
end DL
set_option maxHeartbeats 1000000
/-! DL24: sorted({x for t in ts for x in t}) over data. -/
namespace DL
open PySem PySem.Spec PyProof.Rows L2 DLS
open LamX (Tabs TabS CodeO)
open PySem.W (AllAlike Sortable EachIs dataLe dataLt alike alikeAll keyToks keyToksAll)
/-- a set display of two clauses without tests -/
abbrev scE (elt t0 i0 t1 i1 : Expr) (scope : Scope) (pos : Pos) : Expr := .SetComp elt [⟨t0, i0, [], 0⟩, ⟨t1, i1, [], 0⟩] scope pos
theorem sc2_turn0 (elt t0 i0 t1 i1 : Expr) (scope : Scope) (pos : Pos) (it acc : Value) (env : PySem.Env) :
    compTurn (scE elt t0 i0 t1 i1 scope pos) 0 it acc env = (do
      standAt i0.pos
      match ← pyNext it with
      | none => pure (.done .next)
      | some v =>
        letOwnedTupleGo t0 it v
        assign t0 env v
        let x ← eval i1 env
        standAt i1.pos
        let x ← foldedSetIterable i1 env x
        let _ ← runOwn (.compStart (scE elt t0 i0 t1 i1 scope pos) 1 (← holding [x] (pyIter x)) acc env) env
        again (.compLoop (scE elt t0 i0 t1 i1 scope pos) 0 it acc env)) := by rfl
theorem sc2_turn1 (elt t0 i0 t1 i1 : Expr) (scope : Scope) (pos : Pos) (it acc : Value) (env : PySem.Env) :
    compTurn (scE elt t0 i0 t1 i1 scope pos) 1 it acc env = (do
      standAt i1.pos
      match ← pyNext it with
      | none => pure (.done .next)
      | some v =>
        letOwnedTupleGo t1 it v
        assign t1 env v
        (do let v ← eval elt env; standAt elt.pos; let _ ← call (.builtin "set.add") [acc, v])
        again (.compLoop (scE elt t0 i0 t1 i1 scope pos) 1 it acc env)) := by rfl
section
variable {prog : Program} {w : World} {A : Around} {R : Result → Shared → Prop} {s : Shared} {elt t0 i0 t1 i1 : Expr} {scope : Scope} {pos : Pos} {it acc : Value} {env : PySem.Env}
theorem sc2_loop0 (hs : ∀ x, foldedSetIterable i1 env x = pure x) (I : Nat → Shared → Prop)
    (turn : ∀ n s, I n s → wpAny (model prog w) A (pyNext it) (fun r s₁ => match r with
      | none => R (.ok .next) s₁
      | some v => wpAny (model prog w) A (letOwnedTupleGo t0 it v) (fun _ s₁' => wpAny (model prog w) A (assign t0 env v) (fun _ s₂ =>
          wpAny (model prog w) A (eval i1 env) (fun x s₄ => wpAny (model prog w) A (pyIter x) (fun it1 s₅ =>
              codeAny (model prog w) A (.compStart (scE elt t0 i0 t1 i1 scope pos) 1 it1 acc env) (fun r s' => match r with
                | .ok _ => ∃ m, m < n ∧ I m s'
                | .error _ => False) s₅) (notedBy (model prog w) A env fun e s' => R (.error e) s') s₄) (notedBy (model prog w) A env fun e s' => R (.error e) s') s₂)
            (notedBy (model prog w) A env fun e s' => R (.error e) s') s₁') (notedBy (model prog w) A env fun e s' => R (.error e) s') s₁) (notedBy (model prog w) A env fun e s' => R (.error e) s') s)
    (n : Nat) (h : I n s) : codeAny (model prog w) A (.compLoop (scE elt t0 i0 t1 i1 scope pos) 0 it acc env) R s := by
  refine codeAny_loop rfl I (fun n s hI => ?_) n h
  show wpAny _ A ((compTurn (scE elt t0 i0 t1 i1 scope pos) 0 it acc env).onRaise (fun x => do noteFrame x env; theTreesLotGoes x)) _ _ s
  refine wpAny_noted ?_
  rw [sc2_turn0]
  refine wpAny_bind (wpAny_standAt (wpAny_bind (wpAny_mono (turn n s hI) (fun r s₁ h₁ => ?_) fun _ _ h' => h')))
  cases r with
  | none => exact wpAny_pure h₁
  | some v =>
    refine wpAny_bind (wpAny_mono h₁ (fun _ s₂ h₂ => ?_) fun _ _ h' => h')
    refine wpAny_bind (wpAny_mono h₂ (fun _ s₃ h₃ => ?_) fun _ _ h' => h')
    refine wpAny_bind (wpAny_mono h₃ (fun x s₄ h₄ => ?_) fun _ _ h' => h')
    refine wpAny_bind (wpAny_standAt (wpAny_bind (wpAny_of_eq (hs x) (wpAny_bind (wpAny_holding (wpAny_mono h₄ (fun it1 s₅ h₅ => ?_) fun _ _ h' => h'))))))
    refine wpAny_bind (wpAny_runOwn ?_)
    rw [Around.mark_none]
    refine codeAny_mono h₅ fun r s' hr => ?_
    cases r with
    | ok f => first | exact wpAny_pure ⟨rfl, hr⟩ | exact wpAny_bind (wpAny_pure (wpAny_pure ⟨rfl, hr⟩))
    | error e => exact hr.elim
theorem sc2_loop1 (I : Nat → Shared → Prop)
    (turn : ∀ n s, I n s → wpAny (model prog w) A (pyNext it) (fun r s₁ => match r with
      | none => R (.ok .next) s₁
      | some v => wpAny (model prog w) A (letOwnedTupleGo t1 it v) (fun _ s₁' => wpAny (model prog w) A (assign t1 env v) (fun _ s₂ =>
          wpAny (model prog w) A (eval elt env) (fun x s₄ => wpAny (model prog w) A (call (.builtin "set.add") [acc, x]) (fun _ s₅ => ∃ m, m < n ∧ I m s₅) (notedBy (model prog w) A env fun e s' => R (.error e) s') s₄)
            (notedBy (model prog w) A env fun e s' => R (.error e) s') s₂) (notedBy (model prog w) A env fun e s' => R (.error e) s') s₁') (notedBy (model prog w) A env fun e s' => R (.error e) s') s₁) (notedBy (model prog w) A env fun e s' => R (.error e) s') s)
    (n : Nat) (h : I n s) : codeAny (model prog w) A (.compLoop (scE elt t0 i0 t1 i1 scope pos) 1 it acc env) R s := by
  refine codeAny_loop rfl I (fun n s hI => ?_) n h
  show wpAny _ A ((compTurn (scE elt t0 i0 t1 i1 scope pos) 1 it acc env).onRaise (fun x => do noteFrame x env; theTreesLotGoes x)) _ _ s
  refine wpAny_noted ?_
  rw [sc2_turn1]
  refine wpAny_bind (wpAny_standAt (wpAny_bind (wpAny_mono (turn n s hI) (fun r s₁ h₁ => ?_) fun _ _ h' => h')))
  cases r with
  | none => exact wpAny_pure h₁
  | some v =>
    refine wpAny_bind (wpAny_mono h₁ (fun _ s₂ h₂ => ?_) fun _ _ h' => h')
    refine wpAny_bind (wpAny_mono h₂ (fun _ s₃ h₃ => ?_) fun _ _ h' => h')
    exact wpAny_bind (wpAny_bind (wpAny_mono h₃ (fun x s₄ h₄ => wpAny_bind (wpAny_standAt (wpAny_bind (wpAny_mono h₄ (fun _ s₅ h₅ => wpAny_pure (wpAny_pure ⟨rfl, h₅⟩)) fun _ _ h' => h')))) fun _ _ h' => h'))
theorem sc2_start1 (h0 : codeAny (model prog w) A (.compLoop (scE elt t0 i0 t1 i1 scope pos) 1 it acc env) R s)
    (h : wpAny (model prog w) A (pyIter it) (fun it' s' => codeAny (model prog w) A (.compLoop (scE elt t0 i0 t1 i1 scope pos) 1 it' acc env) R s') (notedBy (model prog w) A env fun x s' => R (.error x) s') s) :
    codeAny (model prog w) A (.compStart (scE elt t0 i0 t1 i1 scope pos) 1 it acc env) R s := by
  refine codeAny_of_tree ?_
  show wpAny _ _ ((compStart (scE elt t0 i0 t1 i1 scope pos) 1 it acc env).onRaise (fun x => do noteFrame x env; standAt theWindowsPlace)) _ _ s
  refine wpAny_notedAt ?_
  unfold compStart
  show wpAny _ _ (ask >>= _) _ _ s
  refine wpAny_bind (wpAny_askSetting (wpAny_ite ?_))
  split
  · first
      | exact wpAny_bind (wpAny_pure (wpAny_pure (And.intro rfl h0)))
      | exact wpAny_pure (And.intro rfl h0)
  · first
      | exact wpAny_bind (wpAny_rule (wpAny_bind (wpAny_standAt (wpAny_bind (wpAny_mono h (fun it' s' h' => wpAny_pure (And.intro rfl h')) fun _ _ x => x)))))
      | (refine wpAny_bind (wpAny_rule ?_); show wpAny _ _ (standAt i1.pos >>= _) _ _ s; exact wpAny_bind (wpAny_standAt (wpAny_bind (wpAny_mono h (fun it' s' h' => wpAny_pure (And.intro rfl h')) fun _ _ x => x))))
end
section
variable {X : Cx} {ξ : Xi} {pos : Pos} {H : Hp}
/-- set.add of a nested key -/
theorem addK_ok {pins : List (Addr × Obj)} {σ : L2.St} {s : Shared} {E : Value → Shared → Prop} {D b : Addr} {L : List (Addr × NK)} {k : NK} {Q : Value → Shared → Prop} (hu : X.A.units + 64 < cLine) (I : Inv X pins σ H s) (hD : H D = some (SetKO X.prog X.w D L))
    (hL : ∀ p ∈ L, IsK s.heap p.2 p.1) (hx : IsK s.heap k b) (few : k ∉ L.map (·.2) → L.length + 1 < 300)
    (h : ∀ L' s', (k ∈ L.map (·.2) → L' = L) → (k ∉ L.map (·.2) → L'.Perm ((b, k) :: L)) → Inv X pins σ (upd H D (SetKO X.prog X.w D L')) s' → Q .none s') :
    wpAny (model X.prog X.w) X.A (call (.builtin "set.add") [.ref D, .ref b]) Q E s := by
  have R0 : SetK0 X.prog X.w s.heap D L := (I.hok D _ hD).1
  obtain ⟨es, ep, t, R⟩ := R0.full hL
  obtain ⟨o, ho, hex, hd⟩ := R.ob
  have hT : s.TypeIs (.ref D) "set" := ⟨o, ho, hex.1⟩
  refine wpAny_call_entry F.slot_set_add hT F.entry_set_add ?_ (F.args_set_add_2 _ _)
  unfold Builtin.«set.add» Builtin.Frozenset.oneOther
  simp only [List.isEmpty_nil, bind_assoc]
  unfold Builtin.Frozenset.addrOf setAdd
  refine wpAny_bind (wpAny_pure ?_)
  try dsimp only
  refine wpAny_bind (wpAny_pure ?_)
  try dsimp only
  refine wpAny_bind ?_
  refine wpAny_holding ?_
  refine wpAny_bind ((nestedKind X.prog X.w).pyHash (by show X.A.units + 1 + 8 < cLine; omega) hx ?_)
  refine add (s := { s with toks := s.toks + k.draws }) R hx (by show X.A.units + 1 + 8 < cLine; omega) few fun b1 h' L' es' ep' t' hsb hS2 c1 c2 => ?_
  show wpAny _ _ (ret Value.none) _ _ _
  refine wpAny_pure ⟨_, rfl, h L' _ c1 c2 ?_⟩
  refine I.write (e := D) (t' := s.toks + k.draws) (by rw [hD]; trivial) (.inl rfl) (fun c u hc hu' => (hsb.2 c hc).trans hu') ?_ (setKO_ok (SetK0.of hS2))
  obtain ⟨o', ho', _⟩ := hS2.ob
  exact ⟨o', ho'⟩

structure Got (all done L : List (Addr × NK)) : Prop where
  sub : ∀ p ∈ L, p ∈ all
  all : ∀ p ∈ done, p.2 ∈ L.map (·.2)
  nd : (L.map (·.2)).Nodup
theorem Got.add {all done L L' : List (Addr × NK)} {x : Addr × NK} (g : Got all done L) (hx : x ∈ all) (c1 : x.2 ∈ L.map (·.2) → L' = L) (c2 : x.2 ∉ L.map (·.2) → L'.Perm (x :: L)) : Got all (done ++ [x]) L' := by
  by_cases h : x.2 ∈ L.map (·.2)
  · have e := c1 h
    subst e
    exact ⟨g.sub, fun p hp => by
      rcases List.mem_append.mp hp with hp | hp
      · exact g.all p hp
      · rw [List.mem_singleton.mp hp]; exact h, g.nd⟩
  · have pm := c2 h
    exact ⟨fun p hp => by
      rcases List.mem_cons.mp (pm.mem_iff.mp hp) with rfl | hp
      · exact hx
      · exact g.sub p hp, fun p hp => by
      rw [(pm.map (·.2)).mem_iff, List.map_cons]
      rcases List.mem_append.mp hp with hp | hp
      · exact List.mem_cons_of_mem _ (g.all p hp)
      · rw [List.mem_singleton.mp hp]; exact List.mem_cons_self, (pm.map (·.2)).nodup_iff.mpr (List.nodup_cons.mpr ⟨h, g.nd⟩)⟩
abbrev flatK (kss : List (Addr × List (Addr × NK))) : List (Addr × NK) := (kss.map (·.2)).flatten
def tSet2 (X : Cx) (ξ : Xi) (te : TE) : TE := fun σ H Q => te σ H fun v H1 => ∃ (a : Addr) (kss : List (Addr × List (Addr × NK))), v = .ref a ∧ H1 a = some (.tup (kss.map fun p => V.ref p.1)) ∧ (∀ p ∈ kss, H1 p.1 = some (.tup (p.2.map fun q => V.ref q.1))) ∧
  (∀ q ∈ flatK kss, Rep (cx X ξ) H1 (unK q.2) (.ref q.1) [] ∧ q.2.depth ≤ 8) ∧ FewK (flatK kss) ∧
  ∀ D L, H1 D = none → Got (flatK kss) (flatK kss) L → Q (.ref D) (upd H1 D (SetKO X.prog X.w D L))
theorem iter_tup {X : Cx} {tg : Expr} {pins : List (Addr × Obj)} {σ : L2.St} {H1 : Hp} {s1 : Shared} {a : Addr} {xs : List V} (I1 : Inv X pins σ H1 s1) (hq : SqT X.K H1 a xs) :
    wpAny (model X.prog X.w) X.A (pyIter (.ref a)) (PIE X pins σ tg fun J H' => J = Itt X.K a ∧ H' = H1) X.xe s1 := by
  obtain ⟨its, rv, p, hz⟩ := I1.tuple hq
  refine wpAny_pyIter_tuple (show s1.heap.IsTuple a its.toArray from p) ?_
  refine ⟨s1.heap.objs.size, [s1.heap.objs.size], _, _, H1, rfl, I1.kept (t' := s1.toks) fun b o e => Heap.get?_push_of_some _ e, turn_tuple a _, ⟨_, Heap.get?_push_size _ rfl, rfl, rfl⟩, fun b hb => ?_, rfl, rfl⟩
  have e : b = s1.heap.objs.size := by simpa using hb
  subst e
  exact I1.fpOk (Nat.le_refl _) (I1.hok.fresh (Nat.le_refl _))
theorem pe_sc2 {e : Expr} {te : TE} {x0 x1 : Str} {p0 p1 p2 p3 : Pos} {scope : Scope} {own : List (Str × Nat)} {j0 j1 : Nat} (hc : X.calm = true) (hu : X.A.units + 64 < cLine) (hN : X.N.Nodup) (hi : PE X e te) (ok : BlkOk X.N X.env.scope scope own) (h0 : j0 ∈ own.map (·.2)) (h1 : j1 ∈ own.map (·.2)) (hne : j0 ≠ j1) (hlt0 : j0 < X.N.length) (hlt1 : j1 < X.N.length)
    (hg0 : ∀ (s : Shared) (H : Hp) (C : Addr) (cl : List (Str × Addr)) (fp : List Addr), PG (X.blk s H scope (compEnvC scope cl C X.env) fp) (.Name x0 p0) (gName j0))
    (hv0 : ∀ (s : Shared) (H : Hp) (C : Addr) (cl : List (Str × Addr)) (fp : List Addr), PE (X.blk s H scope (compEnvC scope cl C X.env) fp) (.Name x0 p2) (tVar j0))
    (hg1 : ∀ (s : Shared) (H : Hp) (C : Addr) (cl : List (Str × Addr)) (fp : List Addr), PG (X.blk s H scope (compEnvC scope cl C X.env) fp) (.Name x1 p1) (gName j1))
    (hv1 : ∀ (s : Shared) (H : Hp) (C : Addr) (cl : List (Str × Addr)) (fp : List Addr), PE (X.blk s H scope (compEnvC scope cl C X.env) fp) (.Name x1 p3) (tVar j1))
    (hs : ∀ x, foldedSetIterable e X.env x = pure x := by intro _; rfl) :
    PE X (scE (.Name x1 p3) (.Name x0 p0) e (.Name x1 p1) (.Name x0 p2) scope pos) (tSet2 X ξ te) := by
  refine ⟨fun pins s σ H Q I h => ?_⟩
  rw [PpSet.eval_SetComp]
  have hfree : ∀ y ∈ scope.names, y.2 = .free → ∃ c, X.env.cells.lookup y.1 = some c := fun y hy e => by
    rcases ok.free y hy e with k | k
    · exact I.ok.has _ (.inl k)
    · exact I.ok.has _ (.inr k)
  refine wpAny_comprehension_free rfl hs (closure_ok hfree) ok.kind (fun y hy e => by rw [ok.uniq y hy, e])
    (thn (hi.run pins s σ H _ I h) fun xv s1 ⟨x, H2, I1, r1, a, kss, ex, hta, htb, hks, hfew, q⟩ => ?_)
  subst ex
  cases r1
  refine thn (iter_tup (tg := .Name x0 p0) I1 (SqT.of hta)) fun itv s2 h2 => ?_
  obtain ⟨it, fp, tn, J, Hz, e1, I2, T, st2, f2, eJ, eH⟩ := h2
  subst e1 eJ
  subst Hz
  refine PpSet.newSet_ok (newEnv_comp ?_)
  generalize hD : s2.heap.objs.size = D
  have hDn : H2 D = none := I2.hok.fresh (Nat.le_of_eq hD)
  generalize hs3 : ({ s2 with heap := s2.heap.push (setObj0 X.w) } : Shared) = s3
  have h3 : s3.heap = s2.heap.push (setObj0 X.w) := by rw [← hs3]
  have I3 : Inv X pins σ (upd H2 D (SetKO X.prog X.w D [])) s3 := by
    rw [← hs3]
    refine I2.laid (t' := s2.toks) (fun b o e => Heap.get?_push_of_some _ e) (Nat.le_of_eq hD) (setKO_ok (SetK0.of (setK_new ?_)))
    rw [← hD]
    exact Heap.get?_push_size _ rfl
  have sz : ∀ b ∈ fp, b < s2.heap.objs.size := fun b hb => by
    obtain ⟨o, e, _⟩ := T.obj _ _ st2 b hb
    exact Heap.lt_size e
  have f3 : ∀ b ∈ fp, FpOk X pins (upd H2 D (SetKO X.prog X.w D [])) b ∧ b < s3.heap.objs.size := fun b hb => by
    have hlt := sz b hb
    refine ⟨⟨?_, (f2 b hb).2⟩, by rw [h3, Heap.size_push]; exact Nat.lt_succ_of_lt hlt⟩
    rw [upd_ne (by rw [← hD]; exact Nat.ne_of_lt hlt)]
    exact (f2 b hb).1
  have st3 : tn 0 s3.heap := T.keep _ _ _ st2 fun b _ o e => by rw [h3]; exact Heap.get?_push_of_some _ e
  have I4 := block_start I3 ok hN f3
  let H3 : Hp := upd H2 D (SetKO X.prog X.w D [])
  have pg0 := hg0 s3 H3 s3.heap.objs.size (cellsFrom (s3.heap.objs.size + 1) scope.names (cloFrom X.env.cells scope.names [])) fp
  have pv0 := hv0 s3 H3 s3.heap.objs.size (cellsFrom (s3.heap.objs.size + 1) scope.names (cloFrom X.env.cells scope.names [])) fp
  have pg1 := hg1 s3 H3 s3.heap.objs.size (cellsFrom (s3.heap.objs.size + 1) scope.names (cloFrom X.env.cells scope.names [])) fp
  have pv1 := hv1 s3 H3 s3.heap.objs.size (cellsFrom (s3.heap.objs.size + 1) scope.names (cloFrom X.env.cells scope.names [])) fp
  show codeAny _ _ (.compStart (scE (.Name x1 p3) (.Name x0 p0) e (.Name x1 p1) (.Name x0 p2) scope pos) 0 (.ref it) (.ref D) (compEnvC scope (cellsFrom (s3.heap.objs.size + 1) scope.names (cloFrom X.env.cells scope.names [])) s3.heap.objs.size X.env)) (compPost (model X.prog X.w) X.A X.xe none (EP X pins σ Q) (.ref D) s3.heap.objs.size) { s3 with heap := pushCells (s3.heap.push { cls := .type "dict", data := .dict #[] }) scope.names }
  have nfp : ∀ b ∈ fp, H3 b = none := fun b hb => (f3 b hb).1.1
  have I4 : Inv (X.blk s3 H3 scope (compEnvC scope (cellsFrom (s3.heap.objs.size + 1) scope.names (cloFrom X.env.cells scope.names [])) s3.heap.objs.size X.env) fp) [] (wipe σ (own.map (·.2))) H3 { s3 with heap := pushCells (s3.heap.push { cls := .type "dict", data := .dict #[] }) scope.names } := I4
  generalize hce : compEnvC scope (cellsFrom (s3.heap.objs.size + 1) scope.names (cloFrom X.env.cells scope.names [])) s3.heap.objs.size X.env = ce at I4 pg0 pv0 pg1 pv1 ⊢
  have cL : ce.locals = s3.heap.objs.size := by subst hce; rfl
  generalize hs4 : ({ s3 with heap := pushCells (s3.heap.push { cls := .type "dict", data := .dict #[] }) scope.names } : Shared) = s4 at I4 ⊢
  have st4 : tn 0 s4.heap := T.keep _ _ _ st3 fun b _ o e => by rw [← hs4]; exact pushCells_keeps _ _ _ _ (Heap.get?_push_of_some _ e)
  have stat : ∀ {σ' : L2.St} {H' : Hp} {s' : Shared}, Inv (X.blk s3 H3 scope ce fp) [] σ' H' s' → (∀ b ∈ fp, H' b = none) → ∀ b ∈ fp, FpOk (X.blk s3 H3 scope ce fp) [] H' b := fun {σ' H' s'} I' hn b hb =>
    ⟨hn b hb, (I'.ok.exf b hb).1, I'.ok.exfs b hb, .inl hb, fun x c e => (I'.ok.exf b hb).2 x c e, fun p hp => absurd (show p ∈ ([] : List (Addr × Obj)) ++ [] from hp) (by simp)⟩
  -- what a turn leaves: the set alone
  have fps : ∀ L, ∀ b ∈ fp, (upd H2 D (SetKO X.prog X.w D L)) b = none := fun L b hb => by
    rw [upd_ne (by rw [← hD]; exact Nat.ne_of_lt (sz b hb))]
    exact (f2 b hb).1
  have sm : ∀ L, Same H2 (upd H2 D (SetKO X.prog X.w D L)) := fun L => Same.new hDn
  have loop : codeAny (model X.prog X.w) X.A (.compLoop (scE (.Name x1 p3) (.Name x0 p0) e (.Name x1 p1) (.Name x0 p2) scope pos) 0 (.ref it) (.ref D) ce) (compPost (model X.prog X.w) X.A X.xe none (EP X pins σ Q) (.ref D) s3.heap.objs.size) s4 := by
    refine sc2_loop0 (fun x => rfl) (fun n s' => ∃ i L, n = kss.length - i ∧ i ≤ kss.length ∧ Got (flatK kss) (flatK (kss.take i)) L ∧ Inv (X.blk s3 H3 scope ce fp) [] (wipe σ (own.map (·.2))) (upd H2 D (SetKO X.prog X.w D L)) s' ∧ tn i s'.heap) ?_ kss.length
      ⟨0, [], rfl, Nat.zero_le _, ⟨fun p hp => (by cases hp), fun p hp => (by simp [flatK] at hp), List.nodup_nil⟩, I4, st4⟩
    rintro n s5 ⟨i, L, en, hi5, g5, I5, st5⟩
    have hta5 : upd H2 D (SetKO X.prog X.w D L) a = some (.tup (kss.map fun p => V.ref p.1)) := sm L _ _ hta
    by_cases hlt : i < kss.length
    · have ti := T.item (X.blk s3 H3 scope ce fp) rfl rfl rfl hc i [] s5 _ _ (fun _ _ => False) I5 (stat I5 (fps L)) st5 ⟨_, .ref (kss[i]).1, SqT.of hta5, by simp [hlt]⟩
      refine thnF ti fun r s6 ⟨u, hr, h6⟩ => ?_
      subst hr
      refine thnF h6 fun _ s7 ⟨x, H7, I7, r7, y7, st7, n7⟩ => ?_
      obtain ⟨eH, y7⟩ := y7
      subst eH
      have ex : x = .ref (kss[i]).1 := by
        have z := y7 _ (SqT.of hta5)
        simpa [hlt] using z.symm
      subst ex
      have I7' := I7.pinned (stat I7 n7) (T.obj _ _ st7)
      refine thnF (pg0.run _ s7 _ _ _ u (fun σ8 H8 => σ8 = (wipe σ (own.map (·.2))).set j0 (some (.ref (kss[i]).1)) ∧ H8 = upd H2 D (SetKO X.prog X.w D L)) I7' r7 ⟨rfl, rfl⟩) fun _ s8 ⟨σ8, H8, I8, e8, eH8⟩ => ?_
      subst e8 eH8
      have hlw : (wipe σ (own.map (·.2))).length = X.N.length := (wipe_length _ _).trans I.len
      have hget0 : ((wipe σ (own.map (·.2))).set j0 (some (V.ref (kss[i]).1)))[j0]? = some (some (V.ref (kss[i]).1)) := by
        rw [List.getElem?_set_self (by rw [hlw]; exact hlt0)]
      have htb8 : upd H2 D (SetKO X.prog X.w D L) (kss[i]).1 = some (.tup ((kss[i]).2.map fun q => V.ref q.1)) := sm L _ _ (htb _ (List.getElem_mem hlt))
      have hsplit : flatK (kss.take (i + 1)) = flatK (kss.take i) ++ (kss[i]).2 := by
        show ((kss.take (i + 1)).map (·.2)).flatten = _
        rw [List.take_succ_eq_append_getElem hlt, List.map_append, List.flatten_append]
        simp [flatK]
      have hin : ∀ q ∈ (kss[i]).2, q ∈ flatK kss := fun q hq => List.mem_flatten.mpr ⟨_, List.mem_map.mpr ⟨_, List.getElem_mem hlt, rfl⟩, hq⟩
      refine thnF (pv0.run _ s8 _ _ (fun v H' => v = .ref (kss[i]).1 ∧ H' = upd H2 D (SetKO X.prog X.w D L)) I8 ⟨_, hget0, rfl, rfl⟩) fun xv s9 ⟨v9, H9, I9, r9, e9, eH9⟩ => ?_
      subst e9 eH9
      cases r9
      refine thnF (iter_tup (tg := .Name x1 p1) I9 (SqT.of htb8)) fun itv s11 ⟨it1, fp1, tn1, J1, H11, e1, I11, T1, st11, f11, eJ1, eH11⟩ => ?_
      subst e1 eJ1 eH11
      have fps1 : ∀ L', ∀ b ∈ fp1, (upd H2 D (SetKO X.prog X.w D L')) b = none := fun L' b hb => by
        have z := (f11 b hb).1
        have hbD : b ≠ D := fun e => by rw [e, upd_same] at z; cases z
        rw [upd_ne hbD] at z ⊢
        exact z
      have stat1 : ∀ L', ∀ b ∈ fp1, FpOk (X.blk s3 H3 scope ce fp) ([] ++ pinsAt fp s7.heap) (upd H2 D (SetKO X.prog X.w D L')) b := fun L' b hb => ⟨fps1 L' b hb, (f11 b hb).2⟩
      -- the outer turn's end
      have fin : ∀ {s' : Shared} {L' : List (Addr × NK)}, Inv (X.blk s3 H3 scope ce fp) ([] ++ pinsAt fp s7.heap) ((wipe σ (own.map (·.2))).set j0 (some (V.ref (kss[i]).1))) (upd H2 D (SetKO X.prog X.w D L')) s' → Got (flatK kss) (flatK (kss.take (i + 1))) L' →
          ∃ m, m < n ∧ ∃ i L, m = kss.length - i ∧ i ≤ kss.length ∧ Got (flatK kss) (flatK (kss.take i)) L ∧ Inv (X.blk s3 H3 scope ce fp) [] (wipe σ (own.map (·.2))) (upd H2 D (SetKO X.prog X.w D L)) s' ∧ tn i s'.heap := fun {s' L'} I' g' => by
        have pin' : ∀ b ∈ fp, ∀ o, s7.heap.get? b = some o → s'.heap.get? b = some o := fun b hb o e => (I'.pin (b, o) (List.mem_append_right _ (List.mem_append_right _ (mem_pinsAt hb e)))).1
        refine ⟨kss.length - (i + 1), by omega, i + 1, L', rfl, hlt, g', (I'.unpinned (pins := [])).weak (by rw [List.length_set]) (fun j v e => ?_), T.keep _ _ _ st7 fun b hb o e => pin' b hb o e⟩
        have hj : j0 ≠ j := fun z => by subst z; exact (wipe_some e).2 h0
        rw [List.getElem?_set_ne hj]
        exact e
      have loop1 : codeAny (model X.prog X.w) X.A (.compLoop (scE (.Name x1 p3) (.Name x0 p0) e (.Name x1 p1) (.Name x0 p2) scope pos) 1 (.ref it1) (.ref D) ce)
          (fun r s' => match r with
            | .ok _ => ∃ m, m < n ∧ ∃ i L, m = kss.length - i ∧ i ≤ kss.length ∧ Got (flatK kss) (flatK (kss.take i)) L ∧ Inv (X.blk s3 H3 scope ce fp) [] (wipe σ (own.map (·.2))) (upd H2 D (SetKO X.prog X.w D L)) s' ∧ tn i s'.heap
            | .error _ => False) s11 := by
        refine sc2_loop1 (fun k s' => ∃ j L', k = (kss[i]).2.length - j ∧ j ≤ (kss[i]).2.length ∧ Got (flatK kss) (flatK (kss.take i) ++ (kss[i]).2.take j) L' ∧ Inv (X.blk s3 H3 scope ce fp) ([] ++ pinsAt fp s7.heap) ((wipe σ (own.map (·.2))).set j0 (some (V.ref (kss[i]).1))) (upd H2 D (SetKO X.prog X.w D L')) s' ∧ tn1 j s'.heap) ?_ (kss[i]).2.length
          ⟨0, L, rfl, Nat.zero_le _, by simpa using g5, I11, st11⟩
        rintro k s12 ⟨j, L', ek, hj12, g12, I12, st12⟩
        have htb12 : upd H2 D (SetKO X.prog X.w D L') (kss[i]).1 = some (.tup ((kss[i]).2.map fun q => V.ref q.1)) := sm L' _ _ (htb _ (List.getElem_mem hlt))
        by_cases hlj : j < (kss[i]).2.length
        · refine thnF (T1.item (X.blk s3 H3 scope ce fp) rfl rfl rfl hc j _ s12 _ _ (fun _ _ => False) I12 (stat1 L') st12 ⟨_, .ref ((kss[i]).2[j]).1, SqT.of htb12, by simp [hlj]⟩) fun r s13 ⟨u1, hr, h13⟩ => ?_
          subst hr
          refine thnF h13 fun _ s14 ⟨y, H14, I14, r14, y14, st14, n14⟩ => ?_
          obtain ⟨eH14, y14⟩ := y14
          subst eH14
          have ey : y = .ref ((kss[i]).2[j]).1 := by
            have z := y14 _ (SqT.of htb12)
            simpa [hlj] using z.symm
          subst ey
          have I14' := I14.pinned (stat1 L') (T1.obj _ _ st14)
          refine thnF (pg1.run _ s14 _ _ _ u1 (fun σ8 H8 => σ8 = ((wipe σ (own.map (·.2))).set j0 (some (V.ref (kss[i]).1))).set j1 (some (.ref ((kss[i]).2[j]).1)) ∧ H8 = upd H2 D (SetKO X.prog X.w D L')) I14' r14 ⟨rfl, rfl⟩) fun _ s15 ⟨σ15, H15, I15, e15, eH15⟩ => ?_
          subst e15 eH15
          refine thnF (pv1.run _ s15 _ _ (fun v H' => v = .ref ((kss[i]).2[j]).1 ∧ H' = upd H2 D (SetKO X.prog X.w D L')) I15 ⟨_, ?_, rfl, rfl⟩) fun z s16 ⟨v16, H16, I16, r16, e16, eH16⟩ => ?_
          · rw [List.getElem?_set_self (by rw [List.length_set, hlw]; exact hlt1)]
          subst e16 eH16
          cases r16
          have hmem : (kss[i]).2[j] ∈ flatK kss := hin _ (List.getElem_mem hlj)
          have isk : ∀ q ∈ flatK kss, IsK s16.heap q.2 q.1 := fun q hq => ⟨(nest_of (X := X.blk s3 H3 scope ce fp) (ξ := ξ) I16 q.2 (.ref q.1) (.ref q.1) [] ((hks q hq).1.same (sm L')) rfl).1, (hks q hq).2⟩
          refine addK_ok (X := X.blk s3 H3 scope ce fp) hu I16 upd_same (fun p hp => isk p (g12.sub p hp)) (isk _ hmem) (fun hx => ?_) fun L2 s17 c1 c2 I17 => ?_
          · have z := hfew (((kss[i]).2[j]).2 :: L'.map (·.2)) (List.nodup_cons.mpr ⟨hx, g12.nd⟩) (fun k hk => by
              rcases List.mem_cons.mp hk with rfl | hk
              · exact List.mem_map.mpr ⟨_, hmem, rfl⟩
              · obtain ⟨p, hp, rfl⟩ := List.mem_map.mp hk
                exact List.mem_map.mpr ⟨_, g12.sub p hp, rfl⟩)
            simpa using z
          · have I17' : Inv (X.blk s3 H3 scope ce fp) (([] ++ pinsAt fp s7.heap) ++ pinsAt fp1 s14.heap) (((wipe σ (own.map (·.2))).set j0 (some (V.ref (kss[i]).1))).set j1 (some (.ref ((kss[i]).2[j]).1))) (upd H2 D (SetKO X.prog X.w D L2)) s17 := by
              have z := I17
              rw [upd_upd] at z
              exact z
            have pin' : ∀ b ∈ fp1, ∀ o, s14.heap.get? b = some o → s17.heap.get? b = some o := fun b hb o e => (I17'.pin (b, o) (List.mem_append_right _ (List.mem_append_right _ (mem_pinsAt hb e)))).1
            refine ⟨(kss[i]).2.length - (j + 1), by omega, j + 1, L2, rfl, hlj, ?_, I17'.unpinned.weak (by simp only [List.length_set]) (fun j' v e => ?_), T1.keep _ _ _ st14 fun b hb o e => pin' b hb o e⟩
            · rw [List.take_succ_eq_append_getElem hlj, ← List.append_assoc]
              exact g12.add hmem c1 c2
            · have hj : j1 ≠ j' := fun z => by
                subst z
                rw [List.getElem?_set_ne hne] at e
                exact (wipe_some e).2 h1
              rw [List.getElem?_set_ne hj]
              exact e
        · have ej : j = (kss[i]).2.length := by omega
          subst ej
          refine thnF (T1.done (X.blk s3 H3 scope ce fp) rfl rfl rfl hc _ _ s12 _ _ (fun _ _ => False) I12 (stat1 L') st12 ⟨_, SqT.of htb12, by simp⟩) fun r s13 ⟨hr, I13⟩ => ?_
          subst hr
          rw [List.take_length] at g12
          exact fin I13 (by rw [hsplit]; exact g12)
      exact sc2_start1 loop1 (T1.self X.A 0 _ _ _ st11 loop1)
    · have ei : i = kss.length := by omega
      subst ei
      refine thnF (T.done (X.blk s3 H3 scope ce fp) rfl rfl rfl hc _ [] s5 _ _ (fun _ _ => False) I5 (stat I5 (fps L)) st5 ⟨_, SqT.of hta5, by simp⟩) fun r s6 ⟨hr, I6⟩ => ?_
      subst hr
      have I7 : Inv X pins σ (upd H2 D (SetKO X.prog X.w D L)) s6 := I3.call' (ch := fp) I6.os I6.base I6.hok I6.bare fun b hb => ⟨(f3 b hb).1.2.2.2.1, (f3 b hb).1.2.1, (f3 b hb).1.2.2.2.2.1, (f3 b hb).1.2.2.2.2.2⟩
      have nC : upd H2 D (SetKO X.prog X.w D L) s3.heap.objs.size = none := by
        have z : upd H2 D (SetKO X.prog X.w D L) ce.locals = none := I6.free
        rw [cL] at z
        exact z
      obtain ⟨m, hn, _⟩ := I6.loc
      have hn : s6.heap.Ns ce.locals m := hn
      rw [cL] at hn
      rw [List.take_length] at g5
      refine ⟨m, hn, fun h'' sb => ?_⟩
      obtain ⟨f0, f1, f2, f3, f4, f5⟩ := I3.fpOk (Nat.le_refl _) nC
      exact ⟨.ref D, _, I7.turned (t' := s6.toks) (fun b o hb e => (sb.2 b hb).trans e) f0 f1 f3 f4 f5, rfl, q D L hDn g5⟩
  exact PpSet.codeAny_compStart_set loop (T.self X.A 0 _ _ _ st4 loop)

/-! ### over data -/
/-- the members of the members -/
def flatD : List D → Option (List (List NK))
  | [] => some []
  | .tup l :: ds => match keyAll l, flatD ds with
    | some ks, some kss => some (ks :: kss)
    | _, _ => none
  | _ :: _ => none
open Classical in
noncomputable def dSortSet2 : D → Option D
  | .tup l => match flatD l with
    | some kss => if FitK kss.flatten ∧ FewD kss.flatten then some (.lst ((sortK kss.flatten).map unK)) else none
    | none => none
  | _ => none
theorem reps_flat : ∀ {ds : List D} {kss : List (List NK)} {vs : List V} {f : List Addr}, flatD ds = some kss → (∀ k ∈ kss.flatten, ∃ x r, k = .tup (x :: r)) → Reps (cx X ξ) H ds vs f →
    ∃ L : List (Addr × List (Addr × NK)), vs = L.map (fun p => V.ref p.1) ∧ (flatK L).map (·.2) = kss.flatten ∧ (∀ p ∈ L, H p.1 = some (.tup (p.2.map fun q => V.ref q.1))) ∧ ∀ q ∈ flatK L, Rep (cx X ξ) H (unK q.2) (.ref q.1) []
  | [], kss, vs, f, e, _, h => by
    cases e
    obtain ⟨rfl, _⟩ := h
    exact ⟨[], rfl, rfl, fun p hp => (by cases hp), fun q hq => (by simp [flatK] at hq)⟩
  | d :: ds, kss, vs, f, e, ht, h => by
    cases d with
    | tup l =>
      unfold flatD at e
      split at e
      · rename_i ks kss' e1 e2
        cases e
        have el := un_keyAll e1
        subst el
        obtain ⟨v, vs', f1, f2, rfl, r1, r2, _⟩ := h
        obtain ⟨b, ws, rfl, q1, rs⟩ := r1
        obtain ⟨prs, rfl, ek, er⟩ := reps_keys (fun k hk => ht k (by rw [List.flatten_cons]; exact List.mem_append_left _ hk)) rs
        obtain ⟨L, rfl, e3, e4, e5⟩ := reps_flat e2 (fun k hk => ht k (by rw [List.flatten_cons]; exact List.mem_append_right _ hk)) r2
        refine ⟨(b, prs) :: L, rfl, ?_, fun p hp => ?_, fun q hq => ?_⟩
        · show ((prs :: L.map (·.2)).flatten).map (·.2) = _
          rw [List.flatten_cons, List.map_append, ek, List.flatten_cons]
          exact congrArg _ e3
        · rcases List.mem_cons.mp hp with rfl | hp
          · exact q1
          · exact e4 p hp
        · rcases List.mem_append.mp (show q ∈ prs ++ flatK L from by simpa [flatK] using hq) with hq | hq
          · exact er q hq
          · exact e5 q hq
      · cases e
    | _ => cases e
theorem p_sortSet2 {e : Expr} {m : MP} {f1 : Bool} {x0 x1 : Str} {p0 p1 p2 p3 p4 p5 : Pos} {scope : Scope} {own : List (Str × Nat)} {j0 j1 : Nat} (hc : X.calm = true) (hu : X.A.units + 64 < cLine) (hN : X.N.Nodup) (hsrt : X.mg "sorted" = none) (h : DP X ξ f1 e m) (ok : BlkOk X.N X.env.scope scope own)
    (hg0 : ∀ (s : Shared) (H : Hp) (C : Addr) (cl : List (Str × Addr)) (fp : List Addr), PG (X.blk s H scope (compEnvC scope cl C X.env) fp) (.Name x0 p0) (gName j0))
    (hv0 : ∀ (s : Shared) (H : Hp) (C : Addr) (cl : List (Str × Addr)) (fp : List Addr), PE (X.blk s H scope (compEnvC scope cl C X.env) fp) (.Name x0 p2) (tVar j0))
    (hg1 : ∀ (s : Shared) (H : Hp) (C : Addr) (cl : List (Str × Addr)) (fp : List Addr), PG (X.blk s H scope (compEnvC scope cl C X.env) fp) (.Name x1 p1) (gName j1))
    (hv1 : ∀ (s : Shared) (H : Hp) (C : Addr) (cl : List (Str × Addr)) (fp : List Addr), PE (X.blk s H scope (compEnvC scope cl C X.env) fp) (.Name x1 p3) (tVar j1))
    (h0 : j0 ∈ own.map (·.2) := by decide) (h1 : j1 ∈ own.map (·.2) := by decide) (hne : j0 ≠ j1 := by decide) (hlt0 : j0 < X.N.length := by exact Nat.lt_of_sub_pos (Nat.zero_lt_of_ne_zero (by intro z; cases z))) (hlt1 : j1 < X.N.length := by exact Nat.lt_of_sub_pos (Nat.zero_lt_of_ne_zero (by intro z; cases z)))
    (hs : ∀ x, foldedSetIterable e X.env x = pure x := by intro _; rfl) (hgs : Gl X "sorted" := by rfl) (hv2 : bootBuiltins "sorted" = some (.builtin "sorted") := by first | rfl | decide +kernel)
    (he2 : starEach [scE (.Name x1 p3) (.Name x0 p0) e (.Name x1 p1) (.Name x0 p2) scope p4] X.env = (false, eval (scE (.Name x1 p3) (.Name x0 p0) e (.Name x1 p1) (.Name x0 p2) scope p4) X.env) :: starEach [] X.env := by rfl) :
    DP X ξ true (.Call (.Name "sorted" p5) [scE (.Name x1 p3) (.Name x0 p0) e (.Name x1 p1) (.Name x0 p2) scope p4] [] pos) (mUnP dSortSet2 m) :=
  (pe_callB (cr_sortedK (ξ := ξ) hc hu) hgs hsrt hv2 (pa_cons (pe_sc2 (ξ := ξ) hc hu hN h ok h0 h1 hne hlt0 hlt1 hg0 hv0 hg1 hv1 hs) pa_nil he2) (he := he2)).imp fun σ H Q ⟨env, f, he, nd, d, ed, kk⟩ => by
    obtain ⟨x, e1, e2⟩ := mUnP_some ed
    refine ⟨env, f, he, nd, x, e1, fun v H1 g s1 rv ng fo => ?_⟩
    unfold dSortSet2 at e2
    split at e2
    · rename_i l
      split at e2
      · rename_i kss ek
        split at e2
        · rename_i hcnd
          obtain ⟨F, few⟩ := hcnd
          cases e2
          obtain ⟨av, vs, rfl, q, rs⟩ := rv
          obtain ⟨KS, rfl, ek2, q2, er⟩ := reps_flat ek F.tup rs
          have mk : ∀ p ∈ flatK KS, p.2 ∈ kss.flatten := fun p hp => by rw [← ek2]; exact List.mem_map.mpr ⟨p, hp, rfl⟩
          refine ⟨av, KS, rfl, q, q2, fun p hp => ⟨er p hp, F.d1 _ (mk p hp)⟩, fun l hn hl => few l hn fun k hk => by rw [← ek2]; exact hl k hk, fun a L hn G => ?_⟩
          have sm : Same H1 (upd H1 a (SetKO X.prog X.w a L)) := Same.new hn
          have mL : ∀ p ∈ L, p.2 ∈ kss.flatten := fun p hp => mk p (G.sub p hp)
          have F2 : FitK (L.map (·.2)) := ⟨fun k hk k' hk' => by
            obtain ⟨p, hp, rfl⟩ := List.mem_map.mp hk
            obtain ⟨p', hp', rfl⟩ := List.mem_map.mp hk'
            exact F.al _ (mL p hp) _ (mL p' hp'), fun k hk => by
            obtain ⟨p, hp, rfl⟩ := List.mem_map.mp hk
            exact F.tup _ (mL p hp), fun k hk => by
            obtain ⟨p, hp, rfl⟩ := List.mem_map.mp hk
            exact F.d1 _ (mL p hp), fun k hk => by
            obtain ⟨p, hp, rfl⟩ := List.mem_map.mp hk
            exact F.d2 _ (mL p hp)⟩
          refine ⟨a, L, rfl, upd_same, fun p hp => (er p (G.sub p hp)).same sm, F2, fun L1 p pm hpn hnd2 => ?_⟩
          have reL : ∀ q ∈ L1.mergeSort (dataLe false fun q => q.2.data), Rep (cx X ξ) (upd H1 a (SetKO X.prog X.w a L)) (unK q.2) (.ref q.1) [] := fun q hq =>
            (er q (G.sub q (pm.mem_iff.mp ((List.mergeSort_perm _ _).mem_iff.mp hq)))).same sm
          have rL := prs_reps (L1.mergeSort (dataLe false fun q => q.2.data)) reL
          have eS : (L1.mergeSort (dataLe false fun q => q.2.data)).map (·.2) = sortK kss.flatten := by
            have e3 : (L1.mergeSort (dataLe false fun q => q.2.data)).map (·.2) = (L1.map (·.2)).mergeSort leK := List.map_mergeSort fun x _ y _ => rfl
            rw [e3]
            refine sortK_of F.al ((pm.map (·.2)).nodup_iff.mpr hnd2) fun k => ?_
            rw [(pm.map (·.2)).mem_iff]
            constructor
            · intro hk
              obtain ⟨p, hp, rfl⟩ := List.mem_map.mp hk
              exact mL p hp
            · intro hk
              rw [← ek2] at hk
              obtain ⟨p, hp, rfl⟩ := List.mem_map.mp hk
              exact G.all p hp
          rw [eS] at rL
          exact giveL rL hpn fun z H' g' s' r' n' f' => kk z H' g' ((s1.trans sm).trans s') r' n' fun b hb => .inl ((s1.trans sm).free (f' b hb))
        · cases e2
      · cases e2
    · cases e2
end
end DL
set_option maxHeartbeats 1000000
/-! DL25: sorted(set(xs)), xs a list. -/
namespace DLS
open PySem PySem.Spec PyProof.Rows L2
open SeqAt
section
variable {P : Program} {w : World} {A : Around} {E : Value → Shared → Prop} {s : Shared}
/-- set(xs), xs a list of nested tuples -/
theorem call_set_lst {l : Addr} {items : Array Value} (ks : List (Addr × NK)) {Q : Value → Shared → Prop} (hh : A.handled = none) (hl : s.heap.IsList l items) (hit : items.toList = ks.map fun p => Value.ref p.1)
    (hk : ∀ p ∈ ks, IsK s.heap p.2 p.1) (hfew : FewK ks) (hu : A.units + 11 < cLine)
    (h : ∀ (h' : Heap) (tk : Nat) L es ep t, SetK P w h' s.heap.objs.size L es ep t → Gt ks ks.length L → (∀ b o, s.heap.get? b = some o → h'.get? b = some o) → Q (.ref s.heap.objs.size) { s with heap := h', toks := tk }) :
    wpAny (model P w) A (call (.type "set") [.ref l]) Q E s := by
  have hisz : items.size = ks.length := by
    have q := congrArg List.length hit
    rw [Array.length_toList, List.length_map] at q
    exact q
  obtain ⟨c, tl, hmro⟩ := F.called_set.mro
  have hmade := F.called_set.made
  have hsub := F.called_set.sub
  refine wpAny_call (codeAny_of_tree ?_)
  show wpAny _ _ (callAny (.type "set") _) _ _ _
  refine wpAny_pure ⟨Code.quiet_builtin _ (by decide +kernel), codeAny_builtin F.entry_type_call ?_⟩
  rw [Around.under_plain (weight_type_call_type "set" [.ref l] []) rfl]
  have h1 := F.called_set.notType
  have h2 := F.called_set.canCreate
  have hct := F.typeCall_set_1 (.ref l)
  repeat (any_goals (first | assumption | wp_step))
  refine codeAny_mono (code_set_led1 (.ref l) (E := E) (Q₁ := fun obj s₁ => obj = .ref s.heap.objs.size ∧ s₁ = { s with heap := s.heap.push (setObj0 w) }) ⟨rfl, rfl⟩) fun r s₁ hr => ?_
  cases r with
  | error e => exact hr
  | ok fl =>
    cases fl with
    | ret obj =>
      obtain ⟨rfl, rfl⟩ := hr
      have hS : (s.heap.push (setObj0 w)).get? s.heap.objs.size = some (setObj0 w) := Heap.get?_push_size _ rfl
      have hT : Shared.TypeIs { s with heap := s.heap.push (setObj0 w) } (.ref s.heap.objs.size) "set" := ⟨_, hS, rfl⟩
      have hli := F.called_set.init.lookup
      have hbi := F.called_set.init.bind (.ref s.heap.objs.size)
      repeat (any_goals (first | assumption | wp_step))
      refine codeAny_mono (codeAny_call_builtin (R := wants (fun r s₂ => r = .none ∧ ∃ h' tk L es ep t, s₂ = { s with heap := h', toks := tk } ∧ SetK P w h' s.heap.objs.size L es ep t ∧ Gt ks ks.length L ∧
          (∀ b o, s.heap.get? b = some o → h'.get? b = some o)) E) F.called_set.init.plain F.entry_set_init (check_set_init_1 hT ?_)) fun r₂ s₂ hr₂ => ?_
      · obtain ⟨ol, hol, hcl, nl, hdl⟩ := hl
        obtain ⟨ocls, odict, odata, oslots⟩ := ol
        simp only at hcl hdl
        subst hcl; subst hdl
        have hol' : (s.heap.push (setObj0 w)).get? l = some { cls := .type "list", dict := odict, data := .seq items nl, slots := oslots } := Heap.get?_push_of_some _ hol
        have hsls := F.sub_list_set
        have hslf := F.sub_list_frozenset
        have hne : (Value.type "list" == Value.type "dict") = false := by decide
        have hl1 : (s.heap.push (setObj0 w)).IsList l items := ⟨_, hol', rfl, nl, rfl⟩
        unfold Builtin.«set.__init__» noKeywords Builtin.Frozenset.updateFrom
        generalize hPI : pyIter = PI
        wp_walk
        subst hPI
        refine wpAny_pyIter_list hl1 ?_
        refine wpAny_bind (wpAny_runValue ?_)
        have hlS : l < s.heap.objs.size := Heap.lt_size hol
        have hh3 : A.in1.in1.in1.handled = none := by simp [hh]
        have hz1 : (s.heap.push (setObj0 w)).objs.size = s.heap.objs.size + 1 := Heap.size_push ..
        have hneI : l ≠ (s.heap.push (setObj0 w)).objs.size := by
          rw [Heap.size_push]; exact Nat.ne_of_lt (Nat.lt_succ_of_lt hlS)
        have hSf : s.heap.objs.size ∉ [(s.heap.push (setObj0 w)).objs.size, l] := by
          rw [Heap.size_push]; simp only [List.mem_cons, List.mem_singleton, List.not_mem_nil, or_false, not_or]
          exact ⟨Nat.ne_of_lt (Nat.lt_succ_self _), Nat.ne_of_gt hlS⟩
        have hval : ∀ (i : Nat) (v : Value), items[i]? = some v → ∃ p, ks[i]? = some p ∧ v = .ref p.1 := fun i v hv => by
          have q : items.toList[i]? = some v := by rw [Array.getElem?_toList]; exact hv
          rw [hit, List.getElem?_map] at q
          cases hq : ks[i]? with
          | none => rw [hq] at q; cases q
          | some p =>
            rw [hq] at q
            exact ⟨p, rfl, (Option.some.inj q).symm⟩
        have none_of : ∀ b, s.heap.objs.size ≤ b → s.heap.get? b = none := fun b hb => by
          cases q : s.heap.get? b with
          | none => rfl
          | some o => exact absurd (Nat.lt_of_lt_of_le (Heap.lt_size q) hb) (Nat.lt_irrefl _)
        refine update_loop ((Walks.list hh3 _ l hneI items).toS) s.heap.objs.size
          hSf ks hisz hfew hval s.heap hk (none_of _ (Nat.le_refl _)) (fun b hb => none_of b (by
            rw [List.mem_singleton.mp hb, Heap.size_push]
            exact Nat.le_succ _)) (by show A.units + 3 + 8 < cLine; omega) (items.size - 0) 0 _ (by omega) (Nat.zero_le _)
          ⟨⟨_, Heap.get?_push_size _ rfl, rfl, rfl⟩, (hl1.push _)⟩ (fun b o e => Heap.get?_push_of_some _ (Heap.get?_push_of_some _ e)) ?hS0 ?hR
        case hS0 =>
          have hget : ((s.heap.push (setObj0 w)).push { cls := .type "list_iterator", data := .fields #[.ref l, .int 0 0] }).get? s.heap.objs.size = some (setObj0 w) := Heap.get?_push_of_some _ hS
          exact ⟨[], #[], 0, _, setK_new hget, Gt.zero ks⟩
        case hR =>
          intro s' L es ep t hm hS' g' hkp
          obtain ⟨h', g2, d', tk', os'⟩ := s'
          have eg : g2 = s.gens := hm.gens
          have ed : d' = s.drawn := hm.drawn
          have eo : os' = s.os := hm.os
          subst eg; subst ed; subst eo
          show wpAny _ _ _ _ _ _
          refine wpAny_pure ?_
          show wpAny _ _ (ret Value.none) _ _ _
          rw [hisz] at g'
          exact wpAny_pure ⟨rfl, h', tk', L, es, ep, t, rfl, hS', g', hkp⟩
      · cases r₂ with
        | error e => exact hr₂
        | ok fl₂ =>
          cases fl₂ with
          | ret r =>
            obtain ⟨rfl, h', tk, L, es, ep, t, rfl, hS', g', hk'⟩ := hr₂
            repeat (any_goals (first | assumption | wp_step))
            exact h _ _ _ _ _ _ hS' g' hk'
          | _ => exact hr₂.elim
    | _ => exact hr.elim
end
end DLS
namespace DL
open PySem PySem.Spec PyProof.Rows L2 DLS
open LamX (Tabs TabS CodeO)
open PySem.W (AllAlike Sortable EachIs dataLe dataLt alike alikeAll keyToks keyToksAll)
section
variable {c : Cf} {W : WX} {κ : List Nat} {X : Cx} {ξ : Xi} {pos : Pos} {H : Hp}
def rSetOfKL (X : Cx) (ξ : Xi) : List V → Hp → VK → Prop := fun xs H Q => ∃ (l : Addr) (ks : List (Addr × NK)), xs = [V.ref l] ∧ SqL X.K H l (ks.map fun p => V.ref p.1) ∧ (∀ p ∈ ks, Rep (cx X ξ) H (unK p.2) (.ref p.1) []) ∧ (∀ p ∈ ks, p.2.depth ≤ 8) ∧ FewK ks ∧
  ∀ a L, H a = none → (∀ p ∈ L, p ∈ ks) → (∀ p ∈ ks, p.2 ∈ L.map (·.2)) → (L.map (·.2)).Nodup → Q (.ref a) (upd H a (SetKO X.prog X.w a L))
theorem cr_setOfKL (hc : X.calm = true) (hu : X.A.units + 64 < cLine) : CallR X (.type "set") (rSetOfKL X ξ) := by
  intro pins s σ H xs us Q I r h
  obtain ⟨l, ks, rfl, hl, hk, hd, hf, q⟩ := h
  rw [Vals.ref1 r]
  obtain ⟨its, rv, pl, hz⟩ := I.list hl
  have hn : H s.heap.objs.size = none := I.hok.fresh (Nat.le_refl _)
  have ei : its = ks.map fun p => Value.ref p.1 := refs_vals rv
  refine call_set_lst (P := X.prog) (w := X.w) ks (I.ok.hd hc) pl.isList (by simpa using ei) (fun p hp => ⟨(nest_of I p.2 _ _ [] (hk p hp) rfl).1, hd p hp⟩) hf (by omega) fun h' tk L es ep t R g k => ?_
  refine ⟨.ref s.heap.objs.size, upd H s.heap.objs.size (SetKO X.prog X.w s.heap.objs.size L), I.laid (t' := tk) k (Nat.le_refl _) (setKO_ok (SetK0.of R)), rfl, q _ L hn (fun p hp => ?_) (fun p hp => ?_) R.nd⟩
  · exact List.mem_of_mem_take (g.sub p hp)
  · exact g.all p (by rw [List.take_length]; exact hp)
open Classical in
noncomputable def dSortSetL : D → Option D
  | .lst l => match keyAll l with
    | some ks => if FitK ks ∧ FewD ks then some (.lst ((sortK ks).map unK)) else none
    | none => none
  | _ => none
theorem p_sortSetL {a : Expr} {m : MP} {f1 : Bool} {p1 p2 p3 : Pos} (hc : X.calm = true) (hu : X.A.units + 64 < cLine) (hs : X.mg "sorted" = none) (ht : X.mg "set" = none) (h : DP X ξ f1 a m) (hgs : Gl X "sorted" := by rfl) (hgt : Gl X "set" := by rfl)
    (hv1 : bootBuiltins "set" = some (.type "set") := by first | rfl | decide +kernel) (hv2 : bootBuiltins "sorted" = some (.builtin "sorted") := by first | rfl | decide +kernel)
    (he1 : starEach [a] X.env = (false, eval a X.env) :: starEach [] X.env := by rfl) (he2 : starEach [.Call (.Name "set" p1) [a] [] p2] X.env = (false, eval (.Call (.Name "set" p1) [a] [] p2) X.env) :: starEach [] X.env := by rfl) :
    DP X ξ true (.Call (.Name "sorted" p3) [.Call (.Name "set" p1) [a] [] p2] [] pos) (mUnP dSortSetL m) :=
  (pe_callB (cr_sortedK hc hu) hgs hs hv2 (pa_cons (pe_callTy (cr_setOfKL (ξ := ξ) hc hu) hgt ht hv1 (pa_cons h pa_nil he1) (he := he1)) pa_nil he2) (he := he2)).imp fun σ H Q ⟨env, f, he, nd, d, ed, kk⟩ => by
    obtain ⟨x, e1, e2⟩ := mUnP_some ed
    refine ⟨env, f, he, nd, x, e1, fun v H1 g s1 rv ng fo => ?_⟩
    unfold dSortSetL at e2
    split at e2
    · rename_i l
      split at e2
      · rename_i ks ek
        split at e2
        · rename_i hcnd
          obtain ⟨F, few⟩ := hcnd
          cases e2
          obtain ⟨av, vs, g', rfl, q, rs, _⟩ := rv
          have el := un_keyAll ek
          subst el
          obtain ⟨prs, rfl, ek2, er⟩ := reps_keys F.tup rs
          have mk : ∀ p ∈ prs, p.2 ∈ ks := fun p hp => by rw [← ek2]; exact List.mem_map.mpr ⟨p, hp, rfl⟩
          refine ⟨av, prs, rfl, SqL.of q, er, fun p hp => F.d1 _ (mk p hp), fun l hn hl => few l hn fun k hk => by rw [← ek2]; exact hl k hk, fun a L hn hsub hall hnd => ?_⟩
          have sm : Same H1 (upd H1 a (SetKO X.prog X.w a L)) := Same.new hn
          have mL : ∀ p ∈ L, p.2 ∈ ks := fun p hp => mk p (hsub p hp)
          have F2 : FitK (L.map (·.2)) := ⟨fun k hk k' hk' => by
            obtain ⟨p, hp, rfl⟩ := List.mem_map.mp hk
            obtain ⟨p', hp', rfl⟩ := List.mem_map.mp hk'
            exact F.al _ (mL p hp) _ (mL p' hp'), fun k hk => by
            obtain ⟨p, hp, rfl⟩ := List.mem_map.mp hk
            exact F.tup _ (mL p hp), fun k hk => by
            obtain ⟨p, hp, rfl⟩ := List.mem_map.mp hk
            exact F.d1 _ (mL p hp), fun k hk => by
            obtain ⟨p, hp, rfl⟩ := List.mem_map.mp hk
            exact F.d2 _ (mL p hp)⟩
          refine ⟨a, L, rfl, upd_same, fun p hp => (er p (hsub p hp)).same sm, F2, fun L1 p pm hpn hnd2 => ?_⟩
          have reL : ∀ q ∈ L1.mergeSort (dataLe false fun q => q.2.data), Rep (cx X ξ) (upd H1 a (SetKO X.prog X.w a L)) (unK q.2) (.ref q.1) [] := fun q hq =>
            (er q (hsub q (pm.mem_iff.mp ((List.mergeSort_perm _ _).mem_iff.mp hq)))).same sm
          have rL := prs_reps (L1.mergeSort (dataLe false fun q => q.2.data)) reL
          have eS : (L1.mergeSort (dataLe false fun q => q.2.data)).map (·.2) = sortK ks := by
            have e3 : (L1.mergeSort (dataLe false fun q => q.2.data)).map (·.2) = (L1.map (·.2)).mergeSort leK := List.map_mergeSort fun x _ y _ => rfl
            rw [e3]
            refine sortK_of F.al ((pm.map (·.2)).nodup_iff.mpr hnd) fun k => ?_
            rw [(pm.map (·.2)).mem_iff]
            constructor
            · intro hk
              obtain ⟨p, hp, rfl⟩ := List.mem_map.mp hk
              exact mL p hp
            · intro hk
              rw [← ek2] at hk
              obtain ⟨p, hp, rfl⟩ := List.mem_map.mp hk
              exact hall p hp
          rw [eS] at rL
          exact giveL rL hpn fun z H' g' s' r' n' f' => kk z H' g' ((s1.trans sm).trans s') r' n' fun b hb => .inl ((s1.trans sm).free (f' b hb))
        · cases e2
      · cases e2
    · cases e2
end
end DL
set_option maxHeartbeats 4000000
/-! DX1: facts of exception classes off the head; a law's end over data. -/
namespace DL
open PySem PySem.Spec PyProof.Rows L2
open LamX (Tabs TabS CodeO)
def oexIn (K : PySem.W.Frag) (C : Addr) : Bool := match K.lookup C with
  | some ⟨.type "type", _, .cls cd, sl⟩ => (match cd.mro, sl.toList with
    | .ref C' :: bm, [_, _, _, _, some (.builtin n), _] => C' == C && (n == "ValueError.__new__" && (!cd.hasDel && (cd.hasDict && PySem.HandSPX.refsVE bm)))
    | _, _ => false)
  | _ => false
theorem oexIn_ok {K : PySem.W.Frag} {C : Addr} (q : oexIn K C = true) : ∃ nm qn N bs bm sn sub ab col dd k0 k1 k2 k3 k5, K.lookup C = some (excClassObj nm qn C N bs bm true sn sub ab col dd k0 k1 k2 k3 k5 "ValueError.__new__") ∧ PySem.HandSPX.refsVE bm = true := by
  unfold oexIn at q
  split at q
  · rename_i dd cd sl ho
    split at q
    · rename_i C' bm k0 k1 k2 k3 n k5 hm hs
      simp only [Bool.and_eq_true, beq_iff_eq, Bool.not_eq_true'] at q
      obtain ⟨rfl, rfl, hdel, hdic, ht⟩ := q
      obtain ⟨nm, bs, mro, ns, qn, hd, sn, sub, ab, col, del⟩ := cd
      dsimp only at hm hdel hdic
      subst hm hdel hdic
      have hsl : sl = #[k0, k1, k2, k3, some (.builtin "ValueError.__new__"), k5] := by
        obtain ⟨l⟩ := sl
        simp only at hs
        rw [hs]
      subst hsl
      exact ⟨nm, qn, ns, bs, bm, sn, sub, ab, col, dd, k0, k1, k2, k3, k5, ho, ht⟩
    · cases q
  · cases q
/-- all that is asked of an exception class of the module with an __init__ of its own -/
def excB (K : PySem.W.Frag) (x : Str) (fs : List Str) : Bool :=
  oexIn K (He.ga K x) && (He.eqO (PySem.W.findIn K (.ref (He.ga K x)) "__setattr__") (some (some (.builtin "object.__setattr__"))) && (decide (PySem.W.subIn K (.ref (He.ga K x)) (.type "BaseException") = some true) &&
  (decide (PySem.W.typeIn K (.ref (He.ga K x)) = some (.type "type")) && (PySem.W.keepIn K (.ref (He.ga K x)) && (xfB K (He.ga K x) && ((PySem.W.clsIn K (He.ga K x)).isSome &&
  (He.eqO (PySem.W.findIn K (.ref (He.ga K x)) "__class__") (some (some (.builtin "object.__class__"))) && (He.eqO (PySem.W.specialIn K (.builtin "object.__class__") "__get__") (some (some (.builtin "getset_descriptor.__get__"))) &&
  (decide (PySem.W.takesIn K (.builtin "object.__class__") = some true) && (decide (PySem.W.mroIn K (He.ga K x) (.type "object") = some true) &&
  (He.eqO (PySem.W.findIn K (.ref (He.ga K x)) "__init__") (some (some (.ref (He.ma K (He.ga K x) "__init__")))) && (decide (PySem.W.typeIn K (.ref (He.ma K (He.ga K x) "__init__")) = some (.type "function")) &&
  fs.all fun f => He.eqO (PySem.W.findIn K (.ref (He.ga K x)) f) (some none)))))))))))))
structure ExcA (K : PySem.W.Frag) (x : Str) (fs : List Str) : Prop where
  T : OexC K (He.ga K x)
  xf : XfC K (He.ga K x)
  ef : ExcF K (He.ga K x)
  ini : PySem.W.findIn K (.ref (He.ga K x)) "__init__" = some (some (.ref (He.ma K (He.ga K x) "__init__")))
  tI : PySem.W.typeIn K (.ref (He.ma K (He.ga K x) "__init__")) = some (.type "function")
  fs : ∀ f ∈ fs, PySem.W.findIn K (.ref (He.ga K x)) f = some none
theorem excB_ok {K : PySem.W.Frag} {x : Str} {fs : List Str} (h : excB K x fs = true) : ExcA K x fs := by
  unfold excB at h
  simp only [Bool.and_eq_true, decide_eq_true_eq] at h
  obtain ⟨h1, h2, h3, h4, h5, h6, h7, h8, h9, h10, h11, h12, h13, h14⟩ := h
  have X := xfB_ok h6
  exact ⟨⟨oexIn_ok h1, He.eqO_ok h2, h3, h4, h5⟩, X, ⟨h7, X.ga, X.gg, h3, He.eqO_ok h8, He.eqO_ok h9, h10, h11⟩, He.eqO_ok h12, h13, fun f hf => He.eqO_ok (List.all_eq_true.mp h14 f hf)⟩
theorem ExcA.x {K : PySem.W.Frag} {mg : Str → Option Value} {x : Str} {fs : List Str} (h : ExcA K x fs) (hm : mg x = some (.ref (He.ga K x))) : ExcX K mg x fs := ⟨hm, h.xf, h.ef, h.fs⟩
/-- the two fields' __init__ -/
theorem ini2_ok {P : Program} {w : World} {K : PySem.W.Frag} {mg : Str → Option Value} {base : Heap} {x q f1 f2 a1 a2 : Str} {st : Stmt} {fI : Addr} {fd : FuncData} (A : ExcA K x [f1, f2]) (F : FunD K "__init__" q (defArgs st) (defBody st) (defScope st) [] [] fI fd) (S : FnScope ["self", a1, a2] ["self", a1, a2] (defScope st))
    (hb : ∀ (kV doc pm : Value) (an : Option Addr) (cdv ct : Value) (us : List Value), us.length = 3 → bindArgs (PySem.W.fnOf "__init__" q (defArgs st) (defBody st) (defScope st) .none kV doc pm an cdv ct) ⟨us, []⟩ = pure ((["self", a1, a2] : List Str).zip us))
    (hbody : ∀ (cdv : Value) (Ar : Around) (outer : List PySem.Env) (s : Shared) (H : Hp) (E : XK), PSs (cxOf CX0 P w K mg base ["self", a1, a2] q (defScope st) fI cdv Ar outer s H E).nox (defBody st) (tSeq (tOst K f1 (tVar 0) (tVar 1)) (tOst K f2 (tVar 0) (tVar 2)))) :
    FnOk P w K mg base CX0 1 fI fd ["self", a1, a2] (spIni2 (He.ga K x) f1 f2) ∧ Binds K fd ["self", a1, a2] [] := by
  refine ⟨F.ok S (fun vs H Q E h => ?_) (fun cdv Ar outer s H vs Q E hr h => ⟨_, PSs.nox (hbody cdv Ar outer s H E), ini2_read A.T (A.fs f1 (by simp)) (A.fs f2 (by simp)) vs H Q E h⟩), F.bindsN hb⟩
  obtain ⟨a, v1, v2, rfl, _⟩ := h
  rfl
theorem ExcA.two {P : Program} {w : World} {K : PySem.W.Frag} {mg : Str → Option Value} {base : Heap} {x f1 f2 : Str} {fs : List Str} {fd : FuncData} {ps : List Str} (A : ExcA K x fs) (hm : mg x = some (.ref (He.ga K x)))
    (h : FnOk P w K mg base CX0 1 (He.ma K (He.ga K x) "__init__") fd ps (spIni2 (He.ga K x) f1 f2) ∧ Binds K fd ps []) : Exc2 P w K mg base x f1 f2 := ⟨A.T, hm, _, fd, ps, A.ini, A.tI, h.1, h.2⟩
theorem funD_uniq {K : PySem.W.Frag} {x q x' q' : Str} {pa pa' : Arguments} {b b' : List Stmt} {sc sc' : Scope} {dv dv' : List V} {kw kw' : List (Str × V)} {f : Addr} {fd fd' : FuncData} (F : FunD K x q pa b sc dv kw f fd) (F' : FunD K x' q' pa' b' sc' dv' kw' f fd') : fd = fd' := by
  obtain ⟨oc, od, dV, kV, doc, pm, an, cdv, ct, osl, _, lk, _⟩ := F.ex
  obtain ⟨oc', od', dV', kV', doc', pm', an', cdv', ct', osl', _, lk', _⟩ := F'.ex
  rw [lk] at lk'
  injection lk' with e
  injection e with _ _ e _
  injection e
/-! ### a law's end -/
theorem reps_ints {c : Cf} {H : Hp} : ∀ ns : List Int, Reps c H (ns.map D.int) (ns.map V.int) []
  | [] => ⟨rfl, rfl⟩
  | n :: ns => ⟨_, _, [], [], rfl, ⟨rfl, rfl⟩, reps_ints ns, rfl⟩
theorem spM_law {K : PySem.W.Frag} {w : World} {T : List (Addr × Str)} {m : MF} {H : Hp} {a : Addr} {ns : List Int} {E : XK} (hT : Tb T H) (hS : SqL K H a (ns.map V.int)) (h : ∀ d0, d0 = .lst (ns.map D.int) ∨ d0 = .fz (ns.map D.int) → ∃ ds, m [d0] = some (.ok (.bl true) ds)) :
    spM (cf0 K w T) 1 m [.ref a] H (fun v _ => v = .bl true) E := by
  have fin : ∀ (d0 : D) (f : List Addr), (d0 = .lst (ns.map D.int) ∨ d0 = .fz (ns.map D.int)) → Rep (cf0 K w T) H d0 (.ref a) f → f.Nodup → spM (cf0 K w T) 1 m [.ref a] H (fun v _ => v = .bl true) E := by
    intro d0 f hd r nd
    obtain ⟨ds, e⟩ := h d0 hd
    exact ⟨rfl, hT, [d0], f, ⟨_, [], f, [], rfl, r, ⟨rfl, rfl⟩, by simp⟩, nd, _, e, fun v H' g1 g2 _ rv _ _ => rv.1⟩
  rcases hS with (hS | hS) | hS
  · exact fin _ [a] (.inl rfl) ⟨a, _, [], rfl, hS, reps_ints ns, rfl⟩ (by simp)
  · exact fin _ [] (.inr rfl) ⟨a, _, rfl, .inl hS, reps_ints ns, rfl⟩ List.nodup_nil
  · exact fin _ [] (.inr rfl) ⟨a, _, rfl, .inr hS, reps_ints ns, rfl⟩ List.nodup_nil
end DL
set_option maxHeartbeats 4000000
/-! PW: rules that step through mirrors (Pv o K: o is there, and K holds of it); each rule is a simp lemma, K is never looked into ahead of time. -/
namespace DL
open PySem PySem.Spec PyProof.Rows L2
def Pv {α : Type} (o : Option α) (K : α → Prop) : Prop := ∃ x, o = some x ∧ K x
theorem Pv_congr {α : Type} {o o' : Option α} {K : α → Prop} (h : o = o') : Pv o K = Pv o' K := by rw [h]
variable {α β : Type}
@[simp] theorem Pv_some {x : α} {K : α → Prop} : Pv (some x) K ↔ K x := ⟨fun ⟨y, e, h⟩ => by cases e; exact h, fun h => ⟨x, rfl, h⟩⟩
@[simp] theorem Pv_none {K : α → Prop} : Pv none K ↔ False := ⟨fun ⟨y, e, h⟩ => (by cases e), False.elim⟩
@[simp] theorem Pv_ite {c : Prop} [Decidable c] {o : Option α} {K : α → Prop} : Pv (if c then o else none) K ↔ c ∧ Pv o K := by
  by_cases h : c
  · rw [if_pos h]; exact ⟨fun k => ⟨h, k⟩, fun k => k.2⟩
  · rw [if_neg h, Pv_none]; exact ⟨False.elim, fun k => h k.1⟩
@[simp] theorem Pv_map {f : α → β} {o : Option α} {K : β → Prop} : Pv (o.map f) K ↔ Pv o (fun x => K (f x)) := by
  cases o <;> simp
theorem Pv.imp {o : Option α} {K K' : α → Prop} (h : Pv o K) (k : ∀ x, K x → K' x) : Pv o K' := by
  obtain ⟨x, e, q⟩ := h
  exact ⟨x, e, k x q⟩
variable {e : Env} {m n : MS} {Q : O → Prop}
/-! ### monad -/
def bindK (f : α → M β) (K : R β → Prop) : R α → Prop
  | .ok a e => Pv (f a e) K
  | .ex x e => K (.ex x e)
@[simp] theorem bindK_ok {f : α → M β} {K : R β → Prop} {a : α} : bindK f K (.ok a e) = Pv (f a e) K := rfl
@[simp] theorem bindK_ex {f : α → M β} {K : R β → Prop} {x : Ex} : bindK f K (.ex x e) = K (.ex x e) := rfl
theorem Pv_bind {m : M α} {f : α → M β} {K : R β → Prop} : Pv (M.bind m f e) K ↔ Pv (m e) (bindK f K) := by
  unfold M.bind
  cases h : m e with
  | none => simp
  | some r => cases r <;> simp
@[simp ↓] theorem Pv_pure {a : α} {K : R α → Prop} : Pv (M.pure a e) K ↔ K (.ok a e) := Pv_some
@[simp ↓] theorem Pv_ofO {o : Option α} {K : R α → Prop} : Pv (M.ofO o e) K ↔ Pv o (fun a => K (.ok a e)) := by
  cases o <;> simp [M.ofO]
@[simp ↓] theorem Pv_bind' {m : M α} {f : α → M β} {K : R β → Prop} : Pv (M.bind m f e) K ↔ Pv (m e) (bindK f K) := Pv_bind
/-! ### pure expressions -/
def slot : Option D → Option D
  | some .gone => none
  | some d => some d
  | none => none
@[simp] theorem slot_non : slot (some .non) = some .non := rfl
@[simp] theorem slot_bl {b} : slot (some (.bl b)) = some (.bl b) := rfl
@[simp] theorem slot_int {b} : slot (some (.int b)) = some (.int b) := rfl
@[simp] theorem slot_str {b} : slot (some (.str b)) = some (.str b) := rfl
@[simp] theorem slot_tup {b} : slot (some (.tup b)) = some (.tup b) := rfl
@[simp] theorem slot_lst {b} : slot (some (.lst b)) = some (.lst b) := rfl
@[simp] theorem slot_fz {b} : slot (some (.fz b)) = some (.fz b) := rfl
@[simp] theorem slot_exc {a b c} : slot (some (.exc a b c)) = some (.exc a b c) := rfl
theorem slot_of {d : D} (h : d ≠ .gone) : slot (some d) = some d := by cases d <;> first | rfl | exact absurd rfl h
theorem mV_slot_eq {i : Nat} : mV i e = slot e[i]? := by
  unfold mV slot
  rfl
@[simp ↓] theorem Pv_V {i : Nat} {K : D → Prop} : Pv (mV i e) K ↔ Pv (slot e[i]?) K := by rw [mV_slot_eq]
@[simp ↓] theorem Pv_C {d : D} {K : D → Prop} : Pv (mC d e) K ↔ K d := Pv_some
@[simp ↓] theorem Pv_Ck {m : MP} {K : D → Prop} : Pv (mCk m e) K ↔ Pv (m e) (fun d => d.pers = true ∧ K d) := by
  unfold mCk
  cases h : m e with
  | none => simp
  | some d => simp
@[simp ↓] theorem Pv_PP {op : D → D → Option D} {ma mb : MP} {K : D → Prop} : Pv (mPP op ma mb e) K ↔ Pv (ma e) (fun x => Pv (mb e) (fun y => Pv (op x y) K)) := by
  unfold mPP
  cases ma e with
  | none => simp
  | some x => cases mb e <;> simp
@[simp ↓] theorem Pv_UnP {op : D → Option D} {ma : MP} {K : D → Prop} : Pv (mUnP op ma e) K ↔ Pv (ma e) (fun x => Pv (op x) K) := by
  unfold mUnP
  cases ma e <;> simp
def chK (o' : D → D → Option D) (mc : MP) (e : Env) (y : D) (K : D → Prop) : D → Prop
  | .bl true => Pv (mc e) (fun z => Pv (o' y z) K)
  | .bl false => K (.bl false)
  | _ => False
@[simp] theorem chK_bl {o' : D → D → Option D} {mc : MP} {y : D} {K : D → Prop} {b : Bool} : chK o' mc e y K (.bl b) = if b = true then Pv (mc e) (fun z => Pv (o' y z) K) else K (.bl false) := by cases b <;> rfl
@[simp ↓] theorem Pv_Chain {o o' : D → D → Option D} {ma mb mc : MP} {K : D → Prop} : Pv (mChain o o' ma mb mc e) K ↔ Pv (ma e) (fun x => Pv (mb e) (fun y => Pv (o x y) (chK o' mc e y K))) := by
  unfold mChain
  cases ma e with
  | none => simp
  | some x =>
    cases mb e with
    | none => simp
    | some y =>
      simp only [Pv_some]
      cases h : o x y with
      | none => simp
      | some z =>
        simp only [Pv_some]
        cases z with
        | bl b =>
          cases b with
          | true => simp only [chK]; cases mc e <;> simp
          | false => simp only [chK, Pv_some]
        | _ => simp [chK]
@[simp ↓] theorem Pv_Pnil {K : List D → Prop} : Pv (mPnil e) K ↔ K [] := Pv_some
@[simp ↓] theorem Pv_Pcons {m : MP} {ms : Env → Option (List D)} {K : List D → Prop} : Pv (mPcons m ms e) K ↔ Pv (m e) (fun d => Pv (ms e) (fun ds => K (d :: ds))) := by
  unfold mPcons
  cases m e with
  | none => simp
  | some x => cases ms e <;> simp
@[simp ↓] theorem Pv_CaP {op : List D → Option D} {ms : Env → Option (List D)} {K : D → Prop} : Pv (mCaP op ms e) K ↔ Pv (ms e) (fun ds => Pv (op ds) K) := by
  unfold mCaP
  cases ms e <;> simp
@[simp ↓] theorem Pv_TupP {ms : Env → Option (List D)} {K : D → Prop} : Pv (mTupP ms e) K ↔ Pv (ms e) (fun ds => (ds.length ≤ 1000 ∧ persAll ds = true) ∧ K (.tup ds)) := by
  unfold mTupP
  cases ms e <;> simp
@[simp ↓] theorem Pv_LstP {ms : Env → Option (List D)} {K : D → Prop} : Pv (mLstP ms e) K ↔ Pv (ms e) (fun ds => (ds.length ≤ 1000 ∧ persAll ds = true) ∧ K (.lst ds)) := by
  unfold mLstP
  cases ms e <;> simp
@[simp ↓] theorem Pv_Isi {T : Ty} {m : MP} {K : D → Prop} : Pv (mIsi T m e) K ↔ Pv (m e) (fun d => Pv (T.has d) (fun b => K (.bl b))) := by
  unfold mIsi
  cases m e <;> simp
def bdK (m : Option MP) (e : Env) (K : Option Int → Prop) : Prop := match m with
  | none => K none
  | some m => Pv (m e) (fun d => match d with | .int i => K (some i) | _ => False)
@[simp] theorem bdK_none {K : Option Int → Prop} : bdK none e K = K none := rfl
def bdI (K : Option Int → Prop) : D → Prop
  | .int i => K (some i)
  | _ => False
@[simp] theorem bdI_int {K : Option Int → Prop} {i : Int} : bdI K (.int i) = K (some i) := rfl
@[simp] theorem bdK_some {m : MP} {K : Option Int → Prop} : bdK (some m) e K = Pv (m e) (bdI K) := by
  unfold bdK bdI
  rfl
theorem Pv_Bd {m : Option MP} {K : Option Int → Prop} : Pv (mBd m e) K ↔ bdK m e K := by
  cases m with
  | none => exact Pv_some
  | some m =>
    unfold mBd
    rw [bdK_some]
    cases hm : m e with
    | none => simp [hm]
    | some d => cases d <;> simp [bdI, hm]
@[simp ↓] theorem Pv_BdN {K : Option Int → Prop} : Pv (mBd none e) K ↔ K none := Pv_some
@[simp ↓] theorem Pv_BdS {m : MP} {K : Option Int → Prop} : Pv (mBd (some m) e) K ↔ Pv (m e) (bdI K) := by rw [Pv_Bd, bdK_some]
@[simp ↓] theorem Pv_SlP {ma : MP} {lo hi : Option MP} {K : D → Prop} : Pv (mSlP ma lo hi e) K ↔ Pv (ma e) (fun x => Pv (mBd lo e) (fun l => Pv (mBd hi e) (fun u => Pv (dSl x l u) K))) := by
  unfold mSlP
  cases ma e with
  | none => simp
  | some x =>
    cases mBd lo e with
    | none => simp
    | some l => cases mBd hi e <;> simp
@[simp ↓] theorem Pv_Xf {i : Nat} {f : Str} {K : D → Prop} {c : Str} {ns : List Str} {vs : List D} (h : e[i]? = some (.exc c ns vs)) : Pv (mXf i f e) K ↔ Pv (fldOf f ns vs) K := by
  unfold mXf
  rw [h]
@[simp ↓] theorem Pv_IsX {i : Nat} {b : Bool} {K : D → Prop} {c : Str} {ns : List Str} {vs : List D} (h : e[i]? = some (.exc c ns vs)) : Pv (mIsX i b e) K ↔ K (.bl b) := by
  unfold mIsX
  rw [h]
  exact Pv_some
/-! ### expressions -/
@[simp ↓] theorem Pv_F {m : MP} {K : R D → Prop} : Pv (mF m e) K ↔ Pv (m e) (fun d => K (.ok d e)) := by
  unfold mF
  cases m e <;> simp
def mvK (i : Nat) (e : Env) (K : R D → Prop) (d : D) : Prop := if d.pers = true then K (.ok d e) else K (.ok d (e.set i .gone))
@[simp] theorem mvK_eq {i : Nat} {K : R D → Prop} {d : D} : mvK i e K d = if d.pers = true then K (.ok d e) else K (.ok d (e.set i .gone)) := rfl
@[simp ↓] theorem Pv_Mv {i : Nat} {K : R D → Prop} : Pv (mMv i e) K ↔ Pv (slot e[i]?) (mvK i e K) := by
  unfold mMv slot
  cases h : e[i]? with
  | none => simp
  | some d =>
    cases d <;> (first | (simp; done) | (simp only [Pv_some, mvK_eq]; split <;> simp))
@[simp ↓] theorem Pv_EE {op : D → D → Option D} {ma mb : M D} {K : R D → Prop} : Pv (mEE op ma mb e) K ↔ Pv (ma e) (bindK (fun x => mb.bind fun y => M.ofO (op x y)) K) := Pv_bind
def epK (op : D → D → Option D) (mb : MP) (K : R D → Prop) : R D → Prop
  | .ok x e => Pv (mb e) (fun y => Pv (op x y) (fun z => K (.ok z e)))
  | .ex x e => K (.ex x e)
@[simp] theorem epK_ok {op : D → D → Option D} {mb : MP} {K : R D → Prop} {x : D} : epK op mb K (.ok x e) = Pv (mb e) (fun y => Pv (op x y) (fun z => K (.ok z e))) := rfl
@[simp] theorem epK_ex {op : D → D → Option D} {mb : MP} {K : R D → Prop} {x : Ex} : epK op mb K (.ex x e) = K (.ex x e) := rfl
@[simp ↓] theorem Pv_EP {op : D → D → Option D} {ma : M D} {mb : MP} {K : R D → Prop} : Pv (mEP op ma mb e) K ↔ Pv (ma e) (epK op mb K) := by
  unfold mEP M.bind
  cases ma e with
  | none => simp
  | some r =>
    cases r with
    | ex x e => simp
    | ok a e =>
      simp only [Pv_some, epK_ok]
      cases mb e with
      | none => simp
      | some y =>
        simp only [Pv_some]
        cases op a y <;> simp
def veK (op : D → D → Option D) (i : Nat) (K : R D → Prop) : R D → Prop
  | .ok y e => Pv (slot e[i]?) (fun x => Pv (op x y) (fun z => K (.ok z e)))
  | .ex x e => K (.ex x e)
@[simp] theorem veK_ok {op : D → D → Option D} {i : Nat} {K : R D → Prop} {y : D} : veK op i K (.ok y e) = Pv (slot e[i]?) (fun x => Pv (op x y) (fun z => K (.ok z e))) := rfl
@[simp] theorem veK_ex {op : D → D → Option D} {i : Nat} {K : R D → Prop} {x : Ex} : veK op i K (.ex x e) = K (.ex x e) := rfl
@[simp ↓] theorem Pv_VE {op : D → D → Option D} {i : Nat} {mb : M D} {K : R D → Prop} : Pv (mVE op i mb e) K ↔ Pv (slot e[i]?) (fun _ => Pv (mb e) (veK op i K)) := by
  unfold mVE M.bind
  rw [mV_slot_eq]
  cases slot e[i]? with
  | none => simp
  | some x0 =>
    simp only [Pv_some]
    cases mb e with
    | none => simp
    | some r =>
      cases r with
      | ex x e => simp
      | ok a e =>
        simp only [Pv_some, veK_ok]
        rw [mV_slot_eq]
        cases slot e[i]? with
        | none => simp
        | some y =>
          simp only [Pv_some]
          cases op y a <;> simp
def ixK (i : Nat) (K : R D → Prop) : R D → Prop
  | .ok y e => Pv (slot e[i]?) (fun x => Pv (dIx x y) (fun z => z.pers = true ∧ K (.ok z e)))
  | .ex x e => K (.ex x e)
@[simp] theorem ixK_ok {i : Nat} {K : R D → Prop} {y : D} : ixK i K (.ok y e) = Pv (slot e[i]?) (fun x => Pv (dIx x y) (fun z => z.pers = true ∧ K (.ok z e))) := rfl
@[simp] theorem ixK_ex {i : Nat} {K : R D → Prop} {x : Ex} : ixK i K (.ex x e) = K (.ex x e) := rfl
@[simp ↓] theorem Pv_IxVE {i : Nat} {mb : M D} {K : R D → Prop} : Pv (mIxVE i mb e) K ↔ Pv (slot e[i]?) (fun _ => Pv (mb e) (ixK i K)) := by
  unfold mIxVE M.bind
  rw [mV_slot_eq]
  cases slot e[i]? with
  | none => simp
  | some x0 =>
    simp only [Pv_some]
    cases mb e with
    | none => simp
    | some r =>
      cases r with
      | ex x e => simp
      | ok a e =>
        simp only [Pv_some, ixK_ok]
        rw [mV_slot_eq]
        cases slot e[i]? with
        | none => simp
        | some y =>
          simp only [Pv_some]
          cases dIx y a <;> simp
@[simp ↓] theorem Pv_UnE {op : D → Option D} {ma : M D} {K : R D → Prop} : Pv (mUnE op ma e) K ↔ Pv (ma e) (bindK (fun x => M.ofO (op x)) K) := Pv_bind
@[simp ↓] theorem Pv_Anil {K : R (List D) → Prop} : Pv (mAnil e) K ↔ K (.ok [] e) := Pv_some
@[simp ↓] theorem Pv_Acons {m : M D} {ms : M (List D)} {K : R (List D) → Prop} : Pv (mAcons m ms e) K ↔ Pv (m e) (bindK (fun d => ms.bind fun ds => M.pure (d :: ds)) K) := Pv_bind
@[simp ↓] theorem Pv_CaE {op : List D → Option D} {ms : M (List D)} {K : R D → Prop} : Pv (mCaE op ms e) K ↔ Pv (ms e) (bindK (fun ds => M.ofO (op ds)) K) := Pv_bind
@[simp ↓] theorem Pv_TupE {ms : M (List D)} {K : R D → Prop} : Pv (mTupE ms e) K ↔ Pv (ms e) (bindK (fun ds => M.ofO (if ds.length ≤ 1000 then some (.tup ds) else none)) K) := Pv_bind
@[simp ↓] theorem Pv_LstE {ms : M (List D)} {K : R D → Prop} : Pv (mLstE ms e) K ↔ Pv (ms e) (bindK (fun ds => M.ofO (if ds.length ≤ 1000 then some (.lst ds) else none)) K) := Pv_bind
@[simp ↓] theorem Pv_Fz {m : M D} {K : R D → Prop} : Pv (mFz m e) K ↔ Pv (m e) (bindK (fun d => M.ofO (frzD d)) K) := Pv_bind
@[simp ↓] theorem Pv_SlE {ma : M D} {lo hi : Option (M D)} {K : R D → Prop} : Pv (mSlE ma lo hi e) K ↔ Pv (ma e) (bindK (fun x => (mBdE lo).bind fun l => (mBdE hi).bind fun u => M.ofO (dSl x l u)) K) := Pv_bind
@[simp ↓] theorem Pv_BdEN {K : R (Option Int) → Prop} : Pv (mBdE none e) K ↔ K (.ok none e) := Pv_some
def bdEK (K : R (Option Int) → Prop) : R D → Prop
  | .ok (.int i) e => K (.ok (some i) e)
  | .ok _ _ => False
  | .ex x e => K (.ex x e)
@[simp] theorem bdEK_int {K : R (Option Int) → Prop} {i : Int} : bdEK K (.ok (.int i) e) = K (.ok (some i) e) := rfl
@[simp] theorem bdEK_ex {K : R (Option Int) → Prop} {x : Ex} : bdEK K (.ex x e) = K (.ex x e) := rfl
@[simp ↓] theorem Pv_BdES {m : M D} {K : R (Option Int) → Prop} : Pv (mBdE (some m) e) K ↔ Pv (m e) (bdEK K) := by
  unfold mBdE M.bind
  cases hm : m e with
  | none => simp [hm]
  | some r =>
    cases r with
    | ex x e => simp [hm]
    | ok a e => cases a <;> simp [M.pure, bdEK, hm]
/-! ### tests -/
@[simp ↓] theorem Pv_TP {m : MP} {K : R Bool → Prop} : Pv (mTP m e) K ↔ Pv (m e) (fun d => Pv (dTru d) (fun b => K (.ok b e))) := by
  unfold mTP
  cases m e with
  | none => simp
  | some d => cases hd : dTru d <;> simp [hd]
@[simp ↓] theorem Pv_TE {m : M D} {K : R Bool → Prop} : Pv (mTE m e) K ↔ Pv (m e) (bindK (fun d => M.ofO (dTru d)) K) := Pv_bind
@[simp ↓] theorem Pv_Tb {m : M D} {K : R Bool → Prop} : Pv (mTb m e) K ↔ Pv (m e) (bindK (fun d => M.ofO (dBool d)) K) := Pv_bind
@[simp] theorem dBool_bl {b : Bool} : dBool (.bl b) = some b := rfl
@[simp] theorem dTru_bl {b : Bool} : dTru (.bl b) = some b := rfl
@[simp] theorem dTru_non : dTru .non = some false := rfl
@[simp] theorem dTru_int {i : Int} : dTru (.int i) = some (i != 0) := rfl
@[simp] theorem dTru_tup {l : List D} : dTru (.tup l) = some (!l.isEmpty) := rfl
@[simp] theorem dTru_lst {l : List D} : dTru (.lst l) = some (!l.isEmpty) := rfl
@[simp ↓] theorem Pv_Not {m : M Bool} {K : R Bool → Prop} : Pv (mNot m e) K ↔ Pv (m e) (bindK (fun b => M.pure (!b)) K) := Pv_bind
def andK (n : M Bool) (K : R Bool → Prop) : R Bool → Prop
  | .ok b e => if b = true then Pv (n e) K else K (.ok false e)
  | .ex x e => K (.ex x e)
@[simp] theorem andK_ok {n : M Bool} {K : R Bool → Prop} {b : Bool} : andK n K (.ok b e) = if b = true then Pv (n e) K else K (.ok false e) := rfl
@[simp] theorem andK_ex {n : M Bool} {K : R Bool → Prop} {x : Ex} : andK n K (.ex x e) = K (.ex x e) := rfl
@[simp ↓] theorem Pv_And {m n : M Bool} {K : R Bool → Prop} : Pv (mAnd m n e) K ↔ Pv (m e) (andK n K) := by
  unfold mAnd M.bind
  cases m e with
  | none => simp
  | some r =>
    cases r with
    | ex x e => simp
    | ok b e => cases b <;> simp [M.pure]
def orK (n : M Bool) (K : R Bool → Prop) : R Bool → Prop
  | .ok b e => if b = true then K (.ok true e) else Pv (n e) K
  | .ex x e => K (.ex x e)
@[simp] theorem orK_ok {n : M Bool} {K : R Bool → Prop} {b : Bool} : orK n K (.ok b e) = if b = true then K (.ok true e) else Pv (n e) K := rfl
@[simp] theorem orK_ex {n : M Bool} {K : R Bool → Prop} {x : Ex} : orK n K (.ex x e) = K (.ex x e) := rfl
@[simp ↓] theorem Pv_Or {m n : M Bool} {K : R Bool → Prop} : Pv (mOr m n e) K ↔ Pv (m e) (orK n K) := by
  unfold mOr M.bind
  cases m e with
  | none => simp
  | some r =>
    cases r with
    | ex x e => simp
    | ok b e => cases b <;> simp [M.pure]
@[simp ↓] theorem Pv_Bl {m : M Bool} {K : R D → Prop} : Pv (mBl m e) K ↔ Pv (m e) (bindK (fun b => M.pure (.bl b)) K) := Pv_bind
def andVK (n : M D) (K : R D → Prop) : R D → Prop
  | .ok (.bl b) e => if b = true then Pv (n e) K else K (.ok (.bl false) e)
  | .ok _ e => False
  | .ex x e => K (.ex x e)
@[simp] theorem andVK_ok {n : M D} {K : R D → Prop} {b : Bool} : andVK n K (.ok (.bl b) e) = if b = true then Pv (n e) K else K (.ok (.bl false) e) := rfl
@[simp] theorem andVK_ex {n : M D} {K : R D → Prop} {x : Ex} : andVK n K (.ex x e) = K (.ex x e) := rfl
@[simp ↓] theorem Pv_AndV {m n : M D} {K : R D → Prop} : Pv (mAndV m n e) K ↔ Pv (m e) (andVK n K) := by
  unfold mAndV M.bind
  cases m e with
  | none => simp
  | some r =>
    cases r with
    | ex x e => simp
    | ok d e =>
      cases d with
      | bl b => cases b <;> simp [M.pure]
      | _ => simp [andVK]
def orVK (n : M D) (K : R D → Prop) : R D → Prop
  | .ok (.bl b) e => if b = true then K (.ok (.bl true) e) else Pv (n e) K
  | .ok _ e => False
  | .ex x e => K (.ex x e)
@[simp] theorem orVK_ok {n : M D} {K : R D → Prop} {b : Bool} : orVK n K (.ok (.bl b) e) = if b = true then K (.ok (.bl true) e) else Pv (n e) K := rfl
@[simp] theorem orVK_ex {n : M D} {K : R D → Prop} {x : Ex} : orVK n K (.ex x e) = K (.ex x e) := rfl
@[simp ↓] theorem Pv_OrV {m n : M D} {K : R D → Prop} : Pv (mOrV m n e) K ↔ Pv (m e) (orVK n K) := by
  unfold mOrV M.bind
  cases m e with
  | none => simp
  | some r =>
    cases r with
    | ex x e => simp
    | ok d e =>
      cases d with
      | bl b => cases b <;> simp [M.pure]
      | _ => simp [orVK]
def notVK (K : R D → Prop) : R D → Prop
  | .ok (.bl b) e => K (.ok (.bl (!b)) e)
  | .ok _ e => False
  | .ex x e => K (.ex x e)
@[simp] theorem notVK_ok {K : R D → Prop} {b : Bool} : notVK K (.ok (.bl b) e) = K (.ok (.bl (!b)) e) := rfl
@[simp] theorem notVK_ex {K : R D → Prop} {x : Ex} : notVK K (.ex x e) = K (.ex x e) := rfl
@[simp ↓] theorem Pv_NotV {m : M D} {K : R D → Prop} : Pv (mNotV m e) K ↔ Pv (m e) (notVK K) := by
  unfold mNotV M.bind
  cases m e with
  | none => simp
  | some r =>
    cases r with
    | ex x e => simp
    | ok d e => cases d <;> simp [M.pure, notVK]
def ifEK (m n : M D) (K : R D → Prop) : R Bool → Prop
  | .ok b e => if b = true then Pv (m e) K else Pv (n e) K
  | .ex x e => K (.ex x e)
@[simp] theorem ifEK_ok {m n : M D} {K : R D → Prop} {b : Bool} : ifEK m n K (.ok b e) = if b = true then Pv (m e) K else Pv (n e) K := rfl
@[simp] theorem ifEK_ex {m n : M D} {K : R D → Prop} {x : Ex} : ifEK m n K (.ex x e) = K (.ex x e) := rfl
@[simp ↓] theorem Pv_IfE {t : M Bool} {m n : M D} {K : R D → Prop} : Pv (mIfE t m n e) K ↔ Pv (t e) (ifEK m n K) := by
  unfold mIfE M.bind
  cases t e with
  | none => simp
  | some r =>
    cases r with
    | ex x e => simp
    | ok b e => cases b <;> simp
/-! ### statements -/
def seqK (n : MS) (Q : O → Prop) : O → Prop
  | .nx e => Pv (n e) Q
  | o => Q o
@[simp] theorem seqK_nx {n : MS} : seqK n Q (.nx e) = Pv (n e) Q := rfl
@[simp] theorem seqK_bk {n : MS} : seqK n Q (.bk e) = Q (.bk e) := rfl
@[simp] theorem seqK_ct {n : MS} : seqK n Q (.ct e) = Q (.ct e) := rfl
@[simp] theorem seqK_ret {n : MS} {d : D} : seqK n Q (.ret d e) = Q (.ret d e) := rfl
@[simp] theorem seqK_ex {n : MS} {x : Ex} : seqK n Q (.ex x e) = Q (.ex x e) := rfl
@[simp ↓] theorem Pv_Seq {m n : MS} : Pv (mSeq m n e) Q ↔ Pv (m e) (seqK n Q) := by
  unfold mSeq
  cases m e with
  | none => simp
  | some r => cases r <;> simp
@[simp ↓] theorem Pv_Nil : Pv (mNil e) Q ↔ Q (.nx e) := Pv_some
@[simp ↓] theorem Pv_Brk : Pv (mBrk e) Q ↔ Q (.bk e) := Pv_some
@[simp ↓] theorem Pv_Cnt : Pv (mCnt e) Q ↔ Q (.ct e) := Pv_some
@[simp ↓] theorem Pv_RetN : Pv (mRetN e) Q ↔ Q (.ret .non e) := Pv_some
def setK (i : Nat) (Q : O → Prop) : R D → Prop
  | .ok d e => i < e.length ∧ Q (.nx (e.set i d))
  | .ex x e => Q (.ex x e)
@[simp] theorem setK_ok {i : Nat} {d : D} : setK i Q (.ok d e) = (i < e.length ∧ Q (.nx (e.set i d))) := rfl
@[simp] theorem setK_ex {i : Nat} {x : Ex} : setK i Q (.ex x e) = Q (.ex x e) := rfl
@[simp ↓] theorem Pv_Set {i : Nat} {m : M D} : Pv (mSet i m e) Q ↔ Pv (m e) (setK i Q) := by
  unfold mSet setE
  cases m e with
  | none => simp
  | some r =>
    cases r with
    | ex x e => simp
    | ok d e =>
      simp only [Pv_some, setK_ok]
      by_cases h : i < e.length <;> simp [h]
def dropK (Q : O → Prop) : R D → Prop
  | .ok d e => Q (.nx e)
  | .ex x e => Q (.ex x e)
@[simp] theorem dropK_ok {d : D} : dropK Q (.ok d e) = Q (.nx e) := rfl
@[simp] theorem dropK_ex {x : Ex} : dropK Q (.ex x e) = Q (.ex x e) := rfl
@[simp ↓] theorem Pv_Drop {m : M D} : Pv (mDrop m e) Q ↔ Pv (m e) (dropK Q) := by
  unfold mDrop
  cases m e with
  | none => simp
  | some r => cases r <;> simp
def retK (Q : O → Prop) : R D → Prop
  | .ok d e => Q (.ret d e)
  | .ex x e => Q (.ex x e)
@[simp] theorem retK_ok {d : D} : retK Q (.ok d e) = Q (.ret d e) := rfl
@[simp] theorem retK_ex {x : Ex} : retK Q (.ex x e) = Q (.ex x e) := rfl
@[simp ↓] theorem Pv_Ret {m : M D} : Pv (mRet m e) Q ↔ Pv (m e) (retK Q) := by
  unfold mRet
  cases m e with
  | none => simp
  | some r => cases r <;> simp
def ifK (m n : MS) (Q : O → Prop) : R Bool → Prop
  | .ok b e => if b = true then Pv (m e) Q else Pv (n e) Q
  | .ex x e => Q (.ex x e)
@[simp] theorem ifK_ok {m n : MS} {b : Bool} : ifK m n Q (.ok b e) = if b = true then Pv (m e) Q else Pv (n e) Q := rfl
@[simp] theorem ifK_ex {m n : MS} {x : Ex} : ifK m n Q (.ex x e) = Q (.ex x e) := rfl
@[simp ↓] theorem Pv_If {t : M Bool} {m n : MS} : Pv (mIf t m n e) Q ↔ Pv (t e) (ifK m n Q) := by
  unfold mIf
  cases t e with
  | none => simp
  | some r =>
    cases r with
    | ex x e => simp
    | ok b e => cases b <;> simp
def unpK (gm : D → Env → Option Env) (Q : O → Prop) : R D → Prop
  | .ok d e => d.pers = true ∧ Pv (gm d e) (fun e' => Q (.nx e'))
  | .ex x e => Q (.ex x e)
@[simp] theorem unpK_ok {gm : D → Env → Option Env} {d : D} : unpK gm Q (.ok d e) = (d.pers = true ∧ Pv (gm d e) (fun e' => Q (.nx e'))) := rfl
@[simp] theorem unpK_ex {gm : D → Env → Option Env} {x : Ex} : unpK gm Q (.ex x e) = Q (.ex x e) := rfl
@[simp ↓] theorem Pv_Unp {gm : D → Env → Option Env} {m : M D} : Pv (mUnp gm m e) Q ↔ Pv (m e) (unpK gm Q) := by
  unfold mUnp
  cases m e with
  | none => simp
  | some r =>
    cases r with
    | ex x e => simp
    | ok d e =>
      simp only [Pv_some, unpK_ok]
      cases gm d e <;> simp
@[simp ↓] theorem Pv_setE {i : Nat} {d : D} {K : Env → Prop} : Pv (setE i d e) K ↔ i < e.length ∧ K (e.set i d) := by
  unfold setE
  rw [Pv_ite, Pv_some]
@[simp ↓] theorem Pv_gmNil {K : Env → Prop} : Pv (gmNil [] e) K ↔ K e := Pv_some
@[simp ↓] theorem Pv_gmCons {gm : D → Env → Option Env} {gr : List D → Env → Option Env} {d : D} {ds : List D} {K : Env → Prop} : Pv (gmCons gm gr (d :: ds) e) K ↔ Pv (gm d e) (fun e' => Pv (gr ds e') K) := by
  unfold gmCons
  simp only
  cases gm d e <;> simp
@[simp ↓] theorem Pv_gmTup {n : Nat} {gr : List D → Env → Option Env} {ds : List D} {K : Env → Prop} : Pv (gmTup n gr (.tup ds) e) K ↔ ds.length = n ∧ Pv (gr ds e) K := by
  unfold gmTup
  simp only [Pv_ite]
def parK (i j : Nat) (Q : O → Prop) : R (List D) → Prop
  | .ok [a, b] e => i < e.length ∧ j < e.length ∧ Q (.nx ((e.set i a).set j b))
  | .ok _ e => False
  | .ex x e => Q (.ex x e)
@[simp] theorem parK_ok {i j : Nat} {a b : D} : parK i j Q (.ok [a, b] e) = (i < e.length ∧ j < e.length ∧ Q (.nx ((e.set i a).set j b))) := rfl
@[simp] theorem parK_ex {i j : Nat} {x : Ex} : parK i j Q (.ex x e) = Q (.ex x e) := rfl
@[simp ↓] theorem Pv_Par {i j : Nat} {ms : M (List D)} : Pv (mPar i j ms e) Q ↔ Pv (ms e) (parK i j Q) := by
  unfold mPar setE
  cases ms e with
  | none => simp
  | some r =>
    cases r with
    | ex x e => simp
    | ok l e =>
      match l with
      | [] => simp [parK]
      | [_] => simp [parK]
      | _ :: _ :: _ :: _ => simp [parK]
      | [a, b] =>
        simp only [Pv_some, parK_ok]
        by_cases h : i < e.length
        · by_cases h2 : j < e.length <;> simp [h, h2]
        · simp [h]
def appK (i : Nat) (K : R D → Prop) : R D → Prop
  | .ok d e => Pv (slot e[i]?) (fun x => match x with | .lst l => l.length < LIM ∧ K (.ok .non (e.set i (.lst (l ++ [d])))) | _ => False)
  | .ex x e => K (.ex x e)
def appL (d : D) (i : Nat) (e : Env) (K : R D → Prop) : D → Prop
  | .lst l => l.length < LIM ∧ K (.ok .non (e.set i (.lst (l ++ [d]))))
  | _ => False
@[simp] theorem appL_lst {d : D} {i : Nat} {K : R D → Prop} {l : List D} : appL d i e K (.lst l) = (l.length < LIM ∧ K (.ok .non (e.set i (.lst (l ++ [d]))))) := rfl
@[simp] theorem appK_ok {i : Nat} {K : R D → Prop} {d : D} : appK i K (.ok d e) = Pv (slot e[i]?) (appL d i e K) := by
  unfold appK appL
  rfl
@[simp] theorem appK_ex {i : Nat} {K : R D → Prop} {x : Ex} : appK i K (.ex x e) = K (.ex x e) := rfl
def isL (P : Prop) : D → Prop
  | .lst l => P
  | _ => False
@[simp] theorem isL_lst {P : Prop} {l : List D} : isL P (.lst l) = P := rfl
@[simp ↓] theorem Pv_Append {i : Nat} {m : M D} {K : R D → Prop} : Pv (mAppend i m e) K ↔ Pv (slot e[i]?) (isL (Pv (m e) (appK i K))) := by
  unfold mAppend M.bind
  rw [mV_slot_eq]
  cases slot e[i]? with
  | none => simp
  | some d =>
    cases d with
    | lst l =>
      simp only [Pv_some, isL_lst]
      cases m e with
      | none => simp
      | some r =>
        cases r with
        | ex x e => simp
        | ok d e =>
          simp only [Pv_some, appK_ok]
          rw [mV_slot_eq]
          cases slot e[i]? with
          | none => simp
          | some y => cases y <;> simp [appL]
    | _ => simp [isL]
def popK (i : Nat) (e : Env) (K : R D → Prop) : D → Prop
  | .lst l => Pv l.getLast? (fun d => K (.ok d (e.set i (.lst l.dropLast))))
  | _ => False
@[simp] theorem popK_lst {i : Nat} {K : R D → Prop} {l : List D} : popK i e K (.lst l) = Pv l.getLast? (fun d => K (.ok d (e.set i (.lst l.dropLast)))) := rfl
@[simp ↓] theorem Pv_Pop {i : Nat} {K : R D → Prop} : Pv (mPop i e) K ↔ Pv (slot e[i]?) (popK i e K) := by
  unfold mPop
  rw [mV_slot_eq]
  cases slot e[i]? with
  | none => simp
  | some d =>
    cases d with
    | lst l =>
      simp only [Pv_some, popK_lst]
      cases l.getLast? <;> simp
    | _ => simp [popK]
def sixL (i : Nat) (d : D) (e : Env) (mj : MP) (Q : O → Prop) : D → Prop
  | .lst l => Pv (mj e) (fun z => match z with | .int z => Pv (ixN l.length z) (fun j => Q (.nx (e.set i (.lst (l.set j d))))) | _ => False)
  | _ => False
def sixZ (i : Nat) (d : D) (e : Env) (l : List D) (Q : O → Prop) : D → Prop
  | .int z => Pv (ixN l.length z) (fun j => Q (.nx (e.set i (.lst (l.set j d)))))
  | _ => False
@[simp] theorem sixZ_int {i : Nat} {d : D} {l : List D} {z : Int} : sixZ i d e l Q (.int z) = Pv (ixN l.length z) (fun j => Q (.nx (e.set i (.lst (l.set j d))))) := rfl
@[simp] theorem sixL_lst {i : Nat} {d : D} {mj : MP} {l : List D} : sixL i d e mj Q (.lst l) = Pv (mj e) (sixZ i d e l Q) := by
  unfold sixL sixZ
  rfl
def sixK (i : Nat) (mj : MP) (Q : O → Prop) : R D → Prop
  | .ok d e => Pv (slot e[i]?) (sixL i d e mj Q)
  | .ex x e => Q (.ex x e)
@[simp] theorem sixK_ok {i : Nat} {mj : MP} {d : D} : sixK i mj Q (.ok d e) = Pv (slot e[i]?) (sixL i d e mj Q) := rfl
@[simp] theorem sixK_ex {i : Nat} {mj : MP} {x : Ex} : sixK i mj Q (.ex x e) = Q (.ex x e) := rfl
@[simp ↓] theorem Pv_SetIx {i : Nat} {mj : MP} {m : M D} : Pv (mSetIx i mj m e) Q ↔ Pv (m e) (sixK i mj Q) := by
  unfold mSetIx
  cases m e with
  | none => simp
  | some r =>
    cases r with
    | ex x e => simp
    | ok d e =>
      simp only [Pv_some, sixK_ok]
      rw [mV_slot_eq]
      cases slot e[i]? with
      | none => simp
      | some y =>
        cases y with
        | lst l =>
          simp only [Pv_some, sixL_lst]
          cases mj e with
          | none => simp
          | some z =>
            cases z with
            | int z =>
              simp only [Pv_some, sixZ_int]
              cases ixN l.length z <;> simp
            | _ => simp [sixZ]
        | _ => simp [sixL]
/-! ### calls -/
def argK (a : AV) (K : R (List AV) → Prop) : R (List AV) → Prop
  | .ok as e => K (.ok (a :: as) e)
  | .ex x e => K (.ex x e)
@[simp] theorem argK_ok {a : AV} {K : R (List AV) → Prop} {as : List AV} : argK a K (.ok as e) = K (.ok (a :: as) e) := rfl
@[simp] theorem argK_ex {a : AV} {K : R (List AV) → Prop} {x : Ex} : argK a K (.ex x e) = K (.ex x e) := rfl
def argE (as : List Ag) (K : R (List AV) → Prop) : R D → Prop
  | .ok d e => Pv (mArgs as e) (argK (.val d) K)
  | .ex x e => K (.ex x e)
@[simp] theorem argE_ok {as : List Ag} {K : R (List AV) → Prop} {d : D} : argE as K (.ok d e) = Pv (mArgs as e) (argK (.val d) K) := rfl
@[simp] theorem argE_ex {as : List Ag} {K : R (List AV) → Prop} {x : Ex} : argE as K (.ex x e) = K (.ex x e) := rfl
@[simp ↓] theorem Pv_Args0 {K : R (List AV) → Prop} : Pv (mArgs [] e) K ↔ K (.ok [] e) := Pv_some
theorem argK_bind {as : List Ag} {a : AV} {K : R (List AV) → Prop} : Pv ((mArgs as).bind (fun r => M.pure (a :: r)) e) K ↔ Pv (mArgs as e) (argK a K) := by
  unfold M.bind
  cases mArgs as e with
  | none => simp
  | some r => cases r <;> simp [M.pure]
@[simp ↓] theorem Pv_ArgsV {i : Nat} {as : List Ag} {K : R (List AV) → Prop} : Pv (mArgs (.var i :: as) e) K ↔ Pv (slot e[i]?) (fun _ => Pv (mArgs as e) (argK (.var i) K)) := by
  show Pv (match mV i e with | none => none | some _ => (mArgs as).bind (fun r => M.pure (.var i :: r)) e) K ↔ _
  rw [mV_slot_eq]
  cases slot e[i]? with
  | none => simp
  | some d =>
    simp only [Pv_some]
    exact argK_bind
@[simp ↓] theorem Pv_ArgsE {m : M D} {as : List Ag} {K : R (List AV) → Prop} : Pv (mArgs (.e m :: as) e) K ↔ Pv (m e) (argE as K) := by
  show Pv (M.bind m (fun d => (mArgs as).bind fun r => M.pure (.val d :: r)) e) K ↔ _
  rw [Pv_bind]
  cases m e with
  | none => simp
  | some r =>
    cases r with
    | ex x e => simp
    | ok d e =>
      simp only [Pv_some, bindK_ok, argE_ok]
      exact argK_bind
@[simp ↓] theorem Pv_take0 {K : List D × Env → Prop} : Pv (takeA [] e) K ↔ K ([], e) := Pv_some
@[simp ↓] theorem Pv_takeE {d : D} {as : List AV} {K : List D × Env → Prop} : Pv (takeA (.val d :: as) e) K ↔ Pv (takeA as e) (fun p => K (d :: p.1, p.2)) := by
  show Pv (match takeA as e with | none => none | some (ds, e) => some (d :: ds, e)) K ↔ _
  cases takeA as e with
  | none => simp
  | some p => cases p; simp
def tkE (i : Nat) (d : D) (e : Env) : Env := if d.pers = true then e else e.set i .gone
@[simp] theorem tkE_eq {i : Nat} {d : D} : tkE i d e = if d.pers = true then e else e.set i .gone := rfl
@[simp ↓] theorem Pv_takeV {i : Nat} {as : List AV} {K : List D × Env → Prop} : Pv (takeA (.var i :: as) e) K ↔ Pv (slot e[i]?) (fun d => Pv (takeA as (tkE i d e)) (fun p => K (d :: p.1, p.2))) := by
  show Pv (match mV i e with | none => none | some d => match takeA as (if d.pers = true then e else e.set i .gone) with | none => none | some (ds, e) => some (d :: ds, e)) K ↔ _
  rw [mV_slot_eq]
  cases slot e[i]? with
  | none => simp
  | some d =>
    simp only [Pv_some, tkE]
    cases takeA as (if d.pers = true then e else e.set i .gone) with
    | none => simp
    | some p => cases p; simp
def backK (avs : List AV) (e : Env) (K : R D → Prop) : RF → Prop
  | .ok d ds => K (.ok d (giveA avs ds e))
  | .ex x ds => K (.ex x (giveA avs ds e))
@[simp] theorem backK_ok {avs : List AV} {K : R D → Prop} {d : D} {ds : List D} : backK avs e K (.ok d ds) = K (.ok d (giveA avs ds e)) := rfl
@[simp] theorem backK_ex {avs : List AV} {K : R D → Prop} {x : Ex} {ds : List D} : backK avs e K (.ex x ds) = K (.ex x (giveA avs ds e)) := rfl
def callK (f : MF) (K : R D → Prop) : R (List AV) → Prop
  | .ok avs e => Pv (takeA avs e) (fun p => Pv (f p.1) (backK avs p.2 K))
  | .ex x e => K (.ex x e)
@[simp] theorem callK_ok {f : MF} {K : R D → Prop} {avs : List AV} : callK f K (.ok avs e) = Pv (takeA avs e) (fun p => Pv (f p.1) (backK avs p.2 K)) := rfl
@[simp] theorem callK_ex {f : MF} {K : R D → Prop} {x : Ex} : callK f K (.ex x e) = K (.ex x e) := rfl
@[simp ↓] theorem Pv_Call {f : MF} {as : List Ag} {K : R D → Prop} : Pv (mCall f as e) K ↔ Pv (mArgs as e) (callK f K) := by
  unfold mCall
  rw [Pv_bind]
  cases mArgs as e with
  | none => simp
  | some r =>
    cases r with
    | ex x e => simp
    | ok avs e =>
      simp only [Pv_some, bindK_ok, callK_ok]
      cases takeA avs e with
      | none => simp
      | some p =>
        obtain ⟨ds, e1⟩ := p
        simp only [Pv_some]
        cases f ds with
        | none => simp
        | some r => cases r <;> simp
def gvS (i : Nat) (d : D) (e : Env) : Option D → Env
  | some .gone => e.set i d
  | _ => e
@[simp] theorem gvS_gone {i : Nat} {d : D} : gvS i d e (some .gone) = e.set i d := rfl
@[simp] theorem gvS_non {i : Nat} {d : D} : gvS i d e (some .non) = e := rfl
@[simp] theorem gvS_bl {i : Nat} {d : D} {b} : gvS i d e (some (.bl b)) = e := rfl
@[simp] theorem gvS_int {i : Nat} {d : D} {b} : gvS i d e (some (.int b)) = e := rfl
@[simp] theorem gvS_str {i : Nat} {d : D} {b} : gvS i d e (some (.str b)) = e := rfl
@[simp] theorem gvS_tup {i : Nat} {d : D} {b} : gvS i d e (some (.tup b)) = e := rfl
@[simp] theorem gvS_fz {i : Nat} {d : D} {b} : gvS i d e (some (.fz b)) = e := rfl
@[simp] theorem gvS_lst {i : Nat} {d : D} {b} : gvS i d e (some (.lst b)) = e := rfl
theorem gvS_of {i : Nat} {d x : D} (h : x ≠ .gone) : gvS i d e (some x) = e := by cases x <;> first | rfl | exact absurd rfl h
@[simp] theorem giveA_nil {ds : List D} : giveA [] ds e = e := by cases ds <;> rfl
@[simp] theorem giveA_val {d x : D} {as : List AV} {ds : List D} : giveA (.val d :: as) (x :: ds) e = giveA as ds e := rfl
@[simp] theorem giveA_var {i : Nat} {x : D} {as : List AV} {ds : List D} : giveA (.var i :: as) (x :: ds) e = giveA as ds (gvS i x e e[i]?) := by
  show giveA as ds _ = giveA as ds _
  congr 1
def fnK (κ : List Nat) (n : Nat) (K : RF → Prop) : O → Prop
  | .nx e => K (.ok .non (give κ 0 n e))
  | .ret d e => K (.ok d (give κ 0 n e))
  | .ex x e => K (.ex x (give κ 0 n e))
  | _ => False
@[simp] theorem fnK_nx {κ : List Nat} {n : Nat} {K : RF → Prop} : fnK κ n K (.nx e) = K (.ok .non (give κ 0 n e)) := rfl
@[simp] theorem fnK_ret {κ : List Nat} {n : Nat} {K : RF → Prop} {d : D} : fnK κ n K (.ret d e) = K (.ok d (give κ 0 n e)) := rfl
@[simp] theorem fnK_ex {κ : List Nat} {n : Nat} {K : RF → Prop} {x : Ex} : fnK κ n K (.ex x e) = K (.ex x (give κ 0 n e)) := rfl
theorem Pv_Fn {N n : Nat} {κ : List Nat} {body : MS} {ds : List D} {K : RF → Prop} : Pv (mFn N n κ body ds) K ↔ Pv (body (ds ++ List.replicate (N - n) .gone)) (fnK κ n K) := by
  unfold mFn
  cases body (ds ++ List.replicate (N - n) .gone) with
  | none => simp
  | some r => cases r <;> simp [fnK]
@[simp] theorem give_0 {κ : List Nat} {i : Nat} : give κ i 0 e = [] := by unfold give; rfl
@[simp] theorem give_s {κ : List Nat} {i n : Nat} {d : D} : give κ i (n + 1) (d :: e) = (if κ.contains i = true then d else .gone) :: give κ (i + 1) n e := by
  rw [give]
/-! ### exceptions -/
@[simp ↓] theorem Pv_Raise {cn : Str} {fs : List Str} {ms : Env → Option (List D)} : Pv (mRaise cn fs ms e) Q ↔ Pv (ms e) (fun ds => (ds.length = fs.length ∧ ds.length ≤ 2 ∧ persAll ds = true) ∧ Q (.ex ⟨cn, fs.reverse, ds.reverse⟩ e)) := by
  unfold mRaise
  cases ms e <;> simp
def tryK (hs : List Hd) (Q : O → Prop) : O → Prop
  | .ex x e => Pv (hdRun hs x e) Q
  | o => Q o
@[simp] theorem tryK_nx {hs : List Hd} : tryK hs Q (.nx e) = Q (.nx e) := rfl
@[simp] theorem tryK_bk {hs : List Hd} : tryK hs Q (.bk e) = Q (.bk e) := rfl
@[simp] theorem tryK_ct {hs : List Hd} : tryK hs Q (.ct e) = Q (.ct e) := rfl
@[simp] theorem tryK_ret {hs : List Hd} {d : D} : tryK hs Q (.ret d e) = Q (.ret d e) := rfl
@[simp] theorem tryK_ex {hs : List Hd} {x : Ex} : tryK hs Q (.ex x e) = Pv (hdRun hs x e) Q := rfl
@[simp ↓] theorem Pv_Try {hs : List Hd} {m : MS} : Pv (mTry m hs e) Q ↔ Pv (m e) (tryK hs Q) := by
  unfold mTry
  cases m e with
  | none => simp
  | some r => cases r <;> simp
def hdK (i : Nat) (Q : O → Prop) : O → Prop
  | .nx e => noxAll (e.set i .gone) = true ∧ Q (.nx (e.set i .gone))
  | .bk e => noxAll (e.set i .gone) = true ∧ Q (.bk (e.set i .gone))
  | .ct e => noxAll (e.set i .gone) = true ∧ Q (.ct (e.set i .gone))
  | .ret d e => (noxAll (e.set i .gone) = true ∧ d.nox = true) ∧ Q (.ret d (e.set i .gone))
  | .ex _ _ => False
@[simp] theorem hdK_nx {i : Nat} : hdK i Q (.nx e) = (noxAll (e.set i .gone) = true ∧ Q (.nx (e.set i .gone))) := rfl
@[simp] theorem hdK_ct {i : Nat} : hdK i Q (.ct e) = (noxAll (e.set i .gone) = true ∧ Q (.ct (e.set i .gone))) := rfl
@[simp] theorem hdK_bk {i : Nat} : hdK i Q (.bk e) = (noxAll (e.set i .gone) = true ∧ Q (.bk (e.set i .gone))) := rfl
@[simp] theorem hdK_ret {i : Nat} {d : D} : hdK i Q (.ret d e) = ((noxAll (e.set i .gone) = true ∧ d.nox = true) ∧ Q (.ret d (e.set i .gone))) := rfl
theorem Pv_hdYes {h : Hd} {hs : List Hd} {x : Ex} (hc : h.cm x.cls = some true) : Pv (hdRun (h :: hs) x e) Q ↔ (h.cn = x.cls ∧ h.i < e.length ∧ noxAll e = true ∧ noxAll x.vs = true) ∧ Pv (h.s (e.set h.i (.exc x.cls x.ns x.vs))) (hdK h.i Q) := by
  unfold hdRun
  rw [hc]
  simp only [Pv_ite]
  refine and_congr_right fun _ => ?_
  cases h.s (e.set h.i (.exc x.cls x.ns x.vs)) with
  | none => simp
  | some o => cases o <;> simp [hdEnd, hdK]
def kwK (e : Env) (K : R D → Prop) : RF → Prop
  | .ok d _ => K (.ok d e)
  | .ex _ _ => False
@[simp] theorem kwK_ok {K : R D → Prop} {d : D} {ds : List D} : kwK e K (.ok d ds) = K (.ok d e) := rfl
@[simp ↓] theorem Pv_CallK {f : MF} {n : Nat} {pi : List Nat} {ms : Env → Option (List D)} {K : R D → Prop} : Pv (mCallK f n pi ms e) K ↔ Pv (ms e) (fun ds => (persAll ds = true ∧ ds.length = n ∧ pi.all (fun i => decide (i < n)) = true) ∧ Pv (f (pick pi ds)) (kwK e K)) := by
  unfold mCallK
  cases ms e with
  | none => simp
  | some ds =>
    simp only [Pv_some, Pv_ite]
    refine and_congr_right fun _ => ?_
    cases f (pick pi ds) with
    | none => simp
    | some r => cases r <;> simp [kwK]
/-! ### loops -/
theorem Pv_While {t : M Bool} {b : MS} (I : Env → Prop) (μ : Env → Nat) (h0 : I e) (hs : ∀ e, I e → Pv (t e) (fun r => match r with
    | .ok true e1 => Pv (b e1) (fun o => match o with
      | .nx e2 => I e2 ∧ μ e2 < μ e
      | .ct e2 => I e2 ∧ μ e2 < μ e
      | .bk e2 => Q (.nx e2)
      | o => Q o)
    | .ok false e1 => Q (.nx e1)
    | .ex x e1 => Q (.ex x e1))) : Pv (mWhile t b e) Q := by
  have main : ∀ n e, I e → μ e < n → ∃ o, whileN t b n e = some o ∧ Q o := by
    intro n
    induction n with
    | zero => intro e _ h; omega
    | succ n ih =>
      intro e hI hm
      obtain ⟨r, er, q⟩ := hs e hI
      unfold whileN
      rw [er]
      match r, q with
      | .ok true e1, q =>
        obtain ⟨o, eo, q⟩ := q
        simp only [eo]
        match o, q with
        | .nx e2, q => exact ih e2 q.1 (by omega)
        | .ct e2, q => exact ih e2 q.1 (by omega)
        | .bk e2, q => exact ⟨_, rfl, q⟩
        | .ret d e2, q => exact ⟨_, rfl, q⟩
        | .ex x e2, q => exact ⟨_, rfl, q⟩
      | .ok false e1, q => exact ⟨_, rfl, q⟩
      | .ex x e1, q => exact ⟨_, rfl, q⟩
  obtain ⟨o, ho, q⟩ := main (μ e + 1) e h0 (Nat.lt_succ_self _)
  exact ⟨o, mWhile_of ho, q⟩
/-- after a loop's turn -/
def turnK (I : Env → Prop) (Q : O → Prop) : O → Prop
  | .nx e => I e
  | .ct e => I e
  | .bk e => Q (.nx e)
  | o => Q o
@[simp] theorem turnK_nx {I : Env → Prop} : turnK I Q (.nx e) = I e := rfl
@[simp] theorem turnK_ct {I : Env → Prop} : turnK I Q (.ct e) = I e := rfl
@[simp] theorem turnK_bk {I : Env → Prop} : turnK I Q (.bk e) = Q (.nx e) := rfl
@[simp] theorem turnK_ret {I : Env → Prop} {d : D} : turnK I Q (.ret d e) = Q (.ret d e) := rfl
@[simp] theorem turnK_ex {I : Env → Prop} {x : Ex} : turnK I Q (.ex x e) = Q (.ex x e) := rfl
def whK (b : MS) (I : Env → Prop) (Q : O → Prop) : R Bool → Prop
  | .ok c e => if c = true then Pv (b e) (turnK I Q) else Q (.nx e)
  | .ex x e => Q (.ex x e)
@[simp] theorem whK_ok {b : MS} {I : Env → Prop} {c : Bool} : whK b I Q (.ok c e) = if c = true then Pv (b e) (turnK I Q) else Q (.nx e) := rfl
@[simp] theorem whK_ex {b : MS} {I : Env → Prop} {x : Ex} : whK b I Q (.ex x e) = Q (.ex x e) := rfl
/-- while: what holds when n is left -/
theorem Pv_whileI {t : M Bool} {b : MS} (I : Nat → Env → Prop) (n : Nat) (h0 : I n e) (hs : ∀ n e, I n e → Pv (t e) (whK b (fun e' => ∃ n' < n, I n' e') Q)) : Pv (mWhile t b e) Q := by
  have main : ∀ n e, I n e → ∃ m o, whileN t b m e = some o ∧ Q o := by
    intro n
    induction n using Nat.strongRecOn with
    | _ n ih =>
      intro e hI
      obtain ⟨r, er, q⟩ := hs n e hI
      match r, er, q with
      | .ok true e1, er, q =>
        obtain ⟨o, eo, q⟩ := (show Pv (b e1) (turnK (fun e' => ∃ n' < n, I n' e') Q) from by simpa using q)
        match o, eo, q with
        | .nx e2, eo, q =>
          obtain ⟨n', hn, hI2⟩ := q
          obtain ⟨m, o, h1, h2⟩ := ih n' hn e2 hI2
          exact ⟨m + 1, o, by unfold whileN; rw [er]; simp only [eo]; exact h1, h2⟩
        | .ct e2, eo, q =>
          obtain ⟨n', hn, hI2⟩ := q
          obtain ⟨m, o, h1, h2⟩ := ih n' hn e2 hI2
          exact ⟨m + 1, o, by unfold whileN; rw [er]; simp only [eo]; exact h1, h2⟩
        | .bk e2, eo, q => exact ⟨1, _, by unfold whileN; rw [er]; simp only [eo], q⟩
        | .ret d e2, eo, q => exact ⟨1, _, by unfold whileN; rw [er]; simp only [eo], q⟩
        | .ex x e2, eo, q => exact ⟨1, _, by unfold whileN; rw [er]; simp only [eo], q⟩
      | .ok false e1, er, q => exact ⟨1, _, by unfold whileN; rw [er], by simpa using q⟩
      | .ex x e1, er, q => exact ⟨1, _, by unfold whileN; rw [er], q⟩
  obtain ⟨m, o, ho, q⟩ := main n e h0
  exact ⟨o, mWhile_of ho, q⟩
/-- for over a list of data: what holds ahead of the turn k -/
theorem Pv_forL {gm : D → Env → Option Env} {b : MS} {xs : List D} (I : Nat → Env → Prop) (h0 : I 0 e) (hs : ∀ k e (h : k < xs.length), I k e → xs[k].pers = true ∧ Pv (gm xs[k] e) (fun e1 => Pv (b e1) (turnK (I (k + 1)) Q))) (hn : ∀ e, I xs.length e → Q (.nx e)) : Pv (forL gm b xs e) Q := by
  have main : ∀ (ys zs : List D) e, xs = zs ++ ys → I zs.length e → Pv (forL gm b ys e) Q := by
    intro ys
    induction ys with
    | nil =>
      intro zs e ex hI
      rw [List.append_nil] at ex
      subst ex
      exact ⟨_, rfl, hn e hI⟩
    | cons y ys ih =>
      intro zs e ex hI
      have hk : zs.length < xs.length := by rw [ex]; simp
      obtain ⟨hp, e1, g1, o, eo, q⟩ := hs zs.length e hk hI
      have hy : xs[zs.length] = y := by simp [ex]
      rw [hy] at hp g1
      unfold forL
      rw [if_pos hp, g1]
      simp only [eo]
      match o, eo, q with
      | .nx e2, eo, q => exact ih (zs ++ [y]) e2 (by simp [ex]) (by simpa using q)
      | .ct e2, eo, q => exact ih (zs ++ [y]) e2 (by simp [ex]) (by simpa using q)
      | .bk e2, eo, q => exact ⟨_, rfl, q⟩
      | .ret d e2, eo, q => exact ⟨_, rfl, q⟩
      | .ex x e2, eo, q => exact ⟨_, rfl, q⟩
  exact main xs [] e rfl h0
def forK (gm : D → Env → Option Env) (b : MS) (Q : O → Prop) : R (List D) → Prop
  | .ok ds e => Pv (forL gm b ds e) Q
  | .ex x e => Q (.ex x e)
@[simp] theorem forK_ok {gm : D → Env → Option Env} {b : MS} {ds : List D} : forK gm b Q (.ok ds e) = Pv (forL gm b ds e) Q := rfl
@[simp] theorem forK_ex {gm : D → Env → Option Env} {b : MS} {x : Ex} : forK gm b Q (.ex x e) = Q (.ex x e) := rfl
@[simp ↓] theorem Pv_For {src : M (List D)} {gm : D → Env → Option Env} {b : MS} : Pv (mFor src gm b e) Q ↔ Pv (src e) (forK gm b Q) := by
  unfold mFor
  cases src e with
  | none => simp
  | some r => cases r <;> simp
@[simp ↓] theorem Pv_Rg {op : List D → Option (List D)} {ms : M (List D)} {K : R (List D) → Prop} : Pv (mRg op ms e) K ↔ Pv (ms e) (bindK (fun ds => M.ofO (op ds)) K) := Pv_bind
@[simp ↓] theorem Pv_It {m : M D} {K : R (List D) → Prop} : Pv (mIt m e) K ↔ Pv (m e) (bindK (fun d => M.ofO (itemsD d)) K) := Pv_bind
end DL
set_option maxHeartbeats 4000000
/-! PW2: loops over names, comprehensions, operators as simp rules. -/
namespace DL
open PySem PySem.Spec PyProof.Rows L2
variable {α β : Type} {e : Env} {m n : MS} {Q : O → Prop}
theorem rng1_nat (n : Nat) (h1 : ¬ (n : Int) < -(2 ^ 62)) (hn : (n : Int) < 2 ^ 62) : rng1 [.int (n : Int)] = some (rangeD 0 n) := by
  unfold rng1
  split
  · rename_i j e
    have e2 : (n : Int) = j := by injection e with a _; injection a
    subst e2
    split
    · rfl
    · rename_i hc
      exact absurd ⟨Int.not_lt.mp h1, hn⟩ hc
  · rename_i hx
    exact absurd rfl (hx _)
theorem ix0 {α : Type} (x : α) (l : List α) : L2.atI (x :: l) 0 = some x := by
  unfold L2.atI ixN
  simp
theorem ix1 {α : Type} (x y : α) (l : List α) : L2.atI (x :: y :: l) 1 = some y := by
  unfold L2.atI ixN
  rw [if_pos (by omega), if_pos (by simp; omega)]
  rfl
theorem ixN_last (n : Nat) : ixN (n + 1) (-1) = some n := by
  unfold ixN
  rw [if_neg (by omega), if_pos (by omega)]
  congr 1
  omega
theorem ix_last {α : Type} (l : List α) (x : α) : L2.atI (l ++ [x]) (-1) = some x := by
  unfold L2.atI
  rw [List.length_append, List.length_singleton, ixN_last]
  simp
theorem dEq_int (i j : Int) : dEq (.int i) (.int j) = some (.bl (i == j)) := by
  unfold dEq
  rw [if_pos ⟨rfl, rfl, rfl, rfl⟩]
  rfl
/-! ### xs[j] = e, j with calls -/
def sieS (i : Nat) (d : D) (z : Int) (e : Env) (Q : O → Prop) : D → Prop
  | .lst l => Pv (ixN l.length z) (fun j => Q (.nx (e.set i (.lst (l.set j d)))))
  | _ => False
@[simp] theorem sieS_lst {i : Nat} {d : D} {z : Int} {l : List D} : sieS i d z e Q (.lst l) = Pv (ixN l.length z) (fun j => Q (.nx (e.set i (.lst (l.set j d))))) := rfl
def sieJ (i : Nat) (d : D) (Q : O → Prop) : R D → Prop
  | .ok (.int z) e => Pv (slot e[i]?) (sieS i d z e Q)
  | .ok _ _ => False
  | .ex x e => Q (.ex x e)
@[simp] theorem sieJ_int {i : Nat} {d : D} {z : Int} : sieJ i d Q (.ok (.int z) e) = Pv (slot e[i]?) (sieS i d z e Q) := rfl
@[simp] theorem sieJ_ex {i : Nat} {d : D} {x : Ex} : sieJ i d Q (.ex x e) = Q (.ex x e) := rfl
def sieK (i : Nat) (mj : M D) (Q : O → Prop) : R D → Prop
  | .ok d e => Pv (slot e[i]?) (isL (Pv (mj e) (sieJ i d Q)))
  | .ex x e => Q (.ex x e)
@[simp] theorem sieK_ok {i : Nat} {mj : M D} {d : D} : sieK i mj Q (.ok d e) = Pv (slot e[i]?) (isL (Pv (mj e) (sieJ i d Q))) := rfl
@[simp] theorem sieK_ex {i : Nat} {mj : M D} {x : Ex} : sieK i mj Q (.ex x e) = Q (.ex x e) := rfl
@[simp ↓] theorem Pv_SetIxE {i : Nat} {mj : M D} {m : M D} : Pv (mSetIxE i mj m e) Q ↔ Pv (m e) (sieK i mj Q) := by
  unfold mSetIxE
  cases m e with
  | none => simp
  | some r =>
    cases r with
    | ex x e => simp
    | ok d e =>
      simp only [Pv_some, sieK_ok]
      rw [mV_slot_eq]
      cases slot e[i]? with
      | none => simp
      | some y =>
        cases y with
        | lst l =>
          simp only [Pv_some, isL_lst]
          cases mj e with
          | none => simp
          | some r =>
            cases r with
            | ex x e => simp
            | ok z e =>
              cases z with
              | int z =>
                simp only [Pv_some, sieJ_int]
                rw [mV_slot_eq]
                cases slot e[i]? with
                | none => simp
                | some y2 =>
                  cases y2 with
                  | lst l2 =>
                    simp only [Pv_some, sieS_lst]
                    cases ixN l2.length z <;> simp
                  | _ => simp [sieS]
              | _ => simp [sieJ]
        | _ => simp [isL]
/-! ### for over a name -/
theorem Pv_forVT {i : Nat} {gm : D → Env → Option Env} {b : MS} {l : List D} (he : e[i]? = some (.tup l)) : Pv (mForV i gm b e) Q ↔ persAll l = true ∧ Pv (forL gm b l e) Q := by
  unfold mForV mV
  rw [he]
  simp only [itemsD]
  by_cases h : persAll l = true <;> simp [h]
theorem Pv_forVF {i : Nat} {gm : D → Env → Option Env} {b : MS} {l : List D} (he : e[i]? = some (.fz l)) : Pv (mForV i gm b e) Q ↔ persAll l = true ∧ Pv (forL gm b l e) Q := by
  unfold mForV mV
  rw [he]
  simp only [itemsD]
  by_cases h : persAll l = true <;> simp [h]
theorem Pv_forVL {i : Nat} {gm : D → Env → Option Env} {b : MS} {l : List D} (I : Nat → Env → Prop) (hl : ∀ k e, I k e → e[i]? = some (.lst l)) (h0 : I 0 e)
    (hs : ∀ k e (h : k < l.length), I k e → l[k].pers = true ∧ Pv (gm l[k] e) (fun e1 => Pv (b e1) (turnK (I (k + 1)) Q))) (hn : ∀ e, I l.length e → Q (.nx e)) : Pv (mForV i gm b e) Q := by
  have main : ∀ n k e, I k e → k + n = l.length → ∃ o, forVN gm b i (n + 1) k e = some o ∧ Q o := by
    intro n
    induction n with
    | zero =>
      intro k e hI hk
      have hk' : k = l.length := by omega
      subst hk'
      refine ⟨_, ?_, hn e hI⟩
      unfold forVN mV
      rw [hl _ e hI]
      simp
    | succ n ih =>
      intro k e hI hk
      have hk' : k < l.length := by omega
      obtain ⟨hp, e1, g1, o, eo, q⟩ := hs k e hk' hI
      unfold forVN mV
      rw [hl _ e hI]
      simp only [List.getElem?_eq_getElem hk', if_pos hp, g1, eo]
      match o, eo, q with
      | .nx e2, eo, q => exact ih (k + 1) e2 q (by omega)
      | .ct e2, eo, q => exact ih (k + 1) e2 q (by omega)
      | .bk e2, eo, q => exact ⟨_, rfl, q⟩
      | .ret d e2, eo, q => exact ⟨_, rfl, q⟩
      | .ex x e2, eo, q => exact ⟨_, rfl, q⟩
  obtain ⟨o, ho, q⟩ := main l.length 0 e h0 (by omega)
  refine ⟨o, ?_, q⟩
  unfold mForV mV
  rw [hl 0 e h0]
  exact forVL_of ho
/-! ### comprehensions -/
def ltW (vs : List Nat) (K : Option D × Env → Prop) : R D → Prop
  | .ok y e => Pv (wipeE vs e) (fun e' => K (some y, e'))
  | .ex _ _ => False
@[simp] theorem ltW_ok {vs : List Nat} {K : Option D × Env → Prop} {y : D} : ltW vs K (.ok y e) = Pv (wipeE vs e) (fun e' => K (some y, e')) := rfl
def ltK (te : M D) (vs : List Nat) (K : Option D × Env → Prop) : R Bool → Prop
  | .ok b e => if b = true then Pv (te e) (ltW vs K) else Pv (wipeE vs e) (fun e' => K (none, e'))
  | .ex _ _ => False
@[simp] theorem ltK_ok {te : M D} {vs : List Nat} {K : Option D × Env → Prop} {b : Bool} : ltK te vs K (.ok b e) = if b = true then Pv (te e) (ltW vs K) else Pv (wipeE vs e) (fun e' => K (none, e')) := rfl
@[simp ↓] theorem Pv_lcTurn {gm : D → Env → Option Env} {tt : M Bool} {te : M D} {vs : List Nat} {x : D} {K : Option D × Env → Prop} : Pv (lcTurn gm tt te vs x e) K ↔ Pv (gm x e) (fun e1 => Pv (tt e1) (ltK te vs K)) := by
  unfold lcTurn
  cases gm x e with
  | none => simp
  | some e1 =>
    simp only [Pv_some]
    cases tt e1 with
    | none => simp
    | some r =>
      cases r with
      | ex x e => simp [ltK]
      | ok b e2 =>
        cases b with
        | true =>
          simp only [Pv_some, ltK_ok, if_true]
          cases te e2 with
          | none => simp
          | some r =>
            cases r with
            | ex x e => simp [ltW]
            | ok y e3 =>
              simp only [Pv_some, ltW_ok]
              cases hw : wipeE vs e3 <;> simp [hw]
        | false =>
          simp only [Pv_some, ltK_ok]
          cases hw : wipeE vs e2 <;> simp [hw]
@[simp ↓] theorem Pv_wipe0 {K : Env → Prop} : Pv (wipeE [] e) K ↔ K e := Pv_some
@[simp ↓] theorem Pv_wipe1 {i : Nat} {vs : List Nat} {K : Env → Prop} : Pv (wipeE (i :: vs) e) K ↔ Pv (wipeE vs e) (fun e' => okSlot e' i = true ∧ K (e'.set i .gone)) := by
  show Pv (match wipeE vs e with | none => none | some e' => if okSlot e' i = true then some (e'.set i .gone) else none) K ↔ _
  cases wipeE vs e <;> simp
@[simp] theorem okSlot_gone {i : Nat} (h : e[i]? = some .gone) : okSlot e i = true := by unfold okSlot; rw [h]
theorem okSlot_of {i : Nat} {d : D} (h : e[i]? = some d) (p : d.pers = true) : okSlot e i = true := by
  unfold okSlot
  rw [h]
  cases d <;> first | rfl | exact p
def okD : D → Bool
  | .gone => true
  | d => d.pers
theorem okSlot_eq {i : Nat} : okSlot e i = match e[i]? with | some d => okD d | none => true := by
  unfold okSlot okD
  cases e[i]? with
  | none => rfl
  | some d => cases d <;> rfl
@[simp] theorem okD_gone : okD .gone = true := rfl
@[simp] theorem okD_non : okD .non = true := rfl
@[simp] theorem okD_bl {b} : okD (.bl b) = true := rfl
@[simp] theorem okD_int {b} : okD (.int b) = true := rfl
@[simp] theorem okD_str {b} : okD (.str b) = true := rfl
@[simp] theorem okD_tup {l} : okD (.tup l) = persAll l := rfl
@[simp] theorem okD_fz {l} : okD (.fz l) = persAll l := rfl
@[simp] theorem okD_pers {d : D} (h : d.pers = true) : okD d = true := by cases d <;> first | rfl | exact h
@[simp] theorem Pv_Yes {K : R Bool → Prop} : Pv (mYes e) K ↔ K (.ok true e) := Pv_some
/-- what a comprehension's turns leave: I k acc e ahead of turn k -/
theorem Pv_lcL {gm : D → Env → Option Env} {tt : M Bool} {te : M D} {vs : List Nat} {xs : List D} {K : List D × Env → Prop} (I : Nat → List D → Env → Prop) (h0 : I 0 [] e)
    (hs : ∀ k acc e (h : k < xs.length), I k acc e → xs[k].pers = true ∧ Pv (lcTurn gm tt te vs xs[k] e) (fun p => match p.1 with | none => I (k + 1) acc p.2 | some y => acc.length < LIM ∧ I (k + 1) (acc ++ [y]) p.2))
    (hn : ∀ acc e, I xs.length acc e → K (acc, e)) : Pv (lcL gm tt te vs xs [] e) K := by
  have main : ∀ (ys zs : List D) acc e, xs = zs ++ ys → I zs.length acc e → Pv (lcL gm tt te vs ys acc e) K := by
    intro ys
    induction ys with
    | nil =>
      intro zs acc e ex hI
      rw [List.append_nil] at ex
      subst ex
      exact ⟨_, rfl, hn acc e hI⟩
    | cons y ys ih =>
      intro zs acc e ex hI
      have hk : zs.length < xs.length := by rw [ex]; simp
      obtain ⟨hp, p, ep, q⟩ := hs zs.length acc e hk hI
      have hy : xs[zs.length] = y := by simp [ex]
      rw [hy] at hp ep
      unfold lcL
      rw [if_pos hp, ep]
      obtain ⟨o, e'⟩ := p
      cases o with
      | none => exact ih (zs ++ [y]) acc e' (by simp [ex]) (by simpa using q)
      | some z =>
        simp only
        rw [if_pos q.1]
        exact ih (zs ++ [y]) _ e' (by simp [ex]) (by simpa using q.2)
  exact main xs [] [] e rfl h0
/-- every turn leaves the names as they were -/
theorem Pv_lcMap {gm : D → Env → Option Env} {tt : M Bool} {te : M D} {vs : List Nat} {xs : List D} {K : List D × Env → Prop} (F : D → Option D) (hl : xs.length ≤ LIM)
    (hs : ∀ x ∈ xs, x.pers = true ∧ Pv (lcTurn gm tt te vs x e) (fun p => p = (F x, e))) (hn : K (xs.filterMap F, e)) : Pv (lcL gm tt te vs xs [] e) K := by
  refine Pv_lcL (fun k acc e' => e' = e ∧ acc = (xs.take k).filterMap F) ⟨rfl, by simp⟩ (fun k acc e' h hI => ?_) (fun acc e' hI => ?_)
  · obtain ⟨rfl, rfl⟩ := hI
    obtain ⟨hp, q⟩ := hs xs[k] (List.getElem_mem h)
    refine ⟨hp, q.imp fun p ep => ?_⟩
    subst ep
    have t : (xs.take (k + 1)).filterMap F = (xs.take k).filterMap F ++ (F xs[k]).toList := by
      rw [List.take_succ_eq_append_getElem h, List.filterMap_append]
      simp only [List.filterMap_cons, List.filterMap_nil]
      cases F xs[k] <;> rfl
    cases hF : F xs[k] with
    | none => exact ⟨rfl, by rw [t, hF]; simp⟩
    | some y =>
      refine ⟨?_, rfl, by rw [t, hF]; simp⟩
      have := List.length_filterMap_le F (xs.take k)
      have := List.length_take_le k xs
      omega
  · obtain ⟨rfl, rfl⟩ := hI
    rw [List.take_length]
    exact hn
def lcK (vs : List Nat) (gm : D → Env → Option Env) (tt : M Bool) (te : M D) (K : R D → Prop) : R (List D) → Prop
  | .ok ds e => Pv (wipeE vs e) (fun e0 => Pv (lcL gm tt te vs ds [] e0) (fun p => K (.ok (.lst p.1) (restE e vs p.2))))
  | .ex x e => K (.ex x e)
@[simp] theorem lcK_ok {vs : List Nat} {gm : D → Env → Option Env} {tt : M Bool} {te : M D} {K : R D → Prop} {ds : List D} : lcK vs gm tt te K (.ok ds e) = Pv (wipeE vs e) (fun e0 => Pv (lcL gm tt te vs ds [] e0) (fun p => K (.ok (.lst p.1) (restE e vs p.2)))) := rfl
@[simp] theorem lcK_ex {vs : List Nat} {gm : D → Env → Option Env} {tt : M Bool} {te : M D} {K : R D → Prop} {x : Ex} : lcK vs gm tt te K (.ex x e) = K (.ex x e) := rfl
@[simp ↓] theorem Pv_Lc {vs : List Nat} {src : M (List D)} {gm : D → Env → Option Env} {tt : M Bool} {te : M D} {K : R D → Prop} : Pv (mLc vs src gm tt te e) K ↔ Pv (src e) (lcK vs gm tt te K) := by
  unfold mLc
  cases src e with
  | none => simp
  | some r =>
    cases r with
    | ex x e => simp
    | ok ds e =>
      simp only [Pv_some, lcK_ok]
      cases wipeE vs e with
      | none => simp
      | some e0 =>
        simp only [Pv_some]
        cases lcL gm tt te vs ds [] e0 <;> simp
@[simp] theorem restE_nil {e0 : Env} : restE e0 [] e = e := rfl
@[simp] theorem restE_cons {e0 : Env} {i : Nat} {vs : List Nat} : restE e0 (i :: vs) e = restE e0 vs (match e0[i]? with | some d => e.set i d | none => e) := rfl
theorem Pv_LcVT {vs : List Nat} {i : Nat} {gm : D → Env → Option Env} {tt : M Bool} {te : M D} {K : R D → Prop} {l : List D} (he : e[i]? = some (.tup l)) : Pv (mLcV vs i gm tt te e) K ↔ persAll l = true ∧ Pv (wipeE vs e) (fun e0 => Pv (lcL gm tt te vs l [] e0) (fun p => K (.ok (.lst p.1) (restE e vs p.2)))) := by
  unfold mLcV mV
  rw [he]
  simp only [itemsD]
  by_cases h : persAll l = true
  · simp only [h, if_true, true_and]
    cases wipeE vs e with
    | none => simp
    | some e0 =>
      simp only [Pv_some]
      cases lcL gm tt te vs l [] e0 <;> simp
  · simp [h]
theorem Pv_LcVF {vs : List Nat} {i : Nat} {gm : D → Env → Option Env} {tt : M Bool} {te : M D} {K : R D → Prop} {l : List D} (he : e[i]? = some (.fz l)) : Pv (mLcV vs i gm tt te e) K ↔ persAll l = true ∧ Pv (wipeE vs e) (fun e0 => Pv (lcL gm tt te vs l [] e0) (fun p => K (.ok (.lst p.1) (restE e vs p.2)))) := by
  unfold mLcV mV
  rw [he]
  simp only [itemsD]
  by_cases h : persAll l = true
  · simp only [h, if_true, true_and]
    cases wipeE vs e with
    | none => simp
    | some e0 =>
      simp only [Pv_some]
      cases lcL gm tt te vs l [] e0 <;> simp
  · simp [h]
theorem Pv_LcVS {vs : List Nat} {i : Nat} {gm : D → Env → Option Env} {tt : M Bool} {te : M D} {K : R D → Prop} {x : Str} (he : e[i]? = some (.str x)) : Pv (mLcV vs i gm tt te e) K ↔ Pv (wipeE vs e) (fun e0 => Pv (lcL gm tt te vs (x.cps.toList.map fun c => .str ⟨#[c]⟩) [] e0) (fun p => K (.ok (.lst p.1) (restE e vs p.2)))) := by
  unfold mLcV mV
  rw [he]
  simp only [itemsD]
  cases wipeE vs e with
  | none => simp
  | some e0 =>
    simp only [Pv_some]
    cases lcL gm tt te vs (x.cps.toList.map fun c => .str ⟨#[c]⟩) [] e0 <;> simp
theorem Pv_LcVL {vs : List Nat} {i : Nat} {gm : D → Env → Option Env} {tt : M Bool} {te : M D} {K : R D → Prop} {l : List D} (I : Nat → List D → Env → Prop) (he : e[i]? = some (.lst l)) (hl : ∀ k acc e, I k acc e → e[i]? = some (.lst l))
    (h0 : Pv (wipeE vs e) (fun e0 => I 0 [] e0))
    (hs : ∀ k acc e (h : k < l.length), I k acc e → l[k].pers = true ∧ Pv (lcTurn gm tt te vs l[k] e) (fun p => match p.1 with | none => I (k + 1) acc p.2 | some y => acc.length < LIM ∧ I (k + 1) (acc ++ [y]) p.2))
    (hn : ∀ acc e', I l.length acc e' → K (.ok (.lst acc) (restE e vs e'))) : Pv (mLcV vs i gm tt te e) K := by
  obtain ⟨e0, ew, hI0⟩ := h0
  have main : ∀ n k acc e1, I k acc e1 → k + n = l.length → ∃ p, lcVN gm tt te vs i (n + 1) k acc e1 = some p ∧ K (.ok (.lst p.1) (restE e vs p.2)) := by
    intro n
    induction n with
    | zero =>
      intro k acc e1 hI hk
      have hk' : k = l.length := by omega
      subst hk'
      refine ⟨(acc, e1), ?_, hn acc e1 hI⟩
      unfold lcVN mV
      rw [hl _ _ e1 hI]
      simp
    | succ n ih =>
      intro k acc e1 hI hk
      have hk' : k < l.length := by omega
      obtain ⟨hp, p, ep, q⟩ := hs k acc e1 hk' hI
      unfold lcVN mV
      rw [hl _ _ e1 hI]
      simp only [List.getElem?_eq_getElem hk', if_pos hp, ep]
      obtain ⟨o, e2⟩ := p
      cases o with
      | none => exact ih (k + 1) acc e2 q (by omega)
      | some y =>
        simp only
        rw [if_pos q.1]
        exact ih (k + 1) _ e2 q.2 (by omega)
  obtain ⟨p, hp, q⟩ := main l.length 0 [] e0 hI0 (by omega)
  refine ⟨_, ?_, q⟩
  unfold mLcV mV
  rw [he]
  simp only [ew, lcVL_of hp]
theorem Pv_LcVMap {vs : List Nat} {i : Nat} {gm : D → Env → Option Env} {tt : M Bool} {te : M D} {K : R D → Prop} {l : List D} {e0 : Env} (F : D → Option D) (he : e[i]? = some (.lst l)) (ew : wipeE vs e = some e0) (he0 : e0[i]? = some (.lst l)) (hl : l.length ≤ LIM)
    (hs : ∀ x ∈ l, x.pers = true ∧ Pv (lcTurn gm tt te vs x e0) (fun p => p = (F x, e0))) (hn : K (.ok (.lst (l.filterMap F)) (restE e vs e0))) : Pv (mLcV vs i gm tt te e) K := by
  refine Pv_LcVL (fun k acc e' => e' = e0 ∧ acc = (l.take k).filterMap F) he (fun k acc e' h => by rw [h.1]; exact he0) ⟨e0, ew, rfl, by simp⟩ (fun k acc e' h hI => ?_) (fun acc e' hI => ?_)
  · obtain ⟨rfl, rfl⟩ := hI
    obtain ⟨hp, q⟩ := hs l[k] (List.getElem_mem h)
    refine ⟨hp, q.imp fun p ep => ?_⟩
    subst ep
    have t : (l.take (k + 1)).filterMap F = (l.take k).filterMap F ++ (F l[k]).toList := by
      rw [List.take_succ_eq_append_getElem h, List.filterMap_append]
      simp only [List.filterMap_cons, List.filterMap_nil]
      cases F l[k] <;> rfl
    cases hF : F l[k] with
    | none => exact ⟨rfl, by rw [t, hF]; simp⟩
    | some y =>
      refine ⟨?_, rfl, by rw [t, hF]; simp⟩
      have := List.length_filterMap_le F (l.take k)
      have := List.length_take_le k l
      omega
  · obtain ⟨rfl, rfl⟩ := hI
    rw [List.take_length]
    exact hn
/-- an if whose ways meet again -/
def joinK (I : Env → Prop) (Q : O → Prop) : O → Prop
  | .nx e => I e
  | o => Q o
@[simp] theorem joinK_nx {I : Env → Prop} : joinK I Q (.nx e) = I e := rfl
@[simp] theorem joinK_ret {I : Env → Prop} {d : D} : joinK I Q (.ret d e) = Q (.ret d e) := rfl
@[simp] theorem joinK_ex {I : Env → Prop} {x : Ex} : joinK I Q (.ex x e) = Q (.ex x e) := rfl
@[simp] theorem joinK_bk {I : Env → Prop} : joinK I Q (.bk e) = Q (.bk e) := rfl
@[simp] theorem joinK_ct {I : Env → Prop} : joinK I Q (.ct e) = Q (.ct e) := rfl
theorem Pv_join {m : MS} (I : Env → Prop) (h : Pv (m e) (joinK I Q)) (hn : ∀ e', I e' → Q (.nx e')) : Pv (m e) Q :=
  h.imp fun o ho => by cases o <;> first | exact hn _ ho | exact ho
/-! ### operators -/
@[simp] theorem dAdd_int {i j : Int} : dAdd (.int i) (.int j) = some (.int (i + j)) := rfl
@[simp] theorem dSub_int {i j : Int} : dSub (.int i) (.int j) = some (.int (i - j)) := rfl
@[simp] theorem dMul_int {i j : Int} : dMul (.int i) (.int j) = if i.natAbs.log2 + j.natAbs.log2 < 1000000 then some (.int (i * j)) else none := rfl
@[simp] theorem dMod_int {i j : Int} : dMod (.int i) (.int j) = if 0 < j then some (.int (i % j)) else none := rfl
@[simp] theorem dFdiv_int {i j : Int} : dFdiv (.int i) (.int j) = if 0 < j ∧ j.natAbs.log2 < 9000 then some (.int (i / j)) else none := rfl
@[simp] theorem dNeg_int {i : Int} : dNeg (.int i) = some (.int (-i)) := rfl
@[simp] theorem dCmpI_int {p : Int → Int → Bool} {i j : Int} : dCmpI p (.int i) (.int j) = some (.bl (p i j)) := rfl
@[simp] theorem dAdd_tup {l m : List D} : dAdd (.tup l) (.tup m) = if l.length + m.length ≤ LIM ∧ persAll l = true ∧ persAll m = true then some (.tup (l ++ m)) else none := rfl
@[simp] theorem dAdd_lst {l m : List D} : dAdd (.lst l) (.lst m) = if l.length + m.length ≤ LIM ∧ persAll l = true ∧ persAll m = true then some (.lst (l ++ m)) else none := rfl
@[simp] theorem dEq_ints {i j : Int} : dEq (.int i) (.int j) = some (.bl (i == j)) := dEq_int i j
@[simp] theorem dNe_ints {i j : Int} : dNe (.int i) (.int j) = some (.bl (!(i == j))) := by
  unfold dNe
  rw [if_pos ⟨rfl, rfl, rfl, rfl⟩]
  rfl
/-- a text that the model may lay -/
abbrev OkS (x : Str) : Prop := SeqAt.shaped (D.str x).py = true
theorem dEq_strs {x y : Str} (hx : OkS x) (hy : OkS y) : dEq (.str x) (.str y) = some (.bl (x == y)) := by
  unfold dEq
  rw [if_pos ⟨rfl, rfl, hx, hy⟩]
  rfl
theorem dNe_strs {x y : Str} (hx : OkS x) (hy : OkS y) : dNe (.str x) (.str y) = some (.bl (!(x == y))) := by
  unfold dNe
  rw [if_pos ⟨rfl, rfl, hx, hy⟩]
  rfl
@[simp] theorem dLen_tup {l : List D} : dLen [.tup l] = some (.int l.length) := rfl
@[simp] theorem dLen_lst {l : List D} : dLen [.lst l] = some (.int l.length) := rfl
@[simp] theorem dLen_str {x : Str} : dLen [.str x] = if x.length ≤ LIM then some (.int x.length) else none := rfl
@[simp] theorem dIx_tup {l : List D} {i : Int} : dIx (.tup l) (.int i) = L2.atI l i := rfl
@[simp] theorem dIx_lst {l : List D} {i : Int} : dIx (.lst l) (.int i) = L2.atI l i := rfl
@[simp] theorem dSl_tup {l : List D} {a b : Option Int} : dSl (.tup l) a b = if persAll l = true then some (.tup (cutD l a b)) else none := rfl
@[simp] theorem dSl_lst {l : List D} {a b : Option Int} : dSl (.lst l) a b = if persAll l = true then some (.lst (cutD l a b)) else none := rfl
@[simp] theorem dIs_tup {l : List D} : dIs (.tup l) .non = some (.bl false) := rfl
@[simp] theorem dIs_non : dIs .non .non = some (.bl true) := rfl
@[simp] theorem dIs_bl {b} : dIs (.bl b) .non = some (.bl false) := rfl
@[simp] theorem dIs_int {b} : dIs (.int b) .non = some (.bl false) := rfl
@[simp] theorem dIs_str {b} : dIs (.str b) .non = some (.bl false) := rfl
@[simp] theorem dIsNot_non : dIsNot .non .non = some (.bl false) := rfl
@[simp] theorem dTuple_lst {l : List D} : dTuple [.lst l] = if persAll l = true then some (.tup l) else none := rfl
@[simp] theorem dTuple_tup {l : List D} : dTuple [.tup l] = if persAll l = true then some (.tup l) else none := rfl
@[simp] theorem dList_tup {l : List D} : dList [.tup l] = if persAll l = true then some (.lst l) else none := rfl
@[simp] theorem dList_lst {l : List D} : dList [.lst l] = if persAll l = true then some (.lst l) else none := rfl
@[simp] theorem dMin_int {i j : Int} : dMin [.int i, .int j] = some (.int (if j < i then j else i)) := rfl
@[simp] theorem dMax_int {i j : Int} : dMax [.int i, .int j] = some (.int (if j > i then j else i)) := rfl
@[simp] theorem dInt_int {i : Int} : dInt [.int i] = some (.int i) := rfl
@[simp] theorem dAbs_int {i : Int} : dAbs [.int i] = some (.int (if i < 0 then -i else i)) := rfl
@[simp] theorem dRev_tup {l : List D} : dRev (.tup l) = if persAll l = true then some (.tup l.reverse) else none := rfl
@[simp] theorem dRev_lst {l : List D} : dRev (.lst l) = if persAll l = true then some (.lst l.reverse) else none := rfl
@[simp] theorem itemsD_tup {l : List D} : itemsD (.tup l) = if persAll l = true then some l else none := rfl
@[simp] theorem itemsD_lst {l : List D} : itemsD (.lst l) = if persAll l = true then some l else none := rfl
@[simp] theorem itemsD_str {x : Str} : itemsD (.str x) = some (x.cps.toList.map fun c => .str ⟨#[c]⟩) := rfl
@[simp] theorem frzD_lst {l : List D} : frzD (.lst l) = if persAll l = true then some (.fz l) else none := rfl
@[simp] theorem Has_tt {l} : Ty.has .tup (.tup l) = some true := rfl
@[simp] theorem Has_tn : Ty.has .tup .non = some false := rfl
@[simp] theorem Has_tb {l} : Ty.has .tup (.bl l) = some false := rfl
@[simp] theorem Has_ti {l} : Ty.has .tup (.int l) = some false := rfl
@[simp] theorem Has_ts {l} : Ty.has .tup (.str l) = some false := rfl
@[simp] theorem Has_tl {l} : Ty.has .tup (.lst l) = some false := rfl
@[simp] theorem Has_tf {l} : Ty.has .tup (.fz l) = some false := rfl
@[simp] theorem Has_st {l} : Ty.has .str (.tup l) = some false := rfl
@[simp] theorem Has_sn : Ty.has .str .non = some false := rfl
@[simp] theorem Has_sb {l} : Ty.has .str (.bl l) = some false := rfl
@[simp] theorem Has_si {l} : Ty.has .str (.int l) = some false := rfl
@[simp] theorem Has_ss {l} : Ty.has .str (.str l) = some true := rfl
@[simp] theorem Has_sl {l} : Ty.has .str (.lst l) = some false := rfl
@[simp] theorem Has_sf {l} : Ty.has .str (.fz l) = some false := rfl
@[simp] theorem Has_it {l} : Ty.has .int (.tup l) = some false := rfl
@[simp] theorem Has_in : Ty.has .int .non = some false := rfl
@[simp] theorem Has_ib {l} : Ty.has .int (.bl l) = some true := rfl
@[simp] theorem Has_ii {l} : Ty.has .int (.int l) = some true := rfl
@[simp] theorem Has_is {l} : Ty.has .int (.str l) = some false := rfl
@[simp] theorem Has_il {l} : Ty.has .int (.lst l) = some false := rfl
@[simp] theorem Has_if {l} : Ty.has .int (.fz l) = some false := rfl
@[simp] theorem Has_bt {l} : Ty.has .bool (.tup l) = some false := rfl
@[simp] theorem Has_bn : Ty.has .bool .non = some false := rfl
@[simp] theorem Has_bb {l} : Ty.has .bool (.bl l) = some true := rfl
@[simp] theorem Has_bi {l} : Ty.has .bool (.int l) = some false := rfl
@[simp] theorem Has_bs {l} : Ty.has .bool (.str l) = some false := rfl
@[simp] theorem Has_bl {l} : Ty.has .bool (.lst l) = some false := rfl
@[simp] theorem Has_bf {l} : Ty.has .bool (.fz l) = some false := rfl
theorem rng1_ok {n : Nat} (h : n < 1000000000) : rng1 [.int (n : Int)] = some (rangeD 0 n) := rng1_nat n (by omega) (by omega)
theorem rng2_ok {m n : Nat} (hm : m < 1000000000) (h : n < 1000000000) : rng2 [.int (m : Int), .int (n : Int)] = some (rangeD m (n - m)) := by
  have h1 : -(2 ^ 62) ≤ (m : Int) ∧ (m : Int) < 2 ^ 62 ∧ -(2 ^ 62) ≤ (n : Int) ∧ (n : Int) < 2 ^ 62 := by omega
  unfold rng2
  split
  · rename_i i j e
    have e1 : (m : Int) = i := by injection e with a _; injection a
    have e2 : (n : Int) = j := by injection e with a b; injection b with a' _; injection a'
    subst e1 e2
    split
    · rw [show ((n : Int) - (m : Int)).toNat = n - m by omega]
    · rename_i hc
      exact absurd h1 hc
  · rename_i hx
    exact absurd rfl (hx _ _)
@[simp] theorem rangeD_len {a : Int} {n : Nat} : (rangeD a n).length = n := rangeD_length
@[simp] theorem rangeD_at {a : Int} {n i : Nat} (h : i < (rangeD a n).length) : (rangeD a n)[i] = .int (a + (i : Int)) := by
  have z := rangeD_get (lo := a) (show i < n by simpa using h)
  rw [List.getElem?_eq_getElem h] at z
  exact Option.some.inj z
/-! ### items -/
theorem Pv_atI {l : List α} {n : Nat} {K : α → Prop} : Pv (L2.atI l (n : Int)) K ↔ ∃ h : n < l.length, K l[n] := by
  by_cases h : n < l.length
  · rw [atI_nat (List.getElem?_eq_getElem h), Pv_some]
    exact ⟨fun k => ⟨h, k⟩, fun ⟨_, k⟩ => k⟩
  · have : L2.atI l (n : Int) = none := by
      unfold L2.atI ixN
      rw [if_pos (by omega), if_neg (by omega)]
      rfl
    rw [this, Pv_none]
    exact ⟨False.elim, fun ⟨k, _⟩ => h k⟩
theorem atI_of {l : List α} {n : Nat} (h : n < l.length) : L2.atI l (n : Int) = some l[n] := atI_nat (List.getElem?_eq_getElem h)
@[simp] theorem atI0 {x : α} {l : List α} : L2.atI (x :: l) 0 = some x := ix0 x l
@[simp] theorem atI1 {x y : α} {l : List α} : L2.atI (x :: y :: l) 1 = some y := ix1 x y l
@[simp] theorem atI2 {x y z : α} {l : List α} : L2.atI (x :: y :: z :: l) 2 = some z := atI_nat (j := 2) rfl
@[simp] theorem atI3 {x y z u : α} {l : List α} : L2.atI (x :: y :: z :: u :: l) 3 = some u := atI_nat (j := 3) rfl
@[simp] theorem atI4 {x y z u v : α} {l : List α} : L2.atI (x :: y :: z :: u :: v :: l) 4 = some v := atI_nat (j := 4) rfl
@[simp] theorem atI_end {x : α} {l : List α} : L2.atI (l ++ [x]) (-1) = some x := ix_last l x
@[simp] theorem ixN0 {n : Nat} : ixN (n + 1) 0 = some 0 := by unfold ixN; rw [if_pos (by omega), if_pos (by omega)]; rfl
@[simp] theorem ixN1 {n : Nat} : ixN (n + 2) 1 = some 1 := by unfold ixN; rw [if_pos (by omega), if_pos (by omega)]; rfl
theorem ixN_of {n k : Nat} (h : k < n) : ixN n (k : Int) = some k := by unfold ixN; rw [if_pos (by omega), if_pos (by omega)]; simp
/-! ### copies -/
@[simp] theorem pers_non : D.non.pers = true := rfl
@[simp] theorem pers_bl {b} : (D.bl b).pers = true := rfl
@[simp] theorem pers_int {b} : (D.int b).pers = true := rfl
@[simp] theorem pers_str {b} : (D.str b).pers = true := rfl
@[simp] theorem pers_tup {l} : (D.tup l).pers = persAll l := rfl
@[simp] theorem pers_lst {l} : (D.lst l).pers = false := rfl
@[simp] theorem pers_fz {l} : (D.fz l).pers = persAll l := rfl
@[simp] theorem pers_gone : D.gone.pers = false := rfl
@[simp] theorem persAll_nil : persAll [] = true := rfl
@[simp] theorem persAll_cons {d : D} {l : List D} : persAll (d :: l) = (d.pers && persAll l) := rfl
@[simp] theorem persAll_app {l m : List D} : persAll (l ++ m) = (persAll l && persAll m) := by
  induction l with
  | nil => rfl
  | cons d l ih => rw [List.cons_append, persAll_cons, persAll_cons, ih, Bool.and_assoc]
@[simp] theorem pers_take {l : List D} {k : Nat} (h : persAll l = true) : persAll (l.take k) = true := persAll_iff.mpr fun d hd => persAll_iff.mp h d (List.mem_of_mem_take hd)
@[simp] theorem pers_drop {l : List D} {k : Nat} (h : persAll l = true) : persAll (l.drop k) = true := persAll_iff.mpr fun d hd => persAll_iff.mp h d (List.mem_of_mem_drop hd)
@[simp] theorem pers_rev {l : List D} (h : persAll l = true) : persAll l.reverse = true := persAll_iff.mpr fun d hd => persAll_iff.mp h d (List.mem_reverse.mp hd)
theorem persAll_map {f : α → D} {l : List α} (h : ∀ x, (f x).pers = true) : persAll (l.map f) = true := persAll_iff.mpr fun d hd => by
  obtain ⟨x, _, rfl⟩ := List.mem_map.mp hd
  exact h x
@[simp] theorem nox_non : D.non.nox = true := rfl
@[simp] theorem nox_bl {b} : (D.bl b).nox = true := rfl
@[simp] theorem nox_int {b} : (D.int b).nox = true := rfl
@[simp] theorem nox_str {b} : (D.str b).nox = true := rfl
@[simp] theorem nox_tup {l} : (D.tup l).nox = noxAll l := rfl
@[simp] theorem nox_lst {l} : (D.lst l).nox = noxAll l := rfl
@[simp] theorem nox_fz {l} : (D.fz l).nox = noxAll l := rfl
@[simp] theorem nox_gone : D.gone.nox = true := rfl
@[simp] theorem noxAll_nil : noxAll [] = true := rfl
@[simp] theorem noxAll_cons {d : D} {l : List D} : noxAll (d :: l) = (d.nox && noxAll l) := rfl
mutual
theorem nox_pers : ∀ {d : D}, d.pers = true → d.nox = true
  | .non, _ | .bl _, _ | .int _, _ | .str _, _ => rfl
  | .tup l, h => noxAll_pers (l := l) h
  | .fz l, h => noxAll_pers (l := l) h
theorem noxAll_pers : ∀ {l : List D}, persAll l = true → noxAll l = true
  | [], _ => rfl
  | d :: l, h => by
    rw [persAll_cons, Bool.and_eq_true] at h
    rw [noxAll_cons, nox_pers h.1, noxAll_pers h.2]
    rfl
end
theorem slot_pers {d : D} (h : d.pers = true) : slot (some d) = some d := slot_of (fun z => by rw [z] at h; cases h)
theorem gvS_pers {i : Nat} {x d : D} (h : d.pers = true) : gvS i x e (some d) = e := gvS_of (fun z => by rw [z] at h; cases h)
/-! ### cuts -/
theorem cut_from {l : List D} {k : Nat} (h : k ≤ l.length) : cutD l (some (k : Int)) none = l.drop k := by
  unfold cutD
  rw [HT.sIx_nat, HT.sIx_none, Nat.min_eq_left h, List.take_of_length_le (by simp)]
theorem cut_to {l : List D} {k : Nat} (h : k ≤ l.length) : cutD l none (some (k : Int)) = l.take k := by
  unfold cutD
  rw [HT.sIx_nat, HT.sIx_none, Nat.min_eq_left h, List.drop_zero]
  rfl
theorem cut_to' {l : List D} {k : Nat} : cutD l none (some (k : Int)) = l.take k := by
  unfold cutD
  rw [HT.sIx_nat, HT.sIx_none, List.drop_zero, Nat.sub_zero]
  by_cases h : k ≤ l.length
  · rw [Nat.min_eq_left h]
  · rw [Nat.min_eq_right (by omega), List.take_length, List.take_of_length_le (by omega)]
theorem cut_init {l : List D} : cutD l none (some (-1)) = l.dropLast := by
  unfold cutD HT.sIx
  rw [List.drop_zero, List.dropLast_eq_take]
  congr 1
  simp
  omega
end DL
set_option maxHeartbeats 4000000
/-! PL1: what the tape's mirror gives (the defs _law_tape, _law_pick of the laws k12 to k21), with their numbers as letters. -/
namespace DL
open PySem PySem.Spec PyProof.Rows L2
def tGt : M Bool := mTb (mF (mPP dGt (mCaP dLen (mPcons (mV 2) mPnil)) (mC (.int 0))))
def tZ : M Bool := mTb (mF (mPP dEq (mPP dIx (mV 2) (mUnP dNeg (mC (.int 1)))) (mC (.int 0))))
def tPop : M Bool := mAnd tGt tZ
def bPop : MS := mDrop (mPop 2)
theorem mV_at {i : Nat} {env : Env} {d : D} (h : env[i]? = some d) (g : d ≠ .gone) : mV i env = some d := by
  unfold mV
  rw [h]
  cases d <;> first | rfl | exact absurd rfl g
theorem tGt_eq (a b d : D) (l : List D) : tGt [a, b, .lst l, d] = some (.ok (decide (0 < l.length)) [a, b, .lst l, d]) := by
  simp [tGt, mTb, M.bind, mF, mPP, mCaP, mPcons, mPnil, mV, mC, dLen, dGt, dCmpI, M.ofO, dBool]
theorem tZ_eq (a b d : D) (l : List D) (z : Int) : tZ [a, b, .lst (l ++ [.int z]), d] = some (.ok (z == 0) [a, b, .lst (l ++ [.int z]), d]) := by
  simp [tZ, mTb, M.bind, mF, mPP, mUnP, mV, mC, dIx, dNeg, ix_last, dEq_int, M.ofO, dBool]
theorem tPop_nil (a b d : D) : tPop [a, b, .lst [], d] = some (.ok false [a, b, .lst [], d]) := by
  unfold tPop mAnd M.bind
  rw [tGt_eq]
  rfl
theorem tPop_cons (a b d : D) (l : List D) (z : Int) : tPop [a, b, .lst (l ++ [.int z]), d] = some (.ok (z == 0) [a, b, .lst (l ++ [.int z]), d]) := by
  unfold tPop mAnd M.bind
  rw [tGt_eq]
  simp [tZ_eq]
theorem bPop_cons (a b d z : D) (l : List D) : bPop [a, b, .lst (l ++ [z]), d] = some (.nx [a, b, .lst l, d]) := by
  simp [bPop, mDrop, mPop, mV]
/-- zeros at the end are popped -/
theorem popN (a b d : D) : ∀ (n : Nat) (l : List Int), (∀ z ∈ l, 0 ≤ z) → n = l.length → ∃ l' : List Int, whileN tPop bPop (n + 1) [a, b, .lst (l.map .int), d] = some (.nx [a, b, .lst (l'.map .int), d]) ∧ (∀ z ∈ l', 0 ≤ z)
  | 0, l, h, e => by
    cases l with
    | nil => exact ⟨[], by unfold whileN; rw [show ([] : List Int).map D.int = [] from rfl, tPop_nil], fun z hz => by cases hz⟩
    | cons x l => cases e
  | n + 1, l, h, e => by
    rcases List.eq_nil_or_concat l with rfl | ⟨l, z, rfl⟩
    · cases e
    · rw [List.concat_eq_append] at h e ⊢
      have hm : (l ++ [z]).map D.int = l.map D.int ++ [.int z] := by simp
      by_cases hz : z = 0
      · obtain ⟨l', h1, h2⟩ := popN a b d n l (fun x hx => h x (by simp [hx])) (by simp at e; omega)
        refine ⟨l', ?_, h2⟩
        unfold whileN
        rw [hm, tPop_cons]
        simp only [hz, beq_self_eq_true]
        rw [bPop_cons]
        exact h1
      · refine ⟨l ++ [z], ?_, h⟩
        unfold whileN
        rw [hm, tPop_cons, show (z == 0) = false by simpa using hz]
theorem popW (a b d : D) (l : List Int) (h : ∀ z ∈ l, 0 ≤ z) : ∃ l' : List Int, mWhile tPop bPop [a, b, .lst (l.map .int), d] = some (.nx [a, b, .lst (l'.map .int), d]) ∧ (∀ z ∈ l', 0 ≤ z) := by
  obtain ⟨l', h1, h2⟩ := popN a b d _ l h rfl
  exact ⟨l', mWhile_of h1, h2⟩
theorem setIx_last {α : Type} (l : List α) (x y : α) : (l ++ [x]).set l.length y = l ++ [y] := by simp
/-- the part of the pick that answers from the cells -/
def bCell : MS := mSeq (mSet 3 (mF (mPP dMod (mCaP dInt (mPcons (mPP dIx (mV 2) (mUnP dNeg (mC (.int 1)))) mPnil)) (mV 1))))
  (mSeq (mSetIx 2 (mUnP dNeg (mC (.int 1))) (mF (mPP dFdiv (mCaP dInt (mPcons (mPP dIx (mV 2) (mUnP dNeg (mC (.int 1)))) mPnil)) (mV 1))))
  (mRet (mMv 3)))
theorem bCell_eq (a d : D) (l : List D) (z n : Int) (hn : 0 < n) (hs : n.natAbs.log2 < 9000) : bCell [a, .int n, .lst (l ++ [.int z]), d] = some (.ret (.int (z % n)) [a, .int n, .lst (l ++ [.int (z / n)]), .int (z % n)]) := by
  simp [bCell, mSeq, mSet, setE, mSetIx, mRet, mMv, mF, mPP, mUnP, mCaP, mPcons, mPnil, mV, mC, dIx, dNeg, ix_last, dMod, dInt, dFdiv, hn, hs, ixN_last, D.pers]
def bLcg (Mu Ad Md Dv : Int) : MS := mSeq (mSetIx2 0 1 (mC (.int 0)) (mF (mPP dMod (mPP dAdd (mPP dMul (mPP dIx (mPP dIx (mV 0) (mC (.int 1))) (mC (.int 0))) (mC (.int Mu))) (mC (.int Ad))) (mC (.int Md)))))
  (mRet (mF (mPP dMod (mPP dFdiv (mPP dIx (mPP dIx (mV 0) (mC (.int 1))) (mC (.int 0))) (mC (.int Dv))) (mV 1))))
theorem bLcg_eq (Mu Ad Md Dv : Int) (h c d : D) (s n : Int) (hm : 0 < Md) (hn : 0 < n) (hv : 0 < Dv) (hs : s.natAbs.log2 + Mu.natAbs.log2 < 1000000) (hd : Dv.natAbs.log2 < 9000) :
    bLcg Mu Ad Md Dv [.lst [h, .lst [.int s]], .int n, c, d] = some (.ret (.int ((s * Mu + Ad) % Md / Dv % n)) [.lst [h, .lst [.int ((s * Mu + Ad) % Md)]], .int n, c, d]) := by
  have z : ixN 1 0 = some 0 := by unfold ixN; simp
  simp [bLcg, mSeq, mSetIx2, mRet, mF, mPP, mV, mC, dIx, ix0, ix1, dMul, dAdd, dMod, dFdiv, hm, hn, hs, hd, hv, z, D.pers]
theorem nox_ints : ∀ l : List Int, noxAll (l.map .int) = true
  | [] => rfl
  | _ :: l => nox_ints l
/-- the tape: cells and a state -/
def Tape (l : List Int) (s : Int) : D := .lst [.lst (l.map .int), .lst [.int s]]
theorem nox_tape (l : List Int) (s : Int) : (Tape l s).nox = true := by
  show (noxAll (l.map .int) && ((true && true) && true)) = true
  rw [nox_ints]
  rfl
noncomputable def bPick (Mu Ad Md Dv : Int) : MS := mAl 2 0 0 (mSeq (mWhile tPop bPop) (mSeq (mIf tGt bCell mNil) (bLcg Mu Ad Md Dv)))
theorem mAl_pick (m : MS) (l : List Int) (s n : Int) (l' : List Int) (s' r : Int) (d : D) (hd : d.nox = true) (h : m [.lst [.hole, .lst [.int s]], .int n, .lst (l.map .int), .gone] = some (.ret (.int r) [.lst [.hole, .lst [.int s']], .int n, .lst (l'.map .int), d])) :
    mAl 2 0 0 m [Tape l s, .int n, .gone, .gone] = some (.ret (.int r) [Tape l' s', .int n, .gone, d]) := by
  have e1 : noxAll [Tape l s, .int n, .gone, .gone] = true := by
    show ((Tape l s).nox && (true && (true && (true && true)))) = true
    rw [nox_tape]
    rfl
  have e2 : noxAll [Tape l' s', .int n, .gone, d] = true := by
    show ((Tape l' s').nox && (true && (true && (d.nox && true)))) = true
    rw [nox_tape, hd]
    rfl
  have e3 : mV 0 [Tape l s, .int n, .gone, .gone] = some (Tape l s) := rfl
  have e4 : alE 2 0 0 [.lst [.hole, .lst [.int s']], .int n, .lst (l'.map .int), d] = some [Tape l' s', .int n, .gone, d] := by
    exact if_pos ⟨e2, by decide⟩
  show (if noxAll [Tape l s, .int n, .gone, .gone] = true ∧ 2 < 4 ∧ 2 ≠ 0 then match m [.lst [.hole, .lst [.int s]], .int n, .lst (l.map .int), .gone] with
        | some o => alEnd 2 0 0 o
        | none => none
      else none) = _
  rw [if_pos ⟨e1, by decide, by decide⟩, h]
  show alEnd 2 0 0 (.ret (.int r) [.lst [.hole, .lst [.int s']], .int n, .lst (l'.map .int), d]) = _
  have e5 : alEnd 2 0 0 (.ret (.int r) [.lst [.hole, .lst [.int s']], .int n, .lst (l'.map .int), d]) = (alE 2 0 0 [.lst [.hole, .lst [.int s']], .int n, .lst (l'.map .int), d]).map (O.ret (.int r)) := rfl
  rw [e5, e4]
  rfl
theorem pick_run (Mu Ad Md Dv : Int) (l : List Int) (s n : Int) (hl : ∀ z ∈ l, 0 ≤ z) (hm : 0 < Md) (hn : 0 < n) (hv : 0 < Dv) (hs : s.natAbs.log2 + Mu.natAbs.log2 < 1000000) (hd : Dv.natAbs.log2 < 9000) (hg : n.natAbs.log2 < 9000)
    (s0 : 0 ≤ s) (s1 : s < Md) : ∃ l' s' r, mFn 4 2 [0, 1] (bPick Mu Ad Md Dv) [Tape l s, .int n] = some (.ok (.int r) [Tape l' s', .int n]) ∧ (∀ z ∈ l', 0 ≤ z) ∧ 0 ≤ s' ∧ s' < Md ∧ 0 ≤ r ∧ r < n := by
  obtain ⟨l1, w1, p1⟩ := popW (.lst [.hole, .lst [.int s]]) (.int n) .gone l hl
  have fin : ∀ l' s' r d, d.nox = true → (mSeq (mWhile tPop bPop) (mSeq (mIf tGt bCell mNil) (bLcg Mu Ad Md Dv))) [.lst [.hole, .lst [.int s]], .int n, .lst (l.map .int), .gone] = some (.ret (.int r) [.lst [.hole, .lst [.int s']], .int n, .lst (l'.map .int), d]) →
      mFn 4 2 [0, 1] (bPick Mu Ad Md Dv) [Tape l s, .int n] = some (.ok (.int r) [Tape l' s', .int n]) := by
    intro l' s' r d hd h
    unfold mFn
    show (match bPick Mu Ad Md Dv [Tape l s, .int n, .gone, .gone] with
      | some (.nx e) => some (RF.ok .non (give [0, 1] 0 2 e))
      | some (.ret d e) => some (RF.ok d (give [0, 1] 0 2 e))
      | some (.ex x e) => some (RF.ex x (give [0, 1] 0 2 e))
      | _ => none) = _
    unfold bPick
    rw [mAl_pick _ l s n l' s' r d hd h]
    rfl
  have step : (mSeq (mWhile tPop bPop) (mSeq (mIf tGt bCell mNil) (bLcg Mu Ad Md Dv))) [.lst [.hole, .lst [.int s]], .int n, .lst (l.map .int), .gone] = mSeq (mIf tGt bCell mNil) (bLcg Mu Ad Md Dv) [.lst [.hole, .lst [.int s]], .int n, .lst (l1.map .int), .gone] := by
    show (match mWhile tPop bPop [.lst [.hole, .lst [.int s]], .int n, .lst (l.map .int), .gone] with
      | some (.nx e') => mSeq (mIf tGt bCell mNil) (bLcg Mu Ad Md Dv) e'
      | o => o) = _
    rw [w1]
  rw [step] at fin
  rcases List.eq_nil_or_concat l1 with rfl | ⟨l2, z, rfl⟩
  · refine ⟨[], (s * Mu + Ad) % Md, (s * Mu + Ad) % Md / Dv % n, fin [] _ _ .gone rfl ?_, fun z hz => (by cases hz), Int.emod_nonneg _ (by omega), Int.emod_lt_of_pos _ hm, Int.emod_nonneg _ (by omega), Int.emod_lt_of_pos _ hn⟩
    have t := tGt_eq (.lst [.hole, .lst [.int s]]) (.int n) .gone []
    unfold mSeq mIf
    rw [show ([] : List Int).map D.int = [] from rfl, t]
    exact bLcg_eq Mu Ad Md Dv .hole (.lst []) .gone s n hm hn hv hs hd
  · rw [List.concat_eq_append] at p1 fin
    refine ⟨l2 ++ [z / n], s, z % n, fin _ _ _ (.int (z % n)) rfl ?_, fun x hx => ?_, s0, s1, Int.emod_nonneg _ (by omega), Int.emod_lt_of_pos _ hn⟩
    · have t := tGt_eq (.lst [.hole, .lst [.int s]]) (.int n) .gone ((l2 ++ [z]).map .int)
      unfold mSeq mIf
      rw [t, show decide (0 < ((l2 ++ [z]).map D.int).length) = true by simp]
      simp only [List.map_append, List.map_cons, List.map_nil]
      rw [if_pos trivial, bCell_eq _ _ _ _ _ hn hg]
    · rcases List.mem_append.mp hx with hx | hx
      · exact p1 x (by simp [hx])
      · rw [List.mem_singleton.mp hx]
        exact Int.ediv_nonneg (p1 z (by simp)) (by omega)
end DL
set_option maxHeartbeats 4000000
/-! PL2: what the tape is at first (the def _law_tape), with its numbers as letters. -/
namespace DL
open PySem PySem.Spec PyProof.Rows L2
def sTape (Mu Ad Md : Int) : MS := mSet 1 (mF (mPP dMod (mPP dAdd (mPP dAdd (mPP dMul (mV 1) (mC (.int Mu))) (mV 2)) (mC (.int Ad))) (mC (.int Md))))
theorem sTape_eq (Mu Ad Md : Int) (L d : D) (s z : Int) (hm : 0 < Md) (hs : s.natAbs.log2 + Mu.natAbs.log2 < 1000000) : sTape Mu Ad Md [L, .int s, .int z, d] = some (.nx [L, .int ((s * Mu + z + Ad) % Md), .int z, d]) := by
  simp [sTape, mSet, setE, mF, mPP, mV, mC, dMul, dAdd, dMod, hm, hs]
def tCell : M D := mF (mCaP dAbs (mPcons (mV 2) mPnil))
theorem tCell_eq (L s d : D) (z : Int) : tCell [L, s, .int z, d] = some (.ok (.int (if z < 0 then -z else z)) [L, s, .int z, d]) := by
  simp [tCell, mF, mCaP, mPcons, mPnil, mV, dAbs]
noncomputable def bTape (S0 Mu Ad Md : Int) : MS := mSeq (mSet 1 (mF (mC (.int S0))))
  (mSeq (mForV 0 (setE 2) (sTape Mu Ad Md))
  (mSeq (mSet 3 (mLcV [2] 0 (setE 2) mYes tCell))
  (mRet (mLstE (mAcons (mF (mUnP dRev (mV 3))) (mAcons (mF (mLstP (mPcons (mV 1) mPnil))) mAnil))))))
abbrev absI (z : Int) : Int := if z < 0 then -z else z
theorem forTape (Mu Ad Md : Int) (l : List Int) (hm : 0 < Md) (hb : ∀ s : Int, 0 ≤ s → s < Md → s.natAbs.log2 + Mu.natAbs.log2 < 1000000) : ∀ (k j : Nat) (s : Int) (x : D), l.length = j + k → 0 ≤ s → s < Md → (x = .gone ∨ ∃ z, x = .int z) →
    ∃ s' x', forVN (setE 2) (sTape Mu Ad Md) 0 (k + 1) j [.lst (l.map .int), .int s, x, .gone] = some (.nx [.lst (l.map .int), .int s', x', .gone]) ∧ 0 ≤ s' ∧ s' < Md ∧ (x' = .gone ∨ ∃ z, x' = .int z)
  | 0, j, s, x, hl, s0, s1, hx => by
    refine ⟨s, x, ?_, s0, s1, hx⟩
    have e : (l.map D.int)[j]? = none := by
      apply List.getElem?_eq_none
      rw [List.length_map]
      omega
    unfold forVN
    rw [show mV 0 [.lst (l.map .int), .int s, x, .gone] = some (.lst (l.map .int)) from rfl]
    simp only [e]
  | k + 1, j, s, x, hl, s0, s1, hx => by
    have hj : j < l.length := by omega
    have e : (l.map D.int)[j]? = some (.int l[j]) := by simp [hj]
    obtain ⟨s', x', h1, h2, h3, h4⟩ := forTape Mu Ad Md l hm hb k (j + 1) ((s * Mu + l[j] + Ad) % Md) (.int l[j]) (by omega) (Int.emod_nonneg _ (by omega)) (Int.emod_lt_of_pos _ hm) (.inr ⟨_, rfl⟩)
    refine ⟨s', x', ?_, h2, h3, h4⟩
    unfold forVN
    rw [show mV 0 [.lst (l.map .int), .int s, x, .gone] = some (.lst (l.map .int)) from rfl]
    simp only [e]
    rw [if_pos (show (D.int l[j]).pers = true from rfl), show setE 2 (.int l[j]) [.lst (l.map .int), .int s, x, .gone] = some [.lst (l.map .int), .int s, .int l[j], .gone] from rfl]
    simp only [sTape_eq Mu Ad Md (.lst (l.map .int)) .gone s l[j] hm (hb s s0 s1)]
    exact h1
theorem lcTape (l : List Int) (s : D) : ∀ (k j : Nat) (acc : List D), l.length = j + k → acc.length + k ≤ LIM →
    lcVN (setE 2) mYes tCell [2] 0 (k + 1) j acc [.lst (l.map .int), s, .gone, .gone] = some (acc ++ ((l.drop j).map absI).map .int, [.lst (l.map .int), s, .gone, .gone])
  | 0, j, acc, hl, hc => by
    have e : (l.map D.int)[j]? = none := by
      apply List.getElem?_eq_none
      rw [List.length_map]
      omega
    unfold lcVN
    rw [show mV 0 [.lst (l.map .int), s, .gone, .gone] = some (.lst (l.map .int)) from rfl]
    simp only [e]
    rw [List.drop_eq_nil_of_le (by omega)]
    simp
  | k + 1, j, acc, hl, hc => by
    have hj : j < l.length := by omega
    have e : (l.map D.int)[j]? = some (.int l[j]) := by simp [hj]
    have ih := lcTape l s k (j + 1) (acc ++ [.int (absI l[j])]) (by omega) (by simp; omega)
    have t : lcTurn (setE 2) mYes tCell [2] (.int l[j]) [.lst (l.map .int), s, .gone, .gone] = some (some (.int (absI l[j])), [.lst (l.map .int), s, .gone, .gone]) := by
      unfold lcTurn
      rw [show setE 2 (.int l[j]) [.lst (l.map .int), s, .gone, .gone] = some [.lst (l.map .int), s, .int l[j], .gone] from rfl]
      show (match tCell [.lst (l.map .int), s, .int l[j], .gone] with
        | some (.ok y e3) => match wipeE [2] e3 with
          | none => none
          | some e4 => some (some y, e4)
        | _ => none) = _
      rw [tCell_eq]
      rfl
    unfold lcVN
    rw [show mV 0 [.lst (l.map .int), s, .gone, .gone] = some (.lst (l.map .int)) from rfl]
    simp only [e]
    rw [if_pos (show (D.int l[j]).pers = true from rfl), t]
    simp only
    rw [if_pos (by omega), ih, List.drop_eq_getElem_cons hj]
    simp only [List.map_cons, List.append_assoc, List.singleton_append]
theorem pers_ints : ∀ l : List Int, persAll (l.map .int) = true
  | [] => rfl
  | _ :: l => pers_ints l
theorem okx {x : D} {L s d : D} (h : x = .gone ∨ ∃ z, x = .int z) : okSlot [L, s, x, d] 2 = true := by
  rcases h with rfl | ⟨z, rfl⟩ <;> rfl
theorem lc_run (l : List Int) (s : Int) (x : D) (hx : x = .gone ∨ ∃ z, x = .int z) (hl : l.length ≤ LIM) :
    mLcV [2] 0 (setE 2) mYes tCell [.lst (l.map .int), .int s, x, .gone] = some (.ok (.lst ((l.map absI).map .int)) [.lst (l.map .int), .int s, x, .gone]) := by
  have w : wipeE [2] [.lst (l.map .int), .int s, x, .gone] = some [.lst (l.map .int), .int s, .gone, .gone] := by
    show (if okSlot [D.lst (l.map .int), .int s, x, .gone] 2 = true then some [D.lst (l.map .int), .int s, .gone, .gone] else none) = _
    exact if_pos (okx hx)
  have q := lcVL_of (lcTape l (.int s) l.length 0 [] (by omega) (by simpa using hl))
  unfold mLcV
  rw [show mV 0 [.lst (l.map .int), .int s, x, .gone] = some (.lst (l.map .int)) from rfl]
  simp only [w, q]
  rfl
theorem tape_run (S0 Mu Ad Md : Int) (l : List Int) (hm : 0 < Md) (hb : ∀ s : Int, 0 ≤ s → s < Md → s.natAbs.log2 + Mu.natAbs.log2 < 1000000) (h0 : 0 ≤ S0) (h1 : S0 < Md) (hl : l.length ≤ LIM) :
    ∃ l' s', mFn 4 1 [0] (bTape S0 Mu Ad Md) [.lst (l.map .int)] = some (.ok (Tape l' s') [.lst (l.map .int)]) ∧ (∀ z ∈ l', 0 ≤ z) ∧ 0 ≤ s' ∧ s' < Md := by
  obtain ⟨s', x', e1, p1, p2, p3⟩ := forTape Mu Ad Md l hm hb l.length 0 S0 .gone (by omega) h0 h1 (.inl rfl)
  refine ⟨(l.map absI).reverse, s', ?_, fun z hz => ?_, p1, p2⟩
  · have f1 : mForV 0 (setE 2) (sTape Mu Ad Md) [.lst (l.map .int), .int S0, .gone, .gone] = some (.nx [.lst (l.map .int), .int s', x', .gone]) := forVL_of e1
    have f2 : mSet 3 (mLcV [2] 0 (setE 2) mYes tCell) [.lst (l.map .int), .int s', x', .gone] = some (.nx [.lst (l.map .int), .int s', x', .lst ((l.map absI).map .int)]) := by
      unfold mSet
      rw [lc_run l s' x' p3 hl]
      rfl
    have f3 : mRet (mLstE (mAcons (mF (mUnP dRev (mV 3))) (mAcons (mF (mLstP (mPcons (mV 1) mPnil))) mAnil))) [.lst (l.map .int), .int s', x', .lst ((l.map absI).map .int)] = some (.ret (Tape (l.map absI).reverse s') [.lst (l.map .int), .int s', x', .lst ((l.map absI).map .int)]) := by
      have r : mUnP dRev (mV 3) [.lst (l.map .int), .int s', x', .lst ((l.map absI).map .int)] = some (.lst ((l.map absI).reverse.map .int)) := by
        show (if persAll ((l.map absI).map .int) = true then some (D.lst ((l.map absI).map .int).reverse) else none) = _
        rw [if_pos (pers_ints _), List.map_reverse]
      have r2 : mF (mUnP dRev (mV 3)) [.lst (l.map .int), .int s', x', .lst ((l.map absI).map .int)] = some (.ok (.lst ((l.map absI).reverse.map .int)) [.lst (l.map .int), .int s', x', .lst ((l.map absI).map .int)]) := by
        unfold mF
        rw [r]
      unfold mRet mLstE mAcons M.bind
      rw [r2]
      rfl
    have g : bTape S0 Mu Ad Md [.lst (l.map .int), .gone, .gone, .gone] = some (.ret (Tape (l.map absI).reverse s') [.lst (l.map .int), .int s', x', .lst ((l.map absI).map .int)]) := by
      unfold bTape
      rw [show mSeq (mSet 1 (mF (mC (.int S0)))) (mSeq (mForV 0 (setE 2) (sTape Mu Ad Md)) (mSeq (mSet 3 (mLcV [2] 0 (setE 2) mYes tCell)) (mRet (mLstE (mAcons (mF (mUnP dRev (mV 3))) (mAcons (mF (mLstP (mPcons (mV 1) mPnil))) mAnil)))))) [.lst (l.map .int), .gone, .gone, .gone]
        = mSeq (mForV 0 (setE 2) (sTape Mu Ad Md)) (mSeq (mSet 3 (mLcV [2] 0 (setE 2) mYes tCell)) (mRet (mLstE (mAcons (mF (mUnP dRev (mV 3))) (mAcons (mF (mLstP (mPcons (mV 1) mPnil))) mAnil))))) [.lst (l.map .int), .int S0, .gone, .gone] from rfl]
      unfold mSeq
      rw [f1]
      simp only [f2]
      exact f3
    unfold mFn
    rw [show ([D.lst (l.map .int)] ++ List.replicate (4 - 1) .gone : List D) = [.lst (l.map .int), .gone, .gone, .gone] from rfl, g]
    rfl
  · rw [List.mem_reverse] at hz
    obtain ⟨y, _, rfl⟩ := List.mem_map.mp hz
    unfold absI
    split <;> omega
end DL
set_option maxHeartbeats 4000000
/-! PT: the tape of a law, its pick and its first state as promises; _law_same of a datum and itself. -/
namespace DL
open PySem PySem.Spec PyProof.Rows L2
structure TP where
  l : List Int
  s : Int
  hl : ∀ z ∈ l, 0 ≤ z
  h0 : 0 ≤ s
  h1 : s < 2147483647
def TP.d (t : TP) : D := Tape t.l t.s
@[simp] theorem TP.pers (t : TP) : t.d.pers = false := rfl
@[simp] theorem TP.slot (t : TP) : slot (some t.d) = some t.d := rfl
@[simp] theorem TP.nox (t : TP) : t.d.nox = true := nox_tape _ _
theorem TP.ng (t : TP) : t.d ≠ .gone := by unfold TP.d Tape; simp
@[simp] theorem TP.gvS {i : Nat} {x : D} {e : Env} (t : TP) : gvS i x e (some t.d) = e := rfl
theorem gv_back {d0 : D} (h : d0 ≠ .gone) (e : List D) : gvS 0 d0 (if d0.pers = true then d0 :: e else D.gone :: e) (if d0.pers = true then d0 :: e else D.gone :: e)[0]? = d0 :: e := by
  by_cases hp : d0.pers = true
  · rw [if_pos hp]
    exact gvS_of h
  · rw [if_neg hp]
    rfl
theorem log_small {a : Int} (h0 : 0 ≤ a) (h1 : a < 2147483648) : a.natAbs.log2 < 31 := by
  by_cases z : a.natAbs = 0
  · rw [z]; decide
  · exact (Nat.log2_lt z).mpr (by omega)
theorem pick_promise (Mu Ad Dv : Int) (m0 : 0 ≤ Mu) (m1 : Mu < 2147483648) (d0 : 0 < Dv) (d1 : Dv < 2147483648) {n : Int} (t : TP) (hn : 0 < n) (hg : n < 2147483648) {K : RF → Prop}
    (H : ∀ (t' : TP) (r : Nat), (r : Int) < n → K (.ok (.int r) [t'.d, .int n])) : Pv (mFn 4 2 [0, 1] (bPick Mu Ad 2147483647 Dv) [t.d, .int n]) K := by
  have a1 := log_small t.h0 (by have := t.h1; omega)
  have a2 := log_small m0 m1
  have a3 := log_small (Int.le_of_lt d0) d1
  have a4 := log_small (Int.le_of_lt hn) hg
  obtain ⟨l', s', r, e, p1, p2, p3, p4, p5⟩ := pick_run Mu Ad 2147483647 Dv t.l t.s n t.hl (by decide) hn d0 (by omega) (by omega) (by omega) t.h0 t.h1
  refine ⟨_, e, ?_⟩
  have er : ((r.toNat : Nat) : Int) = r := by omega
  have z := H ⟨l', s', p1, p2, p3⟩ r.toNat (by omega)
  rw [er] at z
  exact z
theorem tape_promise (S0 Mu Ad : Int) (m0 : 0 ≤ Mu) (m1 : Mu < 2147483648) (h0 : 0 ≤ S0) (h1 : S0 < 2147483647) (l : List Int) (hl : l.length ≤ LIM) {K : RF → Prop} (H : ∀ t : TP, K (.ok t.d [.lst (l.map .int)])) :
    Pv (mFn 4 1 [0] (bTape S0 Mu Ad 2147483647) [.lst (l.map .int)]) K := by
  have a2 := log_small m0 m1
  obtain ⟨l', s', e, p1, p2, p3⟩ := tape_run S0 Mu Ad 2147483647 l (by decide) (fun s s0 s1 => by have := log_small s0 (by omega); omega) h0 h1 hl
  exact ⟨_, e, H ⟨l', s', p1, p2, p3⟩⟩
def absF : D → Option D
  | .int z => some (.int (absI z))
  | _ => none
theorem abs_all (l : List Int) : (l.map D.int).filterMap absF = (l.map absI).map D.int := by
  induction l with
  | nil => rfl
  | cons z l ih =>
    rw [List.map_cons, List.filterMap_cons, ih]
    rfl
theorem tape_fz (S0 Mu Ad : Int) (m0 : 0 ≤ Mu) (m1 : Mu < 2147483648) (h0 : 0 ≤ S0) (h1 : S0 < 2147483647) (l : List Int) (hl : l.length ≤ LIM) {K : RF → Prop} (H : ∀ t : TP, K (.ok t.d [.fz (l.map .int)])) :
    Pv (mFn 4 1 [0] (bTape S0 Mu Ad 2147483647) [.fz (l.map .int)]) K := by
  have a2 := log_small m0 m1
  have pl := pers_ints l
  rw [Pv_Fn]
  simp [bTape, sTape, tCell]
  rw [Pv_forVF (l := l.map .int) rfl]
  refine ⟨pl, Pv_forL (fun k e => ∃ (s : Int) (x : D), e = [.fz (l.map .int), .int s, x, .gone] ∧ 0 ≤ s ∧ s < 2147483647 ∧ okD x = true) ⟨S0, .gone, rfl, h0, h1, rfl⟩ ?_ ?_⟩
  · rintro k e hk ⟨s, x, rfl, s0, s1, _⟩
    have hk' : k < l.length := by simpa using hk
    have a1 := log_small s0 (by omega)
    simp
    exact ⟨by omega, _, _, ⟨rfl, rfl⟩, Int.emod_nonneg _ (by decide), Int.emod_lt_of_pos _ (by decide), rfl⟩
  · rintro e ⟨s, x, rfl, s0, s1, ox⟩
    simp
    rw [Pv_LcVF (l := l.map .int) rfl]
    refine ⟨pl, ?_⟩
    simp [okSlot_eq, ox]
    refine Pv_lcMap absF (by rw [List.length_map]; exact hl) ?_ ?_
    · intro y hy
      obtain ⟨z, hz, rfl⟩ := List.mem_map.mp hy
      refine ⟨rfl, ?_⟩
      simp [okSlot_eq, absF]
    · rw [abs_all]
      have hn : ∀ z ∈ (l.map absI).reverse, 0 ≤ z := fun z hz => by
        rw [List.mem_reverse] at hz
        obtain ⟨y, _, rfl⟩ := List.mem_map.mp hz
        unfold absI
        split <;> omega
      have := H ⟨(l.map absI).reverse, s, hn, s0, s1⟩
      unfold TP.d Tape at this
      simp only [List.map_reverse, List.map_map] at this
      simp
      exact ⟨by simpa [List.map_map] using pers_ints (l.map absI), this⟩
/-! ### _law_same -/
/-- a datum that _law_same reads -/
def D.sim : D → Bool
  | .non | .bl _ | .int _ => true
  | .str x => SeqAt.shaped (D.str x).py
  | .tup l => simAll l && decide (l.length < 100000)
  | _ => false
where simAll : List D → Bool
  | [] => true
  | d :: ds => d.sim && simAll ds
abbrev simAll : List D → Bool := D.sim.simAll
def D.sz : D → Nat
  | .tup l => 1 + szs l
  | _ => 1
where szs : List D → Nat
  | [] => 0
  | d :: ds => d.sz + szs ds
abbrev szs : List D → Nat := D.sz.szs
@[simp] theorem sim_non : D.non.sim = true := rfl
@[simp] theorem sim_bl {b} : (D.bl b).sim = true := rfl
@[simp] theorem sim_int {b} : (D.int b).sim = true := rfl
@[simp] theorem sim_str {x} : (D.str x).sim = SeqAt.shaped (D.str x).py := rfl
@[simp] theorem sim_tup {l} : (D.tup l).sim = (simAll l && decide (l.length < 100000)) := rfl
@[simp] theorem simAll_nil : simAll [] = true := rfl
@[simp] theorem simAll_cons {d : D} {l : List D} : simAll (d :: l) = (d.sim && simAll l) := rfl
@[simp] theorem sz_non : D.non.sz = 1 := rfl
@[simp] theorem sz_bl {b} : (D.bl b).sz = 1 := rfl
@[simp] theorem sz_int {b} : (D.int b).sz = 1 := rfl
@[simp] theorem sz_str {b} : (D.str b).sz = 1 := rfl
@[simp] theorem sz_tup {l} : (D.tup l).sz = 1 + szs l := rfl
@[simp] theorem szs_nil : szs [] = 0 := rfl
@[simp] theorem szs_cons {d : D} {l : List D} : szs (d :: l) = d.sz + szs l := rfl
@[simp] theorem simAll_app {l m : List D} : simAll (l ++ m) = (simAll l && simAll m) := by
  induction l with
  | nil => rfl
  | cons d l ih => rw [List.cons_append, simAll_cons, simAll_cons, ih, Bool.and_assoc]
theorem simAll_iff {l : List D} : simAll l = true ↔ ∀ d ∈ l, d.sim = true := by
  induction l with
  | nil => simp
  | cons d l ih => simp [ih]
theorem szs_app {l m : List D} : szs (l ++ m) = szs l + szs m := by
  induction l with
  | nil => exact (Nat.zero_add _).symm
  | cons d l ih => rw [List.cons_append, szs_cons, szs_cons, ih, Nat.add_assoc]
theorem sz_pos (d : D) : 1 ≤ d.sz := by
  cases d <;> first | exact Nat.le_refl 1 | exact Nat.le_add_right 1 _
theorem len_szs (l : List D) : l.length ≤ szs l := by
  induction l with
  | nil => exact Nat.le_refl 0
  | cons d l ih =>
    rw [szs_cons, List.length_cons]
    have := sz_pos d
    omega
mutual
theorem D.sim_pers : ∀ d : D, d.sim = true → d.pers = true
  | .non, _ | .bl _, _ | .int _, _ | .str _, _ => rfl
  | .tup l, h => by
    rw [sim_tup, Bool.and_eq_true] at h
    exact simAll_pers l h.1
theorem simAll_pers : ∀ l : List D, simAll l = true → persAll l = true
  | [], _ => rfl
  | d :: l, h => by
    rw [simAll_cons, Bool.and_eq_true] at h
    show (d.pers && persAll l) = true
    rw [D.sim_pers d h.1, simAll_pers l h.2]
    rfl
end
def pr (y : D) : D := .tup [y, y]
theorem pr_pers {y : D} (h : y.pers = true) : (pr y).pers = true := by simp [pr, h]
noncomputable def bSame : MS := mSeq (mSet 2 (mF (mLstP (mPcons (mTupP (mPcons (mV 0) (mPcons (mV 1) mPnil))) mPnil))))
  (mSeq (mWhile (mTb (mF (mPP dGt (mCaP dLen (mPcons (mV 2) mPnil)) (mC (.int 0))))) (mSeq (mSet 3 (mPop 2))
  (mSeq (mSet 4 (mF (mCk (mPP dIx (mV 3) (mC (.int 0))))))
  (mSeq (mSet 5 (mF (mCk (mPP dIx (mV 3) (mC (.int 1))))))
  (mIf (mTP (mIsi .tup (mV 5))) (mSeq (mIf (mOr (mNot (mTP (mIsi .tup (mV 4)))) (mTb (mF (mPP dNe (mCaP dLen (mPcons (mV 4) mPnil)) (mCaP dLen (mPcons (mV 5) mPnil)))))) (mRet (mF (mC (.bl false)))) mNil)
  (mFor (mRg rng1 (mAcons (mF (mCaP dLen (mPcons (mV 5) mPnil))) mAnil)) (setE 6) (mDrop (mAppend 2 (mF (mTupP (mPcons (mPP dIx (mV 4) (mV 6)) (mPcons (mPP dIx (mV 5) (mV 6)) mPnil)))))))) (mIf (mTb (mF (mPP dIs (mV 5) (mC .non)))) (mIf (mTb (mF (mPP dIsNot (mV 4) (mC .non)))) (mRet (mF (mC (.bl false)))) mNil) (mIf (mTP (mIsi .bool (mV 5))) (mIf (mOr (mNot (mTP (mIsi .bool (mV 4)))) (mTb (mF (mPP dNe (mV 4) (mV 5))))) (mRet (mF (mC (.bl false)))) mNil) (mIf (mTP (mIsi .int (mV 5))) (mIf (mOr (mTP (mIsi .bool (mV 4))) (mOr (mNot (mTP (mIsi .int (mV 4)))) (mTb (mF (mPP dNe (mV 4) (mV 5)))))) (mRet (mF (mC (.bl false)))) mNil) (mIf (mTP (mIsi .str (mV 5))) (mIf (mOr (mNot (mTP (mIsi .str (mV 4)))) (mTb (mF (mPP dNe (mV 4) (mV 5))))) (mRet (mF (mC (.bl false)))) mNil) (mRet (mF (mC (.bl false)))))))))))))
  (mRet (mF (mC (.bl true)))))
theorem dNe_bls (b : Bool) : dNe (.bl b) (.bl b) = some (.bl false) := by
  cases b <;> rfl
theorem same_promise {d : D} (hd : d.sim = true) (hz : d.sz < 1000000) {K : RF → Prop} (H : K (.ok (.bl true) [d, d])) : Pv (mFn 7 2 [0, 1] bSame [d, d]) K := by
  rw [Pv_Fn]
  have pd := D.sim_pers d hd
  have sd := slot_pers pd
  simp [bSame, sd, pd]
  refine Pv_whileI (fun n e => ∃ (l : List D) (p q r k : D), e = [d, d, .lst (l.map pr), p, q, r, k] ∧ simAll l = true ∧ n = szs l ∧ n < 1000000) d.sz ⟨[d], _, _, _, _, rfl, by simp [hd], by simp, hz⟩ ?_
  rintro n e ⟨l, p, q, r, k, rfl, hs, rfl, hn⟩
  rcases List.eq_nil_or_concat l with rfl | ⟨l, y, rfl⟩
  · simp [H]
  rw [List.concat_eq_append] at hs hn ⊢
  have hy : y.sim = true := by simpa using (simAll_iff.mp hs) y (by simp)
  have hl : simAll l = true := by rw [simAll_app, Bool.and_eq_true] at hs; exact hs.1
  have py := D.sim_pers y hy
  have sy := slot_pers py
  have zy : szs (l ++ [y]) = szs l + y.sz := by rw [szs_app, szs_cons]; rfl
  rw [zy] at hn
  have pos := sz_pos y
  simp [pr, py, sy]
  cases y with
  | non =>
    simp
    exact ⟨szs l, by rw [zy]; omega, l, rfl, hl, rfl, by omega⟩
  | bl b =>
    simp [dNe_bls]
    exact ⟨szs l, by rw [zy]; omega, l, rfl, hl, rfl, by omega⟩
  | int b =>
    simp
    exact ⟨szs l, by rw [zy]; omega, l, rfl, hl, rfl, by omega⟩
  | str x =>
    simp [dNe_strs (show OkS x from hy) (show OkS x from hy)]
    exact ⟨szs l, by rw [zy]; omega, l, rfl, hl, rfl, by omega⟩
  | tup ys =>
    have hy' := hy
    rw [sim_tup, Bool.and_eq_true] at hy'
    have h2 : ys.length < 100000 := by simpa using hy'.2
    have pys := simAll_pers ys hy'.1
    have zt : (D.tup ys).sz = 1 + szs ys := rfl
    have a1 := len_szs l
    have a2 := len_szs ys
    simp [rng1_ok (n := ys.length) (by omega), pys]
    refine Pv_forL (fun j e => ∃ k, e = [d, d, .lst ((l ++ ys.take j).map pr), pr (.tup ys), .tup ys, .tup ys, k]) ⟨k, by simp [pr]⟩ ?_ ?_
    · rintro j e hj ⟨k, rfl⟩
      have hj' : j < ys.length := by simpa using hj
      have pj : ys[j].pers = true := Reps.persMem pys _ (List.getElem_mem hj')
      have lt : (l.length + min j ys.length) < 1000000 := by omega
      simp [Pv_atI, hj', pj, lt, atI_of hj']
      rw [List.take_succ_eq_append_getElem (by simpa using hj')]
      simp [pr]
    · rintro e ⟨k, rfl⟩
      simp only [turnK_nx]
      exact ⟨szs l + szs ys, by rw [zy, zt]; omega, l ++ ys, ⟨pr (.tup ys), .tup ys, .tup ys, k, by simp⟩, by simp [hl, hy'.1], by rw [szs_app], by omega⟩
  | _ => cases hy
end DL
set_option maxHeartbeats 4000000
/-! T1: trees as rows of symbols, and their order: no program in sight. -/
namespace DL
open PySem PySem.Spec PyProof.Rows L2
open PySem.W (dataLe dataLt alike alikeAll keyToks keyToksAll)
structure Sym where
  w : Str
  n : Nat
deriving DecidableEq
/-- how many parts are still wanted behind the row, if n were ahead of it -/
def runT : Nat → List Sym → Option Nat
  | n, [] => some n
  | 0, _ :: _ => none
  | n + 1, s :: r => runT (n + s.2) r
abbrev TreeT (t : List Sym) : Prop := runT 1 t = some 0
theorem run_app : ∀ (n : Nat) (x y : List Sym), runT n (x ++ y) = (runT n x).bind fun m => runT m y
  | n, [], y => by cases n <;> rfl
  | 0, s :: x, y => rfl
  | n + 1, s :: x, y => by
    rw [List.cons_append, runT, runT, run_app]
theorem run_more {k : Nat} : ∀ {n m : Nat} {x : List Sym}, runT n x = some m → runT (n + k) x = some (m + k)
  | n, m, [], h => by
    cases n with
    | zero => cases h; rw [Nat.zero_add]; cases k <;> rfl
    | succ n => cases h; rw [runT]
  | 0, m, s :: x, h => by cases h
  | n + 1, m, s :: x, h => by
    rw [runT] at h
    rw [show n + 1 + k = (n + k) + 1 by omega, runT, show n + k + s.2 = n + s.2 + k by omega]
    exact run_more h
theorem run_nil {n : Nat} : runT n [] = some n := by cases n <;> rfl
theorem run_one {n : Nat} {s : Sym} : runT (n + 1) [s] = some (n + s.2) := by rw [runT, run_nil]
theorem run_snoc {n m : Nat} {x : List Sym} {s : Sym} (h : runT n x = some (m + 1)) : runT n (x ++ [s]) = some (m + s.2) := by
  rw [run_app, h, Option.bind_some, run_one]
/-- the piece that stands first -/
theorem run_cut : ∀ {q : List Sym} {a n m : Nat}, runT (a + n) q = some m → m ≤ n → ∃ p r, q = p ++ r ∧ runT a p = some 0 ∧ runT n r = some m
  | q, 0, n, m, h, _ => ⟨[], q, rfl, rfl, by simpa using h⟩
  | [], a + 1, n, m, h, hm => by
    rw [run_nil] at h
    cases h
    omega
  | s :: q, a + 1, n, m, h, hm => by
    rw [show a + 1 + n = (a + n) + 1 by omega, runT, show a + n + s.2 = (a + s.2) + n by omega] at h
    obtain ⟨p, r, e, h1, h2⟩ := run_cut h hm
    exact ⟨s :: p, r, by rw [e]; rfl, by rw [runT]; exact h1, h2⟩
/-- a tree at a node: what is ahead, the piece, what is behind -/
theorem tree_at {t : List Sym} {k : Nat} (h : TreeT t) (hk : k < t.length) : ∃ n p r, t = t.take k ++ (p ++ r) ∧ runT 1 (t.take k) = some (n + 1) ∧ TreeT p ∧ runT n r = some 0 := by
  have e : t = t.take k ++ t.drop k := (List.take_append_drop k t).symm
  have h' : runT 1 (t.take k ++ t.drop k) = some 0 := by rw [← e]; exact h
  rw [run_app] at h'
  cases hm : runT 1 (t.take k) with
  | none => rw [hm] at h'; cases h'
  | some m =>
    rw [hm, Option.bind_some] at h'
    cases m with
    | zero =>
      rw [List.drop_eq_getElem_cons hk] at h'
      cases h'
    | succ n =>
      rw [Nat.add_comm] at h'
      obtain ⟨p, r, e2, h1, h2⟩ := run_cut h' (Nat.zero_le _)
      exact ⟨n, p, r, by rw [← e2]; exact e, rfl, h1, h2⟩
theorem tree_put {a p r : List Sym} {n : Nat} (h1 : runT 1 a = some (n + 1)) (h2 : TreeT p) (h3 : runT n r = some 0) : TreeT (a ++ (p ++ r)) := by
  unfold TreeT
  rw [run_app, h1, Option.bind_some, run_app]
  have := run_more (k := n) h2
  rw [Nat.add_comm 1 n, Nat.zero_add] at this
  rw [this, Option.bind_some, h3]
theorem tree_pos {t : List Sym} (h : TreeT t) : 0 < t.length := by
  cases t with
  | nil => cases h
  | cons s t => simp
/-- no tree is the beginning of another one -/
theorem run_init {t : List Sym} (h : TreeT t) {a b : List Sym} (e : t = a ++ b) (hb : b ≠ []) : ∃ n, runT 1 a = some (n + 1) := by
  subst e
  have h' : (runT 1 a).bind (fun m => runT m b) = some 0 := by rw [← run_app]; exact h
  cases hm : runT 1 a with
  | none => rw [hm] at h'; cases h'
  | some m =>
    cases m with
    | zero =>
      rw [hm] at h'
      cases b with
      | nil => exact absurd rfl hb
      | cons s b => cases h'
    | succ n => exact ⟨n, rfl⟩
/-! ### rows of numbers -/
/-- the first number that differs tells -/
def fdLt : List Int → List Int → Bool
  | x :: xs, y :: ys => if x = y then fdLt xs ys else decide (x < y)
  | _, _ => false
theorem fdLt_self (p : List Int) {a b : List Int} : fdLt (p ++ a) (p ++ b) = fdLt a b := by
  induction p with
  | nil => rfl
  | cons x p ih => rw [List.cons_append, List.cons_append, fdLt, if_pos rfl, ih]
def symN (s : Sym) : List Int := s.1.cps.toList.map (fun c => ((c : Nat) : Int)) ++ [-1, (s.2 : Int)]
def numT (t : List Sym) : List Int := (t.length : Int) :: t.flatMap symN
def beforeT (a b : List Sym) : Bool := fdLt (numT a) (numT b)
def symP (s : Sym) : PyData := .tuple [.str s.1, .int s.2]
def treeP (t : List Sym) : PyData := .tuple (t.map symP)
def toksT (t : List Sym) : List (Int ⊕ List Nat) := keyToksAll (t.map symP)
theorem toks_cons (s : Sym) (t : List Sym) : toksT (s :: t) = [.inl 1, .inl 1, .inr s.1.cps.toList, .inl 1, .inl (s.2 : Int), .inl 0] ++ toksT t := by
  unfold toksT symP
  simp [keyToksAll, keyToks]
abbrev lexI := PyProof.Rows.lexLt itemOrd
theorem lexI_ne {x y : Int ⊕ List Nat} {r t : List (Int ⊕ List Nat)} (h : x ≠ y) : lexI (x :: r) (y :: t) = itemLt x y := lex_diff (O := itemOrd) h
/-- texts: the codes with a -1 behind them -/
theorem fd_codes : ∀ (a b : List Nat) (R S : List Int), a ≠ b → fdLt (a.map (fun c => ((c : Nat) : Int)) ++ (-1 :: R)) (b.map (fun c => ((c : Nat) : Int)) ++ (-1 :: S)) = decide (a < b)
  | [], [], R, S, h => absurd rfl h
  | [], y :: b, R, S, h => by
    have e : ((-1 : Int) = (y : Int)) = False := eq_false (by omega)
    simp only [List.map_nil, List.nil_append, List.map_cons, List.cons_append, fdLt, e, if_false]
    have : (-1 : Int) < (y : Int) := by omega
    simp [this]
  | x :: a, [], R, S, h => by
    have e : ((x : Int) = (-1 : Int)) = False := eq_false (by omega)
    simp only [List.map_nil, List.nil_append, List.map_cons, List.cons_append, fdLt, e, if_false]
    have : ¬ (x : Int) < -1 := by omega
    simp [this]
  | x :: a, y :: b, R, S, h => by
    simp only [List.map_cons, List.cons_append, fdLt]
    by_cases e : x = y
    · subst e
      have h' : a ≠ b := fun z => h (by rw [z])
      rw [if_pos rfl, fd_codes a b R S h']
      simp [List.cons_lt_cons_iff]
    · rw [if_neg (by omega)]
      have : (x :: a < y :: b) ↔ x < y := by rw [List.cons_lt_cons_iff]; exact ⟨fun z => z.elim id (fun q => absurd q.1 e), .inl⟩
      by_cases hl : x < y
      · rw [decide_eq_true (by omega), decide_eq_true (this.mpr hl)]
      · rw [decide_eq_false (by omega), decide_eq_false (fun z => hl (this.mp z))]
theorem codes_inj {x y : Str} (h : x.cps.toList = y.cps.toList) : x = y := PySem.W.str_of_cps h
/-- rows of as many symbols: both orders are one -/
theorem toks_fd : ∀ (a b : List Sym), a.length = b.length → lexI (toksT a) (toksT b) = fdLt (a.flatMap symN) (b.flatMap symN)
  | [], [], _ => lex_irrefl (O := itemOrd) _
  | [], _ :: _, h => by cases h
  | _ :: _, [], h => by cases h
  | s :: a, u :: b, h => by
    rw [toks_cons, toks_cons, List.flatMap_cons, List.flatMap_cons]
    have hl : a.length = b.length := by simpa using h
    have c1 : ∀ (x : Int ⊕ List Nat) r t, lexI (x :: r) (x :: t) = lexI r t := fun x r t => lex_self (O := itemOrd) x r t
    simp only [List.cons_append, List.nil_append]
    rw [c1, c1]
    by_cases ew : s.1.cps.toList = u.1.cps.toList
    · rw [ew, c1, c1]
      unfold symN
      rw [ew, List.append_assoc, List.append_assoc, fdLt_self]
      simp only [List.cons_append, List.nil_append]
      rw [fdLt, if_pos rfl, fdLt]
      by_cases en : s.2 = u.2
      · rw [en, if_pos rfl, c1, c1]
        exact toks_fd a b hl
      · have en' : ¬ (s.2 : Int) = (u.2 : Int) := by omega
        rw [if_neg en', lexI_ne (fun z => by injection z with z; omega)]
        rfl
    · rw [lexI_ne (by simpa using ew)]
      unfold symN
      simp only [List.append_assoc, List.cons_append, List.nil_append]
      rw [fd_codes _ _ _ _ ew]
      rfl
/-- (len(a), a) < (len(b), b) -/
def aheadT (a b : List Sym) : Bool := dataLt (.tuple [.int (a.length : Int), treeP a]) (.tuple [.int (b.length : Int), treeP b])
theorem toks_pair (a : List Sym) : keyToks (.tuple [.int (a.length : Int), treeP a]) = .inl 1 :: .inl (a.length : Int) :: .inl 1 :: (toksT a ++ [.inl 0]) := by
  unfold toksT treeP
  simp [keyToks, keyToksAll]
theorem lexI_end : ∀ (a b : List Sym), a.length = b.length → ∀ r, lexI (toksT a ++ r) (toksT b ++ r) = lexI (toksT a) (toksT b)
  | [], [], _, r => (lex_irrefl (O := itemOrd) _).trans (lex_irrefl (O := itemOrd) _).symm
  | [], _ :: _, h, _ => by cases h
  | _ :: _, [], h, _ => by cases h
  | s :: a, u :: b, h, r => by
    have hl : a.length = b.length := by simpa using h
    have c1 : ∀ (x : Int ⊕ List Nat) r t, lexI (x :: r) (x :: t) = lexI r t := fun x r t => lex_self (O := itemOrd) x r t
    rw [toks_cons, toks_cons]
    simp only [List.cons_append, List.nil_append]
    rw [c1, c1, c1, c1]
    by_cases ew : s.1.cps.toList = u.1.cps.toList
    · rw [ew, c1, c1, c1, c1]
      by_cases en : s.2 = u.2
      · rw [en, c1, c1, c1, c1]
        exact lexI_end a b hl r
      · rw [lexI_ne (fun z => by injection z with z; omega), lexI_ne (fun z => by injection z with z; omega)]
    · rw [lexI_ne (by simpa using ew), lexI_ne (by simpa using ew)]
theorem ahead_before (a b : List Sym) : aheadT a b = beforeT a b := by
  unfold aheadT beforeT dataLt
  rw [toks_pair, toks_pair]
  have c1 : ∀ (x : Int ⊕ List Nat) r t, lexI (x :: r) (x :: t) = lexI r t := fun x r t => lex_self (O := itemOrd) x r t
  show lexI _ _ = _
  rw [c1]
  unfold numT
  by_cases hl : a.length = b.length
  · rw [hl, c1, c1, lexI_end a b hl, toks_fd a b hl, fdLt, if_pos rfl]
  · rw [lexI_ne (fun z => by injection z with z; omega), fdLt, if_neg (by omega)]
    rfl
theorem toksT_inj : ∀ {a b : List Sym}, toksT a = toksT b → a = b
  | [], [], _ => rfl
  | [], s :: b, h => by
    rw [toks_cons] at h
    simp [toksT, keyToksAll] at h
  | s :: a, [], h => by
    rw [toks_cons] at h
    simp [toksT, keyToksAll] at h
  | s :: a, u :: b, h => by
    rw [toks_cons, toks_cons] at h
    simp only [List.cons_append, List.nil_append, List.cons.injEq, true_and, Sum.inr.injEq, Sum.inl.injEq] at h
    obtain ⟨h1, h2, h3⟩ := h
    rw [toksT_inj h3]
    have e1 := codes_inj h1
    have e2 : s.2 = u.2 := by omega
    cases s
    cases u
    simp only at e1 e2
    rw [e1, e2]
theorem ahead_irrefl (a : List Sym) : aheadT a a = false := lex_irrefl (O := itemOrd) _
theorem ahead_trans {a b c : List Sym} (h1 : aheadT a b = true) (h2 : aheadT b c = true) : aheadT a c = true := lex_trans (O := itemOrd) _ _ _ h1 h2
theorem ahead_total {a b : List Sym} (h1 : aheadT a b = false) (h2 : aheadT b a = false) : a = b := by
  have e := lex_total (O := itemOrd) _ _ h1 h2
  rw [toks_pair, toks_pair] at e
  injection e with _ e
  injection e with _ e
  injection e with _ e
  exact toksT_inj (List.append_cancel_right e)
theorem ahead_asymm {a b : List Sym} (h : aheadT a b = true) : aheadT b a = false := by
  cases e : aheadT b a with
  | false => rfl
  | true => have := ahead_trans h e; rw [ahead_irrefl] at this; cases this
theorem before_len {a b : List Sym} (h : a.length < b.length) : beforeT a b = true := by
  unfold beforeT numT
  rw [fdLt, if_neg (by omega)]
  exact decide_eq_true (by omega)
theorem before_len' {a b : List Sym} (h : b.length < a.length) : beforeT a b = false := by
  unfold beforeT numT
  rw [fdLt, if_neg (by omega)]
  exact decide_eq_false (by omega)
theorem before_same {a b : List Sym} (h : a.length = b.length) : beforeT a b = fdLt (a.flatMap symN) (b.flatMap symN) := by
  unfold beforeT numT
  rw [h, fdLt, if_pos rfl]
theorem lexI_mid : ∀ (a b : List Sym), a.length = b.length → ∀ r, fdLt (a.flatMap symN ++ r) (b.flatMap symN ++ r) = fdLt (a.flatMap symN) (b.flatMap symN)
  | [], [], _, r => by
    have := fdLt_self r (a := []) (b := [])
    simpa [fdLt] using this
  | [], _ :: _, h, _ => by cases h
  | _ :: _, [], h, _ => by cases h
  | s :: a, u :: b, h, r => by
    have hl : a.length = b.length := by simpa using h
    rw [List.flatMap_cons, List.flatMap_cons]
    by_cases ew : s.1.cps.toList = u.1.cps.toList
    · unfold symN
      rw [ew]
      simp only [List.append_assoc]
      rw [fdLt_self, fdLt_self]
      simp only [List.cons_append, List.nil_append]
      rw [fdLt, if_pos rfl, fdLt, fdLt, if_pos rfl, fdLt]
      by_cases en : s.2 = u.2
      · rw [if_pos (by omega), if_pos (by omega)]
        exact lexI_mid a b hl r
      · rw [if_neg (by omega), if_neg (by omega)]
    · unfold symN
      simp only [List.append_assoc, List.cons_append, List.nil_append]
      rw [fd_codes _ _ _ _ ew, fd_codes _ _ _ _ ew]
/-- a lesser piece makes a lesser whole -/
theorem before_put (p r a b : List Sym) : beforeT (p ++ a ++ r) (p ++ b ++ r) = beforeT a b := by
  by_cases h : a.length = b.length
  · rw [before_same h, before_same (by simp [h])]
    simp only [List.flatMap_append, List.append_assoc]
    rw [fdLt_self]
    exact lexI_mid a b h _
  · by_cases h2 : a.length < b.length
    · rw [before_len h2, before_len (by simp only [List.length_append]; omega)]
    · have q : (p ++ b ++ r).length < (p ++ a ++ r).length := by simp only [List.length_append]; omega
      rw [before_len' (show b.length < a.length by omega), before_len' q]
theorem before_irrefl (a : List Sym) : beforeT a a = false := by rw [← ahead_before]; exact ahead_irrefl a
theorem before_trans {a b c : List Sym} (h1 : beforeT a b = true) (h2 : beforeT b c = true) : beforeT a c = true := by
  rw [← ahead_before] at *
  exact ahead_trans h1 h2
theorem before_total {a b : List Sym} (h1 : beforeT a b = false) (h2 : beforeT b a = false) : a = b := by
  rw [← ahead_before] at *
  exact ahead_total h1 h2
theorem before_asymm {a b : List Sym} (h : beforeT a b = true) : beforeT b a = false := by
  rw [← ahead_before] at *
  exact ahead_asymm h
end DL
set_option maxHeartbeats 4000000
/-! T2: trees in order: what in_order, least_of and the law's own placing have in common. -/
namespace DL
open PySem PySem.Spec PyProof.Rows L2 DLS
open PySem.W (dataLe dataLt alike alikeAll keyToks keyToksAll)
abbrev TL := List (List Sym)
/-- L is xs in order, each once -/
structure IsS (L xs : TL) : Prop where
  pw : L.Pairwise fun a b => beforeT a b = true
  mem : ∀ t, t ∈ L ↔ t ∈ xs
theorem IsS.nd {L xs : TL} (h : IsS L xs) : L.Nodup := h.pw.imp fun {a b} k e => by subst e; rw [before_irrefl] at k; cases k
theorem IsS.uniq {L M xs ys : TL} (h : IsS L xs) (k : IsS M ys) (e : ∀ t, t ∈ xs ↔ t ∈ ys) : L = M := by
  have p : L.Perm M := (List.perm_ext_iff_of_nodup h.nd k.nd).mpr fun t => by rw [h.mem, k.mem, e]
  exact sorted_unique (le := beforeT) p (fun a _ b _ h1 h2 => by rw [before_asymm h1] at h2; cases h2) h.pw k.pw
theorem IsS.of_le {L xs : TL} (nd : L.Nodup) (mem : ∀ t, t ∈ L ↔ t ∈ xs) (pw : L.Pairwise fun a b => beforeT b a = false) : IsS L xs := ⟨by
  have z := nd.and pw
  refine z.imp fun {a b} h => ?_
  cases e : beforeT a b with
  | true => rfl
  | false => exact absurd (before_total e h.2) h.1, mem⟩
def leB (a b : List Sym) : Bool := !beforeT b a
theorem leB_trans (a b c : List Sym) (h1 : leB a b = true) (h2 : leB b c = true) : leB a c = true := by
  unfold leB at *
  rw [Bool.not_eq_true'] at *
  cases e : beforeT c a with
  | false => rfl
  | true =>
    exfalso
    cases e2 : beforeT a b with
    | true =>
      rw [before_trans e e2] at h2
      cases h2
    | false =>
      have := before_total e2 h1
      subst this
      rw [e] at h2
      cases h2
theorem leB_total (a b : List Sym) : (leB a b || leB b a) = true := by
  unfold leB
  cases e : beforeT b a with
  | false => rfl
  | true => rw [before_asymm e]; rfl
theorem exists_sorted {xs : TL} (nd : xs.Nodup) : ∃ L, IsS L xs ∧ L.Perm xs := by
  have p := List.mergeSort_perm xs leB
  refine ⟨xs.mergeSort leB, IsS.of_le (p.nodup_iff.mpr nd) (fun t => p.mem_iff) ?_, p⟩
  have := List.pairwise_mergeSort (le := leB) (fun a b c => leB_trans a b c) (fun a b => leB_total a b) xs
  exact this.imp fun {a b} h => by unfold leB at h; simpa using h
/-- the least one stands first -/
theorem IsS.head {L xs : TL} (h : IsS L xs) {m : List Sym} (hm : m ∈ xs) (hl : ∀ x ∈ xs, beforeT x m = false) : ∃ r, L = m :: r := by
  cases L with
  | nil => exact absurd ((h.mem m).mpr hm) (by simp)
  | cons a r =>
    refine ⟨r, ?_⟩
    have hm' := (h.mem m).mpr hm
    rcases List.mem_cons.mp hm' with e | e
    · rw [e]
    · have q := (List.pairwise_cons.mp h.pw).1 m e
      rw [hl a ((h.mem a).mp List.mem_cons_self)] at q
      cases q
/-- so many are ahead of the one at i -/
theorem count_at {L xs : TL} (h : IsS L xs) {O : TL} (p : O.Perm L) {i : Nat} (hi : i < L.length) : (O.filter fun t => beforeT t L[i]).length = i := by
  have e : (O.filter fun t => beforeT t L[i]).length = (L.filter fun t => beforeT t L[i]).length := (p.filter _).length_eq
  rw [e]
  have sp : L = L.take i ++ L.drop i := (List.take_append_drop i L).symm
  have main : L.filter (fun t => beforeT t L[i]) = L.take i := by
    have pw := h.pw
    rw [List.pairwise_iff_getElem] at pw
    have a : (L.take i).filter (fun t => beforeT t L[i]) = L.take i := by
      rw [List.filter_eq_self]
      intro t ht
      obtain ⟨j, hj, rfl⟩ := List.mem_iff_getElem.mp ht
      rw [List.length_take] at hj
      rw [List.getElem_take]
      exact pw j i (by omega) hi (by omega)
    have b : (L.drop i).filter (fun t => beforeT t L[i]) = [] := by
      rw [List.filter_eq_nil_iff]
      intro t ht
      obtain ⟨j, hj, rfl⟩ := List.mem_iff_getElem.mp ht
      rw [List.length_drop] at hj
      rw [List.getElem_drop]
      by_cases z : j = 0
      · subst z
        simp [before_irrefl]
      · rw [before_asymm (pw i (i + j) hi (by omega) (by omega))]
        simp
    have c := congrArg (List.filter fun t => beforeT t L[i]) sp
    rw [List.filter_append, a, b, List.append_nil] at c
    exact c
  rw [main, List.length_take]
  omega
/-! ### keys -/
def symK (s : Sym) : NK := .tup [.text s.1, .num s.2]
def treeK (t : List Sym) : NK := .tup (t.map symK)
def symD (s : Sym) : D := .tup [.str s.1, .int s.2]
abbrev treeD (t : List Sym) : D := .tup (t.map symD)
theorem un_symK (s : Sym) : unK (symK s) = symD s := by
  unfold symK symD
  rw [unK, unKs_map]
  simp [unK]
theorem un_treeK (t : List Sym) : unK (treeK t) = treeD t := by
  unfold treeK
  rw [unK, unKs_map, List.map_map]
  congr 2
theorem data_symK (s : Sym) : (symK s).data = symP s := by
  unfold symK symP
  simp [NestedKey.data, NestedKey.datas]
theorem datas_map : ∀ ks : List NK, NestedKey.datas ks = ks.map NestedKey.data
  | [] => by rw [NestedKey.datas]; rfl
  | k :: ks => by rw [NestedKey.datas, datas_map ks]; rfl
theorem data_treeK (t : List Sym) : (treeK t).data = treeP t := by
  unfold treeK treeP
  rw [NestedKey.data, datas_map, List.map_map]
  congr 2
theorem keyAll_trees (xs : TL) : keyAll (xs.map treeD) = some (xs.map treeK) := by
  have e : xs.map treeD = unKs (xs.map treeK) := by
    rw [unKs_map, List.map_map]
    congr 1
    funext t
    exact (un_treeK t).symm
  rw [e, keyAll_un]
theorem treeK_inj {a b : List Sym} (h : treeK a = treeK b) : a = b := by
  have h1 : toksT a = toksT b := by
    have := congrArg (fun k => keyToks (NestedKey.data k)) h
    simp only [data_treeK] at this
    unfold treeP at this
    rw [keyToks, keyToks] at this
    exact this
  exact toksT_inj h1
theorem alike_sym (s u : Sym) : alike (symP s) (symP u) = true := by
  unfold symP
  simp [alike, alikeAll]
theorem alike_syms : ∀ a b : List Sym, alikeAll (a.map symP) (b.map symP) = true
  | [], b => by simp [alikeAll]
  | _ :: _, [] => by simp [alikeAll]
  | s :: a, u :: b => by
    rw [List.map_cons, List.map_cons, alikeAll, alike_sym, alike_syms a b]
    rfl
theorem alike_tree (a b : List Sym) : alike (treeP a) (treeP b) = true := by
  unfold treeP
  rw [alike]
  exact alike_syms a b
theorem depth_sym (s : Sym) : PyData.depth (symP s) = 1 := by
  unfold symP
  simp [PyData.depth, PyData.depthAll]
theorem depth_syms : ∀ a : List Sym, PyData.depthAll (a.map symP) ≤ 1
  | [] => by simp [PyData.depthAll]
  | s :: a => by
    rw [List.map_cons, PyData.depthAll, depth_sym]
    have := depth_syms a
    omega
theorem depth_tree (a : List Sym) : PyData.depth (treeP a) ≤ 2 := by
  unfold treeP
  rw [PyData.depth]
  have := depth_syms a
  omega
theorem kdepth_sym (s : Sym) : NestedKey.depth (symK s) = 1 := by
  unfold symK
  simp [NestedKey.depth, NestedKey.depthAll]
theorem kdepth_syms : ∀ a : List Sym, NestedKey.depthAll (a.map symK) ≤ 1
  | [] => by simp [NestedKey.depthAll]
  | s :: a => by
    rw [List.map_cons, NestedKey.depthAll, kdepth_sym]
    have := kdepth_syms a
    omega
theorem kdepth_tree (a : List Sym) : NestedKey.depth (treeK a) ≤ 2 := by
  unfold treeK
  rw [NestedKey.depth]
  have := kdepth_syms a
  omega
theorem fitK_trees {xs : TL} (hp : ∀ t ∈ xs, t ≠ []) : FitK (xs.map treeK) where
  al := fun k hk k' hk' => by
    obtain ⟨a, _, rfl⟩ := List.mem_map.mp hk
    obtain ⟨b, _, rfl⟩ := List.mem_map.mp hk'
    rw [data_treeK, data_treeK]
    exact alike_tree a b
  tup := fun k hk => by
    obtain ⟨a, ha, rfl⟩ := List.mem_map.mp hk
    cases a with
    | nil => exact absurd rfl (hp _ ha)
    | cons s a => exact ⟨symK s, a.map symK, rfl⟩
  d1 := fun k hk => by
    obtain ⟨a, _, rfl⟩ := List.mem_map.mp hk
    have := kdepth_tree a
    omega
  d2 := fun k hk => by
    obtain ⟨a, _, rfl⟩ := List.mem_map.mp hk
    rw [data_treeK]
    have := depth_tree a
    omega
theorem map_ex {α β : Type} {f : α → β} : ∀ {ks : List β}, (∀ k ∈ ks, ∃ a, k = f a) → ∃ as : List α, ks = as.map f
  | [], _ => ⟨[], rfl⟩
  | k :: ks, h => by
    obtain ⟨a, rfl⟩ := h k List.mem_cons_self
    obtain ⟨as, rfl⟩ := map_ex fun k hk => h k (List.mem_cons_of_mem _ hk)
    exact ⟨a :: as, rfl⟩
theorem nodup_len {α : Type} [DecidableEq α] : ∀ {l m : List α}, l.Nodup → (∀ k ∈ l, k ∈ m) → l.length ≤ m.length
  | [], m, _, _ => Nat.zero_le _
  | a :: l, m, nd, sub => by
    obtain ⟨h1, h2⟩ := List.nodup_cons.mp nd
    have := nodup_len (m := m.erase a) h2 fun k hk => (List.mem_erase_of_ne (fun e => h1 (by rw [← e]; exact hk))).mpr (sub k (List.mem_cons_of_mem _ hk))
    have ha := sub a List.mem_cons_self
    rw [List.length_erase_of_mem ha] at this
    have := List.length_pos_of_mem ha
    rw [List.length_cons]
    omega
theorem fewD_trees {xs ys : TL} (h : ∀ t ∈ xs, t ∈ ys) (hl : ys.length < 300) : FewD (xs.map treeK) := fun l nd hk => by
  have sub : ∀ k ∈ l, k ∈ ys.map treeK := fun k hk' => by
    obtain ⟨a, ha, rfl⟩ := List.mem_map.mp (hk k hk')
    exact List.mem_map.mpr ⟨a, h a ha, rfl⟩
  have := nodup_len nd sub
  rw [List.length_map] at this
  omega
/-- the sorted set, by length -/
theorem sorted_trees (xs : TL) : ∃ L, sortLen ((sortK (xs.map treeK)).map unK) = L.map treeD ∧ IsS L xs := by
  have hmem : ∀ k, k ∈ sortK (xs.map treeK) ↔ k ∈ xs.map treeK := fun k => by
    unfold sortK
    rw [(List.mergeSort_perm _ _).mem_iff, onceK_mem]
  have hnd : (sortK (xs.map treeK)).Nodup := by
    unfold sortK
    exact (List.mergeSort_perm _ _).nodup_iff.mpr (onceK_nodup _)
  have hpw : (sortK (xs.map treeK)).Pairwise fun a b => leK a b = true := List.pairwise_mergeSort (le := leK) (fun a b c => leK_trans a b c) (fun a b => leK_total a b) _
  obtain ⟨M, eM⟩ := map_ex (f := treeK) (ks := sortK (xs.map treeK)) fun k hk => by
    obtain ⟨a, _, e⟩ := List.mem_map.mp ((hmem k).mp hk)
    exact ⟨a, e.symm⟩
  rw [eM] at hmem hnd hpw ⊢
  have ndM : M.Nodup := (List.pairwise_map.mp hnd).imp fun {a b} h e => h (by rw [e])
  have memM : ∀ t, t ∈ M ↔ t ∈ xs := fun t => ⟨fun h => by
    obtain ⟨a, ha, e⟩ := List.mem_map.mp ((hmem _).mp (List.mem_map.mpr ⟨t, h, rfl⟩))
    rw [← treeK_inj e]
    exact ha, fun h => by
    obtain ⟨a, ha, e⟩ := List.mem_map.mp ((hmem _).mpr (List.mem_map.mpr ⟨t, h, rfl⟩))
    rw [← treeK_inj e]
    exact ha⟩
  have pwM : M.Pairwise fun a b => lexI (toksT b) (toksT a) = false := by
    rw [List.pairwise_map] at hpw
    refine hpw.imp fun {a b} h => ?_
    rw [leK_lt, data_treeK, data_treeK, Bool.not_eq_true'] at h
    unfold treeP dataLt at h
    rw [keyToks, keyToks] at h
    exact h
  let lenLe : List Sym → List Sym → Bool := fun a b => decide (a.length ≤ b.length)
  have tr : ∀ a b c, lenLe a b = true → lenLe b c = true → lenLe a c = true := fun a b c h1 h2 => by
    simp only [lenLe, decide_eq_true_eq] at *
    omega
  have to : ∀ a b, (lenLe a b || lenLe b a) = true := fun a b => by
    simp only [lenLe, Bool.or_eq_true, decide_eq_true_eq]
    omega
  refine ⟨M.mergeSort lenLe, ?_, ?_⟩
  · unfold sortLen
    rw [List.map_map]
    have e : (unK ∘ treeK) = treeD := funext un_treeK
    rw [e]
    exact (List.map_mergeSort (r := lenLe) (s := fun a b => decide (lenT a ≤ lenT b)) (f := treeD) (l := M) fun a _ b _ => by simp [lenLe, lenT]).symm
  · have pm := List.mergeSort_perm M lenLe
    have nd := pm.nodup_iff.mpr ndM
    refine IsS.of_le nd (fun t => by rw [pm.mem_iff, memM]) ?_
    have pl := List.pairwise_mergeSort (le := lenLe) tr to M
    rw [List.pairwise_iff_forall_sublist] at pl ⊢
    intro a b hab
    have h1 := pl hab
    simp only [lenLe, decide_eq_true_eq] at h1
    by_cases he : a.length = b.length
    · rw [before_same he.symm, ← toks_fd b a he.symm]
      have ha : a ∈ M := pm.mem_iff.mp (hab.subset (by simp))
      have hb : b ∈ M := pm.mem_iff.mp (hab.subset (by simp))
      have hne : a ≠ b := fun z => by
        subst z
        have := hab.nodup nd
        simp at this
      have hor : [a, b].Sublist M ∨ [b, a].Sublist M := by
        obtain ⟨i, hi, ei⟩ := List.mem_iff_getElem.mp ha
        obtain ⟨j, hj, ej⟩ := List.mem_iff_getElem.mp hb
        have two : ∀ {i j : Nat} (hi : i < M.length) (hj : j < M.length), i < j → [M[i], M[j]].Sublist M := fun {i j} hi hj h => by
          have s1 : [M[i]].Sublist (M.take j) := List.singleton_sublist.mpr (List.mem_iff_getElem.mpr ⟨i, by rw [List.length_take]; omega, by rw [List.getElem_take]⟩)
          have s2 : [M[j]].Sublist (M.drop j) := List.singleton_sublist.mpr (List.mem_iff_getElem.mpr ⟨0, by rw [List.length_drop]; omega, by rw [List.getElem_drop]; simp⟩)
          have := s1.append s2
          rw [List.take_append_drop] at this
          exact this
        rcases Nat.lt_trichotomy i j with h | h | h
        · left
          rw [← ei, ← ej]
          exact two hi hj h
        · subst h
          exact absurd (ei.symm.trans ej) hne
        · right
          rw [← ei, ← ej]
          exact two hj hi h
      rcases hor with h | h
      · rw [List.pairwise_iff_forall_sublist] at pwM
        exact pwM h
      · exfalso
        have q : [b, a].Sublist (M.mergeSort lenLe) := List.pair_sublist_mergeSort (le := lenLe) tr to (by simp [lenLe, he]) h
        -- both orders in a list without doubles
        have i1 : ∀ {a b : List Sym}, [a, b].Sublist (M.mergeSort lenLe) → (M.mergeSort lenLe).idxOf a < (M.mergeSort lenLe).idxOf b := fun {a b} hab => List.pairwise_iff_forall_sublist.mp (show (M.mergeSort lenLe).Pairwise (fun x y => (M.mergeSort lenLe).idxOf x < (M.mergeSort lenLe).idxOf y) from by
          rw [List.pairwise_iff_getElem]
          intro i j hi hj hij
          rw [nd.idxOf_getElem, nd.idxOf_getElem]
          exact hij) hab
        have q1 := i1 hab
        have q2 := i1 q
        omega
    · exact before_len' (by omega)
/-! ### the least -/
theorem argBest_le (bt : Nat → Nat → Bool) : ∀ k, argBest bt k ≤ k
  | 0 => Nat.le_refl 0
  | k + 1 => by
    rw [argBest]
    have := argBest_le bt k
    split <;> omega
theorem argBest_min (bt : Nat → Nat → Bool) (irr : ∀ i, bt i i = false) (tr : ∀ i j k, bt i j = true → bt j k = true → bt i k = true) : ∀ k j, j ≤ k → bt j (argBest bt k) = false
  | 0, j, h => by
    have : j = 0 := by omega
    subst this
    exact irr 0
  | k + 1, j, h => by
    rw [argBest]
    split
    · rename_i hb
      by_cases e : j = k + 1
      · subst e
        exact irr _
      · cases q : bt j (k + 1) with
        | false => rfl
        | true =>
          have z := argBest_min bt irr tr k j (by omega)
          rw [tr _ _ _ q hb] at z
          cases z
    · rename_i hb
      by_cases e : j = k + 1
      · subst e
        simpa using hb
      · exact argBest_min bt irr tr k j (by omega)
theorem keyD_tree (t : List Sym) : keyD (treeK t) = .tuple [.int (t.length : Int), treeP t] := by
  unfold keyD
  rw [data_treeK]
  show PyData.tuple [PyData.int ((t.map symK).length : Int), treeP t] = _
  rw [List.length_map]
theorem minI_tree {xs : TL} (h : xs ≠ []) : ∃ hi : minI (xs.map treeK) < xs.length, ∀ x ∈ xs, beforeT x xs[minI (xs.map treeK)] = false := by
  have pos : 0 < xs.length := List.length_pos_iff.mpr h
  have le : minI (xs.map treeK) ≤ (xs.map treeK).length - 1 := argBest_le _ _
  rw [List.length_map] at le
  have hi : minI (xs.map treeK) < xs.length := by omega
  refine ⟨hi, fun x hx => ?_⟩
  obtain ⟨j, hj, rfl⟩ := List.mem_iff_getElem.mp hx
  have z := argBest_min (btK (xs.map treeK)) (fun i => lex_irrefl (O := itemOrd) _) (fun i j k h1 h2 => lex_trans (O := itemOrd) _ _ _ h1 h2) ((xs.map treeK).length - 1) j (by rw [List.length_map]; omega)
  have g : ∀ {i : Nat} (hi : i < xs.length), (xs.map treeK).getD i .none = treeK xs[i] := fun {i} hi => by
    rw [List.getD_eq_getElem?_getD, List.getElem?_map, List.getElem?_eq_getElem hi]
    rfl
  have z' : dataLt (keyD ((xs.map treeK).getD j .none)) (keyD ((xs.map treeK).getD (minI (xs.map treeK)) .none)) = false := z
  rw [g hj, g hi, keyD_tree, keyD_tree] at z'
  rw [← ahead_before]
  exact z'
theorem fitM_trees {xs : TL} (hl : ∀ t ∈ xs, t.length ≤ LIM) : FitM (xs.map treeK) where
  tup := fun k hk => by
    obtain ⟨a, _, rfl⟩ := List.mem_map.mp hk
    exact ⟨_, rfl⟩
  al := fun k hk k' hk' => by
    obtain ⟨a, _, rfl⟩ := List.mem_map.mp hk
    obtain ⟨b, _, rfl⟩ := List.mem_map.mp hk'
    rw [data_treeK, data_treeK]
    exact alike_tree a b
  dp := fun k hk => by
    obtain ⟨a, _, rfl⟩ := List.mem_map.mp hk
    rw [data_treeK]
    have := depth_tree a
    omega
  ln := fun k hk => by
    obtain ⟨a, ha, rfl⟩ := List.mem_map.mp hk
    show (a.map symK).length ≤ LIM
    rw [List.length_map]
    exact hl a ha
end DL
set_option maxHeartbeats 0
namespace TH
open PySem PySem.Spec PyProof.Rows L2 DL
def cm_NotUsable : Str → Option Bool := fun n => if n = "NotUsable" then some true else none
noncomputable def b_a_begins : MS := mRet (mF (mPP (dIn false) (mV 0) (mC (.str "abcdefghijklmnopqrstuvwxyz"))))
noncomputable def m_a_begins : MF := mFn 1 1 [0] b_a_begins
noncomputable def b_a_goes_on : MS := mRet (mOrV (mF (mPP (dIn false) (mV 0) (mC (.str "abcdefghijklmnopqrstuvwxyz")))) (mF (mPP (dIn false) (mV 0) (mC (.str "0123456789-")))))
noncomputable def m_a_goes_on : MF := mFn 1 1 [0] b_a_goes_on
noncomputable def b_a_ask_node : MS := mIf (mOr (mNot (mTP (mIsi .int (mV 1)))) (mOr (mTP (mIsi .bool (mV 1))) (mNot (mTb (mF (mChain dLe dLt (mC (.int 0)) (mV 1) (mCaP dLen (mPcons (mV 0) mPnil)))))))) (mRaise "NotUsable" ["word", "at"] (mPcons (mC (.str "node")) (mPcons (mUnP dNeg (mC (.int 1))) mPnil))) mNil
noncomputable def m_a_ask_node : MF := mFn 2 2 [0, 1] b_a_ask_node
noncomputable def b_a_end : MS := mSeq (mPar 2 3 (mAcons (mF (mC (.int 1))) (mAcons (mMv 1) mAnil)))
  (mSeq (mWhile (mTb (mF (mPP dGt (mV 2) (mC (.int 0))))) (mSeq (mSet 2 (mF (mPP dSub (mPP dAdd (mV 2) (mPP dIx (mPP dIx (mV 0) (mV 3)) (mC (.int 1)))) (mC (.int 1)))))
  (mSet 3 (mF (mPP dAdd (mV 3) (mC (.int 1)))))))
  (mRet (mMv 3)))
noncomputable def m_a_end : MF := mFn 4 2 [0, 1] b_a_end
noncomputable def b_is_word : MS := mSeq (mIf (mNot (mTP (mIsi .str (mV 0)))) (mRet (mF (mC (.bl false)))) mNil)
  (mSeq (mIf (mTb (mF (mPP dEq (mV 0) (mC (.str "."))))) (mRet (mF (mC (.bl true)))) mNil)
  (mSeq (mIf (mOr (mNot (mTb (mF (mChain dLe dLe (mC (.int 1)) (mCaP dLen (mPcons (mV 0) mPnil)) (mC (.int 16)))))) (mNot (mTE (mCall m_a_begins [.e (mF (mCk (mPP dIx (mV 0) (mC (.int 0)))))])))) (mRet (mF (mC (.bl false)))) mNil)
  (mRet (mCaE dAll (mAcons (mLcV [1] 0 (setE 1) mYes (mCall m_a_goes_on [.var 1])) mAnil)))))
noncomputable def m_is_word : MF := mFn 2 1 [0] b_is_word
noncomputable def b__a_is_count : MS := mRet (mAndV (mF (mIsi .int (mV 0))) (mAndV (mNotV (mF (mIsi .bool (mV 0)))) (mF (mChain dLe dLe (mC (.int 0)) (mV 0) (mC (.int 4))))))
noncomputable def m__a_is_count : MF := mFn 1 1 [0] b__a_is_count
noncomputable def b_is_symbol : MS := mSeq (mIf (mOr (mNot (mTP (mIsi .tup (mV 0)))) (mTb (mF (mPP dNe (mCaP dLen (mPcons (mV 0) mPnil)) (mC (.int 2)))))) (mRet (mF (mC (.bl false)))) mNil)
  (mSeq (mUnp (gmTup 2 (gmCons (setE 1) (gmCons (setE 2) gmNil))) (mMv 0))
  (mRet (mAndV (mCall m_is_word [.var 1]) (mAndV (mCall m__a_is_count [.var 2]) (mOrV (mF (mPP dEq (mV 2) (mC (.int 0)))) (mF (mPP dNe (mV 1) (mC (.str ".")))))))))
noncomputable def m_is_symbol : MF := mFn 3 1 [0] b_is_symbol
noncomputable def b__a_is_hole : MS := mSeq (mIf (mOr (mNot (mTP (mIsi .tup (mV 0)))) (mTb (mF (mPP dNe (mCaP dLen (mPcons (mV 0) mPnil)) (mC (.int 2)))))) (mRet (mF (mC (.bl false)))) mNil)
  (mSeq (mUnp (gmTup 2 (gmCons (setE 1) (gmCons (setE 2) gmNil))) (mMv 0))
  (mRet (mAndV (mF (mIsi .str (mV 1))) (mAndV (mF (mPP dEq (mV 1) (mC (.str "?")))) (mAndV (mCall m__a_is_count [.var 2]) (mF (mPP dEq (mV 2) (mC (.int 0)))))))))
noncomputable def m__a_is_hole : MF := mFn 3 1 [0] b__a_is_hole
noncomputable def b__a_is_row : MS := mSeq (mIf (mNot (mTP (mIsi .tup (mV 0)))) (mRet (mF (mC (.bl false)))) mNil)
  (mSeq (mSet 2 (mF (mC (.int 1))))
  (mSeq (mForV 0 (setE 3) (mSeq (mIf (mTb (mF (mPP dEq (mV 2) (mC (.int 0))))) (mRet (mF (mC (.bl false)))) mNil)
  (mSeq (mIf (mAnd (mNot (mTE (mCall m_is_symbol [.var 3]))) (mNot (mAnd (mTP (mV 1)) (mTE (mCall m__a_is_hole [.var 3]))))) (mRet (mF (mC (.bl false)))) mNil)
  (mSet 2 (mF (mPP dSub (mPP dAdd (mV 2) (mPP dIx (mV 3) (mC (.int 1)))) (mC (.int 1))))))))
  (mRet (mF (mPP dEq (mV 2) (mC (.int 0)))))))
noncomputable def m__a_is_row : MF := mFn 4 2 [0, 1] b__a_is_row
noncomputable def b_is_tree : MS := mRet (mCall m__a_is_row [.var 0, .e (mF (mC (.bl false)))])
noncomputable def m_is_tree : MF := mFn 1 1 [0] b_is_tree
noncomputable def b_ends_of : MS := mSeq (mSet 1 (mF (mPP dMul (mLstP (mPcons (mC (.int 0)) mPnil)) (mCaP dLen (mPcons (mV 0) mPnil)))))
  (mSeq (mFor (mRvR (mF (mCaP dLen (mPcons (mV 0) mPnil)))) (setE 2) (mSeq (mSet 3 (mF (mPP dAdd (mV 2) (mC (.int 1)))))
  (mSeq (mFor (mRg rng1 (mAcons (mF (mCk (mPP dIx (mPP dIx (mV 0) (mV 2)) (mC (.int 1))))) mAnil)) (setE 4) (mSet 3 (mF (mCk (mPP dIx (mV 1) (mV 3))))))
  (mSetIx 1 (mV 2) (mMv 3)))))
  (mRet (mF (mCaP dTuple (mPcons (mV 1) mPnil)))))
noncomputable def m_ends_of : MF := mFn 5 1 [0] b_ends_of
noncomputable def b_piece_at : MS := mSeq (mDrop (mCall m_a_ask_node [.var 0, .var 1]))
  (mRet (mSlE (mF (mCk (mV 0))) (some (mMv 1)) (some (mCall m_a_end [.var 0, .var 1]))))
noncomputable def m_piece_at : MF := mFn 2 2 [0, 1] b_piece_at
noncomputable def b_with_piece : MS := mSeq (mDrop (mCall m_a_ask_node [.var 0, .var 1]))
  (mSeq (mIf (mNot (mTE (mCall m_is_tree [.var 2]))) (mRaise "NotUsable" ["word", "at"] (mPcons (mC (.str "piece")) (mPcons (mUnP dNeg (mC (.int 1))) mPnil))) mNil)
  (mRet (mEE dAdd (mF (mPP dAdd (mSlP (mV 0) none (some (mV 1))) (mV 2))) (mSlE (mF (mCk (mV 0))) (some (mCall m_a_end [.var 0, .var 1])) none))))
noncomputable def m_with_piece : MF := mFn 3 3 [0, 1, 2] b_with_piece
noncomputable def b_parts_of : MS := mSeq (mPar 1 2 (mAcons (mF (mLstP mPnil)) (mAcons (mF (mC (.int 1))) mAnil)))
  (mSeq (mWhile (mTb (mF (mPP dLt (mV 2) (mCaP dLen (mPcons (mV 0) mPnil))))) (mSeq (mSet 3 (mCall m_a_end [.var 0, .var 2]))
  (mSeq (mDrop (mAppend 1 (mF (mSlP (mV 0) (some (mV 2)) (some (mV 3))))))
  (mSet 2 (mMv 3)))))
  (mRet (mF (mCaP dTuple (mPcons (mV 1) mPnil)))))
noncomputable def m_parts_of : MF := mFn 4 1 [0] b_parts_of
noncomputable def b__a_may_follow : MS := mSeq (mIf (mOr (mNot (mTP (mIsi .tup (mV 1)))) (mOr (mTb (mF (mPP dGt (mCaP dLen (mPcons (mV 1) mPnil)) (mC (.int 4))))) (mAnd (mTb (mF (mPP dEq (mV 0) (mC (.str "."))))) (mTb (mF (mPP dGt (mCaP dLen (mPcons (mV 1) mPnil)) (mC (.int 0)))))))) (mRet (mF (mC (.bl false)))) mNil)
  (mRet (mCaE dAll (mAcons (mLcV [2] 1 (setE 2) mYes (mCall m_is_tree [.var 2])) mAnil)))
noncomputable def m__a_may_follow : MF := mFn 3 2 [0, 1] b__a_may_follow
noncomputable def b_tree_of : MS := mSeq (mIf (mNot (mTE (mCall m__a_may_follow [.var 0, .var 1]))) (mRaise "NotUsable" ["word", "at"] (mPcons (mC (.str "parts")) (mPcons (mUnP dNeg (mC (.int 1))) mPnil))) mNil)
  (mSeq (mSet 2 (mF (mLstP (mPcons (mTupP (mPcons (mV 0) (mPcons (mCaP dLen (mPcons (mV 1) mPnil)) mPnil))) mPnil))))
  (mSeq (mForV 1 (setE 3) (mDrop (mExtend 2 (mMv 3))))
  (mRet (mF (mCaP dTuple (mPcons (mV 2) mPnil))))))
noncomputable def m_tree_of : MF := mFn 4 2 [0, 1] b_tree_of
noncomputable def b_in_order : MS := mRet (mF (mCaP dTuple (mPcons (mUnP dSortLen (mUnP dSortSet (mV 0))) mPnil)))
noncomputable def m_in_order : MF := mFn 1 1 [0] b_in_order
noncomputable def b_pieces_of : MS := mSeq (mSet 1 (mF (mLstP mPnil)))
  (mSeq (mForV 0 (setE 2) (mFor (mEnum (mCall m_ends_of [.var 2])) (gmTup 2 (gmCons (setE 3) (gmCons (setE 4) gmNil))) (mDrop (mAppend 1 (mF (mSlP (mV 2) (some (mV 3)) (some (mV 4))))))))
  (mRet (mCall m_in_order [.e (mF (mCaP dTuple (mPcons (mV 1) mPnil)))])))
noncomputable def m_pieces_of : MF := mFn 5 1 [0] b_pieces_of
noncomputable def b_symbols_of : MS := mRet (mF (mCaP dTuple (mPcons (mUnP dSortSet2 (mV 0)) mPnil)))
noncomputable def m_symbols_of : MF := mFn 3 1 [0] b_symbols_of
noncomputable def b_levels_of : MS := mSeq (mSet 1 (mF (mLstP mPnil)))
  (mSeq (mFor (mRvI (mMv 0)) (setE 2) (mSeq (mSet 3 (mF (mC (.int 0))))
  (mSeq (mFor (mRg rng1 (mAcons (mF (mCk (mPP dIx (mV 2) (mC (.int 1))))) mAnil)) (setE 4) (mSet 3 (mCaE dMax (mAcons (mMv 3) (mAcons (mPop 1) mAnil)))))
  (mDrop (mAppend 1 (mF (mPP dAdd (mV 3) (mC (.int 1)))))))))
  (mRet (mF (mCk (mPP dIx (mV 1) (mC (.int 0)))))))
noncomputable def m_levels_of : MF := mFn 5 1 [0] b_levels_of
noncomputable def b_place_of : MS := mSeq (mDrop (mCall m_a_ask_node [.var 0, .var 1]))
  (mRet (mTupE (mAcons (mF (mSlP (mV 0) none (some (mV 1)))) (mAcons (mSlE (mF (mCk (mV 0))) (some (mCall m_a_end [.var 0, .var 1])) none) mAnil))))
noncomputable def m_place_of : MF := mFn 2 2 [0, 1] b_place_of
noncomputable def b_put_at : MS := mSeq (mIf (mNot (mTE (mCall m_is_tree [.var 1]))) (mRaise "NotUsable" ["word", "at"] (mPcons (mC (.str "piece")) (mPcons (mUnP dNeg (mC (.int 1))) mPnil))) mNil)
  (mSeq (mUnp (gmTup 2 (gmCons (setE 2) (gmCons (setE 3) gmNil))) (mMv 0))
  (mRet (mF (mPP dAdd (mPP dAdd (mV 2) (mV 1)) (mV 3)))))
noncomputable def m_put_at : MF := mFn 4 2 [0, 1] b_put_at
noncomputable def b__law_tape : MS := mSeq (mSet 1 (mF (mC (.int 77017))))
  (mSeq (mForV 0 (setE 2) (mSet 1 (mF (mPP dMod (mPP dAdd (mPP dAdd (mPP dMul (mV 1) (mC (.int 45131))) (mV 2)) (mC (.int 23))) (mC (.int 2147483647))))))
  (mSeq (mSet 3 (mLcV [2] 0 (setE 2) mYes (mF (mCaP dAbs (mPcons (mV 2) mPnil)))))
  (mRet (mLstE (mAcons (mF (mUnP dRev (mV 3))) (mAcons (mF (mLstP (mPcons (mV 1) mPnil))) mAnil))))))
noncomputable def m__law_tape : MF := mFn 4 1 [0] b__law_tape
noncomputable def b__law_pick : MS := mAl 2 0 0 (mSeq (mWhile (mAnd (mTb (mF (mPP dGt (mCaP dLen (mPcons (mV 2) mPnil)) (mC (.int 0))))) (mTb (mF (mPP dEq (mPP dIx (mV 2) (mUnP dNeg (mC (.int 1)))) (mC (.int 0)))))) (mDrop (mPop 2)))
  (mSeq (mIf (mTb (mF (mPP dGt (mCaP dLen (mPcons (mV 2) mPnil)) (mC (.int 0))))) (mSeq (mSet 3 (mF (mPP dMod (mCaP dInt (mPcons (mPP dIx (mV 2) (mUnP dNeg (mC (.int 1)))) mPnil)) (mV 1))))
  (mSeq (mSetIx 2 (mUnP dNeg (mC (.int 1))) (mF (mPP dFdiv (mCaP dInt (mPcons (mPP dIx (mV 2) (mUnP dNeg (mC (.int 1)))) mPnil)) (mV 1))))
  (mRet (mMv 3)))) mNil)
  (mSeq (mSetIx2 0 1 (mC (.int 0)) (mF (mPP dMod (mPP dAdd (mPP dMul (mPP dIx (mPP dIx (mV 0) (mC (.int 1))) (mC (.int 0))) (mC (.int 39373))) (mC (.int 5))) (mC (.int 2147483647)))))
  (mRet (mF (mPP dMod (mPP dFdiv (mPP dIx (mPP dIx (mV 0) (mC (.int 1))) (mC (.int 0))) (mC (.int 32))) (mV 1)))))))
noncomputable def m__law_pick : MF := mFn 4 2 [0, 1] b__law_pick
noncomputable def b__law_same : MS := mSeq (mSet 2 (mF (mLstP (mPcons (mTupP (mPcons (mV 0) (mPcons (mV 1) mPnil))) mPnil))))
  (mSeq (mWhile (mTb (mF (mPP dGt (mCaP dLen (mPcons (mV 2) mPnil)) (mC (.int 0))))) (mSeq (mSet 3 (mPop 2))
  (mSeq (mSet 4 (mF (mCk (mPP dIx (mV 3) (mC (.int 0))))))
  (mSeq (mSet 5 (mF (mCk (mPP dIx (mV 3) (mC (.int 1))))))
  (mIf (mTP (mIsi .tup (mV 5))) (mSeq (mIf (mOr (mNot (mTP (mIsi .tup (mV 4)))) (mTb (mF (mPP dNe (mCaP dLen (mPcons (mV 4) mPnil)) (mCaP dLen (mPcons (mV 5) mPnil)))))) (mRet (mF (mC (.bl false)))) mNil)
  (mFor (mRg rng1 (mAcons (mF (mCaP dLen (mPcons (mV 5) mPnil))) mAnil)) (setE 6) (mDrop (mAppend 2 (mF (mTupP (mPcons (mPP dIx (mV 4) (mV 6)) (mPcons (mPP dIx (mV 5) (mV 6)) mPnil)))))))) (mIf (mTb (mF (mPP dIs (mV 5) (mC .non)))) (mIf (mTb (mF (mPP dIsNot (mV 4) (mC .non)))) (mRet (mF (mC (.bl false)))) mNil) (mIf (mTP (mIsi .bool (mV 5))) (mIf (mOr (mNot (mTP (mIsi .bool (mV 4)))) (mTb (mF (mPP dNe (mV 4) (mV 5))))) (mRet (mF (mC (.bl false)))) mNil) (mIf (mTP (mIsi .int (mV 5))) (mIf (mOr (mTP (mIsi .bool (mV 4))) (mOr (mNot (mTP (mIsi .int (mV 4)))) (mTb (mF (mPP dNe (mV 4) (mV 5)))))) (mRet (mF (mC (.bl false)))) mNil) (mIf (mTP (mIsi .str (mV 5))) (mIf (mOr (mNot (mTP (mIsi .str (mV 4)))) (mTb (mF (mPP dNe (mV 4) (mV 5))))) (mRet (mF (mC (.bl false)))) mNil) (mRet (mF (mC (.bl false)))))))))))))
  (mRet (mF (mC (.bl true)))))
noncomputable def m__law_same : MF := mFn 7 2 [0, 1] b__law_same
noncomputable def b__law_marks : MS := mSeq (mSet 1 (mF (mLstP (mPcons (mC (.str "b")) (mPcons (mC (.str "ab")) (mPcons (mC (.str "a-9")) (mPcons (mC (.str "zz0")) (mPcons (mC (.str "q")) (mPcons (mC (.str "abcdefghijklmnop")) (mPcons (mC (.str "c")) (mPcons (mC (.str "b-")) mPnil)))))))))))
  (mSeq (mSet 2 (mCall m__law_pick [.var 0, .e (mF (mC (.int 8)))]))
  (mSeq (mSet 3 (mF (mLstP (mPcons (mTupP (mPcons (mPP dIx (mV 1) (mV 2)) (mPcons (mC (.int 0)) mPnil))) (mPcons (mTupP (mPcons (mPP dIx (mV 1) (mPP dMod (mPP dAdd (mV 2) (mC (.int 1))) (mC (.int 8)))) (mPcons (mC (.int 0)) mPnil))) mPnil)))))
  (mSeq (mIf (mTb (mEP dEq (mCall m__law_pick [.var 0, .e (mF (mC (.int 4)))]) (mC (.int 1)))) (mSetIx 3 (mC (.int 1)) (mF (mTupP (mPcons (mC (.str ".")) (mPcons (mC (.int 0)) mPnil))))) mNil)
  (mSeq (mFor (mRg rng1 (mAcons (mEE dAdd (mF (mC (.int 1))) (mCall m__law_pick [.var 0, .e (mF (mC (.int 5)))])) mAnil)) (setE 4) (mDrop (mAppend 3 (mTupE (mAcons (mIxVE 1 (mEP dMod (mVE dAdd 2 (mCall m__law_pick [.var 0, .e (mF (mC (.int 8)))])) (mC (.int 8)))) (mAcons (mEE dIx (mF (mLstP (mPcons (mC (.int 1)) (mPcons (mC (.int 2)) (mPcons (mC (.int 1)) (mPcons (mC (.int 2)) (mPcons (mC (.int 3)) (mPcons (mC (.int 4)) (mPcons (mC (.int 0)) mPnil))))))))) (mCall m__law_pick [.var 0, .e (mF (mC (.int 7)))])) mAnil))))))
  (mRet (mMv 3))))))
noncomputable def m__law_marks : MF := mFn 5 1 [0] b__law_marks
noncomputable def b__law_tree : MS := mSeq (mSet 3 (mF (mLstP mPnil)))
  (mSeq (mSet 4 (mF (mC (.int 1))))
  (mSeq (mWhile (mTb (mF (mPP dGt (mV 4) (mC (.int 0))))) (mSeq (mSet 5 (mIxVE 1 (mCall m__law_pick [.var 0, .e (mF (mCaP dLen (mPcons (mV 1) mPnil)))])))
  (mSeq (mIf (mTb (mF (mPP dGt (mPP dIx (mV 5) (mC (.int 1))) (mPP dSub (mPP dSub (mV 2) (mCaP dLen (mPcons (mV 3) mPnil))) (mV 4))))) (mSet 5 (mIxVE 1 (mCall m__law_pick [.var 0, .e (mF (mC (.int 2)))]))) mNil)
  (mSeq (mDrop (mAppend 3 (mMv 5)))
  (mSet 4 (mF (mPP dAdd (mPP dSub (mV 4) (mC (.int 1))) (mPP dIx (mV 5) (mC (.int 1))))))))))
  (mRet (mF (mCaP dTuple (mPcons (mV 3) mPnil))))))
noncomputable def m__law_tree : MF := mFn 6 3 [0, 1, 2] b__law_tree
noncomputable def b__law_far : MS := mSeq (mSet 2 (mF (mC (.int 1))))
  (mSeq (mWhile (mTb (mF (mPP dGt (mV 2) (mC (.int 0))))) (mSeq (mSet 2 (mF (mPP dSub (mPP dAdd (mV 2) (mPP dIx (mPP dIx (mV 0) (mV 1)) (mC (.int 1)))) (mC (.int 1)))))
  (mSet 1 (mF (mPP dAdd (mV 1) (mC (.int 1)))))))
  (mRet (mMv 1)))
noncomputable def m__law_far : MF := mFn 3 2 [0] b__law_far
noncomputable def b__law_limbs : MS := mSeq (mSet 1 (mF (mLstP mPnil)))
  (mSeq (mSet 2 (mF (mC (.int 1))))
  (mSeq (mWhile (mTb (mF (mPP dLt (mV 2) (mCaP dLen (mPcons (mV 0) mPnil))))) (mSeq (mSet 3 (mCall m__law_far [.var 0, .var 2]))
  (mSeq (mDrop (mAppend 1 (mF (mSlP (mV 0) (some (mV 2)) (some (mV 3))))))
  (mSet 2 (mMv 3)))))
  (mRet (mF (mCaP dTuple (mPcons (mV 1) mPnil))))))
noncomputable def m__law_limbs : MF := mFn 4 1 [0] b__law_limbs
noncomputable def b__law_levels : MS := mSeq (mSet 1 (mLc [2] (mRg rng1 (mAcons (mF (mCaP dLen (mPcons (mV 0) mPnil))) mAnil)) (setE 2) mYes (mCall m__law_far [.var 0, .var 2])))
  (mSeq (mSet 3 (mF (mC (.int 0))))
  (mSeq (mFor (mRg rng1 (mAcons (mF (mCaP dLen (mPcons (mV 0) mPnil))) mAnil)) (setE 2) (mSet 3 (mCaE dMax (mAcons (mMv 3) (mAcons (mCaE dLen (mAcons (mLc [4] (mRg rng1 (mAcons (mF (mPP dAdd (mV 2) (mC (.int 1)))) mAnil)) (setE 4) (mTb (mF (mPP dGt (mPP dIx (mV 1) (mV 4)) (mV 2)))) (mMv 4)) mAnil)) mAnil)))))
  (mRet (mMv 3))))
noncomputable def m__law_levels : MF := mFn 5 1 [0] b__law_levels
noncomputable def b__law_bits : MS := mSeq (mSet 1 (mF (mLstP mPnil)))
  (mSeq (mForV 0 (setE 2) (mFor (mRg rng1 (mAcons (mF (mCaP dLen (mPcons (mV 2) mPnil))) mAnil)) (setE 3) (mSeq (mSet 4 (mSlE (mF (mCk (mV 2))) (some (mMv 3)) (some (mCall m__law_far [.var 2, .var 3]))))
  (mIf (mTb (mF (mPP (dIn true) (mV 4) (mV 1)))) (mDrop (mAppend 1 (mMv 4))) mNil))))
  (mRet (mCaE dTuple (mAcons (mF (mUnP dSortLam (mV 1))) mAnil))))
noncomputable def m__law_bits : MF := mFn 5 1 [0] b__law_bits
noncomputable def b__law_asks : MS := mTry (mSeq (mIf (mTb (mF (mPP dEq (mV 0) (mC (.int 0))))) (mRet (mTupE (mAcons (mF (mC (.str "told"))) (mAcons (mCall m_piece_at [.var 1, .var 2]) mAnil)))) mNil)
  (mSeq (mIf (mTb (mF (mPP dEq (mV 0) (mC (.int 1))))) (mRet (mTupE (mAcons (mF (mC (.str "told"))) (mAcons (mCall m_with_piece [.var 1, .var 2, .var 3]) mAnil)))) mNil)
  (mSeq (mIf (mTb (mF (mPP dEq (mV 0) (mC (.int 2))))) (mRet (mTupE (mAcons (mF (mC (.str "told"))) (mAcons (mCall m_place_of [.var 1, .var 2]) mAnil)))) mNil)
  (mSeq (mIf (mTb (mF (mPP dEq (mV 0) (mC (.int 3))))) (mRet (mTupE (mAcons (mF (mC (.str "told"))) (mAcons (mCall m_put_at [.var 1, .var 2]) mAnil)))) mNil)
  (mRet (mTupE (mAcons (mF (mC (.str "told"))) (mAcons (mCall m_tree_of [.var 1, .var 2]) mAnil)))))))) [⟨cm_NotUsable, "NotUsable", 4, mRet (mF (mTupP (mPcons (mC (.str "raised")) (mPcons (mIsX 4 true) (mPcons (mXf 4 "word") (mPcons (mXf 4 "at") mPnil))))))⟩]
noncomputable def m__law_asks : MF := mFn 5 4 [0, 1, 2, 3] b__law_asks
noncomputable def b__law_bad : MS := mRet (mF (mTupP (mPcons (mC (.str "raised")) (mPcons (mC (.bl true)) (mPcons (mV 0) (mPcons (mUnP dNeg (mC (.int 1))) mPnil))))))
noncomputable def m__law_bad : MF := mFn 1 1 [0] b__law_bad
noncomputable def b__law_nodes : MS := mSeq (mFor (mRg rng1 (mAcons (mF (mCaP dLen (mPcons (mV 0) mPnil))) mAnil)) (setE 3) (mSeq (mSet 4 (mCall m__law_far [.var 0, .var 3]))
  (mSeq (mSet 5 (mF (mSlP (mV 0) (some (mV 3)) (some (mV 4)))))
  (mSeq (mSet 6 (mF (mTupP (mPcons (mSlP (mV 0) none (some (mV 3))) (mPcons (mSlP (mV 0) (some (mV 4)) none) mPnil)))))
  (mSeq (mSet 7 (mF (mCk (mPP dIx (mV 1) (mPP dMod (mPP dAdd (mV 2) (mV 3)) (mCaP dLen (mPcons (mV 1) mPnil)))))))
  (mSeq (mSet 8 (mF (mPP dAdd (mPP dAdd (mPP dIx (mV 6) (mC (.int 0))) (mV 7)) (mPP dIx (mV 6) (mC (.int 1))))))
  (mSeq (mIf (mNot (mTE (mCall m__law_same [.e (mTupE (mAcons (mCall m_piece_at [.var 0, .var 3]) (mAcons (mCall m_place_of [.var 0, .var 3]) (mAcons (mCall m_put_at [.var 6, .var 7]) (mAcons (mCall m_with_piece [.var 0, .var 3, .var 7]) mAnil))))), .e (mF (mTupP (mPcons (mV 5) (mPcons (mV 6) (mPcons (mV 8) (mPcons (mV 8) mPnil))))))]))) (mRet (mF (mC (.bl false)))) mNil)
  (mIf (mAnd (mTb (mF (mPP dLt (mCaP dLen (mPcons (mV 0) mPnil)) (mC (.int 21))))) (mNot (mTE (mCall m__law_same [.e (mTupE (mAcons (mCall m_put_at [.e (mCall m_place_of [.var 0, .var 3]), .var 5]) (mAcons (mCall m_with_piece [.var 0, .var 3, .var 5]) mAnil))), .e (mF (mTupP (mPcons (mV 0) (mPcons (mV 0) mPnil))))])))) (mRet (mF (mC (.bl false)))) mNil))))))))
  (mRet (mCall m__law_same [.e (mCall m_ends_of [.var 0]), .e (mCaE dTuple (mAcons (mLc [3] (mRg rng1 (mAcons (mF (mCaP dLen (mPcons (mV 0) mPnil))) mAnil)) (setE 3) mYes (mCall m__law_far [.var 0, .var 3])) mAnil))]))
noncomputable def m__law_nodes : MF := mFn 9 3 [0, 1, 2] b__law_nodes
noncomputable def b__law_odd_node : MS := mSeq (mSet 2 (mLstE (mAcons (mF (mUnP dNeg (mC (.int 1)))) (mAcons (mMv 1) (mAcons (mF (mPP dAdd (mV 1) (mC (.int 5)))) (mAcons (mF (mC (.bl true))) (mAcons (mF (mC (.bl false))) (mAcons (mF (mC .non)) (mAcons (mF (mC (.str "0"))) (mAcons (mF (mTupP (mPcons (mC (.int 0)) mPnil))) (mAcons (mFz (mF (mLstP (mPcons (mC (.int 0)) mPnil)))) (mAcons (mF (mUnP dNeg (mV 1))) (mAcons (mF (mPP dPow (mC (.int 10)) (mC (.int 40)))) (mAcons (mF (mC (.str ""))) (mAcons (mF (mTupP mPnil)) mAnil)))))))))))))))
  (mRet (mIxVE 2 (mCall m__law_pick [.var 0, .e (mF (mCaP dLen (mPcons (mV 2) mPnil)))])))
noncomputable def m__law_odd_node : MF := mFn 3 2 [0, 1] b__law_odd_node
noncomputable def b__law_odd_bit : MS := mSeq (mSet 2 (mLstE (mAcons (mF (mC .non)) (mAcons (mF (mTupP mPnil)) (mAcons (mFz (mF (mCaP dList (mPcons (mV 1) mPnil)))) (mAcons (mF (mPP dAdd (mV 1) (mV 1))) (mAcons (mF (mSlP (mV 1) none (some (mUnP dNeg (mC (.int 1)))))) (mAcons (mF (mTupP (mPcons (mTupP (mPcons (mC (.str "?")) (mPcons (mC (.int 0)) mPnil))) mPnil))) (mAcons (mF (mTupP (mPcons (mC (.str "a")) (mPcons (mC (.int 0)) mPnil)))) (mAcons (mF (mTupP (mPcons (mTupP (mPcons (mC (.str "_")) (mPcons (mC (.int 0)) mPnil))) mPnil))) (mAcons (mF (mC (.bl true))) (mAcons (mF (mC (.str "a"))) (mAcons (mF (mTupP (mPcons (mTupP (mPcons (mC (.str "a")) (mPcons (mC (.bl false)) mPnil))) mPnil))) mAnil)))))))))))))
  (mSeq (mSet 2 (mF (mPP dAdd (mV 2) (mLstP (mPcons (mC (.int 0)) (mPcons (mTupP (mPcons (mV 1) mPnil)) (mPcons (mPP dAdd (mV 1) (mTupP (mPcons (mC .non) mPnil))) (mPcons (mTupP (mPcons (mTupP (mPcons (mC (.str "a")) (mPcons (mC (.int 0)) mPnil))) (mPcons (mTupP (mPcons (mC (.str "a")) (mPcons (mC (.int 0)) mPnil))) mPnil))) (mPcons (mTupP (mPcons (mTupP (mPcons (mC (.str "f")) (mPcons (mC (.int 1)) mPnil))) (mPcons (mTupP (mPcons (mC (.str "?")) (mPcons (mC (.int 0)) mPnil))) mPnil))) (mPcons (mTupP (mPcons (mTupP (mPcons (mC (.str ".")) (mPcons (mC (.int 1)) mPnil))) (mPcons (mTupP (mPcons (mC (.str "a")) (mPcons (mC (.int 0)) mPnil))) mPnil))) mPnil))))))))))
  (mRet (mIxVE 2 (mCall m__law_pick [.var 0, .e (mF (mCaP dLen (mPcons (mV 2) mPnil)))]))))
noncomputable def m__law_odd_bit : MF := mFn 3 2 [0, 1] b__law_odd_bit
noncomputable def b__law_odd_limbs : MS := mSeq (mSet 3 (mLstE (mAcons (mFz (mF (mCaP dList (mPcons (mV 2) mPnil)))) (mAcons (mMv 1) (mAcons (mF (mPP dAdd (mSlP (mV 2) none (some (mC (.int 3)))) (mTupP (mPcons (mC .non) mPnil)))) (mAcons (mF (mPP dMul (mTupP (mPcons (mV 1) mPnil)) (mC (.int 5)))) (mAcons (mF (mTupP (mPcons (mTupP (mPcons (mTupP (mPcons (mC (.str "?")) (mPcons (mC (.int 0)) mPnil))) mPnil)) mPnil))) (mAcons (mF (mTupP (mPcons (mTupP (mPcons (mV 1) mPnil)) mPnil))) (mAcons (mF (mC .non)) (mAcons (mF (mC (.str "a"))) (mAcons (mF (mC (.bl true))) (mAcons (mF (mC (.int 0))) (mAcons (mF (mTupP (mPcons (mTupP mPnil) mPnil))) mAnil)))))))))))))
  (mSeq (mSet 3 (mVE dAdd 3 (mLstE (mAcons (mFz (mEE dAdd (mF (mSlP (mV 2) none (some (mC (.int 2))))) (mTupE (mAcons (mFz (mF (mCaP dList (mPcons (mV 1) mPnil)))) mAnil)))) (mAcons (mF (mPP dAdd (mSlP (mV 2) none (some (mC (.int 1)))) (mTupP (mPcons (mSlP (mV 1) none (some (mUnP dNeg (mC (.int 1))))) mPnil)))) (mAcons (mF (mTupP (mPcons (mTupP (mPcons (mTupP (mPcons (mC (.str "a")) (mPcons (mC (.bl false)) mPnil))) mPnil)) mPnil))) (mAcons (mF (mPP dAdd (mSlP (mV 2) none (some (mC (.int 3)))) (mTupP (mPcons (mPP dAdd (mV 1) (mV 1)) mPnil)))) (mAcons (mFz (mF (mLstP mPnil))) mAnil))))))))
  (mRet (mIxVE 3 (mCall m__law_pick [.var 0, .e (mF (mCaP dLen (mPcons (mV 3) mPnil)))]))))
noncomputable def m__law_odd_limbs : MF := mFn 4 3 [0, 1, 2] b__law_odd_limbs
noncomputable def b__law_refusals : MS := mSeq (mSet 4 (mF (mTupP (mPcons (mSlP (mV 1) none (some (mC (.int 0)))) (mPcons (mSlP (mV 1) (some (mCaP dLen (mPcons (mV 1) mPnil))) none) mPnil)))))
  (mSeq (mSet 5 (mCall m__law_pick [.var 0, .e (mF (mCaP dLen (mPcons (mV 1) mPnil)))]))
  (mSeq (mFor (mRg rng1 (mAcons (mF (mC (.int 3))) mAnil)) (setE 6) (mSeq (mSet 7 (mCall m__law_odd_node [.var 0, .e (mF (mCaP dLen (mPcons (mV 1) mPnil)))]))
  (mSeq (mSet 8 (mCall m__law_odd_bit [.var 0, .var 1]))
  (mSeq (mIf (mNot (mTE (mCall m__law_same [.e (mCall m__law_asks [.e (mF (mC (.int 0))), .var 1, .var 7, .e (mF (mC .non))]), .e (mCall m__law_bad [.e (mF (mC (.str "node")))])]))) (mRet (mF (mC (.bl false)))) mNil)
  (mSeq (mIf (mNot (mTE (mCall m__law_same [.e (mCall m__law_asks [.e (mF (mC (.int 1))), .var 1, .var 7, .e (mF (mPP dIx (mLstP (mPcons (mV 2) (mPcons (mV 8) mPnil))) (mPP dMod (mV 6) (mC (.int 2)))))]), .e (mCall m__law_bad [.e (mF (mC (.str "node")))])]))) (mRet (mF (mC (.bl false)))) mNil)
  (mSeq (mIf (mNot (mTE (mCall m__law_same [.e (mCall m__law_asks [.e (mF (mC (.int 2))), .var 1, .var 7, .e (mF (mC .non))]), .e (mCall m__law_bad [.e (mF (mC (.str "node")))])]))) (mRet (mF (mC (.bl false)))) mNil)
  (mSeq (mIf (mNot (mTE (mCall m__law_same [.e (mCall m__law_asks [.e (mF (mC (.int 1))), .var 1, .var 5, .var 8]), .e (mCall m__law_bad [.e (mF (mC (.str "piece")))])]))) (mRet (mF (mC (.bl false)))) mNil)
  (mSeq (mIf (mNot (mTE (mCall m__law_same [.e (mCall m__law_asks [.e (mF (mC (.int 3))), .var 4, .var 8, .e (mF (mC .non))]), .e (mCall m__law_bad [.e (mF (mC (.str "piece")))])]))) (mRet (mF (mC (.bl false)))) mNil)
  (mIf (mNot (mTE (mCall m__law_same [.e (mCall m__law_asks [.e (mF (mC (.int 4))), .e (mF (mC (.str "f-1"))), .e (mCall m__law_odd_limbs [.var 0, .var 1, .var 3]), .e (mF (mC .non))]), .e (mCall m__law_bad [.e (mF (mC (.str "parts")))])]))) (mRet (mF (mC (.bl false)))) mNil)))))))))
  (mSeq (mIf (mNot (mTE (mCall m__law_same [.e (mCall m__law_asks [.e (mF (mC (.int 4))), .e (mF (mC (.str "."))), .e (mF (mTupP (mPcons (mV 2) mPnil))), .e (mF (mC .non))]), .e (mCall m__law_bad [.e (mF (mC (.str "parts")))])]))) (mRet (mF (mC (.bl false)))) mNil)
  (mRet (mCall m__law_same [.e (mCall m__law_asks [.e (mF (mC (.int 4))), .e (mF (mC (.str "."))), .e (mF (mTupP mPnil)), .e (mF (mC .non))]), .e (mF (mTupP (mPcons (mC (.str "told")) (mPcons (mTupP (mPcons (mTupP (mPcons (mC (.str ".")) (mPcons (mC (.int 0)) mPnil))) mPnil)) mPnil))))])))))
noncomputable def m__law_refusals : MF := mFn 9 4 [0, 1, 2, 3] b__law_refusals
noncomputable def b__law_joins : MS := mSeq (mSet 3 (mCaE dTuple (mAcons (mLc [4] (mRg rng1 (mAcons (mCall m__law_pick [.var 0, .e (mF (mC (.int 5)))]) mAnil)) (setE 4) mYes (mIxVE 2 (mCall m__law_pick [.var 0, .e (mF (mCaP dLen (mPcons (mV 2) mPnil)))]))) mAnil)))
  (mSeq (mIf (mAnd (mTb (mF (mPP dGt (mCaP dLen (mPcons (mV 3) mPnil)) (mC (.int 1))))) (mTb (mEP dEq (mCall m__law_pick [.var 0, .e (mF (mC (.int 2)))]) (mC (.int 1))))) (mSet 3 (mF (mPP dAdd (mSlP (mV 3) none (some (mUnP dNeg (mC (.int 1))))) (mTupP (mPcons (mPP dIx (mV 3) (mC (.int 0))) mPnil))))) mNil)
  (mSeq (mSet 5 (mEE dIx (mF (mLstP (mPcons (mC (.str "f")) (mPcons (mC (.str "b-")) (mPcons (mC (.str "abcdefghijklmnop")) (mPcons (mC (.str "q")) mPnil)))))) (mCall m__law_pick [.var 0, .e (mF (mC (.int 4)))])))
  (mSeq (mSet 6 (mF (mTupP (mPcons (mTupP (mPcons (mV 5) (mPcons (mCaP dLen (mPcons (mV 3) mPnil)) mPnil))) mPnil))))
  (mSeq (mForV 3 (setE 7) (mSet 6 (mF (mPP dAdd (mV 6) (mV 7)))))
  (mSeq (mSet 8 (mTupE (mAcons (mCall m_tree_of [.var 5, .var 3]) (mAcons (mCallK m_tree_of 2 [1, 0] (mPcons (mV 3) (mPcons (mV 5) mPnil))) (mAcons (mCall m_parts_of [.e (mCall m_tree_of [.var 5, .var 3])]) mAnil)))))
  (mSeq (mIf (mNot (mTE (mCall m__law_same [.var 8, .e (mF (mTupP (mPcons (mV 6) (mPcons (mV 6) (mPcons (mV 3) mPnil)))))]))) (mRet (mF (mC (.bl false)))) mNil)
  (mSeq (mForV 1 (setE 9) (mSeq (mSet 10 (mCall m__law_limbs [.var 9]))
  (mIf (mOr (mNot (mTE (mCall m__law_same [.e (mCall m_parts_of [.var 9]), .var 10]))) (mNot (mTE (mCall m__law_same [.e (mCall m_tree_of [.e (mF (mCk (mPP dIx (mPP dIx (mV 9) (mC (.int 0))) (mC (.int 0))))), .var 10]), .var 9])))) (mRet (mF (mC (.bl false)))) mNil)))
  (mRet (mCall m__law_refusals [.var 0, .e (mF (mCk (mPP dIx (mV 1) (mC (.int 0))))), .e (mF (mCk (mPP dIx (mV 2) (mC (.int 0))))), .var 3])))))))))
noncomputable def m__law_joins : MF := mFn 11 3 [0, 1, 2] b__law_joins
noncomputable def b__law_grove : MS := mSeq (mSet 2 (mEE dAdd (mF (mC (.int 1))) (mCall m__law_pick [.var 0, .e (mF (mC (.int 12)))])))
  (mSeq (mIf (mTb (mEP dEq (mCall m__law_pick [.var 0, .e (mF (mC (.int 8)))]) (mC (.int 3)))) (mSet 2 (mF (mC (.int 60)))) mNil)
  (mSeq (mSet 3 (mCall m__law_tree [.var 0, .var 1, .var 2]))
  (mSeq (mSet 4 (mF (mLstP (mPcons (mV 3) mPnil))))
  (mSeq (mSet 5 (mCall m__law_pick [.var 0, .e (mF (mCaP dLen (mPcons (mV 3) mPnil)))]))
  (mSeq (mSet 6 (mCall m__law_tree [.var 0, .var 1, .e (mEE dAdd (mF (mC (.int 1))) (mCall m__law_pick [.var 0, .e (mF (mC (.int 5)))]))]))
  (mSeq (mSet 7 (mEE dAdd (mF (mPP dAdd (mSlP (mV 3) none (some (mV 5))) (mV 6))) (mSlE (mF (mCk (mV 3))) (some (mCall m__law_far [.var 3, .var 5])) none)))
  (mSeq (mIf (mTb (mF (mPP dLt (mCaP dLen (mPcons (mV 7) mPnil)) (mC (.int 61))))) (mDrop (mAppend 4 (mMv 7))) mNil)
  (mSeq (mDrop (mAppend 4 (mSlE (mF (mCk (mV 3))) (some (mMv 5)) (some (mCall m__law_far [.var 3, .var 5])))))
  (mSeq (mFor (mRg rng1 (mAcons (mCall m__law_pick [.var 0, .e (mF (mC (.int 3)))]) mAnil)) (setE 8) (mDrop (mAppend 4 (mCall m__law_tree [.var 0, .var 1, .e (mEE dAdd (mF (mC (.int 1))) (mCall m__law_pick [.var 0, .e (mF (mC (.int 9)))]))]))))
  (mSeq (mSet 9 (mF (mLstP mPnil)))
  (mSeq (mForV 4 (setE 10) (mIf (mTb (mF (mPP (dIn true) (mV 10) (mV 9)))) (mDrop (mAppend 9 (mMv 10))) mNil))
  (mRet (mMv 9)))))))))))))
noncomputable def m__law_grove : MF := mFn 11 2 [0, 1] b__law_grove
noncomputable def b__law_symbols : MS := mSeq (mSet 1 (mF (mLstP mPnil)))
  (mSeq (mForV 0 (setE 2) (mSet 1 (mF (mPP dAdd (mV 1) (mCaP dList (mPcons (mV 2) mPnil))))))
  (mRet (mF (mCaP dTuple (mPcons (mUnP dSortSetL (mV 1)) mPnil)))))
noncomputable def m__law_symbols : MF := mFn 3 1 [0] b__law_symbols
noncomputable def b__law_named : MS := mSeq (mSet 3 (mCall m__law_pick [.var 0, .e (mF (mCaP dLen (mPcons (mV 1) mPnil)))]))
  (mSeq (mSet 4 (mCall m__law_far [.var 1, .var 3]))
  (mSeq (mSet 5 (mIxVE 2 (mCall m__law_pick [.var 0, .e (mF (mCaP dLen (mPcons (mV 2) mPnil)))])))
  (mSeq (mSet 6 (mF (mTupP (mPcons (mSlP (mV 1) none (some (mV 3))) (mPcons (mSlP (mV 1) (some (mV 4)) none) mPnil)))))
  (mSeq (mSet 7 (mTupE (mAcons (mCallK m_piece_at 2 [1, 0] (mPcons (mV 3) (mPcons (mV 1) mPnil))) (mAcons (mCallK m_place_of 2 [1, 0] (mPcons (mV 3) (mPcons (mV 1) mPnil))) (mAcons (mCallK m_put_at 2 [1, 0] (mPcons (mV 5) (mPcons (mV 6) mPnil))) mAnil)))))
  (mSeq (mSet 7 (mVE dAdd 7 (mTupE (mAcons (mCallK m_with_piece 3 [2, 1, 0] (mPcons (mV 5) (mPcons (mV 3) (mPcons (mV 1) mPnil)))) (mAcons (mEE dIx (mCallK m_ends_of 1 [0] (mPcons (mV 1) mPnil)) (mMv 3)) (mAcons (mCallK m_parts_of 1 [0] (mPcons (mV 5) mPnil)) mAnil))))))
  (mRet (mCall m__law_same [.var 7, .e (mTupE (mAcons (mF (mSlP (mV 1) (some (mV 3)) (some (mV 4)))) (mAcons (mMv 6) (mAcons (mF (mPP dAdd (mPP dAdd (mPP dIx (mV 6) (mC (.int 0))) (mV 5)) (mPP dIx (mV 6) (mC (.int 1))))) (mAcons (mF (mPP dAdd (mPP dAdd (mPP dIx (mV 6) (mC (.int 0))) (mV 5)) (mPP dIx (mV 6) (mC (.int 1))))) (mAcons (mMv 4) (mAcons (mCall m__law_limbs [.var 5]) mAnil)))))))])))))))
noncomputable def m__law_named : MF := mFn 8 3 [0, 1, 2] b__law_named
noncomputable def b_law : MS := mSeq (mSet 1 (mCall m__law_tape [.var 0]))
  (mSeq (mSet 2 (mCall m__law_marks [.var 1]))
  (mSeq (mSet 3 (mCall m__law_grove [.var 1, .var 2]))
  (mSeq (mSet 4 (mCall m__law_bits [.var 3]))
  (mSeq (mSet 5 (mCall m__law_pick [.var 1, .e (mF (mCaP dLen (mPcons (mV 4) mPnil)))]))
  (mSeq (mFor (mRg rng1 (mAcons (mF (mCaP dLen (mPcons (mV 3) mPnil))) mAnil)) (setE 6) (mSeq (mIf (mNot (mTE (mCall m__law_same [.e (mCall m_levels_of [.e (mF (mCk (mPP dIx (mV 3) (mV 6))))]), .e (mCall m__law_levels [.e (mF (mCk (mPP dIx (mV 3) (mV 6))))])]))) (mRet (mF (mC (.bl false)))) mNil)
  (mIf (mAnd (mOr (mTb (mF (mPP dEq (mV 6) (mC (.int 0))))) (mAnd (mTb (mF (mPP dEq (mV 6) (mC (.int 1))))) (mTb (mF (mPP dLt (mCaP dLen (mPcons (mPP dIx (mV 3) (mV 6)) mPnil)) (mC (.int 13))))))) (mNot (mTE (mCall m__law_nodes [.e (mF (mCk (mPP dIx (mV 3) (mV 6)))), .var 4, .var 5])))) (mRet (mF (mC (.bl false)))) mNil)))
  (mSeq (mSet 7 (mTupE (mAcons (mCall m_pieces_of [.e (mF (mCaP dTuple (mPcons (mV 3) mPnil)))]) (mAcons (mCall m_pieces_of [.e (mF (mCaP dTuple (mPcons (mUnP dRev (mV 3)) mPnil)))]) (mAcons (mCall m_symbols_of [.e (mF (mCaP dTuple (mPcons (mV 3) mPnil)))]) (mAcons (mCall m_pieces_of [.e (mF (mTupP mPnil))]) (mAcons (mCall m_symbols_of [.e (mF (mTupP mPnil))]) mAnil)))))))
  (mSeq (mIf (mNot (mTE (mCall m__law_same [.var 7, .e (mTupE (mAcons (mMv 4) (mAcons (mMv 4) (mAcons (mCall m__law_symbols [.var 3]) (mAcons (mF (mTupP mPnil)) (mAcons (mF (mTupP mPnil)) mAnil))))))]))) (mRet (mF (mC (.bl false)))) mNil)
  (mSeq (mIf (mOr (mNot (mTE (mCall m__law_joins [.var 1, .var 3, .var 4]))) (mNot (mTE (mCall m__law_named [.var 1, .e (mF (mCk (mPP dIx (mV 3) (mC (.int 0))))), .var 4])))) (mRet (mF (mC (.bl false)))) mNil)
  (mSeq (mSet 8 (mIfE (mTb (mF (mPP dLt (mCaP dLen (mPcons (mPP dIx (mV 3) (mUnP dNeg (mC (.int 1)))) mPnil)) (mC (.int 13))))) (mF (mCk (mPP dIx (mV 3) (mUnP dNeg (mC (.int 1)))))) (mF (mCk (mPP dIx (mV 4) (mC (.int 0)))))))
  (mRet (mAndV (mCall m__law_nodes [.var 8, .var 4, .e (mF (mPP dAdd (mV 5) (mC (.int 1))))]) (mCall m__law_same [.e (mCall m_pieces_of [.e (mF (mTupP (mPcons (mPP dIx (mV 3) (mC (.int 0))) mPnil)))]), .e (mCall m__law_bits [.e (mF (mSlP (mV 3) none (some (mC (.int 1)))))])]))))))))))))
noncomputable def m_law : MF := mFn 9 1 [0] b_law
end TH
set_option maxHeartbeats 0
namespace TH
open PySem PySem.Spec PyProof.Rows L2 DL
def top (i : Nat) : Stmt := PySem.Challenge.pw_stoodthere_k13_whole_pieces_and_places.main.body.getD i (.Pass ⟨0, 0, 0, 0⟩)
abbrev s_a_begins : Stmt := top 7
abbrev s_a_goes_on : Stmt := top 8
abbrev s_a_ask_node : Stmt := top 9
abbrev s_a_end : Stmt := top 10
abbrev s_is_word : Stmt := top 12
abbrev s__a_is_count : Stmt := top 13
abbrev s_is_symbol : Stmt := top 14
abbrev s__a_is_hole : Stmt := top 15
abbrev s__a_is_row : Stmt := top 16
abbrev s_is_tree : Stmt := top 17
abbrev s_ends_of : Stmt := top 19
abbrev s_piece_at : Stmt := top 20
abbrev s_with_piece : Stmt := top 21
abbrev s_parts_of : Stmt := top 22
abbrev s__a_may_follow : Stmt := top 23
abbrev s_tree_of : Stmt := top 24
abbrev s_in_order : Stmt := top 26
abbrev s_pieces_of : Stmt := top 28
abbrev s_symbols_of : Stmt := top 29
abbrev s_levels_of : Stmt := top 30
abbrev s_place_of : Stmt := top 32
abbrev s_put_at : Stmt := top 33
abbrev s__law_tape : Stmt := top 35
abbrev s__law_pick : Stmt := top 36
abbrev s__law_same : Stmt := top 37
abbrev s__law_marks : Stmt := top 38
abbrev s__law_tree : Stmt := top 39
abbrev s__law_far : Stmt := top 40
abbrev s__law_limbs : Stmt := top 41
abbrev s__law_levels : Stmt := top 42
abbrev s__law_bits : Stmt := top 43
abbrev s__law_asks : Stmt := top 44
abbrev s__law_bad : Stmt := top 45
abbrev s__law_nodes : Stmt := top 46
abbrev s__law_odd_node : Stmt := top 47
abbrev s__law_odd_bit : Stmt := top 48
abbrev s__law_odd_limbs : Stmt := top 49
abbrev s__law_refusals : Stmt := top 50
abbrev s__law_joins : Stmt := top 51
abbrev s__law_grove : Stmt := top 52
abbrev s__law_symbols : Stmt := top 53
abbrev s__law_named : Stmt := top 54
abbrev s_law : Stmt := top 55
abbrev s_NotUsable___init__ : Stmt := inClass (top 3) 0
end TH
set_option maxHeartbeats 4000000
/-! T3: what the tests of words, symbols, trees and patterns tell of any odd value. -/
namespace TH
open PySem PySem.Spec PyProof.Rows L2 DL
/-- values that the tests are asked about -/
def _root_.DL.D.odd : D → Bool
  | .non | .bl _ | .int _ => true
  | .str x => SeqAt.shaped (D.str x).py && decide (x.length ≤ LIM)
  | .tup l => oddAll l
  | .fz l => oddAll l
  | _ => false
where oddAll : List D → Bool
  | [] => true
  | d :: ds => d.odd && oddAll ds
abbrev oddAll : List D → Bool := D.odd.oddAll
@[simp] theorem odd_non : D.non.odd = true := rfl
@[simp] theorem odd_bl {b} : (D.bl b).odd = true := rfl
@[simp] theorem odd_int {b} : (D.int b).odd = true := rfl
@[simp] theorem odd_str {x} : (D.str x).odd = (SeqAt.shaped (D.str x).py && decide (x.length ≤ LIM)) := rfl
@[simp] theorem odd_tup {l} : (D.tup l).odd = oddAll l := rfl
@[simp] theorem odd_fz {l} : (D.fz l).odd = oddAll l := rfl
@[simp] theorem oddAll_nil : oddAll [] = true := rfl
@[simp] theorem oddAll_cons {d : D} {l : List D} : oddAll (d :: l) = (d.odd && oddAll l) := rfl
theorem oddAll_iff {l : List D} : oddAll l = true ↔ ∀ d ∈ l, d.odd = true := by
  induction l with
  | nil => simp
  | cons d l ih => simp [ih]
mutual
theorem odd_pers : ∀ d : D, d.odd = true → d.pers = true
  | .non, _ | .bl _, _ | .int _, _ | .str _, _ => rfl
  | .tup l, h => oddAll_pers l h
  | .fz l, h => oddAll_pers l h
theorem oddAll_pers : ∀ l : List D, oddAll l = true → persAll l = true
  | [], _ => rfl
  | d :: l, h => by
    rw [oddAll_cons, Bool.and_eq_true] at h
    show (d.pers && persAll l) = true
    rw [odd_pers d h.1, oddAll_pers l h.2]
    rfl
end
/-! ### words -/
def memB (c : Nat) (y : Str) : Bool := decide (c ∈ y.cps.toList)
@[simp] theorem dIn_one {c : Nat} {y : Str} : dIn false (.str ⟨#[c]⟩) (.str y) = some (.bl (memB c y)) := rfl
def letterB (c : Nat) : Bool := memB c "abcdefghijklmnopqrstuvwxyz"
def otherB (c : Nat) : Bool := memB c "0123456789-"
def wordTail (x : Str) : Bool := (match x.cps.toList with | c :: _ => letterB c | [] => false) && x.cps.toList.all fun c => letterB c || otherB c
def isWordB (x : Str) : Bool := x == "." || (decide (1 ≤ x.length) && decide (x.length ≤ 16) && wordTail x)
def isWordD : D → Bool
  | .str x => isWordB x
  | _ => false
theorem begins_promise (c : Nat) {K : RF → Prop} (H : K (.ok (.bl (letterB c)) [.str ⟨#[c]⟩])) : Pv (m_a_begins [.str ⟨#[c]⟩]) K := by
  unfold m_a_begins
  rw [Pv_Fn]
  simp [b_a_begins]
  exact H
theorem goes_promise (c : Nat) {K : RF → Prop} (H : K (.ok (.bl (letterB c || otherB c)) [.str ⟨#[c]⟩])) : Pv (m_a_goes_on [.str ⟨#[c]⟩]) K := by
  unfold m_a_goes_on
  rw [Pv_Fn]
  simp only [letterB, otherB] at H
  simp [b_a_goes_on]
  split
  · rename_i h
    rw [h, Bool.true_or] at H
    exact H
  · rename_i h
    rw [Bool.not_eq_true] at h
    rw [h, Bool.false_or] at H
    exact H
theorem shaped_dot : OkS (("." : String) : Str) := by decide +kernel
@[simp] theorem dIx_str {z : Str} {i : Int} : dIx (.str z) (.int i) = if z.length ≤ LIM then (L2.atI z.cps.toList i).map fun c => .str ⟨#[c]⟩ else none := rfl
theorem blsOf_bl (bs : List Bool) : blsOf (bs.map D.bl) = some bs := by
  induction bs with
  | nil => rfl
  | cons b bs ih =>
    show (blsOf (bs.map D.bl)).map (b :: ·) = _
    rw [ih]
    rfl
theorem dAll_bls {bs : List Bool} : dAll [.lst (bs.map D.bl)] = some (.bl (bs.all id)) := by
  show (blsOf (bs.map D.bl)).map (fun bs => D.bl (bs.all id)) = _
  rw [blsOf_bl]
  rfl
def signB : D → Bool
  | .str x => match x.cps.toList with
    | [c] => letterB c || otherB c
    | _ => false
  | _ => false
theorem word_promise {d : D} (hd : d.odd = true) {K : RF → Prop} (H : K (.ok (.bl (isWordD d)) [d])) : Pv (m_is_word [d]) K := by
  unfold m_is_word
  rw [Pv_Fn]
  cases d with
  | str x =>
    rw [odd_str, Bool.and_eq_true, decide_eq_true_eq] at hd
    simp [b_is_word, dEq_strs hd.1 shaped_dot, hd.2]
    have HH : K (RF.ok (D.bl (isWordB x)) [D.str x]) := H
    by_cases e : x = "."
    · rw [if_pos e]
      have : isWordB x = true := by unfold isWordB; rw [show (x == ".") = true by simpa using e]; rfl
      rw [this] at HH
      exact HH
    rw [if_neg e]
    have ew : isWordB x = (decide (1 ≤ x.length) && decide (x.length ≤ 16) && wordTail x) := by
      unfold isWordB
      rw [show (x == ".") = false by simpa using e, Bool.false_or]
    rw [ew] at HH
    by_cases h1 : 1 ≤ x.length
    · rw [if_pos (by omega)]
      rw [decide_eq_true h1, Bool.true_and] at HH
      by_cases h2 : x.length ≤ 16
      · rw [if_pos (by omega)]
        rw [decide_eq_true h2, Bool.true_and] at HH
        obtain ⟨c, r, ex⟩ : ∃ c r, x.cps.toList = c :: r := by
          cases hx : x.cps.toList with
          | nil => have : x.length = 0 := by show x.cps.size = 0; rw [← Array.length_toList, hx]; rfl
                   omega
          | cons c r => exact ⟨c, r, rfl⟩
        rw [ex]
        simp
        refine begins_promise c ?_
        simp
        unfold wordTail at HH
        rw [ex] at HH
        replace HH : K (RF.ok (D.bl (letterB c && (c :: r).all fun c => letterB c || otherB c)) [D.str x]) := HH
        by_cases hl : letterB c = true
        · rw [if_pos hl]
          rw [hl, Bool.true_and] at HH
          rw [Pv_LcVS (x := x) rfl]
          simp
          refine Pv_lcMap (fun d => some (.bl (signB d))) ?_ ?_ ?_
          · rw [List.length_map, Array.length_toList]
            exact hd.2
          · intro y hy
            obtain ⟨c', hc', rfl⟩ := List.mem_map.mp hy
            refine ⟨rfl, ?_⟩
            simp
            refine goes_promise c' ?_
            simp [okSlot_eq, signB]
          · have e3 : List.filterMap (fun d => some (D.bl (signB d))) (x.cps.toList.map fun c => D.str { cps := #[c] }) = (x.cps.toList.map fun c => letterB c || otherB c).map D.bl := by
              rw [List.map_map]
              induction x.cps.toList with
              | nil => rfl
              | cons a l ih =>
                simp only [List.map_cons, List.filterMap_cons, ih]
                rfl
            simp only [e3, dAll_bls, Pv_some]
            have e2 : (x.cps.toList.map fun c => letterB c || otherB c).all id = (c :: r).all fun c => letterB c || otherB c := by
              rw [List.all_map, ex]
              rfl
            rw [e2]
            simp
            exact HH
        · rw [if_neg hl]
          rw [Bool.not_eq_true] at hl
          rw [hl, Bool.false_and] at HH
          exact HH
      · rw [if_neg (by omega)]
        rw [decide_eq_false h2, Bool.false_and] at HH
        exact HH
    · rw [if_neg (by omega)]
      rw [decide_eq_false h1, Bool.false_and, Bool.false_and] at HH
      exact HH
  | _ =>
    first
    | (simp [b_is_word]; exact H)
    | cases hd
/-! ### counts, symbols, holes -/
def isCountD : D → Bool
  | .int i => decide (0 ≤ i ∧ i ≤ 4)
  | _ => false
theorem count_promise {d : D} (hd : d.odd = true) {K : RF → Prop} (H : K (.ok (.bl (isCountD d)) [d])) : Pv (m__a_is_count [d]) K := by
  unfold m__a_is_count
  rw [Pv_Fn]
  cases d with
  | int i =>
    simp [b__a_is_count]
    have HH : K (.ok (.bl (decide (0 ≤ i ∧ i ≤ 4))) [.int i]) := H
    by_cases h : 0 ≤ i
    · rw [if_pos h]
      simpa [h] using HH
    · rw [if_neg h]
      simpa [h] using HH
  | _ =>
    first
    | (simp [b__a_is_count]; exact H)
    | cases hd
def symAB : D → D → Bool
  | .str w, .int n => isWordB w && decide (0 ≤ n ∧ n ≤ 4) && (n == 0 || !(w == "."))
  | _, _ => false
def holeAB : D → D → Bool
  | .str w, .int n => w == "?" && n == 0
  | _, _ => false
def isSymD : D → Bool
  | .tup [a, b] => symAB a b
  | _ => false
def isHoleD : D → Bool
  | .tup [a, b] => holeAB a b
  | _ => false
theorem symD_ex {d : D} (h : isSymD d = true) : ∃ w n, d = .tup [.str w, .int n] ∧ (isWordB w && decide (0 ≤ n ∧ n ≤ 4) && (n == 0 || !(w == "."))) = true := by
  unfold isSymD at h
  split at h
  · rename_i a b
    unfold symAB at h
    split at h
    · exact ⟨_, _, rfl, h⟩
    · cases h
  · cases h
theorem holeD_ex {d : D} (h : isHoleD d = true) : ∃ w n, d = .tup [.str w, .int n] ∧ (w == "?" && n == 0) = true := by
  unfold isHoleD at h
  split at h
  · rename_i a b
    unfold holeAB at h
    split at h
    · exact ⟨_, _, rfl, h⟩
    · cases h
  · cases h
theorem word_str {d : D} (h : isWordD d = true) : ∃ w, d = .str w := by
  cases d with
  | str w => exact ⟨w, rfl⟩
  | _ => cases h
theorem count_int {d : D} (h : isCountD d = true) : ∃ i, d = .int i := by
  cases d with
  | int w => exact ⟨w, rfl⟩
  | _ => cases h
theorem isSymD_two (a b : D) (h : isSymD (.tup [a, b]) = true) : isWordD a = true ∧ isCountD b = true := by
  obtain ⟨w, n, e, q⟩ := symD_ex h
  injection e with e
  injection e with e1 e
  injection e with e2 e
  subst e1 e2
  simp only [Bool.and_eq_true] at q
  exact ⟨q.1.1, q.1.2⟩
theorem sym_promise {d : D} (hd : d.odd = true) {K : RF → Prop} (H : K (.ok (.bl (isSymD d)) [d])) : Pv (m_is_symbol [d]) K := by
  unfold m_is_symbol
  rw [Pv_Fn]
  cases d with
  | tup l =>
    have pl := oddAll_pers l hd
    match l, hd, pl, H with
    | [], hd, pl, H => simp [b_is_symbol]; exact H
    | [_], hd, pl, H => simp [b_is_symbol]; exact H
    | _ :: _ :: _ :: l, hd, pl, H =>
      have e : ¬ ((l.length : Int) + 1 + 1 + 1 = 2) := by omega
      simp [b_is_symbol, e]
      exact H
    | [a, b], hd, pl, H =>
      have ha : a.odd = true := by simp at hd; exact hd.1
      have hb : b.odd = true := by simp at hd; exact hd.2
      have pa := odd_pers a ha
      have pb := odd_pers b hb
      simp [b_is_symbol, pa, pb, slot_pers pa, slot_pers pb]
      refine word_promise ha ?_
      simp [gvS_pers pa, gvS_pers pb, slot_pers pb, pa, pb]
      by_cases hw : isWordD a = true
      · obtain ⟨w, rfl⟩ := word_str hw
        rw [if_pos hw]
        refine count_promise hb ?_
        simp [gvS_pers pb]
        by_cases hc : isCountD b = true
        · obtain ⟨i, rfl⟩ := count_int hc
          rw [if_pos hc]
          have hi : decide (0 ≤ i ∧ i ≤ 4) = true := hc
          have hw' : isWordB w = true := hw
          have HH : K (.ok (.bl (isWordB w && decide (0 ≤ i ∧ i ≤ 4) && (i == 0 || !(w == ".")))) [.tup [.str w, .int i]]) := H
          rw [hi, hw'] at HH
          rw [odd_str, Bool.and_eq_true] at ha
          simp [dNe_strs ha.1 shaped_dot]
          by_cases z : i = 0
          · rw [if_pos z]
            simpa [z] using HH
          · rw [if_neg z]
            have z' : (i == 0) = false := by simpa using z
            simpa [z'] using HH
        · rw [if_neg hc]
          have : isSymD (.tup [.str w, b]) = false := by
            cases q : isSymD (.tup [.str w, b]) with
            | false => rfl
            | true => exact absurd (isSymD_two _ _ q).2 hc
          rw [this] at H
          exact H
      · rw [if_neg hw]
        have : isSymD (.tup [a, b]) = false := by
          cases q : isSymD (.tup [a, b]) with
          | false => rfl
          | true => exact absurd (isSymD_two _ _ q).1 hw
        rw [this] at H
        exact H
  | _ =>
    first
    | (simp [b_is_symbol]; exact H)
    | cases hd
theorem shaped_hole : OkS (("?" : String) : Str) := by decide +kernel
theorem hole_promise {d : D} (hd : d.odd = true) {K : RF → Prop} (H : K (.ok (.bl (isHoleD d)) [d])) : Pv (m__a_is_hole [d]) K := by
  unfold m__a_is_hole
  rw [Pv_Fn]
  cases d with
  | tup l =>
    have pl := oddAll_pers l hd
    match l, hd, pl, H with
    | [], hd, pl, H => simp [b__a_is_hole]; exact H
    | [_], hd, pl, H => simp [b__a_is_hole]; exact H
    | _ :: _ :: _ :: l, hd, pl, H =>
      have e : ¬ ((l.length : Int) + 1 + 1 + 1 = 2) := by omega
      simp [b__a_is_hole, e]
      exact H
    | [a, b], hd, pl, H =>
      have ha : a.odd = true := by simp at hd; exact hd.1
      have hb : b.odd = true := by simp at hd; exact hd.2
      have pa := odd_pers a ha
      have pb := odd_pers b hb
      simp [b__a_is_hole, pa, pb, slot_pers pa, slot_pers pb]
      cases a with
      | str w =>
        rw [odd_str, Bool.and_eq_true] at ha
        simp [dEq_strs ha.1 shaped_hole]
        by_cases hw : w = "?"
        · subst hw
          rw [if_pos rfl]
          simp [slot_pers pb]
          refine count_promise hb ?_
          simp [gvS_pers pb, slot_pers pb]
          by_cases hc : isCountD b = true
          · obtain ⟨i, rfl⟩ := count_int hc
            rw [if_pos hc]
            simp
            have HH : K (.ok (.bl (((("?" : String) : Str) == (("?" : String) : Str)) && i == 0)) [.tup [.str "?", .int i]]) := H
            simpa using HH
          · rw [if_neg hc]
            have : isHoleD (.tup [.str "?", b]) = false := by
              cases b with
              | int i =>
                show ((("?" : String) : Str) == (("?" : String) : Str) && i == 0) = false
                have : ¬ i = 0 := fun z => hc (by rw [z]; rfl)
                simp [this]
              | _ => rfl
            rw [this] at H
            simpa [gvS_pers pb, pb] using H
        · rw [if_neg hw]
          have : isHoleD (.tup [.str w, b]) = false := by
            cases b with
            | int i =>
              show (w == (("?" : String) : Str) && i == 0) = false
              rw [show (w == (("?" : String) : Str)) = false by simpa using hw]
              rfl
            | _ => rfl
          rw [this] at H
          exact H
      | _ =>
        first
        | (simp; exact H)
        | cases ha
  | _ =>
    first
    | (simp [b__a_is_hole]; exact H)
    | cases hd
/-! ### rows -/
def isItem (hs : Bool) (d : D) : Bool := isSymD d || (hs && isHoleD d)
def manyD : D → Nat
  | .tup [_, .int n] => n.toNat
  | _ => 0
def rowB (hs : Bool) : Nat → List D → Bool
  | n, [] => n == 0
  | 0, _ :: _ => false
  | n + 1, d :: r => isItem hs d && rowB hs (n + manyD d) r
def isRowD (hs : Bool) : D → Bool
  | .tup l => rowB hs 1 l
  | _ => false
theorem item_two {hs : Bool} {d : D} (h : isItem hs d = true) : ∃ w n, d = .tup [.str w, .int n] ∧ 0 ≤ n := by
  unfold isItem at h
  rw [Bool.or_eq_true, Bool.and_eq_true] at h
  rcases h with h | ⟨_, h⟩
  · obtain ⟨w, n, e, h⟩ := symD_ex h
    simp only [Bool.and_eq_true, decide_eq_true_eq] at h
    exact ⟨w, n, e, h.1.2.1⟩
  · obtain ⟨w, n, e, h⟩ := holeD_ex h
    simp only [Bool.and_eq_true, beq_iff_eq] at h
    exact ⟨w, n, e, by omega⟩
theorem row_promise {d : D} {hs : Bool} (hd : d.odd = true) {K : RF → Prop} (H : K (.ok (.bl (isRowD hs d)) [d, .bl hs])) : Pv (m__a_is_row [d, .bl hs]) K := by
  unfold m__a_is_row
  rw [Pv_Fn]
  cases d with
  | tup l =>
    have pl := oddAll_pers l hd
    simp [b__a_is_row, pl]
    rw [Pv_forVT (l := l) rfl]
    refine ⟨pl, ?_⟩
    refine Pv_forL (fun k e => ∃ (n : Nat) (x : D), e = [.tup l, .bl hs, .int n, x] ∧ rowB hs n (l.drop k) = rowB hs 1 l) ⟨1, _, rfl, by rw [List.drop_zero]⟩ ?_ ?_
    · rintro k e hk ⟨n, x, rfl, hr⟩
      have hx : (l[k]).odd = true := (oddAll_iff.mp hd) _ (List.getElem_mem hk)
      have px := odd_pers _ hx
      refine ⟨px, ?_⟩
      rw [List.drop_eq_getElem_cons hk] at hr
      simp
      cases n with
      | zero =>
        simp
        have HH : K (.ok (.bl (rowB hs 1 l)) [.tup l, .bl hs]) := H
        rw [← hr] at HH
        exact HH
      | succ n =>
        have e0 : ¬ ((n : Int) + 1 = 0) := by omega
        simp [e0, px, slot_pers px]
        refine sym_promise hx ?_
        simp [gvS_pers px]
        have HH : K (.ok (.bl (rowB hs 1 l)) [.tup l, .bl hs]) := H
        rw [← hr, rowB] at HH
        have fin : isItem hs l[k] = true → Pv (slot (some l[k])) (fun d => Pv (dIx d (.int 1)) fun y => Pv (dAdd (.int ((n : Int) + 1)) y) fun y => Pv (dSub y (.int 1)) fun z => ∃ n' : Nat, z = D.int ↑n' ∧ rowB hs n' (l.drop (k + 1)) = rowB hs 1 l) := by
          intro hi
          obtain ⟨w, z, ez, hz⟩ := item_two hi
          rw [slot_pers px, Pv_some, ez]
          simp
          refine ⟨n + z.toNat, by omega, ?_⟩
          rw [rowB, hi, Bool.true_and, ez] at hr
          exact hr
        by_cases hsym : isSymD l[k] = true
        · rw [if_pos hsym]
          exact fin (by unfold isItem; rw [hsym]; rfl)
        · rw [if_neg hsym]
          rw [Bool.not_eq_true] at hsym
          have hi : isItem hs l[k] = (hs && isHoleD l[k]) := by unfold isItem; rw [hsym]; rfl
          by_cases hh : hs = true
          · rw [if_pos hh]
            simp [slot_pers px, px]
            refine hole_promise hx ?_
            simp [gvS_pers px]
            rw [hi, hh, Bool.true_and] at HH
            rw [hh, Bool.true_and] at hi
            by_cases hq : isHoleD l[k] = true
            · rw [if_pos hq]
              exact fin (by rw [hh, hi, hq])
            · rw [if_neg hq]
              rw [Bool.not_eq_true] at hq
              rw [hq, Bool.false_and] at HH
              simpa [hh] using HH
          · rw [if_neg hh]
            rw [Bool.not_eq_true] at hh
            rw [hi, hh, Bool.false_and, Bool.false_and] at HH
            simpa [hh] using HH
    · rintro e ⟨n, x, rfl, hr⟩
      simp
      have HH : K (.ok (.bl (rowB hs 1 l)) [.tup l, .bl hs]) := H
      rw [List.drop_length] at hr
      rw [← hr] at HH
      cases n with
      | zero => exact HH
      | succ n => exact HH
  | _ =>
    first
    | (simp [b__a_is_row]; exact H)
    | cases hd
theorem tree_promise {d : D} (hd : d.odd = true) {K : RF → Prop} (H : K (.ok (.bl (isRowD false d)) [d])) : Pv (m_is_tree [d]) K := by
  unfold m_is_tree
  rw [Pv_Fn]
  have pd := odd_pers d hd
  simp [b_is_tree, slot_pers pd, pd]
  refine row_promise hd ?_
  simpa [gvS_pers pd] using H
end TH
set_option maxHeartbeats 4000000
/-! PW3: stepping through reversed, enumerate, extend. -/
namespace DL
open PySem PySem.Spec PyProof.Rows L2
section
variable {e : Env}
@[simp ↓] theorem Pv_RvR {m : M D} {K : R (List D) → Prop} : Pv (mRvR m e) K ↔ Pv (m e) (bindK (fun d => M.ofO (rngR d)) K) := Pv_bind
@[simp ↓] theorem Pv_RvI {m : M D} {K : R (List D) → Prop} : Pv (mRvI m e) K ↔ Pv (m e) (bindK (fun d => M.ofO (itemsR d)) K) := Pv_bind
@[simp ↓] theorem Pv_Enum {m : M D} {K : R (List D) → Prop} : Pv (mEnum m e) K ↔ Pv (m e) (bindK (fun d => M.ofO (enumD d)) K) := Pv_bind
theorem rngR_ok {n : Nat} (h : n < 1000000) : rngR (.int (n : Int)) = some (rangeD 0 n).reverse := by
  unfold rngR
  rw [rng1_ok (by omega)]
  rfl
@[simp] theorem itemsR_tup {l : List D} : itemsR (.tup l) = if persAll l = true then some l.reverse else none := by
  unfold itemsR itemsD
  by_cases h : persAll l = true <;> simp [h]
@[simp] theorem enumD_tup {l : List D} : enumD (.tup l) = if persAll l = true then some (pairsE l) else none := rfl
def extL (l2 : List D) (i : Nat) (e : Env) (K : R D → Prop) : D → Prop
  | .lst l => (l.length + l2.length ≤ LIM ∧ persAll l2 = true) ∧ K (.ok .non (e.set i (.lst (l ++ l2))))
  | _ => False
@[simp] theorem extL_lst {l l2 : List D} {i : Nat} {K : R D → Prop} : extL l2 i e K (.lst l) = ((l.length + l2.length ≤ LIM ∧ persAll l2 = true) ∧ K (.ok .non (e.set i (.lst (l ++ l2))))) := rfl
def extK (i : Nat) (K : R D → Prop) : R D → Prop
  | .ok (.tup l2) e => Pv (slot e[i]?) (extL l2 i e K)
  | .ok _ _ => False
  | .ex x e => K (.ex x e)
@[simp] theorem extK_ok {i : Nat} {K : R D → Prop} {l2 : List D} : extK i K (.ok (.tup l2) e) = Pv (slot e[i]?) (extL l2 i e K) := rfl
@[simp] theorem extK_ex {i : Nat} {K : R D → Prop} {x : Ex} : extK i K (.ex x e) = K (.ex x e) := rfl
@[simp ↓] theorem Pv_Extend {i : Nat} {m : M D} {K : R D → Prop} : Pv (mExtend i m e) K ↔ Pv (slot e[i]?) (isL (Pv (m e) (extK i K))) := by
  unfold mExtend M.bind
  rw [mV_slot_eq]
  cases slot e[i]? with
  | none => simp
  | some d =>
    cases d with
    | lst l =>
      simp only [Pv_some, isL_lst]
      cases m e with
      | none => simp
      | some r =>
        cases r with
        | ex x e => simp
        | ok d e =>
          cases d with
          | tup l2 =>
            simp only [Pv_some, extK_ok]
            rw [mV_slot_eq]
            cases slot e[i]? with
            | none => simp
            | some y =>
              cases y with
              | lst l =>
                simp only [Pv_some, extL_lst]
                by_cases h : l.length + l2.length ≤ LIM ∧ persAll l2 = true <;> simp [h]
              | _ => simp [extL]
          | _ => simp [extK]
    | _ => simp [isL]
end
end DL
set_option maxHeartbeats 4000000
/-! T4: trees as data; what the functions on nodes and orders give for them. -/
namespace TH
open PySem PySem.Spec PyProof.Rows L2 DL DLS
open PySem.W (dataLe dataLt alike alikeAll keyToks keyToksAll)
structure GS (s : Sym) : Prop where
  ok : OkS s.1
  ln : s.1.length ≤ 16
  sy : isSymD (symD s) = true
abbrev GT (t : List Sym) : Prop := ∀ s ∈ t, GS s
@[simp] theorem symD_pers (s : Sym) : (symD s).pers = true := rfl
@[simp] theorem syms_pers (t : List Sym) : persAll (t.map symD) = true := persAll_map symD_pers
@[simp] theorem trees_pers (xs : TL) : persAll (xs.map treeD) = true := persAll_map fun t => syms_pers t
theorem symD_odd {s : Sym} (h : GS s) : (symD s).odd = true := by
  have := h.ln
  have hl : s.1.length ≤ LIM := by show s.1.length ≤ 1000000; omega
  simp [symD, h.ok, hl]
theorem treeD_odd {t : List Sym} (h : GT t) : (treeD t).odd = true := by
  rw [odd_tup, oddAll_iff]
  intro d hd
  obtain ⟨s, hs, rfl⟩ := List.mem_map.mp hd
  exact symD_odd (h s hs)
theorem symD_sim {s : Sym} (h : OkS s.1) : (symD s).sim = true := by
  simp [symD, h]
theorem treeD_sim {t : List Sym} (h : GT t) (hl : t.length < 100000) : (treeD t).sim = true := by
  rw [sim_tup, Bool.and_eq_true, simAll_iff]
  refine ⟨fun d hd => ?_, by simpa using hl⟩
  obtain ⟨s, hs, rfl⟩ := List.mem_map.mp hd
  exact symD_sim (h s hs).ok
theorem szs_syms (t : List Sym) : szs (t.map symD) = 3 * t.length := by
  induction t with
  | nil => rfl
  | cons s t ih =>
    rw [List.map_cons, szs_cons, ih, List.length_cons]
    have : (symD s).sz = 3 := rfl
    omega
theorem treeD_sz (t : List Sym) : (treeD t).sz = 1 + 3 * t.length := by
  show 1 + szs (t.map symD) = _
  rw [szs_syms]
theorem manyD_sym (s : Sym) : manyD (symD s) = s.2 := by
  unfold symD manyD
  simp
theorem rowB_run {t : List Sym} (h : GT t) : ∀ n, rowB false n (t.map symD) = (runT n t == some 0) := by
  induction t with
  | nil =>
    intro n
    cases n with
    | zero => rfl
    | succ n =>
      rw [run_nil]
      simp [rowB]
  | cons s t ih =>
    intro n
    cases n with
    | zero => rfl
    | succ n =>
      have hs : isItem false (symD s) = true := by unfold isItem; rw [(h s List.mem_cons_self).sy]; rfl
      rw [List.map_cons, rowB, hs, Bool.true_and, manyD_sym, runT, ih fun x hx => h x (List.mem_cons_of_mem _ hx)]
theorem isRow_tree {t : List Sym} (h : GT t) : isRowD false (treeD t) = (runT 1 t == some 0) := rowB_run h 1
theorem isRow_yes {t : List Sym} (h : GT t) (ht : TreeT t) : isRowD false (treeD t) = true := by
  rw [isRow_tree h, ht]
  rfl
/-! ### nodes -/
theorem ask_promise {t : List Sym} {k : Nat} (hk : k < t.length) {K : RF → Prop} (H : K (.ok .non [treeD t, .int k])) : Pv (m_a_ask_node [treeD t, .int k]) K := by
  unfold m_a_ask_node
  rw [Pv_Fn]
  simp [b_a_ask_node]
  rw [if_pos (by omega)]
  exact H
/-- how long the piece is that stands first -/
def far : Nat → List Sym → Nat
  | 0, _ => 0
  | _ + 1, [] => 0
  | n + 1, s :: r => far (n + s.2) r + 1
theorem far_of : ∀ {n : Nat} {p : List Sym} (r : List Sym), runT n p = some 0 → far n (p ++ r) = p.length
  | 0, [], r, _ => by cases r <;> rfl
  | 0, _ :: _, r, h => by cases h
  | n + 1, [], r, h => by cases h
  | n + 1, s :: p, r, h => by
    rw [runT] at h
    rw [List.cons_append, far, far_of r h, List.length_cons]
def endT (t : List Sym) (k : Nat) : Nat := k + far 1 (t.drop k)
/-- node, piece, end -/
theorem tree_end {t : List Sym} {k : Nat} (h : TreeT t) (hk : k < t.length) : ∃ n p, t = t.take k ++ (p ++ t.drop (endT t k)) ∧ runT 1 (t.take k) = some (n + 1) ∧ TreeT p ∧ runT n (t.drop (endT t k)) = some 0 ∧ endT t k = k + p.length ∧ endT t k ≤ t.length := by
  obtain ⟨n, p, r, e, h1, h2, h3⟩ := tree_at h hk
  have hd : t.drop k = p ++ r := by
    have e2 := (List.take_append_drop k t).trans e
    exact List.append_cancel_left e2
  have he : endT t k = k + p.length := by
    unfold endT
    rw [hd, far_of r h2]
  have hr : t.drop (endT t k) = r := by
    rw [he, ← List.drop_drop, hd, List.drop_left']
    rfl
  have hlen := congrArg List.length e
  simp only [List.length_append, List.length_take] at hlen
  refine ⟨n, p, by rw [hr]; exact e, h1, h2, by rw [hr]; exact h3, he, by omega⟩
/-- the loop that goes along a piece -/
structure Goes (t : List Sym) (e n j : Nat) : Prop where
  ex : ∃ p r, t.drop j = p ++ r ∧ runT n p = some 0 ∧ j + p.length = e
theorem Goes.start {t : List Sym} {k : Nat} (h : TreeT t) (hk : k < t.length) : Goes t (endT t k) 1 k := by
  obtain ⟨n, p, e, h1, h2, h3, h4, h5⟩ := tree_end h hk
  refine ⟨p, t.drop (endT t k), ?_, h2, h4.symm⟩
  have e2 := (List.take_append_drop k t).trans e
  exact List.append_cancel_left e2
theorem Goes.stop {t : List Sym} {e j : Nat} (h : Goes t e 0 j) : j = e := by
  obtain ⟨p, r, _, h2, h3⟩ := h.ex
  cases p with
  | nil => simpa using h3
  | cons s p => cases h2
theorem Goes.step {t : List Sym} {e n j : Nat} (h : Goes t e (n + 1) j) : ∃ hj : j < t.length, j < e ∧ Goes t e (n + t[j].2) (j + 1) := by
  obtain ⟨p, r, h1, h2, h3⟩ := h.ex
  cases p with
  | nil => rw [run_nil] at h2; cases h2
  | cons s p =>
    have hj : j < t.length := by
      have := congrArg List.length h1
      simp only [List.length_drop, List.length_append, List.length_cons] at this
      omega
    rw [List.drop_eq_getElem_cons hj, List.cons_append] at h1
    injection h1 with e1 e2
    rw [runT] at h2
    refine ⟨hj, by rw [← h3, List.length_cons]; omega, ⟨p, r, e2, by rw [e1]; exact h2, by rw [← h3, List.length_cons]; omega⟩⟩
theorem end_promise {t : List Sym} {k : Nat} (h : TreeT t) (hk : k < t.length) {K : RF → Prop} (H : K (.ok (.int (endT t k)) [treeD t, .int k])) : Pv (m_a_end [treeD t, .int k]) K := by
  unfold m_a_end
  rw [Pv_Fn]
  simp [b_a_end]
  refine Pv_whileI (fun m e => ∃ n j : Nat, e = [treeD t, .int k, .int n, .int j] ∧ Goes t (endT t k) n j ∧ m = endT t k - j) _ ⟨1, k, rfl, Goes.start h hk, rfl⟩ ?_
  rintro m e ⟨n, j, rfl, g, rfl⟩
  simp
  cases n with
  | zero =>
    rw [g.stop]
    simpa using H
  | succ n =>
    obtain ⟨hj, he, g'⟩ := g.step
    rw [if_pos (by omega)]
    simp [Pv_atI, hj, symD]
    exact ⟨endT t k - (j + 1), by omega, n + t[j].2, j + 1, ⟨by omega, by omega⟩, g', rfl⟩
/-! ### orders -/
theorem plain_sym (s : Sym) : (symD s).plain = true := rfl
theorem plainAll_map {α : Type} {f : α → D} (h : ∀ x, (f x).plain = true) : ∀ l : List α, plainAll (l.map f) = true
  | [] => rfl
  | x :: l => by
    show ((f x).plain && plainAll (l.map f)) = true
    rw [h x, plainAll_map h l]
    rfl
theorem plain_tree (t : List Sym) : (treeD t).plain = true := plainAll_map plain_sym t
theorem py_sym (s : Sym) : (symD s).py = symP s := rfl
theorem py_tree (t : List Sym) : (treeD t).py = treeP t := by
  show PyData.tuple (pyAll (t.map symD)) = _
  rw [pyAll_map, List.map_map]
  rfl
theorem with_promise {t p : List Sym} {k : Nat} (hk : k < t.length) (ht : TreeT t) (hp : GT p) (tp : TreeT p) (l1 : t.length ≤ 1000) (l2 : p.length ≤ 1000) {K : RF → Prop} (H : K (.ok (treeD (t.take k ++ p ++ t.drop (endT t k))) [treeD t, .int k, treeD p])) :
    Pv (m_with_piece [treeD t, .int k, treeD p]) K := by
  unfold m_with_piece
  rw [Pv_Fn]
  simp [b_with_piece]
  refine ask_promise hk ?_
  simp
  refine tree_promise (treeD_odd hp) ?_
  rw [isRow_yes hp tp]
  simp [cut_to']
  refine ⟨by show _ ≤ 1000000; omega, ?_⟩
  refine end_promise ht hk ?_
  simp
  obtain ⟨_, _, _, _, _, _, _, he⟩ := tree_end ht hk
  rw [cut_from (by simpa using he)]
  simp
  refine ⟨by show _ ≤ 1000000; omega, ?_⟩
  simpa [treeD] using H
theorem order_promise {xs ys : TL} (hp : ∀ t ∈ xs, t ≠ []) (hf : ∀ t ∈ xs, t ∈ ys) (hl : ys.length < 300) {K : RF → Prop} (H : ∀ L, IsS L xs → L.length ≤ ys.length → K (.ok (.tup (L.map treeD)) [.tup (xs.map treeD)])) : Pv (m_in_order [.tup (xs.map treeD)]) K := by
  unfold m_in_order
  rw [Pv_Fn]
  obtain ⟨L, e, hL⟩ := sorted_trees xs
  have hlen : L.length ≤ ys.length := nodup_len hL.nd fun t ht => hf t ((hL.mem t).mp ht)
  have e1 : dSortSet (.tup (xs.map treeD)) = some (.lst ((sortK (xs.map treeK)).map unK)) := by
    unfold dSortSet
    simp only [keyAll_trees]
    exact if_pos ⟨fitK_trees hp, fewD_trees hf hl⟩
  have e2 : dSortLen (.lst ((sortK (xs.map treeK)).map unK)) = some (.lst (L.map treeD)) := by
    unfold dSortLen
    simp only [e]
    have hm : ((sortK (xs.map treeK)).map unK).length = L.length := by
      have := congrArg List.length e
      unfold sortLen at this
      rw [List.length_mergeSort, List.length_map] at this
      rw [List.length_map, this, List.length_map]
    refine if_pos ⟨?_, by rw [hm]; show _ ≤ 1000000; omega⟩
    rw [List.all_eq_true]
    intro d hd
    obtain ⟨k, hk, rfl⟩ := List.mem_map.mp hd
    have : k ∈ xs.map treeK := by
      unfold sortK at hk
      exact onceK_mem.mp ((List.mergeSort_perm _ _).mem_iff.mp hk)
    obtain ⟨t, _, rfl⟩ := List.mem_map.mp this
    rw [un_treeK]
    exact syms_pers t
  simp [b_in_order]
  rw [e1, Pv_some, e2, Pv_some, dTuple_lst, if_pos (trees_pers L), Pv_some]
  exact H L hL hlen
end TH
set_option maxHeartbeats 4000000
/-! T5 (k13): the law's own defs that make its input. -/
namespace TH
open PySem PySem.Spec PyProof.Rows L2 DL DLS
theorem pick_law {n : Int} (t : TP) (hn : 0 < n) (hg : n < 2147483648) {K : RF → Prop} (H : ∀ (t' : TP) (r : Nat), (r : Int) < n → K (.ok (.int r) [t'.d, .int n])) : Pv (m__law_pick [t.d, .int n]) K :=
  pick_promise 39373 5 32 (by decide) (by decide) (by decide) (by decide) t hn hg H
theorem tape_law (l : List Int) (hl : l.length ≤ LIM) {K : RF → Prop} (H : ∀ t : TP, K (.ok t.d [.lst (l.map .int)])) : Pv (m__law_tape [.lst (l.map .int)]) K :=
  tape_promise 77017 45131 23 (by decide) (by decide) (by decide) (by decide) l hl H
theorem tape_lawF (l : List Int) (hl : l.length ≤ LIM) {K : RF → Prop} (H : ∀ t : TP, K (.ok t.d [.fz (l.map .int)])) : Pv (m__law_tape [.fz (l.map .int)]) K :=
  tape_fz 77017 45131 23 (by decide) (by decide) (by decide) (by decide) l hl H
theorem same_law {d : D} (hd : d.sim = true) (hz : d.sz < 1000000) {K : RF → Prop} (H : K (.ok (.bl true) [d, d])) : Pv (m__law_same [d, d]) K := same_promise hd hz H
def goodB (w : Str) : Bool := SeqAt.shaped (D.str w).py && decide (w.length ≤ 16) && isWordB w && !(w == ".")
theorem GS.of {w : Str} {n : Nat} (h : goodB w = true) (hn : n ≤ 4) : GS ⟨w, n⟩ := by
  unfold goodB at h
  simp only [Bool.and_eq_true, decide_eq_true_eq] at h
  refine ⟨h.1.1.1, h.1.1.2, ?_⟩
  show (isWordB w && decide (0 ≤ (n : Int) ∧ (n : Int) ≤ 4) && ((n : Int) == 0 || !(w == "."))) = true
  rw [h.1.2, h.2, Bool.or_true, decide_eq_true (by omega)]
  rfl
theorem GS.dot : GS ⟨".", 0⟩ := ⟨by decide +kernel, by decide +kernel, by decide +kernel⟩
def names : List Str := ["b", "ab", "a-9", "zz0", "q", "abcdefghijklmnop", "c", "b-"]
theorem names_eq : ([.str "b", .str "ab", .str "a-9", .str "zz0", .str "q", .str "abcdefghijklmnop", .str "c", .str "b-"] : List D) = names.map D.str := rfl
@[simp] theorem names_len : names.length = 8 := rfl
theorem names_good : ∀ w ∈ names, goodB w = true := by
  have : names.all goodB = true := by decide +kernel
  exact List.all_eq_true.mp this
def cnts : List Nat := [1, 2, 1, 2, 3, 4, 0]
theorem cnts_eq : ([.int 1, .int 2, .int 1, .int 2, .int 3, .int 4, .int 0] : List D) = cnts.map fun (n : Nat) => D.int n := rfl
@[simp] theorem cnts_len : cnts.length = 7 := rfl
theorem cnts_good : ∀ w ∈ cnts, w ≤ 4 := by decide
@[simp] theorem strs_pers (l : List Str) : persAll (l.map D.str) = true := persAll_map fun _ => rfl
@[simp] theorem nats_pers (l : List Nat) : persAll (l.map fun (n : Nat) => D.int n) = true := persAll_map fun _ => rfl
structure GM (ms : List Sym) : Prop where
  gt : GT ms
  two : 2 ≤ ms.length
  few : ms.length ≤ 20
  z0 : ∀ i (h : i < ms.length), i < 2 → ms[i].2 = 0
abbrev symsD (ms : List Sym) : D := .lst (ms.map symD)
theorem rng1_succ {n : Nat} (h : n < 1000000) : rng1 [.int (1 + (n : Int))] = some (rangeD 0 (1 + n)) := by
  have := rng1_ok (n := 1 + n) (by omega)
  rw [← this, show ((1 + n : Nat) : Int) = 1 + (n : Int) by omega]
theorem GM.snoc {ms : List Sym} {s : Sym} (h : GM ms) (g : GS s) (hl : ms.length < 20) : GM (ms ++ [s]) := by
  have := h.two
  refine ⟨?_, by rw [List.length_append]; omega, by rw [List.length_append, List.length_singleton]; omega, ?_⟩
  · intro x hx
    rcases List.mem_append.mp hx with hx | hx
    · exact h.gt x hx
    · rw [List.mem_singleton.mp hx]
      exact g
  · intro i hi h2
    rw [List.getElem_append_left (by omega)]
    exact h.z0 i (by omega) h2
theorem marks_law (t : TP) {K : RF → Prop} (H : ∀ (t' : TP) ms, GM ms → K (.ok (symsD ms) [t'.d])) : Pv (m__law_marks [t.d]) K := by
  unfold m__law_marks
  rw [Pv_Fn]
  simp [b__law_marks, names_eq, -Pv_If]
  refine pick_law t (by decide) (by decide) fun t1 a ha => ?_
  obtain ⟨c, hc, ec⟩ : ∃ c : Nat, c < 8 ∧ ((a : Int) + 1) % 8 = c := ⟨(a + 1) % 8, by omega, by omega⟩
  have ha' : a < 8 := by omega
  simp [ec, Pv_atI, ha', hc, -Pv_If]
  refine Pv_join (fun e => ∃ (t' : TP) (ms : List Sym), e = [t'.d, .lst (names.map D.str), .int a, symsD ms, .gone] ∧ GM ms ∧ ms.length = 2) ?_ ?_
  · have g0 : ∀ w : Sym, GS w → w.n = 0 → GM [⟨names[a], 0⟩, w] := by
      intro w gw zw
      refine ⟨?_, Nat.le_refl 2, by simp, ?_⟩
      · intro s hs
        simp only [List.mem_cons, List.not_mem_nil, or_false] at hs
        rcases hs with rfl | rfl
        · exact GS.of (names_good _ (List.getElem_mem _)) (by decide)
        · exact gw
      · intro i h _
        have : i = 0 ∨ i = 1 := by simp at h; omega
        rcases this with rfl | rfl
        · rfl
        · exact zw
    simp
    refine pick_law t1 (by decide) (by decide) fun t2 b hb => ?_
    simp
    split
    · exact ⟨t2, _, ⟨rfl, by exact rfl⟩, g0 ⟨".", 0⟩ GS.dot rfl, rfl⟩
    · exact ⟨t2, _, ⟨rfl, by exact rfl⟩, g0 ⟨names[c], 0⟩ (GS.of (names_good _ (List.getElem_mem _)) (by decide)) rfl, rfl⟩
  · rintro e ⟨t2, ms, rfl, gm, lm⟩
    simp
    refine pick_law t2 (by decide) (by decide) fun t3 b hb => ?_
    simp [rng1_succ (n := b) (by omega)]
    refine Pv_forL (fun k e => ∃ (t' : TP) (ms : List Sym) (x : D), e = [t'.d, .lst (names.map D.str), .int a, symsD ms, x] ∧ GM ms ∧ ms.length = 2 + k) ⟨t3, ms, _, rfl, gm, lm⟩ ?_ ?_
    · rintro k e hk ⟨t4, ms, x, rfl, gm, lm⟩
      have hk' : k < 1 + b := by simpa using hk
      simp [names_eq, cnts_eq]
      refine pick_law t4 (by decide) (by decide) fun t5 c hc => ?_
      obtain ⟨d, hd, ed⟩ : ∃ d : Nat, d < 8 ∧ ((a : Int) + c) % 8 = d := ⟨(a + c) % 8, by omega, by omega⟩
      simp [ed, Pv_atI, hd]
      refine pick_law t5 (by decide) (by decide) fun t6 f hf => ?_
      have hf' : f < 7 := by omega
      simp [cnts_eq, Pv_atI, hf']
      refine ⟨by show _ < 1000000; omega, t6, ms ++ [⟨names[d], cnts[f]⟩], ⟨rfl, by simp [symD]⟩, gm.snoc (GS.of (names_good _ (List.getElem_mem _)) (cnts_good _ (List.getElem_mem _))) (by omega), by simp; omega⟩
    · rintro e ⟨t4, ms, x, rfl, gm, lm⟩
      simp
      exact H t4 ms gm
/-! ### a tree -/
def Sub (r ms : List Sym) : Prop := ∀ s ∈ r, s ∈ ms
theorem Sub.snoc {r ms : List Sym} {s : Sym} (h : Sub r ms) (g : s ∈ ms) : Sub (r ++ [s]) ms := fun x hx => by
  rcases List.mem_append.mp hx with hx | hx
  · exact h x hx
  · rw [List.mem_singleton.mp hx]; exact g
theorem tree_law (t : TP) {ms : List Sym} (gm : GM ms) {most : Nat} (h1 : 1 ≤ most) (h2 : most ≤ 1000) {K : RF → Prop} (H : ∀ (t' : TP) (r : List Sym), TreeT r → Sub r ms → r.length ≤ most → K (.ok (treeD r) [t'.d, symsD ms, .int most])) :
    Pv (m__law_tree [t.d, symsD ms, .int most]) K := by
  unfold m__law_tree
  rw [Pv_Fn]
  simp [b__law_tree]
  refine Pv_whileI (fun m e => ∃ (t' : TP) (r : List Sym) (n : Nat) (x : D), e = [t'.d, symsD ms, .int most, .lst (r.map symD), .int n, x] ∧ runT 1 r = some n ∧ Sub r ms ∧ r.length + n ≤ most ∧ m = most - r.length) most ⟨t, [], 1, _, rfl, rfl, (fun s hs => by cases hs), by simpa using h1, rfl⟩ ?_
  rintro m e ⟨t1, r, n, x, rfl, hr, hs, hl, rfl⟩
  simp
  cases n with
  | zero =>
    simp
    exact H t1 r hr hs (by omega)
  | succ n =>
    rw [if_pos (by omega)]
    have := gm.two
    have := gm.few
    refine pick_law t1 (by omega) (by omega) fun t2 a ha => ?_
    have ha' : a < ms.length := by omega
    simp [Pv_atI, ha', -Pv_If]
    refine Pv_join (fun e => ∃ (t' : TP) (s : Sym), e = [t'.d, symsD ms, .int most, .lst (r.map symD), .int ((n : Int) + 1), symD s] ∧ s ∈ ms ∧ r.length + (n + 1) + s.2 ≤ most) ?_ ?_
    · simp [symD]
      split
      · refine pick_law t2 (by decide) (by decide) fun t3 b hb => ?_
        have hb' : b < ms.length := by omega
        simp [Pv_atI, hb']
        exact ⟨t3, ms[b], ⟨rfl, by simp [symD]⟩, List.getElem_mem _, by rw [gm.z0 b hb' (by omega)]; omega⟩
      · exact ⟨t2, ms[a], ⟨rfl, rfl, rfl⟩, List.getElem_mem _, by omega⟩
    · rintro e ⟨t3, s, rfl, hsm, hl2⟩
      simp [symD]
      refine ⟨by show _ < 1000000; omega, most - (r.length + 1), by omega, t3, r ++ [s], n + s.n, ⟨rfl, by simp [symD], by omega⟩, run_snoc hr, hs.snoc hsm, by simp; omega, by simp⟩
/-! ### far -/
abbrev intsD (l : List Int) : D := .lst (l.map D.int)
@[simp] theorem ints_pers (l : List Int) : persAll (l.map D.int) = true := persAll_map fun _ => rfl
theorem far_law {t : List Sym} {k : Nat} (h : TreeT t) (hk : k < t.length) {K : RF → Prop} (H : K (.ok (.int (endT t k)) [treeD t, .gone])) : Pv (m__law_far [treeD t, .int k]) K := by
  unfold m__law_far
  rw [Pv_Fn]
  simp [b__law_far]
  refine Pv_whileI (fun m e => ∃ n j : Nat, e = [treeD t, .int j, .int n] ∧ Goes t (endT t k) n j ∧ m = endT t k - j) _ ⟨1, k, rfl, Goes.start h hk, rfl⟩ ?_
  rintro m e ⟨n, j, rfl, g, rfl⟩
  simp
  cases n with
  | zero =>
    rw [g.stop]
    simpa using H
  | succ n =>
    obtain ⟨hj, he, g'⟩ := g.step
    rw [if_pos (by omega)]
    simp [Pv_atI, hj, symD]
    exact ⟨endT t k - (j + 1), by omega, n + t[j].2, j + 1, ⟨by omega, by omega⟩, g', rfl⟩
end TH
set_option maxHeartbeats 4000000
/-! T6 (k13): pieces, ends, levels, sorting: what is meant, without the program. -/
namespace TH
open PySem PySem.Spec PyProof.Rows L2 DL DLS
open PySem.W (dataLe dataLt alike alikeAll keyToks keyToksAll)
theorem symP_inj {s u : Sym} (h : PyData.eqv (symP s) (symP u) = true) : s = u := by
  unfold symP at h
  simp [PyData.eqv, PyData.eqvAll] at h
  have h2 : s.n = u.n := by have := h.2; omega
  have h1 := h.1
  cases s
  cases u
  simp only at h1 h2
  rw [h1, h2]
theorem symP_refl (s : Sym) : PyData.eqv (symP s) (symP s) = true := by
  unfold symP
  simp [PyData.eqv, PyData.eqvAll]
theorem eqv_syms : ∀ a b : List Sym, PyData.eqvAll (a.map symP) (b.map symP) = decide (a = b)
  | [], [] => by simp [PyData.eqvAll]
  | [], _ :: _ => by simp [PyData.eqvAll]
  | _ :: _, [] => by simp [PyData.eqvAll]
  | s :: a, u :: b => by
    rw [List.map_cons, List.map_cons, PyData.eqvAll, eqv_syms a b]
    cases h : PyData.eqv (symP s) (symP u) with
    | true =>
      rw [symP_inj h]
      simp
    | false =>
      have : s ≠ u := fun e => by rw [e, symP_refl] at h; cases h
      simp [this]
theorem eqv_trees (a b : List Sym) : PyData.eqv (treeP a) (treeP b) = decide (a = b) := by
  unfold treeP
  rw [PyData.eqv]
  exact eqv_syms a b
theorem lay_sym {s : Sym} (h : OkS s.w) : PyData.canLay0 (symP s) = true := by
  have : PyData.canLay0 (D.str s.w).py = true := SeqAt.canLay_of_shaped h
  unfold symP
  rw [PyData.canLay0, PyData.canLayAll0, PyData.canLayAll0, PyData.canLayAll0]
  rw [show PyData.canLay0 (PyData.str s.w) = true from this]
  rfl
theorem lay_syms : ∀ {t : List Sym}, GT t → PyData.canLayAll0 (t.map symP) = true
  | [], _ => by rw [List.map_nil, PyData.canLayAll0]
  | s :: t, h => by
    rw [List.map_cons, PyData.canLayAll0, lay_sym (h s List.mem_cons_self).ok, lay_syms fun x hx => h x (List.mem_cons_of_mem _ hx)]
    rfl
theorem shaped_tree {t : List Sym} (h : GT t) : SeqAt.shaped (treeP t) = true := by
  unfold SeqAt.shaped
  rw [Bool.and_eq_true]
  refine ⟨?_, decide_eq_true (by have := depth_tree t; omega)⟩
  unfold treeP
  rw [PyData.canLay0]
  exact lay_syms h
theorem shaped_trees {xs : TL} (h : ∀ t ∈ xs, GT t) : SeqAt.shaped (.list (xs.map treeP)) = true := by
  unfold SeqAt.shaped
  rw [Bool.and_eq_true]
  constructor
  · rw [PyData.canLay0]
    induction xs with
    | nil => rw [List.map_nil, PyData.canLayAll0]
    | cons t xs ih =>
      rw [List.map_cons, PyData.canLayAll0, ih fun t ht => h t (List.mem_cons_of_mem _ ht), SeqAt.canLay_of_shaped (shaped_tree (h t List.mem_cons_self))]
      rfl
  · have : ∀ xs : TL, PyData.depthAll (xs.map treeP) ≤ 2 := by
      intro xs
      induction xs with
      | nil => simp [PyData.depthAll]
      | cons t xs ih =>
        rw [List.map_cons, PyData.depthAll]
        have := depth_tree t
        omega
    refine decide_eq_true ?_
    rw [PyData.depth]
    have := this xs
    omega
theorem pyAll_trees (xs : TL) : pyAll (xs.map treeD) = xs.map treeP := by
  rw [pyAll_map, List.map_map]
  congr 1
  funext t
  exact py_tree t
theorem dIn_trees {r : List Sym} {xs : TL} (hr : GT r) (h : ∀ t ∈ xs, GT t) : dIn true (treeD r) (.lst (xs.map treeD)) = some (.bl (!decide (r ∈ xs))) := by
  have pl : plainAll (xs.map treeD) = true := plainAll_map plain_tree xs
  have e : dIn true (treeD r) (.lst (xs.map treeD)) = if (treeD r).plain = true ∧ plainAll (xs.map treeD) = true ∧ SeqAt.shaped (treeD r).py = true ∧ SeqAt.shaped (.list (pyAll (xs.map treeD))) = true then
      some (.bl (if true then !((pyAll (xs.map treeD)).any fun z => PyData.eqv z (treeD r).py) else (pyAll (xs.map treeD)).any fun z => PyData.eqv z (treeD r).py)) else none := rfl
  rw [e, py_tree, pyAll_trees, if_pos ⟨plain_tree r, pl, shaped_tree hr, shaped_trees h⟩]
  simp only [if_true]
  congr 2
  congr 1
  rw [List.any_map]
  have : (fun t => PyData.eqv (treeP t) (treeP r)) = fun t => decide (t = r) := funext fun t => eqv_trees t r
  show (xs.any fun t => PyData.eqv (treeP t) (treeP r)) = _
  rw [this]
  induction xs with
  | nil => rfl
  | cons t xs ih =>
    rw [List.any_cons, ih (fun t ht => h t (List.mem_cons_of_mem _ ht)) (plainAll_map plain_tree xs) rfl]
    by_cases z : t = r
    · subst z
      simp
    · simp [z, Ne.symm z]
theorem treeD_inj {a b : List Sym} (h : treeD a = treeD b) : a = b := by
  have : treeP a = treeP b := by rw [← py_tree, ← py_tree, h]
  have e := eqv_trees a b
  rw [this, eqv_trees] at e
  simpa using e
theorem Pv_at0 {α : Type} {l : List α} {K : α → Prop} : Pv (L2.atI l 0) K ↔ ∃ h : 0 < l.length, K l[0] := Pv_atI (n := 0)
theorem Pv_at1 {α : Type} {l : List α} {K : α → Prop} : Pv (L2.atI l 1) K ↔ ∃ h : 1 < l.length, K l[1] := Pv_atI (n := 1)
structure Row (al : List Sym) (r : List Sym) : Prop where
  tr : TreeT r
  sb : Sub r al
theorem Row.gt {al r : List Sym} (h : Row al r) (g : GT al) : GT r := fun s hs => g s (h.sb s hs)
theorem Row.cut {al t : List Sym} (h : Row al t) {k : Nat} (hk : k < t.length) {p : List Sym} (hp : Row al p) : Row al (t.take k ++ p ++ t.drop (endT t k)) := by
  obtain ⟨n, q, e, h1, h2, h3, h4, h5⟩ := tree_end h.tr hk
  refine ⟨by rw [List.append_assoc]; exact tree_put h1 hp.tr h3, fun s hs => ?_⟩
  rw [List.append_assoc] at hs
  rcases List.mem_append.mp hs with hs | hs
  · exact h.sb s (List.mem_of_mem_take hs)
  · rcases List.mem_append.mp hs with hs | hs
    · exact hp.sb s hs
    · exact h.sb s (List.mem_of_mem_drop hs)

/-! ### pieces -/
theorem far_zero (r : List Sym) : far 0 r = 0 := by cases r <;> rfl
theorem far_nil (n : Nat) : far n [] = 0 := by cases n <;> rfl
theorem far_add : ∀ (r : List Sym) (a b : Nat), far (a + b) r = far a r + far b (r.drop (far a r))
  | [], a, b => by simp [far_nil]
  | s :: r, 0, b => by simp [far_zero]
  | s :: r, a + 1, b => by
    rw [show a + 1 + b = (a + b) + 1 by omega, far, far, show a + b + s.n = (a + s.n) + b by omega, far_add r (a + s.n) b, List.drop_succ_cons]
    omega
theorem far_le : ∀ (r : List Sym) (n : Nat), far n r ≤ r.length
  | [], n => by simp [far_nil]
  | s :: r, 0 => by simp [far_zero]
  | s :: r, n + 1 => by
    rw [far, List.length_cons]
    exact Nat.succ_le_succ (far_le r _)
theorem far_lt : ∀ {r : List Sym} {m n : Nat}, runT m r = some 0 → n < m → far n r < r.length
  | [], m, n, h, hn => by
    rw [run_nil] at h
    cases h
    omega
  | s :: r, m, 0, h, hn => by simp [far_zero]
  | s :: r, 0, n + 1, h, hn => by omega
  | s :: r, m + 1, n + 1, h, hn => by
    rw [runT] at h
    rw [far, List.length_cons]
    exact Nat.succ_lt_succ (far_lt h (by show n + s.n < m + s.n; omega))
def pcT (t : List Sym) (k : Nat) : List Sym := (t.drop k).take (far 1 (t.drop k))
theorem pc_len (t : List Sym) (k : Nat) : (pcT t k).length = far 1 (t.drop k) := by
  unfold pcT
  rw [List.length_take]
  exact Nat.min_eq_left (far_le _ _)
theorem end_eq (t : List Sym) (k : Nat) : endT t k = k + (pcT t k).length := by rw [pc_len]; rfl
theorem pc_split {t : List Sym} {k : Nat} (h : TreeT t) (hk : k < t.length) : t = t.take k ++ (pcT t k ++ t.drop (endT t k)) ∧ TreeT (pcT t k) := by
  obtain ⟨n, p, e, h1, h2, h3, h4, h5⟩ := tree_end h hk
  have hd : t.drop k = p ++ t.drop (endT t k) := List.append_cancel_left ((List.take_append_drop k t).trans e)
  have hp : pcT t k = p := by
    unfold pcT
    rw [hd, far_of _ h2]
    exact List.take_left' rfl
  rw [hp]
  exact ⟨e, h2⟩
theorem end_le {t : List Sym} {k : Nat} (hk : k ≤ t.length) : endT t k ≤ t.length := by
  have := far_le (t.drop k) 1
  rw [List.length_drop] at this
  unfold endT
  omega
theorem end_gt {t : List Sym} {k : Nat} (hk : k < t.length) : k < endT t k := by
  unfold endT
  rw [List.drop_eq_getElem_cons hk, far]
  omega
theorem pc_whole {t : List Sym} (h : TreeT t) : pcT t 0 = t := by
  have : far 1 t = t.length := by
    have := far_of [] h
    rwa [List.append_nil] at this
  show (t.drop 0).take (far 1 (t.drop 0)) = t
  rw [List.drop_zero, this, List.take_length]
theorem pc_sub {t al : List Sym} (h : Sub t al) (k : Nat) : Sub (pcT t k) al := fun s hs => h s (List.mem_of_mem_drop (List.mem_of_mem_take hs))
theorem pc_row {t al : List Sym} (h : Row al t) {k : Nat} (hk : k < t.length) : Row al (pcT t k) := ⟨(pc_split h.tr hk).2, pc_sub h.sb k⟩
theorem pc_le (t : List Sym) (k : Nat) : (pcT t k).length ≤ t.length := by
  unfold pcT
  rw [List.length_take, List.length_drop]
  omega
theorem cut_mid {l : List D} {i j : Nat} (h1 : i ≤ j) (h2 : j ≤ l.length) : DL.cutD l (some (i : Int)) (some (j : Int)) = (l.drop i).take (j - i) := by
  unfold DL.cutD
  rw [HT.sIx_nat, HT.sIx_nat, Nat.min_eq_left h2, Nat.min_eq_left (Nat.le_trans h1 h2)]
theorem cut_pc {t : List Sym} {k : Nat} (hk : k < t.length) : DL.cutD (t.map symD) (some (k : Int)) (some (endT t k : Int)) = (pcT t k).map symD := by
  rw [cut_mid (Nat.le_of_lt (end_gt hk)) (by simpa using end_le (Nat.le_of_lt hk))]
  have : endT t k - k = far 1 (t.drop k) := by unfold endT; omega
  rw [this]
  unfold pcT
  simp
def pcs (t : List Sym) : TL := (List.range t.length).map (pcT t)
theorem pcs_len (t : List Sym) : (pcs t).length = t.length := by unfold pcs; simp
/-! ### levels -/
abbrev mxl (l : List Nat) : Nat := l.foldr max 0
theorem mxl_app (a b : List Nat) : mxl (a ++ b) = max (mxl a) (mxl b) := by
  induction a with
  | nil => simp
  | cons x a ih =>
    show max x (mxl (a ++ b)) = max (max x (mxl a)) (mxl b)
    rw [ih]
    omega
theorem mxl_one (l : List Nat) : max 1 (mxl (l.map fun x => 1 + x)) = 1 + mxl l := by
  induction l with
  | nil => rfl
  | cons x l ih =>
    show max 1 (max (1 + x) (mxl (l.map fun x => 1 + x))) = 1 + max x (mxl l)
    omega
def hs : List Sym → List Nat
  | [] => []
  | s :: r => (1 + mxl ((hs r).take s.n)) :: (hs r).drop s.n
def cnt (r : List Sym) (k : Nat) : Nat := ((List.range (k + 1)).filter fun j => decide (k < endT r j)).length
theorem endT_cons (s : Sym) (r : List Sym) (j : Nat) : endT (s :: r) (j + 1) = endT r j + 1 := by
  unfold endT
  rw [List.drop_succ_cons]
  omega
theorem endT_zero (s : Sym) (r : List Sym) : endT (s :: r) 0 = far s.n r + 1 := by
  unfold endT
  rw [List.drop_zero, far, Nat.zero_add, Nat.zero_add]
theorem cnt_zero (s : Sym) (r : List Sym) : cnt (s :: r) 0 = 1 := by
  unfold cnt
  simp [List.range_succ, endT_zero]
theorem cnt_succ (s : Sym) (r : List Sym) (k : Nat) : cnt (s :: r) (k + 1) = (if k < far s.n r then 1 else 0) + cnt r k := by
  unfold cnt
  rw [List.range_succ_eq_map, List.filter_cons, List.filter_map, endT_zero]
  have : ((fun j => decide (k + 1 < endT (s :: r) j)) ∘ Nat.succ) = fun j => decide (k < endT r j) := by
    funext j
    show decide (k + 1 < endT (s :: r) (j + 1)) = _
    rw [endT_cons]
    simp
  rw [this]
  by_cases h : k < far s.n r
  · rw [if_pos (by simpa using h), if_pos h]
    simp
    omega
  · rw [if_neg (by simpa using h), if_neg h]
    simp
theorem levels_eq : ∀ (r : List Sym) (n : Nat), mxl ((List.range (far n r)).map (cnt r)) = mxl ((hs r).take n)
  | r, 0 => by simp [far_zero]
  | [], n + 1 => by simp [far_nil, hs]
  | s :: r, n + 1 => by
    have ia := levels_eq r s.n
    have ib := levels_eq r (s.n + n)
    rw [far_add, List.range_add, List.map_append, mxl_app, List.take_add, mxl_app, ia] at ib
    rw [far, Nat.add_comm n s.n, far_add, List.range_succ_eq_map, List.map_cons, cnt_zero, List.map_map, List.range_add, List.map_append, hs]
    have e1 : (List.range (far s.n r)).map (cnt (s :: r) ∘ Nat.succ) = ((List.range (far s.n r)).map (cnt r)).map fun x => 1 + x := by
      rw [List.map_map]
      refine List.map_congr_left fun k hk => ?_
      show cnt (s :: r) (k + 1) = 1 + cnt r k
      rw [cnt_succ, if_pos (List.mem_range.mp hk)]
    have e2 : ((List.range (far n (r.drop (far s.n r)))).map fun x => far s.n r + x).map (cnt (s :: r) ∘ Nat.succ) = ((List.range (far n (r.drop (far s.n r)))).map fun x => far s.n r + x).map (cnt r) := by
      refine List.map_congr_left fun k hk => ?_
      obtain ⟨x, _, rfl⟩ := List.mem_map.mp hk
      show cnt (s :: r) (far s.n r + x + 1) = _
      rw [cnt_succ, if_neg (by omega), Nat.zero_add]
    rw [e1, e2, List.take_succ_cons]
    have o := mxl_one ((List.range (far s.n r)).map (cnt r))
    rw [ia] at o
    show max 1 (mxl (_ ++ _)) = max (1 + mxl ((hs r).take s.n)) (mxl (((hs r).drop s.n).take n))
    rw [mxl_app]
    omega
theorem hs_len : ∀ {r : List Sym} {m : Nat}, runT m r = some 0 → (hs r).length = m
  | [], m, h => by
    rw [run_nil] at h
    cases h
    rfl
  | s :: r, 0, h => by cases h
  | s :: r, m + 1, h => by
    rw [runT] at h
    rw [hs, List.length_cons, List.length_drop, hs_len h]
    show m + s.n - s.n + 1 = m + 1
    omega
theorem hs_tree {t : List Sym} (h : TreeT t) : hs t = [mxl ((List.range t.length).map (cnt t))] := by
  have l := hs_len h
  have f : far 1 t = t.length := by
    have := far_of [] h
    rwa [List.append_nil] at this
  have e := levels_eq t 1
  rw [f] at e
  rw [e]
  match hs t, l with
  | [x], _ => simp
/-! ### sorted by length, then by the tree -/
theorem sortLK_trees (xs : TL) : sortLK (xs.map treeK) = (xs.mergeSort leB).map treeK := by
  unfold sortLK
  rw [List.map_mergeSort (f := treeK) (r := leB) (s := dataLe false keyD)]
  intro a _ b _
  show leB a b = !(dataLt (keyD (treeK b)) (keyD (treeK a)))
  unfold leB
  rw [keyD_tree, keyD_tree, ← ahead_before]
  rfl
theorem isS_sort {xs : TL} (nd : xs.Nodup) : IsS (xs.mergeSort leB) xs := IsS.of_le ((List.mergeSort_perm _ _).nodup_iff.mpr nd) (fun t => (List.mergeSort_perm _ _).mem_iff) ((List.pairwise_mergeSort leB_trans leB_total xs).imp fun {a b} h => by
  unfold leB at h
  simpa using h)
theorem dSortLam_trees {xs : TL} (hl : ∀ t ∈ xs, t.length ≤ LIM) (hn : xs.length ≤ LIM) : dSortLam (.lst (xs.map treeD)) = some (.lst ((xs.mergeSort leB).map treeD)) := by
  unfold dSortLam
  simp only [keyAll_trees]
  rw [if_pos ⟨fitM_trees hl, by rw [List.length_map]; exact hn⟩, sortLK_trees, unKs_map, List.map_map]
  congr 2
  exact List.map_congr_left fun t _ => un_treeK t
end TH
set_option maxHeartbeats 4000000
/-! T7 (k13): parts, ends, levels, pieces as the program and the law find them. -/
namespace TH
open PySem PySem.Spec PyProof.Rows L2 DL DLS
abbrev treesD (rows : TL) : D := .lst (rows.map treeD)
theorem treeD_snoc (rows : TL) (r : List Sym) : rows.map treeD ++ [treeD r] = (rows ++ [r]).map treeD := by simp
def limbsF (t : List Sym) : Nat → Nat → TL
  | 0, _ => []
  | f + 1, a => if a < t.length then pcT t a :: limbsF t f (endT t a) else []
def limbsT (t : List Sym) : TL := limbsF t t.length 1
theorem limb_turn {t : List Sym} {acc : TL} {f a : Nat} (h : acc ++ limbsF t f a = limbsT t) (c : a < t.length) (hf : t.length ≤ a + f) : ∃ f', f = f' + 1 ∧ (acc ++ [pcT t a]) ++ limbsF t f' (endT t a) = limbsT t ∧ t.length ≤ endT t a + f' := by
  cases f with
  | zero => omega
  | succ f =>
    rw [limbsF, if_pos c] at h
    have := end_gt c
    exact ⟨f, rfl, by rw [List.append_assoc]; exact h, by omega⟩
theorem limb_stop {t : List Sym} {acc : TL} {f a : Nat} (h : acc ++ limbsF t f a = limbsT t) (c : ¬ a < t.length) : acc = limbsT t := by
  cases f with
  | zero => rwa [limbsF, List.append_nil] at h
  | succ f => rwa [limbsF, if_neg c, List.append_nil] at h
theorem parts_law {t : List Sym} (h : TreeT t) (l : t.length ≤ 1000) {K : RF → Prop} (H : K (.ok (.tup ((limbsT t).map treeD)) [treeD t])) : Pv (m_parts_of [treeD t]) K := by
  unfold m_parts_of
  rw [Pv_Fn]
  simp [b_parts_of]
  refine Pv_whileI (fun m e => ∃ (acc : TL) (f a : Nat) (x : D), e = [treeD t, treesD acc, .int a, x] ∧ acc ++ limbsF t f a = limbsT t ∧ a ≤ t.length ∧ t.length ≤ a + f ∧ acc.length ≤ a ∧ m = t.length - a) _ ⟨[], t.length, 1, _, rfl, rfl, tree_pos h, by omega, by simp, rfl⟩ ?_
  rintro m e ⟨acc, f, a, x, rfl, e1, h1, h2, h3, rfl⟩
  simp
  by_cases c : a < t.length
  · rw [if_pos c]
    refine end_promise h c ?_
    obtain ⟨f', rfl, e2, h4⟩ := limb_turn e1 c h2
    have gt := end_gt c
    have le := end_le h1
    simp [cut_pc c]
    refine ⟨by show _ < 1000000; omega, t.length - endT t a, by omega, acc ++ [pcT t a], f', endT t a, ⟨by simp, rfl⟩, e2, le, h4, by simp; omega, rfl⟩
  · rw [if_neg c]
    rw [limb_stop e1 c]
    exact H
theorem limbs_law {t : List Sym} (h : TreeT t) (l : t.length ≤ 1000) {K : RF → Prop} (H : K (.ok (.tup ((limbsT t).map treeD)) [treeD t])) : Pv (m__law_limbs [treeD t]) K := by
  unfold m__law_limbs
  rw [Pv_Fn]
  simp [b__law_limbs]
  refine Pv_whileI (fun m e => ∃ (acc : TL) (f a : Nat) (x : D), e = [treeD t, treesD acc, .int a, x] ∧ acc ++ limbsF t f a = limbsT t ∧ a ≤ t.length ∧ t.length ≤ a + f ∧ acc.length ≤ a ∧ m = t.length - a) _ ⟨[], t.length, 1, _, rfl, rfl, tree_pos h, by omega, by simp, rfl⟩ ?_
  rintro m e ⟨acc, f, a, x, rfl, e1, h1, h2, h3, rfl⟩
  simp
  by_cases c : a < t.length
  · rw [if_pos c]
    refine far_law h c ?_
    obtain ⟨f', rfl, e2, h4⟩ := limb_turn e1 c h2
    have gt := end_gt c
    have le := end_le h1
    simp [cut_pc c]
    refine ⟨by show _ < 1000000; omega, t.length - endT t a, by omega, acc ++ [pcT t a], f', endT t a, ⟨by simp, rfl⟩, e2, le, h4, by simp; omega, rfl⟩
  · rw [if_neg c]
    rw [limb_stop e1 c]
    exact H
/-! ### ends -/
def endsT (t : List Sym) : List Int := (List.range t.length).map fun k => (endT t k : Int)
/-- from the k-th node on the ends are known -/
def endsP (t : List Sym) (k : Nat) : List D := (List.range t.length).map fun j => if k ≤ j then .int (endT t j) else .int 0
theorem endsP_len (t : List Sym) (k : Nat) : (endsP t k).length = t.length := by unfold endsP; simp
theorem endsP_at {t : List Sym} {k j : Nat} (h : k ≤ j) (hj : j < (endsP t k).length) : (endsP t k)[j] = .int (endT t j) := by
  simp only [endsP, List.getElem_map, List.getElem_range, if_pos h]
theorem endsP_all (t : List Sym) : endsP t 0 = (endsT t).map D.int := by
  unfold endsP endsT
  rw [List.map_map]
  exact List.map_congr_left fun j _ => by simp
theorem endsP_none (t : List Sym) : endsP t t.length = List.replicate t.length (.int 0) := by
  unfold endsP
  apply List.ext_getElem
  · simp
  · intro i h1 h2
    have : i < t.length := by simpa using h2
    simp
    intro; omega
theorem endsP_set {t : List Sym} {k : Nat} (hk : k < t.length) : (endsP t (k + 1)).set k (.int (endT t k)) = endsP t k := by
  unfold endsP
  apply List.ext_getElem
  · simp
  · intro i h1 h2
    have hi : i < t.length := by simpa using h2
    rw [List.getElem_set]
    simp
    by_cases c : k = i
    · subst c
      simp
    · rw [if_neg c]
      by_cases d : k ≤ i
      · rw [if_pos (by omega), if_pos d]
      · rw [if_neg (by omega), if_neg d]
theorem rev_range {n i : Nat} (h : i < (rangeD 0 n).reverse.length) : (rangeD 0 n).reverse[i] = .int ((n - 1 - i : Nat) : Int) := by
  have h' : i < n := by simpa using h
  rw [List.getElem_reverse]
  simp
theorem run_le : ∀ {r : List Sym} {m : Nat}, runT m r = some 0 → m ≤ r.length
  | [], m, h => by
    rw [run_nil] at h
    cases h
    exact Nat.le_refl _
  | s :: r, 0, h => Nat.zero_le _
  | s :: r, m + 1, h => by
    rw [runT] at h
    have := run_le h
    have e : m + s.2 = m + s.n := rfl
    rw [List.length_cons]
    omega
theorem run_drop {t : List Sym} {k : Nat} (h : TreeT t) (hk : k < t.length) : ∃ n, runT (n + t[k].n) (t.drop (k + 1)) = some 0 := by
  obtain ⟨n, p, r, e, h1, h2, h3⟩ := tree_at h hk
  have h' : runT 1 (t.take k ++ t.drop k) = some 0 := by rw [List.take_append_drop]; exact h
  rw [run_app, h1, List.drop_eq_getElem_cons hk] at h'
  exact ⟨n, h'⟩
theorem dMul_zero {n : Nat} (h : n ≤ 1000) : dMul (.lst [.int 0]) (.int (n : Int)) = some (.lst (List.replicate n (.int 0))) := by
  unfold dMul
  simp only
  rw [if_pos]
  · rw [Int.toNat_natCast]
    congr 2
    induction n with
    | zero => rfl
    | succ n ih =>
      rw [List.replicate_succ, List.replicate_succ, List.flatten_cons, ih (by omega)]
      rfl
  · refine ⟨?_, by omega, by omega, rfl⟩
    rw [Int.toNat_natCast]
    show 1 * n ≤ 1000000
    omega
theorem ends_law {t : List Sym} (h : TreeT t) (l : t.length ≤ 1000) {K : RF → Prop} (H : K (.ok (.tup ((endsT t).map D.int)) [treeD t])) : Pv (m_ends_of [treeD t]) K := by
  unfold m_ends_of
  rw [Pv_Fn]
  simp [b_ends_of]
  rw [dMul_zero l, Pv_some, rngR_ok (by omega), Pv_some, ← endsP_none]
  refine Pv_forL (fun i e => ∃ x y z : D, e = [treeD t, .lst (endsP t (t.length - i)), x, y, z]) ⟨.gone, .gone, .gone, by simp⟩ ?_ ?_
  · rintro i e hi ⟨x, y, z, rfl⟩
    have hi' : i < t.length := by simpa using hi
    obtain ⟨k, hk, ek⟩ : ∃ k, k < t.length ∧ t.length - 1 - i = k := ⟨_, by omega, rfl⟩
    have e0 : t.length - i = k + 1 := by omega
    have e1 : t.length - (i + 1) = k := by omega
    obtain ⟨n, hn⟩ := run_drop h hk
    rw [rev_range, ek, e0, e1]
    simp [Pv_atI, hk, symD]
    have few : t[k].n < 1000000000 := by
      have := run_le hn
      rw [List.length_drop] at this
      omega
    rw [rng1_ok few, Pv_some]
    refine Pv_forL (fun a e => ∃ y : D, e = [treeD t, .lst (endsP t (k + 1)), .int k, .int ((k + 1 + far a (t.drop (k + 1)) : Nat) : Int), y]) ⟨z, by simp [far_zero]⟩ ?_ ?_
    · rintro a e ha ⟨y, rfl⟩
      have ha' : a < t[k].n := by simpa using ha
      have lt := far_lt hn (show a < n + t[k].n by omega)
      rw [List.length_drop] at lt
      have hb : k + 1 + far a (t.drop (k + 1)) < (endsP t (k + 1)).length := by rw [endsP_len]; omega
      obtain ⟨b, eb, kb⟩ : ∃ b, k + 1 + far a (t.drop (k + 1)) = b ∧ k + 1 ≤ b := ⟨_, rfl, by omega⟩
      have en : endT t b = k + 1 + far (a + 1) (t.drop (k + 1)) := by
        unfold endT
        rw [far_add, List.drop_drop, eb]
        omega
      rw [eb] at hb ⊢
      simp [Pv_atI, hb, endsP_at kb]
      omega
    · rintro e ⟨y, rfl⟩
      have en : k + 1 + far t[k].n (t.drop (k + 1)) = endT t k := by
        unfold endT
        rw [List.drop_eq_getElem_cons hk, far, Nat.zero_add]
        show _ = k + (far t[k].n _ + 1)
        omega
      have hk2 : k < (endsP t (k + 1)).length := by rw [endsP_len]; exact hk
      have ix : ixN (endsP t (k + 1)).length (k : Int) = some k := by
        unfold ixN
        rw [if_pos (by omega), if_pos (by omega)]
        simp
      simp [en, ix, endsP_set hk]
  · rintro e ⟨x, y, z, rfl⟩
    simp [endsP_all]
    exact H
end TH
set_option maxHeartbeats 4000000
/-! T8 (k13): levels, pieces, symbols. -/
namespace TH
open PySem PySem.Spec PyProof.Rows L2 DL DLS
abbrev natsD (l : List Nat) : List D := l.map fun (n : Nat) => D.int n
theorem levels_law {t : List Sym} (h : TreeT t) (l : t.length ≤ 1000) {K : RF → Prop} (H : K (.ok (.int (mxl ((List.range t.length).map (cnt t)) : Nat)) [treeD t])) : Pv (m_levels_of [treeD t]) K := by
  unfold m_levels_of
  rw [Pv_Fn]
  simp [b_levels_of]
  refine Pv_forL (fun i e => ∃ x y z : D, e = [treeD t, .lst (natsD (hs (t.drop (t.length - i))).reverse), x, y, z]) ⟨.gone, .gone, .gone, by simp [hs]⟩ ?_ ?_
  · rintro i e hi ⟨x, y, z, rfl⟩
    have hi' : i < t.length := by simpa using hi
    obtain ⟨k, hk, ek⟩ : ∃ k, k < t.length ∧ t.length - 1 - i = k := ⟨_, by omega, rfl⟩
    have e0 : t.length - i = k + 1 := by omega
    have e1 : t.length - (i + 1) = k := by omega
    obtain ⟨n, hn⟩ := run_drop h hk
    have hl := hs_len hn
    have rl := run_le hn
    rw [List.length_drop] at rl
    have er : (List.map symD t).reverse[i]'(by simpa using hi') = symD t[k] := by
      rw [List.getElem_reverse]
      simp [ek]
    rw [e0, e1]
    simp [ek, symD]
    rw [rng1_ok (by omega), Pv_some]
    obtain ⟨L, eL⟩ : ∃ L, hs (t.drop (k + 1)) = L := ⟨_, rfl⟩
    have eN : hs (t.drop k) = (1 + mxl (L.take t[k].n)) :: L.drop t[k].n := by rw [List.drop_eq_getElem_cons hk, hs, eL]
    rw [eL] at hl ⊢
    rw [eN]
    refine Pv_forL (fun a e => ∃ z : D, e = [treeD t, .lst (natsD (L.drop a)).reverse, symD t[k], .int ((mxl (L.take a) : Nat) : Int), z]) ⟨z, by simp [symD]⟩ ?_ ?_
    · rintro a e ha ⟨z, rfl⟩
      have ha' : a < t[k].n := by simpa using ha
      have hL : a < L.length := by omega
      have e2 : (natsD (L.drop a)).reverse = (natsD (L.drop (a + 1))).reverse ++ [.int (L[a] : Nat)] := by
        show (List.map _ (L.drop a)).reverse = _
        rw [List.drop_eq_getElem_cons hL, List.map_cons, List.reverse_cons]
      have e3 : mxl (L.take (a + 1)) = max (mxl (L.take a)) L[a] := by
        rw [List.take_succ_eq_append_getElem hL, mxl_app]
        simp
      rw [e2, e3]
      simp
      split <;> omega
    · rintro e ⟨z, rfl⟩
      simp
      exact ⟨by show _ < 1000000; omega, by omega⟩
  · rintro e ⟨x, y, z, rfl⟩
    simp [hs_tree h]
    exact H
def upF (t : List Sym) (k : Nat) : D → Option D := fun d => match d with | .int j => if k < endT t j.toNat then some d else none | _ => none
theorem up_len (t : List Sym) (k : Nat) : ((rangeD 0 (k + 1)).filterMap (upF t k)).length = cnt t k := by
  unfold cnt rangeD
  induction List.range (k + 1) with
  | nil => rfl
  | cons j l ih =>
    rw [List.map_cons, List.filterMap_cons, List.filter_cons]
    have : upF t k (.int (0 + (j : Int))) = if k < endT t j then some (.int (0 + (j : Int))) else none := by
      show (if k < endT t (0 + (j : Int)).toNat then _ else _) = _
      rw [Int.zero_add, Int.toNat_natCast]
    rw [this]
    by_cases c : k < endT t j
    · rw [if_pos c, if_pos (by simpa using c)]
      simp only [List.length_cons]
      rw [ih]
    · rw [if_neg c, if_neg (by simpa using c)]
      exact ih
theorem lawlevels_law {t : List Sym} (h : TreeT t) (l : t.length ≤ 1000) {K : RF → Prop} (H : K (.ok (.int (mxl ((List.range t.length).map (cnt t)) : Nat)) [treeD t])) : Pv (m__law_levels [treeD t]) K := by
  unfold m__law_levels
  rw [Pv_Fn]
  simp [b__law_levels]
  rw [rng1_ok (by omega)]
  simp
  refine Pv_lcL (fun k acc e => ∃ x : D, e = [treeD t, .gone, x, .gone, .gone] ∧ acc = (List.range k).map fun j => D.int (endT t j : Int)) ⟨.gone, rfl, by simp⟩ ?_ ?_
  · rintro k acc e hk ⟨x, rfl, rfl⟩
    have hk' : k < t.length := by simpa using hk
    simp
    refine far_law h hk' ?_
    simp
    exact ⟨rfl, by show _ < 1000000; omega, by simp [List.range_succ]⟩
  · rintro acc e ⟨x, rfl, rfl⟩
    simp
    rw [rng1_ok (by omega), Pv_some]
    refine Pv_forL (fun k e => ∃ x : D, e = [treeD t, .lst ((List.range t.length).map fun j => D.int (endT t j : Int)), x, .int (mxl ((List.range k).map (cnt t)) : Nat), .gone]) ⟨.gone, rfl⟩ ?_ ?_
    · rintro k e hk ⟨x, rfl⟩
      have hk' : k < t.length := by simpa using hk
      simp
      rw [show ((k : Int) + 1) = ((k + 1 : Nat) : Int) by omega, rng1_ok (by omega)]
      simp
      refine Pv_lcMap (fun d => match d with | .int j => if k < endT t j.toNat then some d else none | _ => none) (by rw [rangeD_len]; show _ ≤ 1000000; omega) (fun d hd => ?_) ?_
      · obtain ⟨j, hj, rfl⟩ := List.mem_map.mp hd
        have hj' : j < t.length := by have := List.mem_range.mp hj; omega
        simp [Pv_atI, hj']
        split
        · exact ⟨rfl, by assumption⟩
        · exact ⟨rfl, by omega⟩
      · have e1 := up_len t k
        unfold upF at e1
        have e2 : mxl ((List.range (k + 1)).map (cnt t)) = max (mxl ((List.range k).map (cnt t))) (cnt t k) := by
          rw [List.range_succ, List.map_append, mxl_app]
          simp
        simp
        rw [e1, e2]
        split <;> omega
    · rintro e ⟨x, rfl⟩
      simp
      exact H
end TH
set_option maxHeartbeats 4000000
/-! T9 (k13): all pieces, all symbols. -/
namespace TH
open PySem PySem.Spec PyProof.Rows L2 DL DLS
structure GR (al : List Sym) (rows : TL) : Prop where
  row : ∀ r ∈ rows, Row al r ∧ r.length ≤ 60
  sum : (rows.flatMap pcs).length < 300
theorem GR.tr {al : List Sym} {rows : TL} (g : GR al rows) {r : List Sym} (h : r ∈ rows) : TreeT r := (g.row r h).1.tr
theorem pcs_row {al t p : List Sym} (h : Row al t) (hp : p ∈ pcs t) : Row al p ∧ p.length ≤ t.length := by
  obtain ⟨k, hk, rfl⟩ := List.mem_map.mp hp
  exact ⟨pc_row h (List.mem_range.mp hk), pc_le t k⟩
theorem GR.pc {al : List Sym} {rows : TL} (g : GR al rows) {p : List Sym} (h : p ∈ rows.flatMap pcs) : Row al p ∧ p.length ≤ 60 := by
  obtain ⟨r, hr, hp⟩ := List.mem_flatMap.mp h
  obtain ⟨a, b⟩ := g.row r hr
  obtain ⟨c, d⟩ := pcs_row a hp
  exact ⟨c, by omega⟩
theorem pcs_take_succ {t : List Sym} {j : Nat} (hj : j < t.length) : (pcs t).take (j + 1) = (pcs t).take j ++ [pcT t j] := by
  have h : j < (pcs t).length := by rw [pcs_len]; exact hj
  rw [List.take_succ_eq_append_getElem h]
  simp [pcs]
theorem flat_take_succ {rows : TL} {k : Nat} (hk : k < rows.length) : (rows.take (k + 1)).flatMap pcs = (rows.take k).flatMap pcs ++ pcs rows[k] := by
  rw [List.take_succ_eq_append_getElem hk, List.flatMap_append]
  simp
theorem bits_law {al : List Sym} {rows : TL} (ga : GT al) (g : GR al rows) {K : RF → Prop} (H : ∀ L, IsS L (rows.flatMap pcs) → K (.ok (.tup (L.map treeD)) [treesD rows])) : Pv (m__law_bits [treesD rows]) K := by
  unfold m__law_bits
  rw [Pv_Fn]
  simp [b__law_bits]
  refine Pv_forVL (l := rows.map treeD) (fun k e => ∃ (O : TL) (x y z : D), e = [treesD rows, treesD O, x, y, z] ∧ O.Nodup ∧ (∀ t, t ∈ O ↔ t ∈ (rows.take k).flatMap pcs)) ?_ ?_ ?_ ?_
  · rintro k e ⟨O, x, y, z, rfl, _⟩
    rfl
  · exact ⟨[], .gone, .gone, .gone, by simp⟩
  · rintro k e hk ⟨O, x, y, z, rfl, nd, hm⟩
    have hk' : k < rows.length := by simpa using hk
    obtain ⟨rr, rl⟩ := g.row _ (List.getElem_mem hk')
    simp
    rw [rng1_ok (by omega), Pv_some]
    refine Pv_forL (fun j e => ∃ (O : TL) (y z : D), e = [treesD rows, treesD O, treeD rows[k], y, z] ∧ O.Nodup ∧ (∀ t, t ∈ O ↔ t ∈ (rows.take k).flatMap pcs ∨ t ∈ (pcs rows[k]).take j)) ⟨O, y, z, rfl, nd, fun t => by simp [hm t]⟩ ?_ ?_
    · rintro j e hj ⟨O, y, z, rfl, nd, hm⟩
      have hj' : j < rows[k].length := by simpa using hj
      simp
      refine far_law rr.tr hj' ?_
      simp [cut_pc hj']
      have pr := pc_row rr hj'
      have pg := pr.gt ga
      have inP : ∀ t, t ∈ O → t ∈ rows.flatMap pcs := fun t ht => by
        rcases (hm t).mp ht with h | h
        · obtain ⟨r, hr, hp⟩ := List.mem_flatMap.mp h
          exact List.mem_flatMap.mpr ⟨r, List.mem_of_mem_take hr, hp⟩
        · exact List.mem_flatMap.mpr ⟨_, List.getElem_mem hk', List.mem_of_mem_take h⟩
      have gO : ∀ t ∈ O, GT t := fun t ht => (g.pc (inP t ht)).1.gt ga
      have lO : O.length ≤ (rows.flatMap pcs).length := nodup_len nd inP
      have sum := g.sum
      have dn := dIn_trees pg gO
      simp only [treeD] at dn
      have step := pcs_take_succ hj'
      simp [dn]
      have hm' : ∀ t, t ∈ O ↔ (∃ a, a ∈ rows.take k ∧ t ∈ pcs a) ∨ t ∈ (pcs rows[k]).take j := fun t => by rw [hm t, List.mem_flatMap]
      rw [step]
      split
      · rename_i hin
        refine ⟨O, rfl, nd, fun t => ?_⟩
        rw [List.mem_append, List.mem_singleton, ← or_assoc, ← hm']
        exact ⟨.inl, fun z => z.elim id fun e => e ▸ hin⟩
      · rename_i hin
        refine ⟨by show _ < 1000000; omega, O ++ [pcT rows[k] j], by simp, ?_, fun t => ?_⟩
        · rw [List.nodup_append]
          exact ⟨nd, by simp, fun a ha b hb e => by rw [List.mem_singleton.mp hb] at e; rw [e] at ha; exact hin ha⟩
        · rw [List.mem_append, List.mem_append, List.mem_singleton, ← or_assoc, ← hm']
    · rintro e ⟨O, y, z, rfl, nd, hm⟩
      simp
      refine ⟨O, rfl, nd, fun t => ?_⟩
      have z : t ∈ (rows.take (k + 1)).flatMap pcs ↔ t ∈ (rows.take k).flatMap pcs ∨ t ∈ pcs rows[k] := by rw [flat_take_succ hk', List.mem_append]
      rw [List.mem_flatMap] at z
      rw [z, hm t, rangeD_len, List.take_of_length_le (l := pcs rows[k]) (by rw [pcs_len]; exact Nat.le_refl _)]
  · rintro e ⟨O, x, y, z, rfl, nd, hm⟩
    simp at hm
    simp
    have inP : ∀ t, t ∈ O ↔ t ∈ rows.flatMap pcs := fun t => by rw [hm t, List.mem_flatMap]
    have lO : O.length ≤ (rows.flatMap pcs).length := nodup_len nd fun t ht => (inP t).mp ht
    have sum := g.sum
    rw [dSortLam_trees (fun t ht => by have := (g.pc ((inP t).mp ht)).2; show _ ≤ 1000000; omega) (by show _ ≤ 1000000; omega)]
    simp
    have hS := isS_sort nd
    exact H _ ⟨hS.pw, fun t => by rw [hS.mem, inP]⟩
/-! ### pieces_of -/
theorem pairs_len (l : List D) : (pairsE l).length = l.length := pairsE_len l
theorem pairs_at {t : List Sym} {i : Nat} (h : i < (pairsE ((endsT t).map D.int)).length) : (pairsE ((endsT t).map D.int))[i] = .tup [.int (i : Nat), .int (endT t i : Nat)] := by
  have hi : i < ((endsT t).map D.int).length := by rw [← pairsE_len]; exact h
  have e : ((endsT t).map D.int)[i]? = some (.int (endT t i : Nat)) := by
    have : i < t.length := by simpa [endsT] using hi
    simp [endsT, this]
  have z := pairsE_get e
  rw [List.getElem?_eq_getElem h] at z
  exact Option.some.inj z
theorem ends_len (t : List Sym) : (endsT t).length = t.length := by unfold endsT; simp
def accP (rows : TL) (r : List Sym) (k j : Nat) : TL := (rows.take k).flatMap pcs ++ (pcs r).take j
theorem accP_len (rows : TL) (r : List Sym) (k : Nat) {j : Nat} (h : j < r.length) : (accP rows r k j).length < ((rows.take k).flatMap pcs).length + r.length := by
  unfold accP
  rw [List.length_append, List.length_take, pcs_len]
  omega
theorem accP_succ (rows : TL) {r : List Sym} (k : Nat) {j : Nat} (h : j < r.length) : accP rows r k (j + 1) = accP rows r k j ++ [pcT r j] := by
  unfold accP
  rw [pcs_take_succ h, List.append_assoc]
theorem pieces_law {al : List Sym} {rows : TL} (ga : GT al) (g : GR al rows) {K : RF → Prop} (H : ∀ L, IsS L (rows.flatMap pcs) → K (.ok (.tup (L.map treeD)) [.tup (rows.map treeD)])) : Pv (m_pieces_of [.tup (rows.map treeD)]) K := by
  unfold m_pieces_of
  rw [Pv_Fn]
  simp [b_pieces_of]
  rw [Pv_forVT (l := rows.map treeD) rfl]
  refine ⟨trees_pers rows, ?_⟩
  have sum := g.sum
  refine Pv_forL (fun k e => ∃ (x y z : D), e = [.tup (rows.map treeD), treesD ((rows.take k).flatMap pcs), x, y, z]) ⟨.gone, .gone, .gone, by simp⟩ ?_ ?_
  · rintro k e hk ⟨x, y, z, rfl⟩
    have hk' : k < rows.length := by simpa using hk
    obtain ⟨rr, rl⟩ := g.row _ (List.getElem_mem hk')
    simp
    refine ends_law rr.tr (by omega) ?_
    simp
    have pl : ((rows.take (k + 1)).flatMap pcs).length ≤ (rows.flatMap pcs).length := by
      have e : (rows.flatMap pcs).length = ((rows.take (k + 1)).flatMap pcs).length + ((rows.drop (k + 1)).flatMap pcs).length := by rw [← List.length_append, ← List.flatMap_append, List.take_append_drop]
      omega
    rw [flat_take_succ hk', List.length_append, pcs_len] at pl
    refine Pv_forL (fun j e => ∃ (y z : D), e = [.tup (rows.map treeD), treesD (accP rows rows[k] k j), treeD rows[k], y, z]) ⟨y, z, by simp [accP]⟩ ?_ ?_
    · rintro j e hj ⟨y, z, rfl⟩
      have hj' : j < rows[k].length := by
        rw [pairsE_len] at hj
        simpa [endsT] using hj
      rw [pairs_at]
      have al := accP_len rows rows[k] k hj'
      have e1 := accP_succ rows k hj'
      simp [cut_pc hj', e1]
      show _ < 1000000
      omega
    · rintro e ⟨y, z, rfl⟩
      have e2 : accP rows rows[k] k (pairsE ((endsT rows[k]).map D.int)).length = (rows.take (k + 1)).flatMap pcs := by
        unfold accP
        rw [pairsE_len, List.length_map, ends_len, List.take_of_length_le (l := pcs rows[k]) (by rw [pcs_len]; exact Nat.le_refl _), flat_take_succ hk']
      rw [e2]
      simp
  · rintro e ⟨x, y, z, rfl⟩
    simp
    refine order_promise (ys := rows.flatMap pcs) (fun t ht e => ?_) (fun t ht => ht) sum fun L hL _ => ?_
    · have := tree_pos (g.pc ht).1.tr
      rw [e] at this
      cases this
    · simp
      exact H L hL
end TH
set_option maxHeartbeats 4000000
/-! T10 (k13): all symbols; the functions on nodes. -/
namespace TH
open PySem PySem.Spec PyProof.Rows L2 DL DLS
open PySem.W (dataLe dataLt alike alikeAll keyToks keyToksAll)
theorem keyAll_syms (ss : List Sym) : keyAll (ss.map symD) = some (ss.map symK) := by
  have e : ss.map symD = unKs (ss.map symK) := by
    rw [unKs_map, List.map_map]
    exact List.map_congr_left fun s _ => (un_symK s).symm
  rw [e, keyAll_un]
theorem fitK_syms (ss : List Sym) : FitK (ss.map symK) where
  al := fun k hk k' hk' => by
    obtain ⟨a, _, rfl⟩ := List.mem_map.mp hk
    obtain ⟨b, _, rfl⟩ := List.mem_map.mp hk'
    rw [data_symK, data_symK]
    exact alike_sym a b
  tup := fun k hk => by
    obtain ⟨a, _, rfl⟩ := List.mem_map.mp hk
    exact ⟨_, _, rfl⟩
  d1 := fun k hk => by
    obtain ⟨a, _, rfl⟩ := List.mem_map.mp hk
    rw [kdepth_sym]
    decide
  d2 := fun k hk => by
    obtain ⟨a, _, rfl⟩ := List.mem_map.mp hk
    rw [data_symK, depth_sym]
    decide
theorem fewD_syms {ss al : List Sym} (h : Sub ss al) (hl : al.length < 300) : FewD (ss.map symK) := fun l nd hk => by
  have sub : ∀ k ∈ l, k ∈ al.map symK := fun k hk' => by
    obtain ⟨a, ha, rfl⟩ := List.mem_map.mp (hk k hk')
    exact List.mem_map.mpr ⟨a, h a ha, rfl⟩
  have := nodup_len nd sub
  rw [List.length_map] at this
  omega
theorem sorted_syms {ss al : List Sym} (h : Sub ss al) : ∃ M : List Sym, (sortK (ss.map symK)).map unK = M.map symD ∧ Sub M al ∧ M.length ≤ al.length := by
  have hmem : ∀ k ∈ sortK (ss.map symK), k ∈ ss.map symK := fun k hk => by
    unfold sortK at hk
    exact onceK_mem.mp ((List.mergeSort_perm _ _).mem_iff.mp hk)
  have hnd : (sortK (ss.map symK)).Nodup := by
    unfold sortK
    exact (List.mergeSort_perm _ _).nodup_iff.mpr (onceK_nodup _)
  obtain ⟨M, eM⟩ := map_ex (f := symK) (ks := sortK (ss.map symK)) fun k hk => by
    obtain ⟨a, _, e⟩ := List.mem_map.mp (hmem k hk)
    exact ⟨a, e.symm⟩
  have hin : ∀ k ∈ M.map symK, k ∈ al.map symK := fun k hk => by
    rw [← eM] at hk
    obtain ⟨a, ha, rfl⟩ := List.mem_map.mp (hmem k hk)
    exact List.mem_map.mpr ⟨a, h a ha, rfl⟩
  have inj : ∀ {a b : Sym}, symK a = symK b → a = b := fun {a b} e => by
    have z := congrArg unK e
    rw [un_symK, un_symK] at z
    unfold symD at z
    injection z with z
    injection z with z1 z2
    injection z1 with z1
    injection z2 with z2
    injection z2 with z2
    cases a
    cases b
    simp only at z1 z2
    have : _ = _ := Int.ofNat.inj z2
    rw [z1, this]
  refine ⟨M, ?_, fun s hs => ?_, ?_⟩
  · rw [eM, List.map_map]
    exact List.map_congr_left fun s _ => un_symK s
  · obtain ⟨a, ha, e⟩ := List.mem_map.mp (hin _ (List.mem_map.mpr ⟨s, hs, rfl⟩))
    rw [← inj e]
    exact ha
  · rw [eM] at hnd
    have := nodup_len hnd hin
    simpa using this
theorem flatD_trees (rows : TL) : flatD (rows.map treeD) = some (rows.map fun t => t.map symK) := by
  induction rows with
  | nil => rfl
  | cons t rows ih =>
    rw [List.map_cons, flatD, ih, keyAll_syms]
    rfl
theorem symbols_law {rows : TL} {al M : List Sym} (h : Sub rows.flatten al) (hl : al.length < 300) (e : (sortK (rows.flatten.map symK)).map unK = M.map symD) {K : RF → Prop} (H : K (.ok (.tup (M.map symD)) [.tup (rows.map treeD)])) : Pv (m_symbols_of [.tup (rows.map treeD)]) K := by
  unfold m_symbols_of
  rw [Pv_Fn]
  have e1 : dSortSet2 (.tup (rows.map treeD)) = some (.lst (M.map symD)) := by
    unfold dSortSet2
    simp only [flatD_trees]
    have ef : (rows.map fun t => t.map symK).flatten = rows.flatten.map symK := by rw [List.map_flatten]
    rw [ef, if_pos ⟨fitK_syms _, fewD_syms h hl⟩, e]
  simp [b_symbols_of]
  rw [e1, Pv_some]
  simp
  exact H
theorem lawsymbols_law {rows : TL} {al M : List Sym} (h : Sub rows.flatten al) (hl : al.length < 300) (hn : rows.flatten.length ≤ 1000) (e : (sortK (rows.flatten.map symK)).map unK = M.map symD) {K : RF → Prop} (H : K (.ok (.tup (M.map symD)) [treesD rows])) : Pv (m__law_symbols [treesD rows]) K := by
  unfold m__law_symbols
  rw [Pv_Fn]
  have e1 : dSortSetL (.lst (rows.flatten.map symD)) = some (.lst (M.map symD)) := by
    unfold dSortSetL
    simp only [keyAll_syms]
    rw [if_pos ⟨fitK_syms _, fewD_syms h hl⟩, e]
  simp [b__law_symbols]
  refine Pv_forVL (l := rows.map treeD) (fun k e => ∃ (x : D), e = [treesD rows, .lst (((rows.take k).flatten).map symD), x]) ?_ ?_ ?_ ?_
  · rintro k e ⟨x, rfl⟩
    rfl
  · exact ⟨.gone, by simp⟩
  · rintro k e hk ⟨x, rfl⟩
    have hk' : k < rows.length := by simpa using hk
    have e2 : (rows.take (k + 1)).flatten = (rows.take k).flatten ++ rows[k] := by
      rw [List.take_succ_eq_append_getElem hk', List.flatten_append]
      simp
    have e3 : rows.flatten.length = ((rows.take (k + 1)).flatten).length + ((rows.drop (k + 1)).flatten).length := by rw [← List.length_append, ← List.flatten_append, List.take_append_drop]
    rw [e2, List.length_append] at e3
    rw [e2]
    generalize (rows.take k).flatten = acc at e3 ⊢
    simp
    show _ ≤ 1000000
    omega
  · rintro e ⟨x, rfl⟩
    have e4 : (rows.take (rows.map treeD).length).flatten = rows.flatten := by rw [List.length_map, List.take_length]
    rw [e4]
    clear e4
    generalize rows.flatten = ff at e1 ⊢
    simp
    rw [e1]
    simp
    exact H
/-! ### the functions on nodes -/
theorem piece_law {t : List Sym} {k : Nat} (h : TreeT t) (hk : k < t.length) {K : RF → Prop} (H : K (.ok (treeD (pcT t k)) [treeD t, .int k])) : Pv (m_piece_at [treeD t, .int k]) K := by
  unfold m_piece_at
  rw [Pv_Fn]
  simp [b_piece_at]
  refine ask_promise hk ?_
  simp
  refine end_promise h hk ?_
  simp [cut_pc hk]
  exact H
/-- the place of a node -/
abbrev gapD (t : List Sym) (k : Nat) : D := .tup [treeD (t.take k), treeD (t.drop (endT t k))]
theorem place_law {t : List Sym} {k : Nat} (h : TreeT t) (hk : k < t.length) {K : RF → Prop} (H : K (.ok (gapD t k) [treeD t, .int k])) : Pv (m_place_of [treeD t, .int k]) K := by
  unfold m_place_of
  rw [Pv_Fn]
  have le := end_le (Nat.le_of_lt hk)
  simp [b_place_of]
  refine ask_promise hk ?_
  simp [cut_to']
  refine end_promise h hk ?_
  simp
  rw [cut_from (by simpa using le)]
  have e1 : List.take k (t.map symD) = (t.take k).map symD := by simp
  have e2 : List.drop (endT t k) (t.map symD) = (t.drop (endT t k)).map symD := by simp
  rw [e1, e2]
  exact H
theorem put_law {a p b : List Sym} (gp : GT p) (tp : TreeT p) (la : a.length ≤ 1000) (lp : p.length ≤ 1000) (lb : b.length ≤ 1000) {K : RF → Prop} (H : K (.ok (treeD (a ++ p ++ b)) [.tup [treeD a, treeD b], treeD p])) : Pv (m_put_at [.tup [treeD a, treeD b], treeD p]) K := by
  unfold m_put_at
  rw [Pv_Fn]
  simp [b_put_at]
  refine tree_promise (treeD_odd gp) ?_
  rw [isRow_yes gp tp]
  simp
  refine ⟨by show _ ≤ 1000000; omega, by show _ ≤ 1000000; omega, ?_⟩
  simpa [treeD] using H
/-! ### refusals -/
def isNode (n : Nat) : D → Bool
  | .int i => decide (0 ≤ i ∧ i < n)
  | _ => false
abbrev notUsable (w : String) : Ex := ⟨"NotUsable", ["at", "word"], [.int (-1), .str w]⟩
theorem ask_raises {t : List Sym} {d : D} (hd : d.odd = true) (hn : isNode t.length d = false) {K : RF → Prop} (H : K (.ex (notUsable "node") [treeD t, d])) : Pv (m_a_ask_node [treeD t, d]) K := by
  unfold m_a_ask_node
  rw [Pv_Fn]
  have pd := odd_pers d hd
  simp [b_a_ask_node, slot_pers pd, pd]
  cases d <;> simp [D.odd] at hd ⊢
  all_goals first
    | exact H
    | skip
  rename_i i
  simp [isNode] at hn
  by_cases h0 : 0 ≤ i
  · rw [if_pos h0, if_neg (by have := hn h0; omega)]
    exact H
  · rw [if_neg h0]
    exact H
theorem piece_raises {t : List Sym} {d : D} (hd : d.odd = true) (hn : isNode t.length d = false) {K : RF → Prop} (H : K (.ex (notUsable "node") [treeD t, d])) : Pv (m_piece_at [treeD t, d]) K := by
  unfold m_piece_at
  rw [Pv_Fn]
  have pd := odd_pers d hd
  simp [b_piece_at, slot_pers pd, pd]
  refine ask_raises hd hn ?_
  simp [gvS_pers pd]
  exact H
theorem place_raises {t : List Sym} {d : D} (hd : d.odd = true) (hn : isNode t.length d = false) {K : RF → Prop} (H : K (.ex (notUsable "node") [treeD t, d])) : Pv (m_place_of [treeD t, d]) K := by
  unfold m_place_of
  rw [Pv_Fn]
  have pd := odd_pers d hd
  simp [b_place_of, slot_pers pd, pd]
  refine ask_raises hd hn ?_
  simp [gvS_pers pd]
  exact H
theorem with_raises {t : List Sym} {d x : D} (hd : d.odd = true) (hn : isNode t.length d = false) (px : x.pers = true) {K : RF → Prop} (H : K (.ex (notUsable "node") [treeD t, d, x])) : Pv (m_with_piece [treeD t, d, x]) K := by
  unfold m_with_piece
  rw [Pv_Fn]
  have pd := odd_pers d hd
  simp [b_with_piece, slot_pers pd, pd, slot_pers px, px]
  refine ask_raises hd hn ?_
  simp [gvS_pers pd, gvS_pers px]
  exact H
theorem with_raises2 {t : List Sym} {k : Nat} (hk : k < t.length) {d : D} (hd : d.odd = true) (hn : isRowD false d = false) {K : RF → Prop} (H : K (.ex (notUsable "piece") [treeD t, .int k, d])) : Pv (m_with_piece [treeD t, .int k, d]) K := by
  unfold m_with_piece
  rw [Pv_Fn]
  have pd := odd_pers d hd
  simp [b_with_piece, slot_pers pd, pd]
  refine ask_promise hk ?_
  simp [slot_pers pd, pd]
  refine tree_promise hd ?_
  rw [hn]
  simp [gvS_pers pd]
  exact H
theorem put_raises {g d : D} (pg : g.pers = true) (hd : d.odd = true) (hn : isRowD false d = false) {K : RF → Prop} (H : K (.ex (notUsable "piece") [g, d])) : Pv (m_put_at [g, d]) K := by
  unfold m_put_at
  rw [Pv_Fn]
  have pd := odd_pers d hd
  simp [b_put_at, slot_pers pd, pd, slot_pers pg, pg]
  refine tree_promise hd ?_
  rw [hn]
  simp [gvS_pers pd, gvS_pers pg]
  exact H
/-! ### trees of parts -/
def mayB (w : Str) : D → Bool
  | .tup l => decide (l.length ≤ 4) && !(w == "." && decide (0 < l.length)) && l.all (isRowD false)
  | _ => false
theorem may_promise {w : Str} (hw : OkS w) {d : D} (hd : d.odd = true) {K : RF → Prop} (H : K (.ok (.bl (mayB w d)) [.str w, d])) : Pv (m__a_may_follow [.str w, d]) K := by
  unfold m__a_may_follow
  rw [Pv_Fn]
  have pd := odd_pers d hd
  simp [b__a_may_follow, slot_pers pd, pd]
  cases d
  case tup l =>
    have fin : ∀ {P : RF → Prop}, P (.ok (.bl (l.all (isRowD false))) [.str w, .tup l]) → l.length ≤ 4 → Pv (mLcV [2] 1 (setE 2) mYes (mCall m_is_tree [Ag.var 2]) [D.str w, D.tup l, D.gone]) (bindK (fun d => mAnil.bind fun ds => M.pure (d :: ds)) (bindK (fun ds => M.ofO (dAll ds)) (retK (fnK [0, 1] 2 P)))) := fun {P} hP hl4 => by
      rw [Pv_LcVT rfl]
      refine ⟨pd, ?_⟩
      rw [show wipeE [2] [D.str w, D.tup l, D.gone] = some [D.str w, D.tup l, D.gone] from rfl, Pv_some]
      refine Pv_lcL (fun k acc e => (∃ x : D, e = [.str w, .tup l, x]) ∧ acc = ((l.take k).map (isRowD false)).map D.bl) ⟨⟨.gone, rfl⟩, by simp⟩ ?_ ?_
      · rintro k acc e hk ⟨⟨x, rfl⟩, rfl⟩
        have od : l[k].odd = true := (oddAll_iff.mp hd) _ (List.getElem_mem hk)
        have pk := odd_pers _ od
        have e1 : ((l.take (k + 1)).map (isRowD false)).map D.bl = ((l.take k).map (isRowD false)).map D.bl ++ [.bl (isRowD false l[k])] := by
          rw [List.take_succ_eq_append_getElem hk, List.map_append, List.map_append]
          rfl
        have e2 : (((l.take k).map (isRowD false)).map D.bl).length ≤ 4 := by
          rw [List.length_map, List.length_map, List.length_take]
          omega
        rw [e1]
        generalize ((l.take k).map (isRowD false)).map D.bl = ac at e2 ⊢
        simp [pk, slot_pers pk]
        refine tree_promise od ?_
        simp [gvS_pers pk]
        exact ⟨by simp [okSlot_eq, pk], by show _ < 1000000; omega⟩
      · rintro acc e ⟨⟨x, rfl⟩, rfl⟩
        rw [List.take_length]
        have e1 := dAll_bls (bs := l.map (isRowD false))
        generalize (l.map (isRowD false)).map D.bl = ac at e1 ⊢
        simp [restE, e1]
        have e2 : (l.map (isRowD false)).all id = l.all (isRowD false) := by rw [List.all_map]; rfl
        exact hP
    simp [dEq_strs hw shaped_dot]
    unfold mayB at H
    by_cases c1 : 4 < l.length
    · rw [if_pos (by omega)]
      simpa [show ¬ l.length ≤ 4 by omega] using H
    · rw [if_neg (by omega)]
      have c2 : l.length ≤ 4 := by omega
      by_cases c3 : w = "."
      · rw [if_pos c3]
        by_cases c4 : 0 < l.length
        · rw [if_pos c4]
          simpa [c3, c4] using H
        · rw [if_neg c4]
          refine fin ?_ c2
          simpa [c2, c4] using H
      · rw [if_neg c3]
        refine fin ?_ c2
        have c5 : (w == ("." : Str)) = false := by simpa using c3
        rw [c5] at H
        simpa [c2] using H
  all_goals simp [D.odd] at hd ⊢
  all_goals exact H
theorem treeof_raises {w : Str} (hw : OkS w) {d : D} (hd : d.odd = true) (hn : mayB w d = false) {K : RF → Prop} (H : K (.ex (notUsable "parts") [.str w, d])) : Pv (m_tree_of [.str w, d]) K := by
  unfold m_tree_of
  rw [Pv_Fn]
  have pd := odd_pers d hd
  simp [b_tree_of, slot_pers pd, pd]
  refine may_promise hw hd ?_
  rw [hn]
  simp [gvS_pers pd]
  exact H
/-- the tree over these parts -/
def overT (w : Str) (L : TL) : List Sym := ⟨w, L.length⟩ :: L.flatten
theorem mayB_trees {w : Str} {L : TL} (h4 : L.length ≤ 4) (hg : ∀ t ∈ L, GT t ∧ TreeT t) (hw : (w == ".") = false ∨ L = []) : mayB w (.tup (L.map treeD)) = true := by
  show (decide ((L.map treeD).length ≤ 4) && !(w == "." && decide (0 < (L.map treeD).length)) && (L.map treeD).all (isRowD false)) = true
  rw [List.length_map, decide_eq_true h4, Bool.true_and, Bool.and_eq_true, List.all_eq_true]
  refine ⟨?_, fun d hd => ?_⟩
  · rcases hw with h | h
    · rw [h]; rfl
    · subst h; simp
  · obtain ⟨t, ht, rfl⟩ := List.mem_map.mp hd
    exact isRow_yes (hg t ht).1 (hg t ht).2
theorem treesD_odd {L : TL} (hg : ∀ t ∈ L, GT t) : (D.tup (L.map treeD)).odd = true := by
  rw [odd_tup, oddAll_iff]
  intro d hd
  obtain ⟨t, ht, rfl⟩ := List.mem_map.mp hd
  exact treeD_odd (hg t ht)
theorem treeof_law {w : Str} (ow : OkS w) {L : TL} (h4 : L.length ≤ 4) (hg : ∀ t ∈ L, GT t ∧ TreeT t) (hw : (w == ".") = false ∨ L = []) (hl : L.flatten.length ≤ 1000) {K : RF → Prop} (H : K (.ok (treeD (overT w L)) [.str w, .tup (L.map treeD)])) : Pv (m_tree_of [.str w, .tup (L.map treeD)]) K := by
  unfold m_tree_of
  rw [Pv_Fn]
  simp [b_tree_of]
  refine may_promise ow (treesD_odd fun t ht => (hg t ht).1) ?_
  rw [mayB_trees h4 hg hw]
  simp
  rw [Pv_forVT (l := L.map treeD) rfl]
  refine ⟨trees_pers L, ?_⟩
  refine Pv_forL (fun k e => ∃ x : D, e = [.str w, .tup (L.map treeD), .lst ((⟨w, L.length⟩ :: (L.take k).flatten : List Sym).map symD), x]) ⟨.gone, by simp [symD]⟩ ?_ ?_
  · rintro k e hk ⟨x, rfl⟩
    have hk' : k < L.length := by simpa using hk
    have e2 : (L.take (k + 1)).flatten = (L.take k).flatten ++ L[k] := by
      rw [List.take_succ_eq_append_getElem hk', List.flatten_append]
      simp
    have e3 : L.flatten.length = ((L.take (k + 1)).flatten).length + ((L.drop (k + 1)).flatten).length := by rw [← List.length_append, ← List.flatten_append, List.take_append_drop]
    rw [e2, List.length_append] at e3
    rw [e2]
    generalize (L.take k).flatten = acc at e3 ⊢
    simp
    show _ ≤ 1000000
    omega
  · rintro e ⟨x, rfl⟩
    have e4 : (L.take (L.map treeD).length).flatten = L.flatten := by rw [List.length_map, List.take_length]
    rw [e4]
    have H' := H
    unfold overT at H'
    generalize L.flatten = ff at H' ⊢
    simp
    exact H'
end TH
set_option maxHeartbeats 4000000
/-! T11 (k13): parts there and back; asked and refused. -/
namespace TH
open PySem PySem.Spec PyProof.Rows L2 DL DLS
theorem limbsF_at : ∀ (L : TL) (p : List Sym) (f : Nat), (∀ q ∈ L, TreeT q) → L.length ≤ f → limbsF (p ++ L.flatten) f p.length = L
  | [], p, f, _, _ => by
    cases f with
    | zero => rfl
    | succ f =>
      rw [limbsF, if_neg (by simp)]
  | q :: L, p, 0, _, h => by simp at h
  | q :: L, p, f + 1, hq, h => by
    have tq := hq q List.mem_cons_self
    have pos := tree_pos tq
    have hd : (p ++ (q :: L).flatten).drop p.length = q ++ L.flatten := by simp
    have hp : pcT (p ++ (q :: L).flatten) p.length = q := by
      unfold pcT
      rw [hd, far_of _ tq]
      exact List.take_left' rfl
    have he : endT (p ++ (q :: L).flatten) p.length = (p ++ q).length := by
      rw [end_eq, hp, List.length_append]
    rw [limbsF, if_pos (by simp; omega), hp, he]
    have ih := limbsF_at L (p ++ q) f (fun x hx => hq x (List.mem_cons_of_mem _ hx)) (by simpa using h)
    rw [List.append_assoc] at ih
    rw [List.flatten_cons, ih]
theorem flat_len : ∀ {L : TL}, (∀ q ∈ L, TreeT q) → L.length ≤ L.flatten.length
  | [], _ => Nat.le_refl _
  | q :: L, h => by
    have := tree_pos (h q List.mem_cons_self)
    have := flat_len fun x hx => h x (List.mem_cons_of_mem q hx)
    rw [List.flatten_cons, List.length_append, List.length_cons]
    omega
theorem limbs_over {s : Sym} {L : TL} (h : ∀ q ∈ L, TreeT q) : limbsT (s :: L.flatten) = L := by
  have := limbsF_at L [s] (s :: L.flatten).length h (by have := flat_len h; rw [List.length_cons]; omega)
  exact this
theorem run_parts : ∀ (n : Nat) (r : List Sym), runT n r = some 0 → ∃ L : TL, r = L.flatten ∧ L.length = n ∧ ∀ q ∈ L, TreeT q
  | 0, r, h => by
    cases r with
    | nil => exact ⟨[], rfl, rfl, fun q hq => by cases hq⟩
    | cons s r => cases h
  | n + 1, r, h => by
    obtain ⟨p, r', e, h1, h2⟩ := run_cut (a := 1) (n := n) (q := r) (m := 0) (by rw [Nat.add_comm]; exact h) (Nat.zero_le _)
    obtain ⟨L, e2, l2, t2⟩ := run_parts n r' h2
    refine ⟨p :: L, by rw [e, e2]; rfl, by rw [List.length_cons, l2], fun q hq => ?_⟩
    rcases List.mem_cons.mp hq with rfl | hq
    · exact h1
    · exact t2 q hq
theorem sym_few {s : Sym} (h : GS s) : s.n ≤ 4 ∧ ((s.w == ".") = false ∨ s.n = 0) := by
  have z : (isWordB s.w && decide (0 ≤ (s.n : Int) ∧ (s.n : Int) ≤ 4) && ((s.n : Int) == 0 || !(s.w == "."))) = true := h.sy
  simp only [Bool.and_eq_true, decide_eq_true_eq, Bool.or_eq_true, Bool.not_eq_true', beq_iff_eq] at z
  refine ⟨by omega, z.2.elim (fun e => .inr (by omega)) .inl⟩
/-- a tree is over its limbs -/
theorem over_limbs {t : List Sym} (g : GT t) (h : TreeT t) : ∃ s r, t = s :: r ∧ overT s.w (limbsT t) = t ∧ (limbsT t).length ≤ 4 ∧ (∀ q ∈ limbsT t, GT q ∧ TreeT q) ∧ ((s.w == ".") = false ∨ limbsT t = []) ∧ (limbsT t).flatten.length ≤ t.length := by
  cases t with
  | nil => rw [show TreeT [] = (runT 1 [] = some 0) from rfl, run_nil] at h; cases h
  | cons s r =>
    have h' : runT s.n r = some 0 := by
      have z : runT (0 + 1) (s :: r) = some 0 := h
      rw [runT, Nat.zero_add] at z
      exact z
    obtain ⟨L, e, l, tl⟩ := run_parts s.n r h'
    subst e
    have eL := limbs_over (s := s) tl
    have few := sym_few (g s List.mem_cons_self)
    refine ⟨s, _, rfl, ?_, by rw [eL, l]; exact few.1, fun q hq => ?_, ?_, by rw [eL, List.length_cons]; omega⟩
    · rw [eL]
      unfold overT
      rw [l]
    · rw [eL] at hq
      refine ⟨fun x hx => g x (List.mem_cons_of_mem _ (List.mem_flatten.mpr ⟨q, hq, hx⟩)), tl q hq⟩
    · rw [eL]
      refine few.2.imp id fun z => ?_
      rw [z] at l
      exact List.eq_nil_of_length_eq_zero l
theorem over_tree {w : Str} {L : TL} (h : ∀ q ∈ L, TreeT q) : TreeT (overT w L) := by
  have go : ∀ L : TL, (∀ q ∈ L, TreeT q) → runT L.length L.flatten = some 0 := by
    intro L
    induction L with
    | nil => intro _; rfl
    | cons q L ih =>
      intro h
      have a := run_more (k := L.length) (h q List.mem_cons_self)
      rw [List.length_cons, Nat.add_comm, List.flatten_cons, run_app, a]
      show runT (0 + L.length) _ = _
      rw [Nat.zero_add]
      exact ih fun x hx => h x (List.mem_cons_of_mem _ hx)
  show runT (0 + 1) (_ :: _) = some 0
  rw [runT, Nat.zero_add]
  exact go L h
/-! ### asked and refused -/
abbrev badD (w : String) : D := .tup [.str "raised", .bl true, .str w, .int (-1)]
theorem bad_law {w : Str} {K : RF → Prop} (H : K (.ok (.tup [.str "raised", .bl true, .str w, .int (-1)]) [.str w])) : Pv (m__law_bad [.str w]) K := by
  unfold m__law_bad
  rw [Pv_Fn]
  simp [b__law_bad]
  exact H
theorem asks0 {t : List Sym} {d : D} (hd : d.odd = true) (hn : isNode t.length d = false) {K : RF → Prop} (H : K (.ok (badD "node") [.int 0, treeD t, d, .non])) : Pv (m__law_asks [.int 0, treeD t, d, .non]) K := by
  unfold m__law_asks
  rw [Pv_Fn]
  have pd := odd_pers d hd
  simp [b__law_asks, slot_pers pd, pd]
  refine piece_raises hd hn ?_
  simp [gvS_pers pd]
  rw [Pv_hdYes (by rfl)]
  have nx : d.nox = true := nox_pers pd
  have nt : noxAll (t.map symD) = true := noxAll_pers (syms_pers t)
  refine ⟨by simp [nx, nt], ?_⟩
  simp
  have n1 : ¬ Str.ofString "word" = Str.ofString "at" := by decide +kernel
  rw [Pv_IsX rfl, Pv_Xf rfl]
  simp only [fldOf, n1, if_false, if_true]
  rw [Pv_some, Pv_Xf rfl]
  simp [fldOf, nx, nt]
  exact H
theorem asks1 {t : List Sym} {d x : D} (hd : d.odd = true) (hn : isNode t.length d = false) (px : x.pers = true) {K : RF → Prop} (H : K (.ok (badD "node") [.int 1, treeD t, d, x])) : Pv (m__law_asks [.int 1, treeD t, d, x]) K := by
  unfold m__law_asks
  rw [Pv_Fn]
  have pd := odd_pers d hd
  simp [b__law_asks, slot_pers pd, pd, slot_pers px, px]
  refine with_raises hd hn px ?_
  simp [gvS_pers pd, gvS_pers px]
  rw [Pv_hdYes (by rfl)]
  have nx : d.nox = true := nox_pers pd
  have ny : x.nox = true := nox_pers px
  have nt : noxAll (t.map symD) = true := noxAll_pers (syms_pers t)
  refine ⟨by simp [nx, ny, nt], ?_⟩
  simp
  have n1 : ¬ Str.ofString "word" = Str.ofString "at" := by decide +kernel
  rw [Pv_IsX rfl, Pv_Xf rfl]
  simp only [fldOf, n1, if_false, if_true]
  rw [Pv_some, Pv_Xf rfl]
  simp [fldOf, nx, ny, nt]
  exact H
theorem asks2 {t : List Sym} {d : D} (hd : d.odd = true) (hn : isNode t.length d = false) {K : RF → Prop} (H : K (.ok (badD "node") [.int 2, treeD t, d, .non])) : Pv (m__law_asks [.int 2, treeD t, d, .non]) K := by
  unfold m__law_asks
  rw [Pv_Fn]
  have pd := odd_pers d hd
  simp [b__law_asks, slot_pers pd, pd]
  refine place_raises hd hn ?_
  simp [gvS_pers pd]
  rw [Pv_hdYes (by rfl)]
  have nx : d.nox = true := nox_pers pd
  have nt : noxAll (t.map symD) = true := noxAll_pers (syms_pers t)
  refine ⟨by simp [nx, nt], ?_⟩
  simp
  have n1 : ¬ Str.ofString "word" = Str.ofString "at" := by decide +kernel
  rw [Pv_IsX rfl, Pv_Xf rfl]
  simp only [fldOf, n1, if_false, if_true]
  rw [Pv_some, Pv_Xf rfl]
  simp [fldOf, nx, nt]
  exact H
theorem asks1p {t : List Sym} {k : Nat} (hk : k < t.length) {d : D} (hd : d.odd = true) (hn : isRowD false d = false) {K : RF → Prop} (H : K (.ok (badD "piece") [.int 1, treeD t, .int k, d])) : Pv (m__law_asks [.int 1, treeD t, .int k, d]) K := by
  unfold m__law_asks
  rw [Pv_Fn]
  have pd := odd_pers d hd
  simp [b__law_asks, slot_pers pd, pd]
  refine with_raises2 hk hd hn ?_
  simp [gvS_pers pd]
  rw [Pv_hdYes (by rfl)]
  have nx : d.nox = true := nox_pers pd
  have nt : noxAll (t.map symD) = true := noxAll_pers (syms_pers t)
  refine ⟨by simp [nx, nt], ?_⟩
  simp
  have n1 : ¬ Str.ofString "word" = Str.ofString "at" := by decide +kernel
  rw [Pv_IsX rfl, Pv_Xf rfl]
  simp only [fldOf, n1, if_false, if_true]
  rw [Pv_some, Pv_Xf rfl]
  simp [fldOf, nx, nt]
  exact H
theorem asks3 {g d : D} (pg : g.pers = true) (hd : d.odd = true) (hn : isRowD false d = false) {K : RF → Prop} (H : K (.ok (badD "piece") [.int 3, g, d, .non])) : Pv (m__law_asks [.int 3, g, d, .non]) K := by
  unfold m__law_asks
  rw [Pv_Fn]
  have pd := odd_pers d hd
  simp [b__law_asks, slot_pers pd, pd, slot_pers pg, pg]
  refine put_raises pg hd hn ?_
  simp [gvS_pers pd, gvS_pers pg]
  rw [Pv_hdYes (by rfl)]
  have nx : d.nox = true := nox_pers pd
  have nt : g.nox = true := nox_pers pg
  refine ⟨by simp [nx, nt], ?_⟩
  simp
  have n1 : ¬ Str.ofString "word" = Str.ofString "at" := by decide +kernel
  rw [Pv_IsX rfl, Pv_Xf rfl]
  simp only [fldOf, n1, if_false, if_true]
  rw [Pv_some, Pv_Xf rfl]
  simp [fldOf, nx, nt]
  exact H
theorem asks4 {w : Str} (hw : OkS w) {d : D} (hd : d.odd = true) (hn : mayB w d = false) {K : RF → Prop} (H : K (.ok (badD "parts") [.int 4, .str w, d, .non])) : Pv (m__law_asks [.int 4, .str w, d, .non]) K := by
  unfold m__law_asks
  rw [Pv_Fn]
  have pd := odd_pers d hd
  simp [b__law_asks, slot_pers pd, pd]
  refine treeof_raises hw hd hn ?_
  simp [gvS_pers pd]
  rw [Pv_hdYes (by rfl)]
  have nx : d.nox = true := nox_pers pd
  refine ⟨by simp [nx], ?_⟩
  simp
  have n1 : ¬ Str.ofString "word" = Str.ofString "at" := by decide +kernel
  rw [Pv_IsX rfl, Pv_Xf rfl]
  simp only [fldOf, n1, if_false, if_true]
  rw [Pv_some, Pv_Xf rfl]
  simp [fldOf, nx]
  exact H
theorem asks4_dot {K : RF → Prop} (H : K (.ok (.tup [.str "told", treeD [⟨".", 0⟩]]) [.int 4, .str ".", .tup [], .non])) : Pv (m__law_asks [.int 4, .str ".", .tup [], .non]) K := by
  unfold m__law_asks
  rw [Pv_Fn]
  simp [b__law_asks]
  refine treeof_law (L := []) shaped_dot (by decide) (fun t ht => by cases ht) (.inr rfl) (by decide) ?_
  simp
  exact H
end TH
set_option maxHeartbeats 4000000
/-! T12 (k13): odd values. -/
namespace TH
open PySem PySem.Spec PyProof.Rows L2 DL DLS
theorem rowB_app {t : List Sym} (h : GT t) {r : List D} : ∀ {n m : Nat}, runT n t = some m → rowB false n (t.map symD ++ r) = rowB false m r := by
  induction t with
  | nil =>
    intro n m e
    rw [run_nil] at e
    cases e
    rfl
  | cons s t ih =>
    intro n m e
    cases n with
    | zero => cases e
    | succ n =>
      have hs : isItem false (symD s) = true := by unfold isItem; rw [(h s List.mem_cons_self).sy]; rfl
      rw [runT] at e
      rw [List.map_cons, List.cons_append, rowB, hs, Bool.true_and, manyD_sym]
      exact ih (fun x hx => h x (List.mem_cons_of_mem _ hx)) e
theorem row_more {t : List Sym} (h : GT t) (ht : TreeT t) {d : D} {r : List D} : isRowD false (.tup (t.map symD ++ d :: r)) = false := by
  show rowB false 1 _ = _
  rw [rowB_app h ht]
  rfl
theorem row_less {t : List Sym} (h : GT t) (ht : TreeT t) : isRowD false (.tup (t.map symD).dropLast) = false := by
  have pos := tree_pos ht
  have e : t = t.dropLast ++ [t.getLast (by intro z; rw [z] at pos; cases pos)] := (List.dropLast_concat_getLast _).symm
  obtain ⟨n, hn⟩ := run_init ht e (by simp)
  have g : GT t.dropLast := fun s hs => h s (List.dropLast_subset _ hs)
  rw [← List.map_dropLast]
  have := rowB_app g (r := []) hn
  rw [List.append_nil] at this
  show rowB false 1 _ = _
  rw [this]
  rfl
theorem row_in {t : List Sym} (h : GT t) : isRowD false (.tup [treeD t]) = false := by
  show rowB false 1 [treeD t] = false
  rw [rowB]
  have : isItem false (treeD t) = false := by
    unfold isItem
    rw [Bool.false_and, Bool.or_false]
    match t with
    | [] => rfl
    | [_] => rfl
    | [_, _] => rfl
    | _ :: _ :: _ :: _ => rfl
  rw [this]
  rfl
theorem row_two {t : List Sym} (h : GT t) (ht : TreeT t) : isRowD false (.tup (t.map symD ++ t.map symD)) = false := by
  have pos := tree_pos ht
  match t, h, ht, pos with
  | s :: r, g, ht, _ => exact row_more (d := symD s) (r := r.map symD) g ht
def oddNodes (n : Nat) : List D := [D.int (-1), D.int ↑n, D.int (↑n + 5), D.bl true, D.bl false, D.non, D.str (Str.ofString "0"), D.tup [D.int 0], D.fz [D.int 0], D.int (-↑n), .int 10000000000000000000000000000000000000000, D.str (Str.ofString ""), D.tup []]
theorem oddnode_law (t : TP) {n : Nat} (h1 : 1 ≤ n) (hn : n ≤ 1000) {K : RF → Prop} (H : ∀ (t' : TP) (d : D), d.odd = true → isNode n d = false → K (.ok d [t'.d, .int n])) : Pv (m__law_odd_node [t.d, .int n]) K := by
  unfold m__law_odd_node
  rw [Pv_Fn]
  simp [b__law_odd_node]
  have e0 : dPow (.int 10) (.int 40) = some (.int 10000000000000000000000000000000000000000) := by rfl
  rw [e0, Pv_some]
  have od : ∀ d ∈ oddNodes n, d.odd = true ∧ isNode n d = false := by
    intro d hd
    unfold oddNodes at hd
    simp only [List.mem_cons, List.not_mem_nil, or_false] at hd
    rcases hd with rfl | rfl | rfl | rfl | rfl | rfl | rfl | rfl | rfl | rfl | rfl | rfl | rfl
    · exact ⟨rfl, rfl⟩
    · exact ⟨rfl, by simp [isNode]⟩
    · exact ⟨rfl, by simp [isNode]; omega⟩
    · exact ⟨rfl, rfl⟩
    · exact ⟨rfl, rfl⟩
    · exact ⟨rfl, rfl⟩
    · exact ⟨by decide +kernel, rfl⟩
    · exact ⟨rfl, rfl⟩
    · exact ⟨rfl, rfl⟩
    · exact ⟨rfl, by simp [isNode]; omega⟩
    · exact ⟨rfl, by simp [isNode]; omega⟩
    · exact ⟨by decide +kernel, rfl⟩
    · exact ⟨rfl, rfl⟩
  have le : (oddNodes n).length = 13 := rfl
  show Pv (m__law_pick [t.d, D.int 13]) (backK [AV.var 0, AV.val (D.int 13)] [D.gone, D.int ↑n, D.lst (oddNodes n)] (ixK 2 (retK (fnK [0, 1] 2 K))))
  generalize oddNodes n = odds at od le ⊢
  refine pick_law t (by decide) (by decide) fun t1 a ha => ?_
  have ha' : a < odds.length := by omega
  obtain ⟨q1, q2⟩ := od _ (List.getElem_mem ha')
  have q3 := odd_pers _ q1
  simp [Pv_atI, ha', q3]
  exact H t1 _ q1 q2
def oddBits (tall : List Sym) : List D := [D.non, D.tup [], D.fz (List.map symD tall), D.tup (List.map symD tall ++ List.map symD tall), D.tup (List.map symD tall).dropLast, D.tup [D.tup [D.str (Str.ofString "?"), D.int 0]], D.tup [D.str (Str.ofString "a"), D.int 0], D.tup [D.tup [D.str (Str.ofString "_"), D.int 0]], D.bl true, D.str (Str.ofString "a"), D.tup [D.tup [D.str (Str.ofString "a"), D.bl false]], D.int 0, D.tup [D.tup (List.map symD tall)], D.tup (List.map symD tall ++ [D.non]), D.tup [D.tup [D.str (Str.ofString "a"), D.int 0], D.tup [D.str (Str.ofString "a"), D.int 0]], D.tup [D.tup [D.str (Str.ofString "f"), D.int 1], D.tup [D.str (Str.ofString "?"), D.int 0]], D.tup [D.tup [D.str (Str.ofString "."), D.int 1], D.tup [D.str (Str.ofString "a"), D.int 0]]]
theorem oddbit_law (t : TP) {al tall : List Sym} (ga : GT al) (ht : Row al tall) (hl : tall.length ≤ 1000) {K : RF → Prop} (H : ∀ (t' : TP) (d : D), d.odd = true → isRowD false d = false → K (.ok d [t'.d, treeD tall])) : Pv (m__law_odd_bit [t.d, treeD tall]) K := by
  unfold m__law_odd_bit
  rw [Pv_Fn]
  have g := ht.gt ga
  simp [b__law_odd_bit, cut_init]
  have pdl : persAll (tall.map symD).dropLast = true := by rw [← List.map_dropLast]; exact syms_pers _
  refine ⟨by show _ ≤ 1000000; omega, by show _ ≤ 1000000; omega, ⟨by decide, pdl⟩, ?_⟩
  have otl : oddAll (tall.map symD) = true := treeD_odd g
  have odl : (D.tup (tall.map symD).dropLast).odd = true := by
    rw [← List.map_dropLast]
    exact treeD_odd fun s hs => g s (List.dropLast_subset _ hs)
  have oapp : ∀ r : List D, oddAll r = true → oddAll (tall.map symD ++ r) = true := fun r hr => by
    rw [oddAll_iff] at *
    intro d hd
    rcases List.mem_append.mp hd with hd | hd
    · exact otl d hd
    · exact hr d hd
  have od : ∀ d ∈ oddBits tall, d.odd = true ∧ isRowD false d = false := by
    intro d hd
    unfold oddBits at hd
    simp only [List.mem_cons, List.not_mem_nil, or_false] at hd
    rcases hd with rfl | rfl | rfl | rfl | rfl | rfl | rfl | rfl | rfl | rfl | rfl | rfl | rfl | rfl | rfl | rfl | rfl
    · exact ⟨rfl, rfl⟩
    · exact ⟨rfl, rfl⟩
    · exact ⟨otl, rfl⟩
    · exact ⟨oapp _ otl, row_two g ht.tr⟩
    · exact ⟨odl, row_less g ht.tr⟩
    · exact ⟨by decide +kernel, by decide +kernel⟩
    · exact ⟨by decide +kernel, by decide +kernel⟩
    · exact ⟨by decide +kernel, by decide +kernel⟩
    · exact ⟨rfl, rfl⟩
    · exact ⟨by decide +kernel, rfl⟩
    · exact ⟨by decide +kernel, by decide +kernel⟩
    · exact ⟨rfl, rfl⟩
    · exact ⟨by simp [otl], row_in g⟩
    · exact ⟨oapp _ rfl, row_more g ht.tr⟩
    · exact ⟨by decide +kernel, by decide +kernel⟩
    · exact ⟨by decide +kernel, by decide +kernel⟩
    · exact ⟨by decide +kernel, by decide +kernel⟩
  have le : (oddBits tall).length = 17 := rfl
  show Pv (m__law_pick [t.d, D.int 17]) (backK [AV.var 0, AV.val (D.int 17)] [D.gone, treeD tall, D.lst (oddBits tall)] (ixK 2 (retK (fnK [0, 1] 2 K))))
  generalize oddBits tall = odds at od le ⊢
  refine pick_law t (by decide) (by decide) fun t1 a ha => ?_
  have ha' : a < odds.length := by omega
  obtain ⟨q1, q2⟩ := od _ (List.getElem_mem ha')
  have q3 := odd_pers _ q1
  simp [Pv_atI, ha', q3]
  exact H t1 _ q1 q2
theorem mayB_mem {w : Str} {l : List D} {d : D} (hd : d ∈ l) (hn : isRowD false d = false) : mayB w (.tup l) = false := by
  have : l.all (isRowD false) = false := by
    rw [List.all_eq_false]
    exact ⟨d, hd, by rw [hn]; decide⟩
  show (_ && l.all (isRowD false)) = false
  rw [this, Bool.and_false]
theorem cut_trees (L : TL) (k : Nat) : DL.cutD (L.map treeD) none (some (k : Int)) = (L.take k).map treeD := by rw [cut_to', List.map_take]
def oddLimbs (tall : List Sym) (L : TL) : List D := [D.fz (L.map treeD), treeD tall, D.tup ((L.take 3).map treeD ++ [D.non]), D.tup [treeD tall, treeD tall, treeD tall, treeD tall, treeD tall], D.tup [D.tup [D.tup [D.str (Str.ofString "?"), D.int 0]]], D.tup [D.tup [treeD tall]], D.non, D.str (Str.ofString "a"), D.bl true, D.int 0, D.tup [D.tup []], D.tup ((L.take 2).map treeD ++ [D.fz (tall.map symD)]), D.tup ((L.take 1).map treeD ++ [D.tup (tall.map symD).dropLast]), D.tup [D.tup [D.tup [D.str (Str.ofString "a"), D.bl false]]], D.tup ((L.take 3).map treeD ++ [D.tup (tall.map symD ++ tall.map symD)]), D.fz []]
theorem oddlimbs_law (t : TP) {al tall : List Sym} {L : TL} (ga : GT al) (ht : Row al tall) (hl : tall.length ≤ 1000) (hL : ∀ q ∈ L, GT q ∧ TreeT q) (h4 : L.length ≤ 4) {K : RF → Prop} (H : ∀ (t' : TP) (d : D), d.odd = true → mayB "f-1" d = false → K (.ok d [t'.d, treeD tall, .tup (L.map treeD)])) : Pv (m__law_odd_limbs [t.d, treeD tall, .tup (L.map treeD)]) K := by
  unfold m__law_odd_limbs
  rw [Pv_Fn]
  have g := ht.gt ga
  have c1 : DL.cutD (L.map treeD) none (some 1) = (L.take 1).map treeD := cut_trees L 1
  have c2 : DL.cutD (L.map treeD) none (some 2) = (L.take 2).map treeD := cut_trees L 2
  have c3 : DL.cutD (L.map treeD) none (some 3) = (L.take 3).map treeD := cut_trees L 3
  have e0 : dMul (D.tup [D.tup (List.map symD tall)]) (D.int 5) = some (D.tup [treeD tall, treeD tall, treeD tall, treeD tall, treeD tall]) := by
    have p : persAll [D.tup (List.map symD tall)] = true := by simp
    unfold dMul
    simp only
    rw [if_pos ⟨by decide, by decide, by simp, by simp, p⟩]
    rfl
  have e1 : frzD (.tup ((L.take 2).map treeD ++ [D.fz (tall.map symD)])) = some (.tup ((L.take 2).map treeD ++ [D.fz (tall.map symD)])) := by
    have p : (D.tup ((L.take 2).map treeD ++ [D.fz (tall.map symD)])).pers = true := by simp
    show (if (D.tup ((L.take 2).map treeD ++ [D.fz (tall.map symD)])).pers = true then some _ else none) = _
    rw [if_pos p]
  simp only [b__law_odd_limbs]
  simp [cut_init, c1, c2, c3, -List.map_take]
  rw [e0, Pv_some, e1, Pv_some]
  have pdl : persAll (tall.map symD).dropLast = true := by rw [← List.map_dropLast]; exact syms_pers _
  have otl : oddAll (tall.map symD) = true := treeD_odd g
  have ott : (treeD tall).odd = true := otl
  have odl : (D.tup (tall.map symD).dropLast).odd = true := by
    rw [← List.map_dropLast]
    exact treeD_odd fun s hs => g s (List.dropLast_subset _ hs)
  have odl' : oddAll (tall.map symD).dropLast = true := odl
  have oL : oddAll (L.map treeD) = true := treesD_odd fun q hq => (hL q hq).1
  have oT : ∀ k, oddAll ((L.take k).map treeD) = true := fun k => treesD_odd fun q hq => (hL q (List.mem_of_mem_take hq)).1
  have oapp : ∀ {l r : List D}, oddAll l = true → oddAll r = true → oddAll (l ++ r) = true := fun {l r} hl hr => by
    rw [oddAll_iff] at *
    intro d hd
    rcases List.mem_append.mp hd with hd | hd
    · exact hl d hd
    · exact hr d hd
  have o2 : oddAll (tall.map symD ++ tall.map symD) = true := oapp otl otl
  refine ⟨by show _ ≤ 1000000; omega, by show _ ≤ 1000000; omega, pdl, ⟨by show _ ≤ 1000000; omega, pdl⟩, by show _ ≤ 1000000; omega, by show _ ≤ 1000000; omega, ⟨by decide, by simp, by simp, pdl⟩, ?_⟩
  have od : ∀ d ∈ oddLimbs tall L, d.odd = true ∧ mayB "f-1" d = false := by
    intro d hd
    unfold oddLimbs at hd
    simp only [List.mem_cons, List.not_mem_nil, or_false] at hd
    rcases hd with rfl | rfl | rfl | rfl | rfl | rfl | rfl | rfl | rfl | rfl | rfl | rfl | rfl | rfl | rfl | rfl
    · exact ⟨oL, rfl⟩
    · have pos := tree_pos ht.tr
      refine ⟨otl, mayB_mem (d := symD tall[0]) (List.mem_map.mpr ⟨_, List.getElem_mem pos, rfl⟩) rfl⟩
    · exact ⟨oapp (oT 3) rfl, mayB_mem (d := .non) (by simp) rfl⟩
    · refine ⟨by simp [otl], ?_⟩
      rfl
    · exact ⟨by decide +kernel, by decide +kernel⟩
    · exact ⟨by simp [otl], mayB_mem (d := .tup [treeD tall]) (by simp) (row_in g)⟩
    · exact ⟨rfl, rfl⟩
    · exact ⟨by decide +kernel, rfl⟩
    · exact ⟨rfl, rfl⟩
    · exact ⟨rfl, rfl⟩
    · exact ⟨rfl, mayB_mem (d := .tup []) (by simp) rfl⟩
    · exact ⟨oapp (oT 2) (by simp [otl]), mayB_mem (d := .fz (tall.map symD)) (by simp) rfl⟩
    · exact ⟨oapp (oT 1) (by simp [odl']), mayB_mem (d := .tup (tall.map symD).dropLast) (by simp) (row_less g ht.tr)⟩
    · exact ⟨by decide +kernel, by decide +kernel⟩
    · exact ⟨oapp (oT 3) (by simp [o2]), mayB_mem (d := .tup (tall.map symD ++ tall.map symD)) (by simp) (row_two g ht.tr)⟩
    · exact ⟨rfl, rfl⟩
  have le : (oddLimbs tall L).length = 16 := rfl
  show Pv (m__law_pick [t.d, D.int 16]) (backK [AV.var 0, AV.val (D.int 16)] [D.gone, treeD tall, D.tup (List.map treeD L), D.lst (oddLimbs tall L)] (ixK 3 (retK (fnK [0, 1, 2] 3 K))))
  generalize oddLimbs tall L = odds at od le ⊢
  refine pick_law t (by decide) (by decide) fun t1 a ha => ?_
  have ha' : a < odds.length := by omega
  obtain ⟨q1, q2⟩ := od _ (List.getElem_mem ha')
  have q3 := odd_pers _ q1
  simp [Pv_atI, ha', q3]
  exact H t1 _ q1 q2
end TH
set_option maxHeartbeats 4000000
/-! T13 (k13): refusals; node by node. -/
namespace TH
open PySem PySem.Spec PyProof.Rows L2 DL DLS
theorem shaped_raised : OkS (Str.ofString "raised") := by decide +kernel
theorem shaped_told : OkS (Str.ofString "told") := by decide +kernel
theorem bad_same {w : Str} (hw : OkS w) {K : RF → Prop} (H : K (.ok (.bl true) [.tup [.str "raised", .bl true, .str w, .int (-1)], .tup [.str "raised", .bl true, .str w, .int (-1)]])) : Pv (m__law_same [.tup [.str "raised", .bl true, .str w, .int (-1)], .tup [.str "raised", .bl true, .str w, .int (-1)]]) K :=
  same_law (by simp; exact ⟨shaped_raised, hw⟩) (by simp) H
theorem ok_node : OkS (Str.ofString "node") := by decide +kernel
theorem ok_piece : OkS (Str.ofString "piece") := by decide +kernel
theorem ok_parts : OkS (Str.ofString "parts") := by decide +kernel
theorem ok_f1 : OkS (Str.ofString "f-1") := by decide +kernel
theorem refusals_law (t : TP) {al tall bit : List Sym} {L : TL} (ga : GT al) (ht : Row al tall) (hl : tall.length ≤ 1000) (hb : GT bit ∧ TreeT bit) (hL : ∀ q ∈ L, GT q ∧ TreeT q) (h4 : L.length ≤ 4) {K : RF → Prop} (H : ∀ t' : TP, K (.ok (.bl true) [t'.d, treeD tall, treeD bit, .tup (L.map treeD)])) :
    Pv (m__law_refusals [t.d, treeD tall, treeD bit, .tup (L.map treeD)]) K := by
  unfold m__law_refusals
  rw [Pv_Fn]
  have g := ht.gt ga
  have pos := tree_pos ht.tr
  have c0 : DL.cutD (tall.map symD) none (some 0) = [] := by
    have := cut_to' (l := tall.map symD) (k := 0)
    simpa using this
  have c1 : DL.cutD (tall.map symD) (some (tall.length : Int)) none = [] := by
    rw [cut_from (by simp)]
    simp
  simp [b__law_refusals, c0, c1]
  refine pick_law t (by omega) (by omega) fun t1 a ha => ?_
  have ha' : a < tall.length := by omega
  have e3 : rng1 [.int 3] = some (rangeD 0 3) := rng1_ok (n := 3) (by omega)
  simp [e3]
  refine Pv_forL (fun k e => ∃ (t' : TP) (x y z : D), e = [t'.d, treeD tall, treeD bit, .tup (L.map treeD), .tup [.tup [], .tup []], .int a, x, y, z]) ⟨t1, _, _, _, rfl⟩ ?_ ?_
  · rintro k e hk ⟨t2, x, y, z, rfl⟩
    simp
    refine oddnode_law t2 (by omega) (by omega) fun t3 spot hs ns => ?_
    have ps := odd_pers _ hs
    simp [ps, slot_pers ps]
    refine oddbit_law t3 ga ht hl fun t4 odd ho no => ?_
    have po := odd_pers _ ho
    simp [ps, slot_pers ps, po, slot_pers po]
    refine asks0 hs ns ?_
    simp [gvS_pers ps]
    refine bad_law ?_
    simp
    refine bad_same ok_node ?_
    obtain ⟨c, hc, ec⟩ : ∃ c : Nat, c < 2 ∧ ((k : Int) % 2) = c := ⟨k % 2, by omega, by omega⟩
    have h2 : c < [treeD bit, odd].length := hc
    have px : ([treeD bit, odd][c]).pers = true := by
      match c, hc with
      | 0, _ => exact syms_pers bit
      | 1, _ => exact po
    simp [ps, slot_pers ps, po, slot_pers po, ec]
    simp only [treeD] at h2 px
    simp [Pv_atI, h2, px, slot_pers px]
    refine ⟨hc, ?_⟩
    refine asks1 hs ns px ?_
    simp [gvS_pers ps, gvS_pers px]
    refine bad_law ?_
    simp
    refine bad_same ok_node ?_
    simp [ps, slot_pers ps, po, slot_pers po]
    refine asks2 hs ns ?_
    simp [gvS_pers ps]
    refine bad_law ?_
    simp
    refine bad_same ok_node ?_
    simp [ps, slot_pers ps, po, slot_pers po]
    refine asks1p ha' ho no ?_
    simp [gvS_pers po]
    refine bad_law ?_
    simp
    refine bad_same ok_piece ?_
    simp [ps, slot_pers ps, po, slot_pers po]
    refine asks3 (g := .tup [.tup [], .tup []]) rfl ho no ?_
    simp [gvS_pers po]
    refine bad_law ?_
    simp
    refine bad_same ok_piece ?_
    simp
    refine oddlimbs_law t4 ga ht hl hL h4 fun t5 ol hol nol => ?_
    have pl := odd_pers _ hol
    simp [pl, slot_pers pl]
    refine asks4 ok_f1 hol nol ?_
    simp [gvS_pers pl]
    refine bad_law ?_
    simp
    refine bad_same ok_parts ?_
    simp
    exact ⟨t5, rfl⟩
  · rintro e ⟨t2, x, y, z, rfl⟩
    simp
    refine asks4 shaped_dot (d := .tup [treeD bit]) (by have := treeD_odd hb.1; simpa using this) (by rfl) ?_
    simp
    refine bad_law ?_
    simp
    refine bad_same ok_parts ?_
    simp
    refine asks4_dot ?_
    simp [symD]
    refine same_law (by simp [shaped_told, symD_sim (s := ⟨".", 0⟩) shaped_dot]) (by decide) ?_
    simp
    exact H t2
end TH
set_option maxHeartbeats 4000000
/-! T14 (k13): node by node; parts; names. -/
namespace TH
open PySem PySem.Spec PyProof.Rows L2 DL DLS
theorem mod_at {n l : Nat} (h : 0 < l) {x : Int} (hx : x = (n : Int)) : ∃ c : Nat, c < l ∧ x % (l : Int) = c := ⟨n % l, Nat.mod_lt _ h, by rw [hx]; omega⟩
/-- fit to be compared: made of small trees -/
theorem sim_four {a b c d e f : List Sym} (ha : GT a) (hb : GT b) (hc : GT c) (hd : GT d) (he : GT e) (la : a.length ≤ 1000) (lb : b.length ≤ 1000) (lc : c.length ≤ 1000) (ld : d.length ≤ 1000) (le : e.length ≤ 1000) :
    (D.tup [treeD a, .tup [treeD b, treeD c], treeD d, treeD e]).sim = true ∧ (D.tup [treeD a, .tup [treeD b, treeD c], treeD d, treeD e]).sz < 1000000 := by
  have s1 := treeD_sim ha (by omega)
  have s2 := treeD_sim hb (by omega)
  have s3 := treeD_sim hc (by omega)
  have s4 := treeD_sim hd (by omega)
  have s5 := treeD_sim he (by omega)
  constructor
  · simp [-sim_tup, sim_tup (l := [treeD a, .tup [treeD b, treeD c], treeD d, treeD e]), sim_tup (l := [treeD b, treeD c]), simAll_cons, s1, s2, s3, s4, s5]
  · show 1 + ((treeD a).sz + ((1 + ((treeD b).sz + ((treeD c).sz + 0))) + ((treeD d).sz + ((treeD e).sz + 0)))) < 1000000
    rw [treeD_sz, treeD_sz, treeD_sz, treeD_sz, treeD_sz]
    omega
theorem sim_two {a b : List Sym} (ha : GT a) (hb : GT b) (la : a.length ≤ 1000) (lb : b.length ≤ 1000) : (D.tup [treeD a, treeD b]).sim = true ∧ (D.tup [treeD a, treeD b]).sz < 1000000 := by
  have s1 := treeD_sim ha (by omega)
  have s2 := treeD_sim hb (by omega)
  constructor
  · simp [-sim_tup, sim_tup (l := [treeD a, treeD b]), simAll_cons, s1, s2]
  · show 1 + ((treeD a).sz + ((treeD b).sz + 0)) < 1000000
    rw [treeD_sz, treeD_sz]
    omega
theorem sim_ints (l : List Int) (h : l.length ≤ 1000) : (D.tup (l.map D.int)).sim = true ∧ (D.tup (l.map D.int)).sz < 1000000 := by
  have z : ∀ l : List Int, szs (l.map D.int) = l.length := by
    intro l
    induction l with
    | nil => rfl
    | cons x l ih =>
      rw [List.map_cons, szs_cons, ih, List.length_cons]
      show 1 + _ = _
      omega
  constructor
  · rw [sim_tup, Bool.and_eq_true, simAll_iff]
    refine ⟨fun d hd => ?_, by simp; omega⟩
    obtain ⟨i, _, rfl⟩ := List.mem_map.mp hd
    rfl
  · rw [sz_tup, z]
    omega
theorem trees_sz (xs : TL) (h : ∀ t ∈ xs, t.length ≤ 100) : szs (xs.map treeD) ≤ 301 * xs.length := by
  induction xs with
  | nil => simp
  | cons t xs ih =>
    rw [List.map_cons, szs_cons, treeD_sz, List.length_cons]
    have := ih fun t ht => h t (List.mem_cons_of_mem _ ht)
    have := h t List.mem_cons_self
    omega
theorem trees_sim (xs : TL) (h : ∀ t ∈ xs, t.length ≤ 100) (g : ∀ t ∈ xs, GT t) : simAll (xs.map treeD) = true := by
  rw [simAll_iff]
  intro d hd
  obtain ⟨t, ht, rfl⟩ := List.mem_map.mp hd
  exact treeD_sim (g t ht) (by have := h t ht; omega)
theorem limbs_fit {b : List Sym} (g : GT b) (h : TreeT b) (l : b.length ≤ 100) : (D.tup ((limbsT b).map treeD)).sim = true ∧ (D.tup ((limbsT b).map treeD)).sz ≤ 1300 := by
  obtain ⟨s, r, _, _, h4, hq, _, hf⟩ := over_limbs g h
  have ln : ∀ q ∈ limbsT b, q.length ≤ 100 := fun q hq' => by
    have := (List.sublist_flatten_of_mem hq').length_le
    omega
  have z := trees_sz (limbsT b) ln
  constructor
  · rw [sim_tup, Bool.and_eq_true]
    exact ⟨trees_sim (limbsT b) ln fun q hq' => (hq q hq').1, by simp; omega⟩
  · rw [sz_tup]
    omega
theorem sub_gt {t al : List Sym} (h : Sub t al) (g : GT al) : GT t := fun s hs => g s (h s hs)
theorem take_drop_own {t : List Sym} {k : Nat} (h : TreeT t) (hk : k < t.length) : t.take k ++ pcT t k ++ t.drop (endT t k) = t := by
  rw [List.append_assoc]
  exact (pc_split h hk).1.symm
theorem nodes_law {al tall : List Sym} {bits : TL} {st : Nat} (ga : GT al) (ht : Row al tall) (hl : tall.length ≤ 100) (b0 : bits ≠ []) (bl : bits.length ≤ 1000) (hb : ∀ q ∈ bits, GT q ∧ TreeT q ∧ q.length ≤ 100) (hst : st ≤ 1000) {K : RF → Prop} (H : K (.ok (.bl true) [treeD tall, .tup (bits.map treeD), .int st])) :
    Pv (m__law_nodes [treeD tall, .tup (bits.map treeD), .int st]) K := by
  unfold m__law_nodes
  rw [Pv_Fn]
  have g := ht.gt ga
  have bpos : 0 < bits.length := List.length_pos_iff.mpr b0
  simp [b__law_nodes]
  rw [rng1_ok (by omega), Pv_some]
  refine Pv_forL (fun k e => ∃ (x3 x4 x5 x6 x7 x8 : D), e = [treeD tall, .tup (bits.map treeD), .int st, x3, x4, x5, x6, x7, x8] ∧ okD x3 = true) ⟨_, _, _, _, _, _, rfl, rfl⟩ ?_ ?_
  · rintro k e hk ⟨x3, x4, x5, x6, x7, x8, rfl, _⟩
    have hk' : k < tall.length := by simpa using hk
    obtain ⟨c, hc, ec⟩ := mod_at (l := bits.length) bpos (x := (st : Int) + k) (n := st + k) (by omega)
    obtain ⟨gb, tb, lb⟩ := hb _ (List.getElem_mem hc)
    have le := end_le (Nat.le_of_lt hk')
    simp
    refine far_law ht.tr hk' ?_
    simp [cut_to', cut_from (l := tall.map symD) (k := endT tall k) (by simpa using le), cut_pc hk', ec, Pv_atI, hc]
    obtain ⟨A, eA⟩ : ∃ A, tall.take k = A := ⟨_, rfl⟩
    obtain ⟨B, eB⟩ : ∃ B, tall.drop (endT tall k) = B := ⟨_, rfl⟩
    obtain ⟨O, eO⟩ : ∃ O, pcT tall k = O := ⟨_, rfl⟩
    obtain ⟨b, eb⟩ : ∃ b, bits[c] = b := ⟨_, rfl⟩
    obtain ⟨M, eM⟩ : ∃ M, A ++ b ++ B = M := ⟨_, rfl⟩
    have e1 : List.take k (tall.map symD) = A.map symD := by rw [← List.map_take, eA]
    have e2 : List.drop (endT tall k) (tall.map symD) = B.map symD := by rw [← List.map_drop, eB]
    have e3 : A.map symD ++ (b.map symD ++ B.map symD) = M.map symD := by rw [← eM]; simp
    have own : A ++ O ++ B = tall := by rw [← eA, ← eO, ← eB]; exact take_drop_own ht.tr hk'
    have rO : Row al O := eO ▸ pc_row ht hk'
    have lO : O.length ≤ tall.length := eO ▸ pc_le tall k
    have lA : A.length ≤ tall.length := by rw [← eA, List.length_take]; omega
    have lB : B.length ≤ tall.length := by rw [← eB, List.length_drop]; omega
    have gA : GT A := fun s hs => g s (List.mem_of_mem_take (eA ▸ hs))
    have gB : GT B := fun s hs => g s (List.mem_of_mem_drop (eB ▸ hs))
    have gO := rO.gt ga
    rw [eb] at gb tb lb
    have lM : M.length ≤ 300 := by rw [← eM, List.length_append, List.length_append]; omega
    have gM : GT M := fun s hs => by
      rw [← eM] at hs
      rcases List.mem_append.mp hs with hs | hs
      · rcases List.mem_append.mp hs with hs | hs
        · exact gA s hs
        · exact gb s hs
      · exact gB s hs
    have PC : ∀ {K : RF → Prop}, K (.ok (treeD O) [treeD tall, .int k]) → Pv (m_piece_at [treeD tall, .int k]) K := fun {K} H => piece_law ht.tr hk' (by rw [eO]; exact H)
    have PL : ∀ {K : RF → Prop}, K (.ok (.tup [treeD A, treeD B]) [treeD tall, .int k]) → Pv (m_place_of [treeD tall, .int k]) K := fun {K} H => place_law ht.tr hk' (by show K (.ok (.tup [treeD (tall.take k), treeD (tall.drop (endT tall k))]) _); rw [eA, eB]; exact H)
    have WP : ∀ {p : List Sym} {K : RF → Prop}, GT p → TreeT p → p.length ≤ 1000 → K (.ok (treeD (A ++ p ++ B)) [treeD tall, .int k, treeD p]) → Pv (m_with_piece [treeD tall, .int k, treeD p]) K := fun {p K} gp tp lp H => with_promise hk' ht.tr gp tp (by omega) lp (by rw [eA, eB]; exact H)
    rw [eb, eO, e1, e2, e3]
    refine ⟨bpos, by show _ ≤ 1000000; omega, by show _ ≤ 1000000; omega, ?_⟩
    refine PC ?_
    simp
    refine PL ?_
    simp
    refine put_law gb tb (by omega) (by omega) (by omega) ?_
    rw [eM]
    simp
    refine WP gb tb (by omega) ?_
    rw [eM]
    simp
    obtain ⟨q1, q2⟩ := sim_four (f := []) gO gA gB gM gM (by omega) (by omega) (by omega) (by omega) (by omega)
    refine same_law q1 q2 ?_
    simp
    intro _
    refine PL ?_
    simp
    refine put_law gO rO.tr (by omega) (by omega) (by omega) ?_
    rw [own]
    simp
    refine WP gO rO.tr (by omega) ?_
    rw [own]
    simp
    obtain ⟨q1, q2⟩ := sim_two g g (by omega) (by omega)
    refine same_law q1 q2 ?_
    simp
  · rintro e ⟨x3, x4, x5, x6, x7, x8, rfl, o3⟩
    simp
    refine ends_law ht.tr (by omega) ?_
    simp
    rw [rng1_ok (by omega)]
    simp
    refine ⟨by rw [okSlot_eq]; exact o3, ?_⟩
    refine Pv_lcL (fun k acc e => (∃ x : D, e = [treeD tall, .tup (bits.map treeD), .int st, x, x4, x5, x6, x7, x8]) ∧ acc = ((List.range k).map fun j => (endT tall j : Int)).map D.int) ⟨⟨.gone, rfl⟩, by simp⟩ ?_ ?_
    · rintro k acc e hk ⟨⟨x, rfl⟩, rfl⟩
      have hk' : k < tall.length := by simpa using hk
      have e1 : ((List.range (k + 1)).map fun j => (endT tall j : Int)) = ((List.range k).map fun j => (endT tall j : Int)) ++ [(endT tall k : Int)] := by
        rw [List.range_succ, List.map_append]
        rfl
      have e2 : ((List.range k).map fun j => (endT tall j : Int)).length = k := by simp
      rw [e1]
      generalize (List.range k).map (fun j => (endT tall j : Int)) = ac at e2 ⊢
      simp
      refine far_law ht.tr hk' ?_
      simp
      exact ⟨by simp [okSlot_eq, okD], by show _ < 1000000; omega⟩
    · rintro acc e ⟨⟨x, rfl⟩, rfl⟩
      rw [rangeD_len]
      show persAll ((endsT tall).map D.int) = true ∧ _
      refine ⟨ints_pers _, ?_⟩
      refine same_law ?_ ?_ ?_
      · exact (sim_ints (endsT tall) (by rw [ends_len]; omega)).1
      · exact (sim_ints (endsT tall) (by rw [ends_len]; omega)).2
      · simp
        exact H
end TH
set_option maxHeartbeats 4000000
/-! T15 (k13): joined, named. -/
namespace TH
open PySem PySem.Spec PyProof.Rows L2 DL DLS
theorem named_law (t : TP) {al tall : List Sym} {bits : TL} (ga : GT al) (ht : Row al tall) (hl : tall.length ≤ 100) (b0 : bits ≠ []) (bl : bits.length ≤ 1000) (hb : ∀ q ∈ bits, GT q ∧ TreeT q ∧ q.length ≤ 100) {K : RF → Prop} (H : ∀ t' : TP, K (.ok (.bl true) [t'.d, treeD tall, .tup (bits.map treeD)])) :
    Pv (m__law_named [t.d, treeD tall, .tup (bits.map treeD)]) K := by
  unfold m__law_named
  rw [Pv_Fn]
  have g := ht.gt ga
  have bpos : 0 < bits.length := List.length_pos_iff.mpr b0
  have tpos := tree_pos ht.tr
  simp [b__law_named]
  refine pick_law t (by omega) (by omega) fun t1 k hk => ?_
  have hk' : k < tall.length := by omega
  simp
  refine far_law ht.tr hk' ?_
  simp
  refine pick_law t1 (by omega) (by omega) fun t2 c hc => ?_
  have hc' : c < bits.length := by omega
  obtain ⟨gb, tb, lb⟩ := hb _ (List.getElem_mem hc')
  have le := end_le (Nat.le_of_lt hk')
  simp [cut_to', cut_from (l := tall.map symD) (k := endT tall k) (by simpa using le), Pv_atI, hc']
  obtain ⟨A, eA⟩ : ∃ A, tall.take k = A := ⟨_, rfl⟩
  obtain ⟨B, eB⟩ : ∃ B, tall.drop (endT tall k) = B := ⟨_, rfl⟩
  obtain ⟨O, eO⟩ : ∃ O, pcT tall k = O := ⟨_, rfl⟩
  obtain ⟨b, eb⟩ : ∃ b, bits[c] = b := ⟨_, rfl⟩
  obtain ⟨M, eM⟩ : ∃ M, A ++ b ++ B = M := ⟨_, rfl⟩
  have e1 : List.take k (tall.map symD) = A.map symD := by rw [← List.map_take, eA]
  have e2 : List.drop (endT tall k) (tall.map symD) = B.map symD := by rw [← List.map_drop, eB]
  have e3 : A.map symD ++ (b.map symD ++ B.map symD) = M.map symD := by rw [← eM]; simp
  have rO : Row al O := eO ▸ pc_row ht hk'
  have lO : O.length ≤ tall.length := eO ▸ pc_le tall k
  have lA : A.length ≤ tall.length := by rw [← eA, List.length_take]; omega
  have lB : B.length ≤ tall.length := by rw [← eB, List.length_drop]; omega
  have gA : GT A := fun s hs => g s (List.mem_of_mem_take (eA ▸ hs))
  have gB : GT B := fun s hs => g s (List.mem_of_mem_drop (eB ▸ hs))
  have gO := rO.gt ga
  rw [eb] at gb tb lb
  have lM : M.length ≤ 300 := by rw [← eM, List.length_append, List.length_append]; omega
  have gM : GT M := fun s hs => by
    rw [← eM] at hs
    rcases List.mem_append.mp hs with hs | hs
    · rcases List.mem_append.mp hs with hs | hs
      · exact gA s hs
      · exact gb s hs
    · exact gB s hs
  have PC : ∀ {K : RF → Prop}, K (.ok (treeD O) [treeD tall, .int k]) → Pv (m_piece_at [treeD tall, .int k]) K := fun {K} H => piece_law ht.tr hk' (by rw [eO]; exact H)
  have PL : ∀ {K : RF → Prop}, K (.ok (.tup [treeD A, treeD B]) [treeD tall, .int k]) → Pv (m_place_of [treeD tall, .int k]) K := fun {K} H => place_law ht.tr hk' (by show K (.ok (.tup [treeD (tall.take k), treeD (tall.drop (endT tall k))]) _); rw [eA, eB]; exact H)
  have WP : ∀ {p : List Sym} {K : RF → Prop}, GT p → TreeT p → p.length ≤ 1000 → K (.ok (treeD (A ++ p ++ B)) [treeD tall, .int k, treeD p]) → Pv (m_with_piece [treeD tall, .int k, treeD p]) K := fun {p K} gp tp lp H => with_promise hk' ht.tr gp tp (by omega) lp (by rw [eA, eB]; exact H)
  rw [eb]
  simp only [e1, e2]
  simp [pick]
  refine PC ?_
  simp [pick]
  refine PL ?_
  simp [pick]
  refine put_law gb tb (by omega) (by omega) (by omega) ?_
  rw [eM]
  simp [pick]
  refine WP gb tb (by omega) ?_
  rw [eM]
  simp [pick]
  refine ends_law ht.tr (by omega) ?_
  have hke : k < (endsT tall).length := by rw [ends_len]; exact hk'
  have eke : (endsT tall)[k] = (endT tall k : Int) := by simp [endsT]
  simp [pick, Pv_atI, hke, eke]
  refine parts_law tb (by omega) ?_
  simp [cut_pc hk', e1, e2]
  rw [eO]
  simp only [e3]
  refine ⟨by decide, by show _ ≤ 1000000; omega, by show _ ≤ 1000000; omega, by show _ ≤ 1000000; omega, by show _ ≤ 1000000; omega, ?_⟩
  refine limbs_law tb (by omega) ?_
  simp
  obtain ⟨f1, f2⟩ := limbs_fit gb tb lb
  have fit : ∀ d, d = D.tup [treeD O, .tup [treeD A, treeD B], treeD M, treeD M, .int (endT tall k : Int), .tup ((limbsT b).map treeD)] → d.sim = true ∧ d.sz < 1000000 := by
    rintro d rfl
    have s1 := treeD_sim gO (by omega)
    have s2 := treeD_sim gA (by omega)
    have s3 := treeD_sim gB (by omega)
    have s4 := treeD_sim gM (by omega)
    constructor
    · rw [sim_tup, Bool.and_eq_true, simAll_iff]
      refine ⟨fun d hd => ?_, by simp⟩
      simp only [List.mem_cons, List.not_mem_nil, or_false] at hd
      rcases hd with rfl | rfl | rfl | rfl | rfl | rfl
      · exact s1
      · rw [sim_tup, simAll_cons, simAll_cons, s2, s3]; rfl
      · exact s4
      · exact s4
      · rfl
      · exact f1
    · show 1 + ((treeD O).sz + ((1 + ((treeD A).sz + ((treeD B).sz + 0))) + ((treeD M).sz + ((treeD M).sz + (1 + ((D.tup ((limbsT b).map treeD)).sz + 0)))))) < 1000000
      rw [treeD_sz, treeD_sz, treeD_sz, treeD_sz]
      omega
  obtain ⟨q1, q2⟩ := fit _ rfl
  refine same_law q1 q2 ?_
  simp
  exact H t2
def words4 : List Str := ["f", "b-", "abcdefghijklmnop", "q"]
theorem words4_eq : ([.str "f", .str "b-", .str "abcdefghijklmnop", .str "q"] : List D) = words4.map D.str := rfl
@[simp] theorem words4_len : words4.length = 4 := rfl
theorem words4_good : ∀ w ∈ words4, goodB w = true := by
  have : words4.all goodB = true := by decide +kernel
  exact List.all_eq_true.mp this
theorem joins_law (t : TP) {al : List Sym} {rows bits : TL} (ga : GT al) (r0 : rows ≠ []) (hr : ∀ r ∈ rows, Row al r ∧ r.length ≤ 60) (rl : rows.length ≤ 100) (b0 : bits ≠ []) (bl : bits.length ≤ 1000) (hb : ∀ q ∈ bits, GT q ∧ TreeT q ∧ q.length ≤ 100) {K : RF → Prop} (H : ∀ t' : TP, K (.ok (.bl true) [t'.d, treesD rows, .tup (bits.map treeD)])) :
    Pv (m__law_joins [t.d, treesD rows, .tup (bits.map treeD)]) K := by
  unfold m__law_joins
  rw [Pv_Fn]
  have bpos : 0 < bits.length := List.length_pos_iff.mpr b0
  have rpos : 0 < rows.length := List.length_pos_iff.mpr r0
  simp [b__law_joins, -Pv_If]
  refine pick_law t (by decide) (by decide) fun t1 n hn => ?_
  simp [-Pv_If]
  rw [rng1_ok (by omega), Pv_some]
  refine Pv_lcL (fun k acc e => ∃ (t' : TP) (L : TL) (x : D), e = [t'.d, treesD rows, .tup (bits.map treeD), .gone, x, .gone, .gone, .gone, .gone, .gone, .gone] ∧ acc = L.map treeD ∧ L.length = k ∧ (∀ q ∈ L, q ∈ bits)) ⟨t1, [], .gone, rfl, rfl, rfl, fun q hq => by cases hq⟩ ?_ ?_
  · rintro k acc e hk ⟨t2, L, x, rfl, rfl, rfl, hL⟩
    have hk' : L.length < n := by simpa using hk
    simp
    refine pick_law t2 (by omega) (by omega) fun t3 c hc => ?_
    have hc' : c < bits.length := by omega
    simp [Pv_atI, hc']
    refine ⟨by simp [okSlot_eq, okD], by show _ < 1000000; omega, ⟨t3, rfl⟩, L ++ [bits[c]], by simp, by simp, fun q hq => ?_⟩
    rcases List.mem_append.mp hq with hq | hq
    · exact hL q hq
    · rw [List.mem_singleton.mp hq]
      exact List.getElem_mem _
  · rintro acc e ⟨t2, L, x, rfl, rfl, hlen, hL⟩
    rw [rangeD_len] at hlen
    simp [-Pv_If]
    refine Pv_join (fun e => ∃ (t' : TP) (L : TL), e = [t'.d, treesD rows, .tup (bits.map treeD), .tup (L.map treeD), .gone, .gone, .gone, .gone, .gone, .gone, .gone] ∧ L.length ≤ 4 ∧ (∀ q ∈ L, q ∈ bits)) ?_ ?_
    · simp [cut_init]
      split
      · refine pick_law t2 (by decide) (by decide) fun t3 c hc => ?_
        have l0 : 0 < L.length := by omega
        simp [Pv_at0, l0]
        have ci : DL.cutD (L.map treeD) none (some (-1)) = (L.dropLast).map treeD := by rw [cut_init, List.map_dropLast]
        rw [ci]
        split
        · refine ⟨⟨by rw [List.length_map, List.length_dropLast]; show _ ≤ 1000000; omega, trees_pers _⟩, t3, L.dropLast ++ [L[0]], ⟨rfl, by simp⟩, by simp; omega, fun q hq => ?_⟩
          rcases List.mem_append.mp hq with hq | hq
          · exact hL q (List.dropLast_subset _ hq)
          · rw [List.mem_singleton.mp hq]
            exact hL _ (List.getElem_mem _)
        · exact ⟨t3, L, ⟨rfl, rfl⟩, by omega, hL⟩
      · exact ⟨t2, L, ⟨rfl, rfl⟩, by omega, hL⟩
    · rintro e ⟨t3, L, rfl, h4, hL⟩
      simp [words4_eq]
      refine pick_law t3 (by decide) (by decide) fun t4 c hc => ?_
      have hc' : c < words4.length := by rw [words4_len]; omega
      simp [Pv_atI]
      refine ⟨by omega, ?_⟩
      have gw : goodB (words4[c]'hc') = true := words4_good _ (List.getElem_mem _)
      generalize words4[c]'hc' = w at gw ⊢
      rw [Pv_forVT (l := L.map treeD) rfl]
      refine ⟨trees_pers L, ?_⟩
      have gs := GS.of (n := L.length) gw h4
      have ow := gs.ok
      have wd : (w == (".":Str)) = false := by
        unfold goodB at gw
        simp only [Bool.and_eq_true, Bool.not_eq_true'] at gw
        exact gw.2
      have qL : ∀ q ∈ L, GT q ∧ TreeT q := fun q hq => ⟨(hb q (hL q hq)).1, (hb q (hL q hq)).2.1⟩
      have fl : L.flatten.length ≤ 400 := by
        have : ∀ M : TL, (∀ q ∈ M, q.length ≤ 100) → M.flatten.length ≤ 100 * M.length := by
          intro M
          induction M with
          | nil => intro _; simp
          | cons q M ih =>
            intro h
            have a := h q List.mem_cons_self
            have b := ih fun x hx => h x (List.mem_cons_of_mem _ hx)
            rw [List.flatten_cons, List.length_append, List.length_cons]
            omega
        have := this L fun q hq => (hb q (hL q hq)).2.2
        omega
      refine Pv_forL (fun k e => ∃ x : D, e = [t4.d, treesD rows, .tup (bits.map treeD), .tup (L.map treeD), .gone, .str w, .tup ((⟨w, L.length⟩ :: (L.take k).flatten : List Sym).map symD), x, .gone, .gone, .gone]) ⟨.gone, by simp [symD]⟩ ?_ ?_
      · rintro k e hk ⟨x, rfl⟩
        have hk' : k < L.length := by simpa using hk
        have e2 : (L.take (k + 1)).flatten = (L.take k).flatten ++ L[k] := by
          rw [List.take_succ_eq_append_getElem hk', List.flatten_append]
          simp
        have e3 : L.flatten.length = ((L.take (k + 1)).flatten).length + ((L.drop (k + 1)).flatten).length := by rw [← List.length_append, ← List.flatten_append, List.take_append_drop]
        rw [e2, List.length_append] at e3
        rw [e2]
        generalize (L.take k).flatten = acc at e3 ⊢
        simp
        show _ ≤ 1000000
        omega
      · rintro e ⟨x, rfl⟩
        obtain ⟨W, eW⟩ : ∃ W, overT w L = W := ⟨_, rfl⟩
        have e4 : (⟨w, L.length⟩ :: (L.take (L.map treeD).length).flatten : List Sym) = W := by rw [List.length_map, List.take_length]; exact eW
        have tW : TreeT W := eW ▸ over_tree fun q hq => (qL q hq).2
        have gW : GT W := by
          rw [← eW]
          intro s hs
          rcases List.mem_cons.mp hs with rfl | hs
          · exact gs
          · obtain ⟨q, hq, hs⟩ := List.mem_flatten.mp hs
            exact (qL q hq).1 s hs
        have lW : W.length ≤ 500 := by rw [← eW]; show _ + 1 ≤ 500; omega
        have lbW : limbsT W = L := by rw [← eW]; exact limbs_over fun q hq => (qL q hq).2
        have TO : ∀ {K : RF → Prop}, K (.ok (treeD W) [.str w, .tup (L.map treeD)]) → Pv (m_tree_of [.str w, .tup (L.map treeD)]) K := fun {K} H => treeof_law ow h4 qL (.inl wd) (by omega) (by rw [eW]; exact H)
        rw [e4]
        simp
        refine TO ?_
        simp [pick]
        refine TO ?_
        simp [pick]
        refine TO ?_
        simp
        refine parts_law tW (by omega) ?_
        rw [lbW]
        simp
        have lL : ∀ q ∈ L, q.length ≤ 100 := fun q hq => (hb q (hL q hq)).2.2
        have sL : (D.tup (L.map treeD)).sim = true ∧ (D.tup (L.map treeD)).sz ≤ 1300 := by
          have z := trees_sz L lL
          constructor
          · rw [sim_tup, Bool.and_eq_true]
            exact ⟨trees_sim L lL fun q hq => (qL q hq).1, by simp; omega⟩
          · rw [sz_tup]
            omega
        have fit : ∀ d, d = D.tup [treeD W, treeD W, .tup (L.map treeD)] → d.sim = true ∧ d.sz < 1000000 := by
          rintro d rfl
          have s1 := treeD_sim gW (by omega)
          constructor
          · rw [sim_tup, Bool.and_eq_true, simAll_iff]
            refine ⟨fun d hd => ?_, by simp⟩
            simp only [List.mem_cons, List.not_mem_nil, or_false] at hd
            rcases hd with rfl | rfl | rfl
            · exact s1
            · exact s1
            · exact sL.1
          · show 1 + ((treeD W).sz + ((treeD W).sz + ((D.tup (L.map treeD)).sz + 0))) < 1000000
            rw [treeD_sz]
            omega
        obtain ⟨q1, q2⟩ := fit _ rfl
        refine same_law q1 q2 ?_
        simp
        refine Pv_forVL (l := rows.map treeD) (fun k e => ∃ x9 x10 x7 : D, e = [t4.d, treesD rows, .tup (bits.map treeD), .tup (L.map treeD), .gone, .str w, .tup (W.map symD), x7, .tup [treeD W, treeD W, .tup (L.map treeD)], x9, x10]) ?_ ?_ ?_ ?_
        · rintro k e ⟨x9, x10, x7, rfl⟩
          rfl
        · exact ⟨_, _, _, rfl⟩
        · rintro k e hk ⟨x9, x10, x7, rfl⟩
          have hk' : k < rows.length := by simpa using hk
          obtain ⟨rr, rl6⟩ := hr _ (List.getElem_mem hk')
          obtain ⟨r, er⟩ : ∃ r, rows[k] = r := ⟨_, rfl⟩
          have er' : (rows.map treeD)[k] = treeD r := by rw [List.getElem_map, er]
          rw [er] at rr rl6
          rw [er']
          have gr := rr.gt ga
          obtain ⟨f1, f2⟩ := limbs_fit gr rr.tr (by omega)
          simp
          refine limbs_law rr.tr (by omega) ?_
          simp
          refine parts_law rr.tr (by omega) ?_
          simp
          refine same_law f1 (by omega) ?_
          simp
          obtain ⟨s, r', es, eo, h4', hq', hw', hf'⟩ := over_limbs gr rr.tr
          have so := (gr s (by rw [es]; exact List.mem_cons_self)).ok
          have z0 : L2.atI (r.map symD) 0 = some (symD s) := by rw [es, List.map_cons]; exact ix0 _ _
          rw [z0, Pv_some]
          simp [symD]
          refine treeof_law so h4' hq' hw' (by omega) ?_
          rw [eo]
          simp
          refine same_law (treeD_sim gr (by omega)) (by rw [treeD_sz]; omega) ?_
          simp
        · rintro e ⟨x9, x10, x7, rfl⟩
          simp [Pv_at0, rpos, bpos]
          have i0 := hr _ (List.getElem_mem rpos)
          have j0 := hb _ (List.getElem_mem bpos)
          refine refusals_law t4 ga i0.1 (by omega) ⟨j0.1, j0.2.1⟩ qL h4 fun t5 => ?_
          simp
          exact H t5
end TH
set_option maxHeartbeats 4000000
/-! T16 (k13): the trees. -/
namespace TH
open PySem PySem.Spec PyProof.Rows L2 DL DLS
/-- the rows that the law looks at -/
structure Grove (al : List Sym) (rows : TL) : Prop where
  row : ∀ r ∈ rows, Row al r ∧ r.length ≤ 60
  one : 1 ≤ rows.length
  few : rows.length ≤ 5
  sum : rows.flatten.length ≤ 250
  nd : rows.Nodup
theorem flat_snoc (rows : TL) (r : List Sym) : (rows ++ [r]).flatten.length = rows.flatten.length + r.length := by simp
structure Gr (al : List Sym) (rows : TL) (m s : Nat) : Prop where
  row : ∀ r ∈ rows, Row al r ∧ r.length ≤ 60
  one : 1 ≤ rows.length
  few : rows.length ≤ m
  sum : rows.flatten.length ≤ s
theorem Gr.snoc {al : List Sym} {rows : TL} {m s k : Nat} {r : List Sym} (g : Gr al rows m s) (hr : Row al r) (l1 : r.length ≤ 60) (l2 : r.length ≤ k) : Gr al (rows ++ [r]) (m + 1) (s + k) := by
  have := g.few
  have := g.sum
  have := g.one
  refine ⟨fun x hx => ?_, by simp, by simp; omega, by rw [flat_snoc]; omega⟩
  rcases List.mem_append.mp hx with hx | hx
  · exact g.row x hx
  · rw [List.mem_singleton.mp hx]; exact ⟨hr, l1⟩
theorem Gr.mono {al : List Sym} {rows : TL} {m s m' s' : Nat} (g : Gr al rows m s) (h1 : m ≤ m') (h2 : s ≤ s') : Gr al rows m' s' := ⟨g.row, g.one, Nat.le_trans g.few h1, Nat.le_trans g.sum h2⟩
theorem grove_law (t : TP) {ms : List Sym} (gm : GM ms) {K : RF → Prop} (H : ∀ (t' : TP) (rows : TL), Grove ms rows → K (.ok (treesD rows) [t'.d, symsD ms])) : Pv (m__law_grove [t.d, symsD ms]) K := by
  unfold m__law_grove
  rw [Pv_Fn]
  simp [b__law_grove, -Pv_If]
  refine pick_law t (by decide) (by decide) fun t1 a ha => ?_
  simp [-Pv_If]
  refine Pv_join (fun e => ∃ (t' : TP) (n : Nat), e = [t'.d, symsD ms, .int n, .gone, .gone, .gone, .gone, .gone, .gone, .gone, .gone] ∧ 1 ≤ n ∧ n ≤ 60) ?_ ?_
  · simp
    refine pick_law t1 (by decide) (by decide) fun t2 b hb => ?_
    simp
    split
    · exact ⟨t2, 60, ⟨rfl, rfl⟩, by omega, by omega⟩
    · exact ⟨t2, 1 + a, ⟨rfl, by omega⟩, by omega, by omega⟩
  · rintro e ⟨t2, n, rfl, n1, n60⟩
    simp [-Pv_If]
    refine tree_law t2 gm n1 (by omega) fun t3 tall htall stall ltall => ?_
    have tpos := tree_pos htall
    have rtall : Row ms tall := ⟨htall, stall⟩
    simp [-Pv_If]
    refine pick_law t3 (by omega) (by omega) fun t4 k hk => ?_
    have hk' : k < tall.length := by omega
    simp [-Pv_If]
    refine pick_law t4 (by decide) (by decide) fun t5 c hc => ?_
    simp [-Pv_If]
    rw [show ((1 : Int) + (c : Int)) = ((1 + c : Nat) : Int) by omega]
    refine tree_law t5 gm (by omega) (by omega) fun t6 extra hextra sextra lextra => ?_
    have le := end_le (Nat.le_of_lt hk')
    simp [-Pv_If, cut_to']
    refine ⟨by show _ ≤ 1000000; omega, ?_⟩
    refine far_law htall hk' ?_
    have e1 : List.take k (tall.map symD) = (tall.take k).map symD := by simp
    simp [-Pv_If, cut_from (l := tall.map symD) (k := endT tall k) (by simpa using le)]
    obtain ⟨N, eN⟩ : ∃ N, tall.take k ++ extra ++ tall.drop (endT tall k) = N := ⟨_, rfl⟩
    have rN : Row ms N := by rw [← eN]; exact rtall.cut hk' ⟨hextra, sextra⟩
    have lN : N.length ≤ 200 := by
      rw [← eN, List.length_append, List.length_append, List.length_take, List.length_drop]
      omega
    have e3 : List.take k (tall.map symD) ++ (extra.map symD ++ List.drop (endT tall k) (tall.map symD)) = N.map symD := by rw [← eN]; simp
    rw [e3]
    refine ⟨by show _ ≤ 1000000; omega, ?_⟩
    have g0 : Gr ms [tall] 1 60 := ⟨fun r hr => by rw [List.mem_singleton.mp hr]; exact ⟨rtall, by omega⟩, Nat.le_refl _, Nat.le_refl _, by simp; omega⟩
    refine Pv_join (fun e => ∃ (rows : TL) (x7 : D), e = [t6.d, symsD ms, .int n, treeD tall, treesD rows, .int k, treeD extra, x7, .gone, .gone, .gone] ∧ Gr ms rows 2 120) ?_ ?_
    · simp
      split
      · exact ⟨by decide, [tall, N], rfl, g0.snoc rN (by omega) (k := 60) (by omega)⟩
      · exact ⟨[tall], rfl, g0.mono (by decide) (by decide)⟩
    · rintro e ⟨rows, x7, rfl, g2⟩
      simp
      refine far_law htall hk' ?_
      simp [cut_pc hk']
      have l2 := g2.few
      have g3 := g2.snoc (pc_row rtall hk') (by have := pc_le tall k; omega) (k := 60) (by have := pc_le tall k; omega)
      refine ⟨by show _ < 1000000; omega, ?_⟩
      refine pick_law t6 (by decide) (by decide) fun t7 m hm => ?_
      simp
      rw [rng1_ok (by omega), Pv_some]
      refine Pv_forL (fun i e => ∃ (t' : TP) (rows : TL) (x8 x7 x5 : D), e = [t'.d, symsD ms, .int n, treeD tall, treesD rows, x5, treeD extra, x7, x8, .gone, .gone] ∧ Gr ms rows (3 + i) (180 + 9 * i)) ⟨t7, rows ++ [pcT tall k], .gone, x7, .int k, by simp, g3⟩ ?_ ?_
      · rintro i e hi ⟨t8, rs, x8, x7, x5, rfl, g4⟩
        have hi' : i < m := by simpa using hi
        have few := g4.few
        simp
        refine pick_law t8 (by decide) (by decide) fun t9 b hb => ?_
        simp
        rw [show ((1 : Int) + (b : Int)) = ((1 + b : Nat) : Int) by omega]
        refine tree_law t9 gm (by omega) (by omega) fun t10 r hr sr lr => ?_
        simp
        refine ⟨by show _ < 1000000; omega, t10, rs ++ [r], by simp, ?_⟩
        exact (g4.snoc ⟨hr, sr⟩ (by omega) (k := 9) (by omega)).mono (by omega) (by omega)
      · rintro e ⟨t8, rs, x8, x7, x5, rfl, g4⟩
        have hm2 : m ≤ 2 := by omega
        rw [rangeD_len] at g4
        have g5 : Gr ms rs 5 250 := g4.mono (by omega) (by omega)
        simp
        refine Pv_forVL (l := rs.map treeD) (fun k e => ∃ (O : TL) (x : D), e = [t8.d, symsD ms, .int n, treeD tall, treesD rs, x5, treeD extra, x7, x8, treesD O, x] ∧ O.Nodup ∧ (∀ t ∈ O, t ∈ rs) ∧ O.length ≤ k ∧ O.flatten.length ≤ (rs.take k).flatten.length ∧ (0 < k → 1 ≤ O.length)) ?_ ?_ ?_ ?_
        · rintro k e ⟨O, x, rfl, _⟩
          rfl
        · exact ⟨[], .gone, by simp⟩
        · rintro k e hk ⟨O, x, rfl, nd, hin, hlen, hsum, hone⟩
          have hk' : k < rs.length := by simpa using hk
          obtain ⟨rr, rl⟩ := g5.row _ (List.getElem_mem hk')
          have gO : ∀ t ∈ O, GT t := fun t ht => (g5.row t (hin t ht)).1.gt gm.gt
          have e2 : (rs.take (k + 1)).flatten.length = (rs.take k).flatten.length + rs[k].length := by
            rw [List.take_succ_eq_append_getElem hk', flat_snoc]
          have few := g5.few
          rw [e2]
          have er' : (rs.map treeD)[k] = treeD rs[k] := by rw [List.getElem_map]
          rw [er']
          have mem := List.getElem_mem hk'
          generalize rs[k] = r at rr rl mem ⊢
          have dn := dIn_trees (rr.gt gm.gt) gO
          simp only [treeD] at dn
          generalize (rs.take k).flatten = ff at hsum ⊢
          simp [dn]
          by_cases h : r ∈ O
          · simp [h]
            have := List.length_pos_of_mem h
            exact ⟨O, rfl, nd, hin, by omega, by simp at hsum; omega, by omega⟩
          · simp [h]
            refine ⟨by show _ < 1000000; omega, O ++ [r], by simp, ?_, fun t ht => ?_, by simp; omega, ?_, by simp⟩
            · rw [List.nodup_append]
              exact ⟨nd, by simp, fun a ha b hb e => by rw [List.mem_singleton.mp hb] at e; rw [e] at ha; exact h ha⟩
            · rcases List.mem_append.mp ht with ht | ht
              · exact hin t ht
              · rw [List.mem_singleton.mp ht]; exact mem
            · simp at hsum ⊢
              omega
        · rintro e ⟨O, x, rfl, nd, hin, hlen, hsum, hone⟩
          rw [List.length_map] at hlen hsum hone
          rw [List.take_length] at hsum
          have few := g5.few
          have sum := g5.sum
          have one := g5.one
          simp
          exact H t8 O ⟨fun r hr => g5.row r (hin r hr), hone (by omega), by omega, by omega, nd⟩
end TH
set_option maxHeartbeats 4000000
/-! T17 (k13): the law's mirror gives True. -/
namespace TH
open PySem PySem.Spec PyProof.Rows L2 DL DLS
theorem last_at {α : Type} {l : List α} (h : 0 < l.length) : L2.atI l (-1) = some (l[l.length - 1]'(by omega)) := by
  have e : l = l.dropLast ++ [l[l.length - 1]'(by omega)] := by
    have := List.dropLast_concat_getLast (l := l) (by intro z; rw [z] at h; cases h)
    rw [List.getLast_eq_getElem] at this
    exact this.symm
  generalize l[l.length - 1]'(by omega) = x at e ⊢
  rw [e]
  exact ix_last _ _
theorem pcs_sum (rows : TL) : (rows.flatMap pcs).length = rows.flatten.length := by
  induction rows with
  | nil => rfl
  | cons r rows ih => rw [List.flatMap_cons, List.length_append, ih, pcs_len, List.flatten_cons, List.length_append]
theorem pieces_none {K : RF → Prop} (H : K (.ok (.tup []) [.tup []])) : Pv (m_pieces_of [.tup []]) K := by
  refine pieces_law (al := []) (rows := []) (fun s hs => by cases hs) ⟨fun r hr => (by cases hr), by decide⟩ fun L hL => ?_
  cases L with
  | nil => exact H
  | cons a b =>
    have := (hL.mem a).mp List.mem_cons_self
    cases this
theorem symbols_none {K : RF → Prop} (H : K (.ok (.tup []) [.tup []])) : Pv (m_symbols_of [.tup []]) K := by
  have sub : Sub ([] : TL).flatten [] := fun s hs => by cases hs
  obtain ⟨M, eM, sM, lM⟩ := sorted_syms sub
  have : M = [] := List.eq_nil_of_length_eq_zero (by simpa using lM)
  subst this
  exact symbols_law (rows := []) sub (by decide) eM H
theorem law_true (d0 : D) (hd0 : d0 ≠ .gone) (hT : ∀ K : RF → Prop, (∀ t : TP, K (.ok t.d [d0])) → Pv (m__law_tape [d0]) K) {K : RF → Prop} (H : K (.ok (.bl true) [d0])) : Pv (m_law [d0]) K := by
  unfold m_law
  rw [Pv_Fn]
  simp [b_law, slot_of hd0]
  refine hT _ fun t1 => ?_
  simp [gv_back hd0]
  refine marks_law t1 fun t2 ms gm => ?_
  simp
  refine grove_law t2 gm fun t3 rows gr => ?_
  simp
  have ga := gm.gt
  have g : GR ms rows := ⟨gr.row, by rw [pcs_sum]; have := gr.sum; omega⟩
  have rpos : 0 < rows.length := gr.one
  have few := gr.few
  refine bits_law ga g fun L hL => ?_
  simp
  have inL : ∀ q ∈ L, Row ms q ∧ q.length ≤ 60 := fun q hq => g.pc ((hL.mem q).mp hq)
  have fitL : ∀ q ∈ L, GT q ∧ TreeT q ∧ q.length ≤ 100 := fun q hq => ⟨(inL q hq).1.gt ga, (inL q hq).1.tr, by have := (inL q hq).2; omega⟩
  have Ln : L.length ≤ 250 := by
    have := nodup_len hL.nd fun t ht => (hL.mem t).mp ht
    rw [pcs_sum] at this
    have := gr.sum
    omega
  have r0 := gr.row _ (List.getElem_mem rpos)
  have L0 : L ≠ [] := fun z => by
    have p := tree_pos r0.1.tr
    have : pcT rows[0] 0 ∈ L := (hL.mem _).mpr (List.mem_flatMap.mpr ⟨_, List.getElem_mem rpos, List.mem_map.mpr ⟨0, List.mem_range.mpr p, rfl⟩⟩)
    rw [z] at this
    cases this
  have ND : ∀ {r : List Sym} {st : Nat} {K : RF → Prop}, Row ms r → r.length ≤ 60 → st ≤ 1000 → K (.ok (.bl true) [treeD r, .tup (L.map treeD), .int st]) → Pv (m__law_nodes [treeD r, .tup (L.map treeD), .int st]) K := fun {r st K} rr lr hs H => nodes_law ga rr (by omega) L0 (by omega) fitL hs H
  have Lpos : 0 < L.length := List.length_pos_iff.mpr L0
  refine pick_law t3 (by omega) (by omega) fun t4 st hst => ?_
  simp
  rw [rng1_ok (by omega), Pv_some]
  refine Pv_forL (fun k e => ∃ (x : D), e = [d0, t4.d, symsD ms, treesD rows, .tup (L.map treeD), .int st, x, .gone, .gone]) ⟨_, rfl⟩ ?_ ?_
  · rintro k e hk ⟨x, rfl⟩
    have hk' : k < rows.length := by simpa using hk
    have rk := gr.row _ (List.getElem_mem hk')
    simp [Pv_atI, hk']
    refine levels_law rk.1.tr (by have := rk.2; omega) ?_
    simp [Pv_atI, hk']
    refine lawlevels_law rk.1.tr (by have := rk.2; omega) ?_
    simp
    refine same_law (by rfl) (by show 1 < 1000000; decide) ?_
    simp [Pv_atI, hk']
    split
    · refine ND rk.1 rk.2 (by omega) ?_
      simp
    · intro _ _
      refine ND rk.1 rk.2 (by omega) ?_
      simp
  · rintro e ⟨x, rfl⟩
    simp
    refine pieces_law ga g fun L1 h1 => ?_
    have e1 := h1.uniq hL fun t => Iff.rfl
    subst e1
    simp
    rw [← List.map_reverse]
    have g2 : GR ms rows.reverse := ⟨fun r hr => gr.row r (List.mem_reverse.mp hr), by
      rw [pcs_sum, List.length_flatten, List.map_reverse, List.sum_reverse, ← List.length_flatten]
      have := gr.sum
      omega⟩
    refine pieces_law ga g2 fun Lb h2 => ?_
    have e2 := h2.uniq h1 fun t => by simp
    subst e2
    have sub : Sub rows.flatten ms := fun s hs => by
      obtain ⟨r, hr, hs⟩ := List.mem_flatten.mp hs
      exact (gr.row r hr).1.sb s hs
    have m20 := gm.few
    obtain ⟨M, eM, sM, lM⟩ := sorted_syms sub
    simp
    refine symbols_law sub (by omega) eM ?_
    simp
    refine pieces_none ?_
    simp
    refine symbols_none ?_
    simp
    refine lawsymbols_law sub (by omega) (by have := gr.sum; omega) eM ?_
    simp
    have bL : (D.tup (Lb.map treeD)).sim = true ∧ (D.tup (Lb.map treeD)).sz ≤ 80000 := by
      have ln : ∀ q ∈ Lb, q.length ≤ 100 := fun q hq => (fitL q hq).2.2
      have z := trees_sz Lb ln
      constructor
      · rw [sim_tup, Bool.and_eq_true]
        exact ⟨trees_sim Lb ln fun q hq => (fitL q hq).1, by simp; omega⟩
      · rw [sz_tup]
        omega
    have bM : (D.tup (M.map symD)).sim = true ∧ (D.tup (M.map symD)).sz ≤ 80000 := by
      constructor
      · rw [sim_tup, Bool.and_eq_true, simAll_iff]
        refine ⟨fun d hd => ?_, by simp; omega⟩
        obtain ⟨s, hs, rfl⟩ := List.mem_map.mp hd
        exact symD_sim (ga s (sM s hs)).ok
      · rw [sz_tup, szs_syms]
        omega
    have fit : ∀ d, d = D.tup [.tup (Lb.map treeD), .tup (Lb.map treeD), .tup (M.map symD), .tup [], .tup []] → d.sim = true ∧ d.sz < 1000000 := by
      rintro d rfl
      constructor
      · rw [sim_tup, Bool.and_eq_true, simAll_iff]
        refine ⟨fun d hd => ?_, by simp⟩
        simp only [List.mem_cons, List.not_mem_nil, or_false] at hd
        rcases hd with rfl | rfl | rfl | rfl | rfl
        · exact bL.1
        · exact bL.1
        · exact bM.1
        · rfl
        · rfl
      · show 1 + ((D.tup (Lb.map treeD)).sz + ((D.tup (Lb.map treeD)).sz + ((D.tup (M.map symD)).sz + (1 + (1 + 0))))) < 1000000
        omega
    obtain ⟨q1, q2⟩ := fit _ rfl
    refine same_law q1 q2 ?_
    simp
    have r00 : rows ≠ [] := List.length_pos_iff.mp rpos
    refine joins_law t4 ga r00 gr.row (by omega) L0 (by omega) fitL fun t5 => ?_
    simp [Pv_at0, rpos]
    refine named_law t5 ga r0.1 (by have := r0.2; omega) L0 (by omega) fitL fun t6 => ?_
    obtain ⟨lr, elr⟩ : ∃ lr, rows[rows.length - 1]'(by omega) = lr := ⟨_, rfl⟩
    have rlr : Row ms lr ∧ lr.length ≤ 60 := by rw [← elr]; exact gr.row _ (List.getElem_mem _)
    have la : atI (rows.map treeD) (-1) = some (treeD lr) := by
      rw [last_at (by simpa using rpos)]
      simp [elr]
    have st1 : ((st : Int) + 1) = ((st + 1 : Nat) : Int) := by omega
    have r1 : rows = rows[0] :: rows.drop 1 := by
      have := List.drop_eq_getElem_cons rpos
      simpa using this
    have gone : GR ms [rows[0]] := ⟨fun r hr => by rw [List.mem_singleton.mp hr]; exact r0, by
      rw [pcs_sum]
      have := r0.2
      simp
      omega⟩
    have c1 : DL.cutD (rows.map treeD) none (some 1) = [rows[0]].map treeD := by
      have := cut_to' (l := rows.map treeD) (k := 1)
      have e : rows.take 1 = [rows[0]] := by
        rw [List.take_succ_eq_append_getElem rpos]
        simp
      rw [← List.map_take, e] at this
      exact this
    have c1' : DL.cutD (rows.map treeD) none (some 1) = [treeD rows[0]] := c1
    have PP : ∀ {K : RF → Prop}, (∀ La, IsS La ([rows[0]].flatMap pcs) → K (.ok (.tup (La.map treeD)) [.tup [treeD rows[0]]])) → Pv (m_pieces_of [.tup [treeD rows[0]]]) K := fun {K} H => pieces_law ga gone H
    have BB : ∀ {K : RF → Prop}, (∀ La, IsS La ([rows[0]].flatMap pcs) → K (.ok (.tup (La.map treeD)) [.lst [treeD rows[0]]])) → Pv (m__law_bits [.lst [treeD rows[0]]]) K := fun {K} H => bits_law ga gone H
    have fitA : ∀ La, IsS La ([rows[0]].flatMap pcs) → (D.tup (La.map treeD)).sim = true ∧ (D.tup (La.map treeD)).sz < 1000000 := fun La hLa => by
      have n := nodup_len hLa.nd fun t ht => (hLa.mem t).mp ht
      have s := gone.sum
      have ln : ∀ q ∈ La, q.length ≤ 100 := fun q hq => by have := (gone.pc ((hLa.mem q).mp hq)).2; omega
      have z := trees_sz La ln
      constructor
      · rw [sim_tup, Bool.and_eq_true]
        exact ⟨trees_sim La ln fun q hq => (gone.pc ((hLa.mem q).mp hq)).1.gt ga, by simp; omega⟩
      · rw [sz_tup]
        omega
    have b0 := inL _ (List.getElem_mem Lpos)
    simp [la, Pv_at0, Lpos]
    rw [st1]
    split
    · refine ND rlr.1 rlr.2 (by omega) ?_
      simp [Pv_at0, rpos, c1']
      refine PP fun La hLa => ?_
      simp [c1']
      refine BB fun Lc hLc => ?_
      have eac := hLc.uniq hLa fun t => Iff.rfl
      subst eac
      obtain ⟨z1, z2⟩ := fitA _ hLa
      simp
      refine same_law z1 z2 ?_
      simp
      exact H
    · refine ND b0.1 b0.2 (by omega) ?_
      simp [Pv_at0, rpos, c1']
      refine PP fun La hLa => ?_
      simp [c1']
      refine BB fun Lc hLc => ?_
      have eac := hLc.uniq hLa fun t => Iff.rfl
      subst eac
      obtain ⟨z1, z2⟩ := fitA _ hLa
      simp
      refine same_law z1 z2 ?_
      simp
      exact H
theorem law_all (l : List Int) (hl : l.length ≤ LIM) : ∀ d0, d0 = .lst (l.map D.int) ∨ d0 = .fz (l.map D.int) → ∃ ds, m_law [d0] = some (.ok (.bl true) ds) := by
  intro d0 h
  have main : Pv (m_law [d0]) (fun r => ∃ ds, r = .ok (.bl true) ds) := by
    rcases h with rfl | rfl
    · exact law_true _ (by simp) (fun K => tape_law l hl) ⟨_, rfl⟩
    · exact law_true _ (by simp) (fun K => tape_lawF l hl) ⟨_, rfl⟩
  obtain ⟨r, e, ds, rfl⟩ := main
  exact ⟨ds, e⟩
end TH
set_option maxHeartbeats 0
namespace TH
open PySem PySem.Spec PyProof.Rows L2 DL
structure Facts (P : Program) (w : World) (K : PySem.W.Frag) (T : List (Addr × Str)) (mg : Str → Option Value) (base : Heap) : Prop where
  f_a_begins : Fx K mg "a_begins" s_a_begins
  f_a_goes_on : Fx K mg "a_goes_on" s_a_goes_on
  f_a_ask_node : Fx K mg "a_ask_node" s_a_ask_node
  f_a_end : Fx K mg "a_end" s_a_end
  f_is_word : Fx K mg "is_word" s_is_word
  f__a_is_count : Fx K mg "_a_is_count" s__a_is_count
  f_is_symbol : Fx K mg "is_symbol" s_is_symbol
  f__a_is_hole : Fx K mg "_a_is_hole" s__a_is_hole
  f__a_is_row : Fx K mg "_a_is_row" s__a_is_row
  f_is_tree : Fx K mg "is_tree" s_is_tree
  f_ends_of : Fx K mg "ends_of" s_ends_of
  f_piece_at : Fx K mg "piece_at" s_piece_at
  f_with_piece : Fx K mg "with_piece" s_with_piece
  f_parts_of : Fx K mg "parts_of" s_parts_of
  f__a_may_follow : Fx K mg "_a_may_follow" s__a_may_follow
  f_tree_of : Fx K mg "tree_of" s_tree_of
  f_in_order : Fx K mg "in_order" s_in_order
  f_pieces_of : Fx K mg "pieces_of" s_pieces_of
  f_symbols_of : Fx K mg "symbols_of" s_symbols_of
  f_levels_of : Fx K mg "levels_of" s_levels_of
  f_place_of : Fx K mg "place_of" s_place_of
  f_put_at : Fx K mg "put_at" s_put_at
  f__law_tape : Fx K mg "_law_tape" s__law_tape
  f__law_pick : Fx K mg "_law_pick" s__law_pick
  f__law_same : Fx K mg "_law_same" s__law_same
  f__law_marks : Fx K mg "_law_marks" s__law_marks
  f__law_tree : Fx K mg "_law_tree" s__law_tree
  f__law_far : Fx K mg "_law_far" s__law_far
  f__law_limbs : Fx K mg "_law_limbs" s__law_limbs
  f__law_levels : Fx K mg "_law_levels" s__law_levels
  f__law_bits : FxL K mg base T "_law_bits" s__law_bits
  f__law_asks : Fx K mg "_law_asks" s__law_asks
  f__law_bad : Fx K mg "_law_bad" s__law_bad
  f__law_nodes : Fx K mg "_law_nodes" s__law_nodes
  f__law_odd_node : Fx K mg "_law_odd_node" s__law_odd_node
  f__law_odd_bit : Fx K mg "_law_odd_bit" s__law_odd_bit
  f__law_odd_limbs : Fx K mg "_law_odd_limbs" s__law_odd_limbs
  f__law_refusals : Fx K mg "_law_refusals" s__law_refusals
  f__law_joins : Fx K mg "_law_joins" s__law_joins
  f__law_grove : Fx K mg "_law_grove" s__law_grove
  f__law_symbols : Fx K mg "_law_symbols" s__law_symbols
  f__law_named : Fx K mg "_law_named" s__law_named
  f_law : Fx K mg "law" s_law
  n_abs : mg "abs" = none
  n_all : mg "all" = none
  n_bool : mg "bool" = none
  n_enumerate : mg "enumerate" = none
  n_int : mg "int" = none
  n_isinstance : mg "isinstance" = none
  n_len : mg "len" = none
  n_list : mg "list" = none
  n_max : mg "max" = none
  n_range : mg "range" = none
  n_reversed : mg "reversed" = none
  n_set : mg "set" = none
  n_sorted : mg "sorted" = none
  n_str : mg "str" = none
  n_tuple : mg "tuple" = none
  g_A_LETTERS : ∃ t, mg "_A_LETTERS" = some (.str "abcdefghijklmnopqrstuvwxyz" t)
  g_A_OTHERS : ∃ t, mg "_A_OTHERS" = some (.str "0123456789-" t)
  c_NotUsable : Exc2 P w K mg base "NotUsable" "word" "at"
  x_NotUsable : ExcX K mg "NotUsable" ["word", "at"]
  e_NotUsable_NotUsable : PySem.W.exmOne K (.ref (He.ga K "NotUsable")) (.ref (He.ga K "NotUsable")) = some true
  k_NotUsable_UseError : mg "UseError" = some (.ref (He.ga K "UseError")) ∧ PySem.W.kitOne K (.ref (He.ga K "NotUsable")) (.ref (He.ga K "UseError")) = some true
variable {P : Program} {w : World} {K : PySem.W.Frag} {T : List (Addr × Str)} {mg : Str → Option Value} {base : Heap}
theorem hc_NotUsable (G : Facts P w K T mg base) : ∀ n b, cm_NotUsable n = some b → PySem.W.exmOne K (.ref (He.ga K n)) (.ref (He.ga K "NotUsable")) = some b := by
  intro n b h
  unfold cm_NotUsable at h
  by_cases e0 : n = "NotUsable"
  · rw [if_pos e0] at h; cases h; rw [e0]; exact G.e_NotUsable_NotUsable
  rw [if_neg e0] at h
  cases h
abbrev N_a_begins : List Str := ["sign"]
theorem sc_a_begins : FnScope N_a_begins ["sign"] (defScope s_a_begins) := ⟨rfl, rfl, rfl, by decide +kernel, rfl, by decide +kernel, by decide +kernel⟩
theorem ok_a_begins (G : Facts P w K T mg base)  : Fd P w K T mg base "a_begins" s_a_begins 1 ["sign"] m_a_begins := by
  obtain ⟨t_A_LETTERS, g_A_LETTERS⟩ := G.g_A_LETTERS
  exact fd_ok (N := N_a_begins) (ps := ["sign"]) (κ := [0]) (m := b_a_begins) G.f_a_begins sc_a_begins (fun _ _ _ _ _ _ us hl => match us, hl with | [_], _ => rfl) fun f cdv A outer s H E hr W b => ss_one (s_ret (e_p (p_cmp (op_inDD hr.units65) opd_in (p_var (pv 0)) (p_gstr rfl g_A_LETTERS))))
abbrev N_a_goes_on : List Str := ["sign"]
theorem sc_a_goes_on : FnScope N_a_goes_on ["sign"] (defScope s_a_goes_on) := ⟨rfl, rfl, rfl, by decide +kernel, rfl, by decide +kernel, by decide +kernel⟩
theorem ok_a_goes_on (G : Facts P w K T mg base)  : Fd P w K T mg base "a_goes_on" s_a_goes_on 1 ["sign"] m_a_goes_on := by
  obtain ⟨t_A_OTHERS, g_A_OTHERS⟩ := G.g_A_OTHERS
  obtain ⟨t_A_LETTERS, g_A_LETTERS⟩ := G.g_A_LETTERS
  exact fd_ok (N := N_a_goes_on) (ps := ["sign"]) (κ := [0]) (m := b_a_goes_on) G.f_a_goes_on sc_a_goes_on (fun _ _ _ _ _ _ us hl => match us, hl with | [_], _ => rfl) fun f cdv A outer s H E hr W b => ss_one (s_ret (e_or (e_p (p_cmp (op_inDD hr.units65) opd_in (p_var (pv 0)) (p_gstr rfl g_A_LETTERS))) (e_one (e_p (p_cmp (op_inDD hr.units65) opd_in (p_var (pv 0)) (p_gstr rfl g_A_OTHERS))))))
abbrev N_a_ask_node : List Str := ["tree", "node"]
theorem sc_a_ask_node : FnScope N_a_ask_node ["tree", "node"] (defScope s_a_ask_node) := ⟨rfl, rfl, rfl, by decide +kernel, rfl, by decide +kernel, by decide +kernel⟩
theorem ok_a_ask_node (G : Facts P w K T mg base)  : Fd P w K T mg base "a_ask_node" s_a_ask_node 3 ["tree", "node"] m_a_ask_node := by
  exact fd_ok (N := N_a_ask_node) (ps := ["tree", "node"]) (κ := [0, 1]) (m := b_a_ask_node) G.f_a_ask_node sc_a_ask_node (fun _ _ _ _ _ _ us hl => match us, hl with | [_, _], _ => rfl) fun f cdv A outer s H E hr W b => ss_one (s_if (t_w (w_or (t_not (t_p (p_isi (T := .int) G.n_isinstance G.n_int (p_var (pv 1))))) (w_or (t_p (p_isi (T := .bool) G.n_isinstance G.n_bool (p_var (pv 1)))) (w_or1 (t_not (t_chain op_le opd_cmpI op_lt opd_cmpI p_int (p_var (pv 1)) (p_callB DL.call_lenD cad_len G.n_len (pa_consP (p_var (pv 0)) pa_nilP)))))))) (ss_one (s_raiseX rfl b.tk G.c_NotUsable hr (pa_consP p_str (pa_consP (p_un un_neg und_neg p_int) pa_nilP)))) ss_nil)
abbrev N_a_end : List Str := ["tree", "node", "need", "end"]
theorem sc_a_end : FnScope N_a_end ["tree", "node"] (defScope s_a_end) := ⟨rfl, rfl, rfl, by decide +kernel, rfl, by decide +kernel, by decide +kernel⟩
theorem ok_a_end (G : Facts P w K T mg base)  : Fd P w K T mg base "a_end" s_a_end 1 ["tree", "node"] m_a_end := by
  exact fd_ok (N := N_a_end) (ps := ["tree", "node"]) (κ := [0, 1]) (m := b_a_end) G.f_a_end sc_a_end (fun _ _ _ _ _ _ us hl => match us, hl with | [_, _], _ => rfl) fun f cdv A outer s H E hr W b => ss_cons (s_par (i := 2) (j := 3) (by decide) (by decide) rfl sc_a_end.nd (pa_consE (e_p p_int) (pa_consE (e_mv (pv 1)) pa_nilE))) (ss_cons (s_while b.po (t_cmp op_gt opd_cmpI (p_var (pv 2)) p_int) (ss_cons (s_set (i := 2) (by decide) (e_p (p_op op_sub opd_sub (p_op op_addD opd_add (p_var (pv 2)) (p_ix (p_ix (p_var (pv 0)) (p_var (pv 3))) p_int)) p_int)) sc_a_end.nd) (ss_one (s_set (i := 3) (by decide) (e_p (p_op op_addD opd_add (p_var (pv 3)) p_int)) sc_a_end.nd)))) (ss_one (s_ret (e_mv (pv 3)))))
abbrev N_is_word : List Str := ["thing", "sign"]
theorem sc_is_word : FnScope N_is_word ["thing"] (defScope s_is_word) := ⟨rfl, rfl, rfl, by decide +kernel, rfl, by decide +kernel, by decide +kernel⟩
theorem ok_is_word (G : Facts P w K T mg base) (F_a_goes_on : Fd P w K T mg base "a_goes_on" s_a_goes_on 1 ["sign"] m_a_goes_on) (F_a_begins : Fd P w K T mg base "a_begins" s_a_begins 1 ["sign"] m_a_begins) : Fd P w K T mg base "is_word" s_is_word 2 ["thing"] m_is_word := by
  exact fd_ok (N := N_is_word) (ps := ["thing"]) (κ := [0]) (m := b_is_word) G.f_is_word sc_is_word (fun _ _ _ _ _ _ us hl => match us, hl with | [_], _ => rfl) fun f cdv A outer s H E hr W b => ss_cons (s_if (t_not (t_p (p_isi (T := .str) G.n_isinstance G.n_str (p_var (pv 0))))) (ss_one (s_ret (e_p p_bl))) ss_nil) (ss_cons (s_if (t_cmp (op_eqD hr.units) opd_eq (p_var (pv 0)) p_str) (ss_one (s_ret (e_p p_bl))) ss_nil) (ss_cons (s_if (t_w (w_or (t_not (t_chain op_le opd_cmpI op_le opd_cmpI p_int (p_callB DL.call_lenD cad_len G.n_len (pa_consP (p_var (pv 0)) pa_nilP)) p_int)) (w_or1 (t_not (t_e (e_callF F_a_begins hr b.tk (av_e (e_p (p_ck (p_ix (p_var (pv 0)) p_int))) av_nil))))))) (ss_one (s_ret (e_p p_bl))) ss_nil) (ss_one (s_ret (e_callB (cr_all rfl) cad_all G.n_all (pa_consE (e_lcV (own := [("sign", 1)]) rfl sc_is_word.nd (pv 0) (blkOk_by (own := [("sign", 1)]) (N := N_is_word) (sc := defScope s_is_word) (by decide +kernel)) (by decide) (by decide) (fun _ _ _ _ _ => g_name (i := 1) sc_is_word.nd) (fun _ _ _ _ _ => ts_nil) (fun _ _ _ _ _ => e_callF F_a_goes_on hr takes0 (av_var (pv 1) av_nil))) pa_nilE))))))
abbrev N__a_is_count : List Str := ["thing"]
theorem sc__a_is_count : FnScope N__a_is_count ["thing"] (defScope s__a_is_count) := ⟨rfl, rfl, rfl, by decide +kernel, rfl, by decide +kernel, by decide +kernel⟩
theorem ok__a_is_count (G : Facts P w K T mg base)  : Fd P w K T mg base "_a_is_count" s__a_is_count 1 ["thing"] m__a_is_count := by
  exact fd_ok (N := N__a_is_count) (ps := ["thing"]) (κ := [0]) (m := b__a_is_count) G.f__a_is_count sc__a_is_count (fun _ _ _ _ _ _ us hl => match us, hl with | [_], _ => rfl) fun f cdv A outer s H E hr W b => ss_one (s_ret (e_and (e_p (p_isi (T := .int) G.n_isinstance G.n_int (p_var (pv 0)))) (e_and (e_not (e_p (p_isi (T := .bool) G.n_isinstance G.n_bool (p_var (pv 0))))) (e_one (e_p (p_chain op_le opd_cmpI op_le opd_cmpI p_int (p_var (pv 0)) p_int))))))
abbrev N_is_symbol : List Str := ["thing", "word", "many"]
theorem sc_is_symbol : FnScope N_is_symbol ["thing"] (defScope s_is_symbol) := ⟨rfl, rfl, rfl, by decide +kernel, rfl, by decide +kernel, by decide +kernel⟩
theorem ok_is_symbol (G : Facts P w K T mg base) (F__a_is_count : Fd P w K T mg base "_a_is_count" s__a_is_count 1 ["thing"] m__a_is_count) (F_is_word : Fd P w K T mg base "is_word" s_is_word 2 ["thing"] m_is_word) : Fd P w K T mg base "is_symbol" s_is_symbol 3 ["thing"] m_is_symbol := by
  exact fd_ok (N := N_is_symbol) (ps := ["thing"]) (κ := [0]) (m := b_is_symbol) G.f_is_symbol sc_is_symbol (fun _ _ _ _ _ _ us hl => match us, hl with | [_], _ => rfl) fun f cdv A outer s H E hr W b => ss_cons (s_if (t_w (w_or (t_not (t_p (p_isi (T := .tup) G.n_isinstance G.n_tuple (p_var (pv 0))))) (w_or1 (t_cmp (op_neD hr.units) opd_ne (p_callB DL.call_lenD cad_len G.n_len (pa_consP (p_var (pv 0)) pa_nilP)) p_int)))) (ss_one (s_ret (e_p p_bl))) ss_nil) (ss_cons (s_unp (by decide) (e_mv (pv 0)) (g_tup (n := 2) rfl (gs_cons (g_name (i := 1) sc_is_symbol.nd) (gs_cons (g_name (i := 2) sc_is_symbol.nd) gs_nil)))) (ss_one (s_ret (e_and (e_callF F_is_word hr b.tk (av_var (pv 1) av_nil)) (e_and (e_callF F__a_is_count hr b.tk (av_var (pv 2) av_nil)) (e_one (e_or (e_p (p_cmp (op_eqD hr.units) opd_eq (p_var (pv 2)) p_int)) (e_one (e_p (p_cmp (op_neD hr.units) opd_ne (p_var (pv 1)) p_str))))))))))
abbrev N__a_is_hole : List Str := ["thing", "word", "many"]
theorem sc__a_is_hole : FnScope N__a_is_hole ["thing"] (defScope s__a_is_hole) := ⟨rfl, rfl, rfl, by decide +kernel, rfl, by decide +kernel, by decide +kernel⟩
theorem ok__a_is_hole (G : Facts P w K T mg base) (F__a_is_count : Fd P w K T mg base "_a_is_count" s__a_is_count 1 ["thing"] m__a_is_count) : Fd P w K T mg base "_a_is_hole" s__a_is_hole 2 ["thing"] m__a_is_hole := by
  exact fd_ok (N := N__a_is_hole) (ps := ["thing"]) (κ := [0]) (m := b__a_is_hole) G.f__a_is_hole sc__a_is_hole (fun _ _ _ _ _ _ us hl => match us, hl with | [_], _ => rfl) fun f cdv A outer s H E hr W b => ss_cons (s_if (t_w (w_or (t_not (t_p (p_isi (T := .tup) G.n_isinstance G.n_tuple (p_var (pv 0))))) (w_or1 (t_cmp (op_neD hr.units) opd_ne (p_callB DL.call_lenD cad_len G.n_len (pa_consP (p_var (pv 0)) pa_nilP)) p_int)))) (ss_one (s_ret (e_p p_bl))) ss_nil) (ss_cons (s_unp (by decide) (e_mv (pv 0)) (g_tup (n := 2) rfl (gs_cons (g_name (i := 1) sc__a_is_hole.nd) (gs_cons (g_name (i := 2) sc__a_is_hole.nd) gs_nil)))) (ss_one (s_ret (e_and (e_p (p_isi (T := .str) G.n_isinstance G.n_str (p_var (pv 1)))) (e_and (e_p (p_cmp (op_eqD hr.units) opd_eq (p_var (pv 1)) p_str)) (e_and (e_callF F__a_is_count hr b.tk (av_var (pv 2) av_nil)) (e_one (e_p (p_cmp (op_eqD hr.units) opd_eq (p_var (pv 2)) p_int)))))))))
abbrev N__a_is_row : List Str := ["thing", "holes", "need", "symbol"]
theorem sc__a_is_row : FnScope N__a_is_row ["thing", "holes"] (defScope s__a_is_row) := ⟨rfl, rfl, rfl, by decide +kernel, rfl, by decide +kernel, by decide +kernel⟩
theorem ok__a_is_row (G : Facts P w K T mg base) (F__a_is_hole : Fd P w K T mg base "_a_is_hole" s__a_is_hole 2 ["thing"] m__a_is_hole) (F_is_symbol : Fd P w K T mg base "is_symbol" s_is_symbol 3 ["thing"] m_is_symbol) : Fd P w K T mg base "_a_is_row" s__a_is_row 4 ["thing", "holes"] m__a_is_row := by
  exact fd_ok (N := N__a_is_row) (ps := ["thing", "holes"]) (κ := [0, 1]) (m := b__a_is_row) G.f__a_is_row sc__a_is_row (fun _ _ _ _ _ _ us hl => match us, hl with | [_, _], _ => rfl) fun f cdv A outer s H E hr W b => ss_cons (s_if (t_not (t_p (p_isi (T := .tup) G.n_isinstance G.n_tuple (p_var (pv 0))))) (ss_one (s_ret (e_p p_bl))) ss_nil) (ss_cons (s_set (i := 2) (by decide) (e_p p_int) sc__a_is_row.nd) (ss_cons (s_forV (i := 0) (by decide) b.po rfl (pv 0) (g_name (i := 3) sc__a_is_row.nd) (ss_cons (s_if (t_cmp (op_eqD hr.units) opd_eq (p_var (pv 2)) p_int) (ss_one (s_ret (e_p p_bl))) ss_nil) (ss_cons (s_if (t_w (w_and (t_not (t_e (e_callF F_is_symbol hr b.tk (av_var (pv 3) av_nil)))) (w_and1 (t_not (t_w (w_and (t_p (p_var (pv 1))) (w_and1 (t_e (e_callF F__a_is_hole hr b.tk (av_var (pv 3) av_nil)))))))))) (ss_one (s_ret (e_p p_bl))) ss_nil) (ss_one (s_set (i := 2) (by decide) (e_p (p_op op_sub opd_sub (p_op op_addD opd_add (p_var (pv 2)) (p_ix (p_var (pv 3)) p_int)) p_int)) sc__a_is_row.nd))))) (ss_one (s_ret (e_p (p_cmp (op_eqD hr.units) opd_eq (p_var (pv 2)) p_int))))))
abbrev N_is_tree : List Str := ["thing"]
theorem sc_is_tree : FnScope N_is_tree ["thing"] (defScope s_is_tree) := ⟨rfl, rfl, rfl, by decide +kernel, rfl, by decide +kernel, by decide +kernel⟩
theorem ok_is_tree (G : Facts P w K T mg base) (F__a_is_row : Fd P w K T mg base "_a_is_row" s__a_is_row 4 ["thing", "holes"] m__a_is_row) : Fd P w K T mg base "is_tree" s_is_tree 5 ["thing"] m_is_tree := by
  exact fd_ok (N := N_is_tree) (ps := ["thing"]) (κ := [0]) (m := b_is_tree) G.f_is_tree sc_is_tree (fun _ _ _ _ _ _ us hl => match us, hl with | [_], _ => rfl) fun f cdv A outer s H E hr W b => ss_one (s_ret (e_callF F__a_is_row hr b.tk (av_var (pv 0) (av_e (e_p p_bl) av_nil))))
abbrev N_ends_of : List Str := ["tree", "ends", "node", "behind", "_"]
theorem sc_ends_of : FnScope N_ends_of ["tree"] (defScope s_ends_of) := ⟨rfl, rfl, rfl, by decide +kernel, rfl, by decide +kernel, by decide +kernel⟩
theorem ok_ends_of (G : Facts P w K T mg base)  : Fd P w K T mg base "ends_of" s_ends_of 1 ["tree"] m_ends_of := by
  exact fd_ok (N := N_ends_of) (ps := ["tree"]) (κ := [0]) (m := b_ends_of) G.f_ends_of sc_ends_of (fun _ _ _ _ _ _ us hl => match us, hl with | [_], _ => rfl) fun f cdv A outer s H E hr W b => ss_cons (s_set (i := 1) (by decide) (e_p (p_op op_mulD opd_mul (p_lst (pa_consP p_int pa_nilP)) (p_callB DL.call_lenD cad_len G.n_len (pa_consP (p_var (pv 0)) pa_nilP)))) sc_ends_of.nd) (ss_cons (s_for (by decide) b.po rfl (i_revR G.n_reversed G.n_range (e_p (p_callB DL.call_lenD cad_len G.n_len (pa_consP (p_var (pv 0)) pa_nilP)))) (g_name (i := 2) sc_ends_of.nd) (ss_cons (s_set (i := 3) (by decide) (e_p (p_op op_addD opd_add (p_var (pv 2)) p_int)) sc_ends_of.nd) (ss_cons (s_for (by decide) b.po rfl (i_range1 G.n_range (pa_consE (e_p (p_ck (p_ix (p_ix (p_var (pv 0)) (p_var (pv 2))) p_int))) pa_nilE)) (g_name (i := 4) sc_ends_of.nd) (ss_one (s_set (i := 3) (by decide) (e_p (p_ck (p_ix (p_var (pv 1)) (p_var (pv 3))))) sc_ends_of.nd))) (ss_one (s_setIx (pg_sub (pv 1) (p_var (pv 2)) set_list) (e_mv (pv 3))))))) (ss_one (s_ret (e_p (p_callTy call_tuple_of cad_tuple G.n_tuple (pa_consP (p_var (pv 1)) pa_nilP))))))
abbrev N_piece_at : List Str := ["tree", "node"]
theorem sc_piece_at : FnScope N_piece_at ["tree", "node"] (defScope s_piece_at) := ⟨rfl, rfl, rfl, by decide +kernel, rfl, by decide +kernel, by decide +kernel⟩
theorem ok_piece_at (G : Facts P w K T mg base) (F_a_end : Fd P w K T mg base "a_end" s_a_end 1 ["tree", "node"] m_a_end) (F_a_ask_node : Fd P w K T mg base "a_ask_node" s_a_ask_node 3 ["tree", "node"] m_a_ask_node) : Fd P w K T mg base "piece_at" s_piece_at 4 ["tree", "node"] m_piece_at := by
  exact fd_ok (N := N_piece_at) (ps := ["tree", "node"]) (κ := [0, 1]) (m := b_piece_at) G.f_piece_at sc_piece_at (fun _ _ _ _ _ _ us hl => match us, hl with | [_, _], _ => rfl) fun f cdv A outer s H E hr W b => ss_cons (s_expr (e_callF F_a_ask_node hr b.tk (av_var (pv 0) (av_var (pv 1) av_nil)))) (ss_one (s_ret (e_sl (e_p (p_ck (p_var (pv 0)))) (o_some (e_mv (pv 1))) (o_some (e_callF F_a_end hr b.tk (av_var (pv 0) (av_var (pv 1) av_nil)))))))
abbrev N_with_piece : List Str := ["tree", "node", "piece"]
theorem sc_with_piece : FnScope N_with_piece ["tree", "node", "piece"] (defScope s_with_piece) := ⟨rfl, rfl, rfl, by decide +kernel, rfl, by decide +kernel, by decide +kernel⟩
theorem ok_with_piece (G : Facts P w K T mg base) (F_a_end : Fd P w K T mg base "a_end" s_a_end 1 ["tree", "node"] m_a_end) (F_is_tree : Fd P w K T mg base "is_tree" s_is_tree 5 ["thing"] m_is_tree) (F_a_ask_node : Fd P w K T mg base "a_ask_node" s_a_ask_node 3 ["tree", "node"] m_a_ask_node) : Fd P w K T mg base "with_piece" s_with_piece 6 ["tree", "node", "piece"] m_with_piece := by
  exact fd_ok (N := N_with_piece) (ps := ["tree", "node", "piece"]) (κ := [0, 1, 2]) (m := b_with_piece) G.f_with_piece sc_with_piece (fun _ _ _ _ _ _ us hl => match us, hl with | [_, _, _], _ => rfl) fun f cdv A outer s H E hr W b => ss_cons (s_expr (e_callF F_a_ask_node hr b.tk (av_var (pv 0) (av_var (pv 1) av_nil)))) (ss_cons (s_if (t_not (t_e (e_callF F_is_tree hr b.tk (av_var (pv 2) av_nil)))) (ss_one (s_raiseX rfl b.tk G.c_NotUsable hr (pa_consP p_str (pa_consP (p_un un_neg und_neg p_int) pa_nilP)))) ss_nil) (ss_one (s_ret (e_op op_addD opd_add (e_p (p_op op_addD opd_add (p_sl (p_var (pv 0)) po_bdN (po_bdS (p_var (pv 1)))) (p_var (pv 2)))) (e_sl (e_p (p_ck (p_var (pv 0)))) (o_some (e_callF F_a_end hr b.tk (av_var (pv 0) (av_var (pv 1) av_nil)))) o_none)))))
abbrev N_parts_of : List Str := ["tree", "parts", "start", "end"]
theorem sc_parts_of : FnScope N_parts_of ["tree"] (defScope s_parts_of) := ⟨rfl, rfl, rfl, by decide +kernel, rfl, by decide +kernel, by decide +kernel⟩
theorem ok_parts_of (G : Facts P w K T mg base) (F_a_end : Fd P w K T mg base "a_end" s_a_end 1 ["tree", "node"] m_a_end) : Fd P w K T mg base "parts_of" s_parts_of 2 ["tree"] m_parts_of := by
  exact fd_ok (N := N_parts_of) (ps := ["tree"]) (κ := [0]) (m := b_parts_of) G.f_parts_of sc_parts_of (fun _ _ _ _ _ _ us hl => match us, hl with | [_], _ => rfl) fun f cdv A outer s H E hr W b => ss_cons (s_par (i := 1) (j := 2) (by decide) (by decide) rfl sc_parts_of.nd (pa_consE (e_p (p_lst pa_nilP)) (pa_consE (e_p p_int) pa_nilE))) (ss_cons (s_while b.po (t_cmp op_lt opd_cmpI (p_var (pv 2)) (p_callB DL.call_lenD cad_len G.n_len (pa_consP (p_var (pv 0)) pa_nilP))) (ss_cons (s_set (i := 3) (by decide) (e_callF F_a_end hr b.tk (av_var (pv 0) (av_var (pv 2) av_nil))) sc_parts_of.nd) (ss_cons (s_expr (e_append (pv 1) (e_p (p_sl (p_var (pv 0)) (po_bdS (p_var (pv 2))) (po_bdS (p_var (pv 3))))))) (ss_one (s_set (i := 2) (by decide) (e_mv (pv 3)) sc_parts_of.nd))))) (ss_one (s_ret (e_p (p_callTy call_tuple_of cad_tuple G.n_tuple (pa_consP (p_var (pv 1)) pa_nilP))))))
abbrev N__a_may_follow : List Str := ["word", "parts", "part"]
theorem sc__a_may_follow : FnScope N__a_may_follow ["word", "parts"] (defScope s__a_may_follow) := ⟨rfl, rfl, rfl, by decide +kernel, rfl, by decide +kernel, by decide +kernel⟩
theorem ok__a_may_follow (G : Facts P w K T mg base) (F_is_tree : Fd P w K T mg base "is_tree" s_is_tree 5 ["thing"] m_is_tree) : Fd P w K T mg base "_a_may_follow" s__a_may_follow 6 ["word", "parts"] m__a_may_follow := by
  exact fd_ok (N := N__a_may_follow) (ps := ["word", "parts"]) (κ := [0, 1]) (m := b__a_may_follow) G.f__a_may_follow sc__a_may_follow (fun _ _ _ _ _ _ us hl => match us, hl with | [_, _], _ => rfl) fun f cdv A outer s H E hr W b => ss_cons (s_if (t_w (w_or (t_not (t_p (p_isi (T := .tup) G.n_isinstance G.n_tuple (p_var (pv 1))))) (w_or (t_cmp op_gt opd_cmpI (p_callB DL.call_lenD cad_len G.n_len (pa_consP (p_var (pv 1)) pa_nilP)) p_int) (w_or1 (t_w (w_and (t_cmp (op_eqD hr.units) opd_eq (p_var (pv 0)) p_str) (w_and1 (t_cmp op_gt opd_cmpI (p_callB DL.call_lenD cad_len G.n_len (pa_consP (p_var (pv 1)) pa_nilP)) p_int)))))))) (ss_one (s_ret (e_p p_bl))) ss_nil) (ss_one (s_ret (e_callB (cr_all rfl) cad_all G.n_all (pa_consE (e_lcV (own := [("part", 2)]) rfl sc__a_may_follow.nd (pv 1) (blkOk_by (own := [("part", 2)]) (N := N__a_may_follow) (sc := defScope s__a_may_follow) (by decide +kernel)) (by decide) (by decide) (fun _ _ _ _ _ => g_name (i := 2) sc__a_may_follow.nd) (fun _ _ _ _ _ => ts_nil) (fun _ _ _ _ _ => e_callF F_is_tree hr takes0 (av_var (pv 2) av_nil))) pa_nilE))))
abbrev N_tree_of : List Str := ["word", "parts", "row", "part"]
theorem sc_tree_of : FnScope N_tree_of ["word", "parts"] (defScope s_tree_of) := ⟨rfl, rfl, rfl, by decide +kernel, rfl, by decide +kernel, by decide +kernel⟩
theorem ok_tree_of (G : Facts P w K T mg base) (F__a_may_follow : Fd P w K T mg base "_a_may_follow" s__a_may_follow 6 ["word", "parts"] m__a_may_follow) : Fd P w K T mg base "tree_of" s_tree_of 7 ["word", "parts"] m_tree_of := by
  exact fd_ok (N := N_tree_of) (ps := ["word", "parts"]) (κ := [0, 1]) (m := b_tree_of) G.f_tree_of sc_tree_of (fun _ _ _ _ _ _ us hl => match us, hl with | [_, _], _ => rfl) fun f cdv A outer s H E hr W b => ss_cons (s_if (t_not (t_e (e_callF F__a_may_follow hr b.tk (av_var (pv 0) (av_var (pv 1) av_nil))))) (ss_one (s_raiseX rfl b.tk G.c_NotUsable hr (pa_consP p_str (pa_consP (p_un un_neg und_neg p_int) pa_nilP)))) ss_nil) (ss_cons (s_set (i := 2) (by decide) (e_p (p_lst (pa_consP (p_tup (pa_consP (p_var (pv 0)) (pa_consP (p_callB DL.call_lenD cad_len G.n_len (pa_consP (p_var (pv 1)) pa_nilP)) pa_nilP))) pa_nilP))) sc_tree_of.nd) (ss_cons (s_forV (i := 1) (by decide) b.po rfl (pv 1) (g_name (i := 3) sc_tree_of.nd) (ss_one (s_expr (e_extend (pv 2) (e_mv (pv 3)))))) (ss_one (s_ret (e_p (p_callTy call_tuple_of cad_tuple G.n_tuple (pa_consP (p_var (pv 2)) pa_nilP)))))))
abbrev N_in_order : List Str := ["trees"]
theorem sc_in_order : FnScope N_in_order ["trees"] (defScope s_in_order) := ⟨rfl, rfl, rfl, by decide +kernel, rfl, by decide +kernel, by decide +kernel⟩
theorem ok_in_order (G : Facts P w K T mg base)  : Fd P w K T mg base "in_order" s_in_order 1 ["trees"] m_in_order := by
  exact fd_ok (N := N_in_order) (ps := ["trees"]) (κ := [0]) (m := b_in_order) G.f_in_order sc_in_order (fun _ _ _ _ _ _ us hl => match us, hl with | [_], _ => rfl) fun f cdv A outer s H E hr W b => ss_one (s_ret (e_p (p_callTy call_tuple_of cad_tuple G.n_tuple (pa_consP (p_sortLen hr.units G.n_sorted G.n_len (p_sortSet rfl hr.units G.n_sorted G.n_set (p_var (pv 0)))) pa_nilP))))
abbrev N_pieces_of : List Str := ["trees", "found", "tree", "node", "end"]
theorem sc_pieces_of : FnScope N_pieces_of ["trees"] (defScope s_pieces_of) := ⟨rfl, rfl, rfl, by decide +kernel, rfl, by decide +kernel, by decide +kernel⟩
theorem ok_pieces_of (G : Facts P w K T mg base) (F_in_order : Fd P w K T mg base "in_order" s_in_order 1 ["trees"] m_in_order) (F_ends_of : Fd P w K T mg base "ends_of" s_ends_of 1 ["tree"] m_ends_of) : Fd P w K T mg base "pieces_of" s_pieces_of 2 ["trees"] m_pieces_of := by
  exact fd_ok (N := N_pieces_of) (ps := ["trees"]) (κ := [0]) (m := b_pieces_of) G.f_pieces_of sc_pieces_of (fun _ _ _ _ _ _ us hl => match us, hl with | [_], _ => rfl) fun f cdv A outer s H E hr W b => ss_cons (s_set (i := 1) (by decide) (e_p (p_lst pa_nilP)) sc_pieces_of.nd) (ss_cons (s_forV (i := 0) (by decide) b.po rfl (pv 0) (g_name (i := 2) sc_pieces_of.nd) (ss_one (s_for (by decide) b.po rfl (i_enumT G.n_enumerate (e_callF F_ends_of hr b.tk (av_var (pv 2) av_nil))) (g_tup (n := 2) rfl (gs_cons (g_name (i := 3) sc_pieces_of.nd) (gs_cons (g_name (i := 4) sc_pieces_of.nd) gs_nil))) (ss_one (s_expr (e_append (pv 1) (e_p (p_sl (p_var (pv 2)) (po_bdS (p_var (pv 3))) (po_bdS (p_var (pv 4))))))))))) (ss_one (s_ret (e_callF F_in_order hr b.tk (av_e (e_p (p_callTy call_tuple_of cad_tuple G.n_tuple (pa_consP (p_var (pv 1)) pa_nilP))) av_nil)))))
abbrev N_symbols_of : List Str := ["trees", "tree", "symbol"]
theorem sc_symbols_of : FnScope N_symbols_of ["trees"] (defScope s_symbols_of) := ⟨rfl, rfl, rfl, by decide +kernel, rfl, by decide +kernel, by decide +kernel⟩
theorem ok_symbols_of (G : Facts P w K T mg base)  : Fd P w K T mg base "symbols_of" s_symbols_of 1 ["trees"] m_symbols_of := by
  exact fd_ok (N := N_symbols_of) (ps := ["trees"]) (κ := [0]) (m := b_symbols_of) G.f_symbols_of sc_symbols_of (fun _ _ _ _ _ _ us hl => match us, hl with | [_], _ => rfl) fun f cdv A outer s H E hr W b => ss_one (s_ret (e_p (p_callTy call_tuple_of cad_tuple G.n_tuple (pa_consP (p_sortSet2 (own := [("tree", 1), ("symbol", 2)]) rfl hr.units sc_symbols_of.nd G.n_sorted (p_var (pv 0)) (blkOk_by (own := [("tree", 1), ("symbol", 2)]) (N := N_symbols_of) (sc := defScope s_symbols_of) (by decide +kernel)) (fun _ _ _ _ _ => (g_name (ξ := ⟨none, []⟩) (i := 1) sc_symbols_of.nd).pg) (fun _ _ _ _ _ => pv 1) (fun _ _ _ _ _ => (g_name (ξ := ⟨none, []⟩) (i := 2) sc_symbols_of.nd).pg) (fun _ _ _ _ _ => pv 2)) pa_nilP))))
abbrev N_levels_of : List Str := ["tree", "levels", "symbol", "most", "_"]
theorem sc_levels_of : FnScope N_levels_of ["tree"] (defScope s_levels_of) := ⟨rfl, rfl, rfl, by decide +kernel, rfl, by decide +kernel, by decide +kernel⟩
theorem ok_levels_of (G : Facts P w K T mg base)  : Fd P w K T mg base "levels_of" s_levels_of 1 ["tree"] m_levels_of := by
  exact fd_ok (N := N_levels_of) (ps := ["tree"]) (κ := [0]) (m := b_levels_of) G.f_levels_of sc_levels_of (fun _ _ _ _ _ _ us hl => match us, hl with | [_], _ => rfl) fun f cdv A outer s H E hr W b => ss_cons (s_set (i := 1) (by decide) (e_p (p_lst pa_nilP)) sc_levels_of.nd) (ss_cons (s_for (by decide) b.po rfl (i_revI G.n_reversed (e_mv (pv 0))) (g_name (i := 2) sc_levels_of.nd) (ss_cons (s_set (i := 3) (by decide) (e_p p_int) sc_levels_of.nd) (ss_cons (s_for (by decide) b.po rfl (i_range1 G.n_range (pa_consE (e_p (p_ck (p_ix (p_var (pv 2)) p_int))) pa_nilE)) (g_name (i := 4) sc_levels_of.nd) (ss_one (s_set (i := 3) (by decide) (e_callB (call_max2 rfl) cad_max G.n_max (pa_consE (e_mv (pv 3)) (pa_consE (e_pop (pv 1)) pa_nilE))) sc_levels_of.nd))) (ss_one (s_expr (e_append (pv 1) (e_p (p_op op_addD opd_add (p_var (pv 3)) p_int)))))))) (ss_one (s_ret (e_p (p_ck (p_ix (p_var (pv 1)) p_int))))))
abbrev N_place_of : List Str := ["tree", "node"]
theorem sc_place_of : FnScope N_place_of ["tree", "node"] (defScope s_place_of) := ⟨rfl, rfl, rfl, by decide +kernel, rfl, by decide +kernel, by decide +kernel⟩
theorem ok_place_of (G : Facts P w K T mg base) (F_a_end : Fd P w K T mg base "a_end" s_a_end 1 ["tree", "node"] m_a_end) (F_a_ask_node : Fd P w K T mg base "a_ask_node" s_a_ask_node 3 ["tree", "node"] m_a_ask_node) : Fd P w K T mg base "place_of" s_place_of 4 ["tree", "node"] m_place_of := by
  exact fd_ok (N := N_place_of) (ps := ["tree", "node"]) (κ := [0, 1]) (m := b_place_of) G.f_place_of sc_place_of (fun _ _ _ _ _ _ us hl => match us, hl with | [_, _], _ => rfl) fun f cdv A outer s H E hr W b => ss_cons (s_expr (e_callF F_a_ask_node hr b.tk (av_var (pv 0) (av_var (pv 1) av_nil)))) (ss_one (s_ret (e_tup (pa_consE (e_p (p_sl (p_var (pv 0)) po_bdN (po_bdS (p_var (pv 1))))) (pa_consE (e_sl (e_p (p_ck (p_var (pv 0)))) (o_some (e_callF F_a_end hr b.tk (av_var (pv 0) (av_var (pv 1) av_nil)))) o_none) pa_nilE)))))
abbrev N_put_at : List Str := ["place", "piece", "front", "back"]
theorem sc_put_at : FnScope N_put_at ["place", "piece"] (defScope s_put_at) := ⟨rfl, rfl, rfl, by decide +kernel, rfl, by decide +kernel, by decide +kernel⟩
theorem ok_put_at (G : Facts P w K T mg base) (F_is_tree : Fd P w K T mg base "is_tree" s_is_tree 5 ["thing"] m_is_tree) : Fd P w K T mg base "put_at" s_put_at 6 ["place", "piece"] m_put_at := by
  exact fd_ok (N := N_put_at) (ps := ["place", "piece"]) (κ := [0, 1]) (m := b_put_at) G.f_put_at sc_put_at (fun _ _ _ _ _ _ us hl => match us, hl with | [_, _], _ => rfl) fun f cdv A outer s H E hr W b => ss_cons (s_if (t_not (t_e (e_callF F_is_tree hr b.tk (av_var (pv 1) av_nil)))) (ss_one (s_raiseX rfl b.tk G.c_NotUsable hr (pa_consP p_str (pa_consP (p_un un_neg und_neg p_int) pa_nilP)))) ss_nil) (ss_cons (s_unp (by decide) (e_mv (pv 0)) (g_tup (n := 2) rfl (gs_cons (g_name (i := 2) sc_put_at.nd) (gs_cons (g_name (i := 3) sc_put_at.nd) gs_nil)))) (ss_one (s_ret (e_p (p_op op_addD opd_add (p_op op_addD opd_add (p_var (pv 2)) (p_var (pv 1))) (p_var (pv 3)))))))
abbrev N__law_tape : List Str := ["_law_script", "_law_state", "_law_cell", "_law_cells"]
theorem sc__law_tape : FnScope N__law_tape ["_law_script"] (defScope s__law_tape) := ⟨rfl, rfl, rfl, by decide +kernel, rfl, by decide +kernel, by decide +kernel⟩
theorem ok__law_tape (G : Facts P w K T mg base)  : Fd P w K T mg base "_law_tape" s__law_tape 1 ["_law_script"] m__law_tape := by
  exact fd_ok (N := N__law_tape) (ps := ["_law_script"]) (κ := [0]) (m := b__law_tape) G.f__law_tape sc__law_tape (fun _ _ _ _ _ _ us hl => match us, hl with | [_], _ => rfl) fun f cdv A outer s H E hr W b => ss_cons (s_set (i := 1) (by decide) (e_p p_int) sc__law_tape.nd) (ss_cons (s_forV (i := 0) (by decide) b.po rfl (pv 0) (g_name (i := 2) sc__law_tape.nd) (ss_one (s_set (i := 1) (by decide) (e_p (p_op op_mod opd_mod (p_op op_addD opd_add (p_op op_addD opd_add (p_op op_mulD opd_mul (p_var (pv 1)) p_int) (p_var (pv 2))) p_int) p_int)) sc__law_tape.nd))) (ss_cons (s_setLcV (by decide) (own := [("_law_cell", 2)]) rfl sc__law_tape.nd (pv 0) (blkOk_by (own := [("_law_cell", 2)]) (N := N__law_tape) (sc := defScope s__law_tape) (by decide +kernel)) (by decide) (by decide) (fun _ _ _ _ _ => g_name (i := 2) sc__law_tape.nd) (fun _ _ _ _ _ => ts_nil) (fun _ _ _ _ _ => e_p (p_callB call_abs cad_abs G.n_abs (pa_consP (p_var (pv 2)) pa_nilP)))) (ss_one (s_ret (e_lst (pa_consE (e_p (p_rev (p_var (pv 3)))) (pa_consE (e_p (p_lst (pa_consP (p_var (pv 1)) pa_nilP))) pa_nilE)))))))
abbrev N__law_pick : List Str := ["_law_tape_here", "_law_many", "_law_cells", "_law_found"]
theorem sc__law_pick : FnScope N__law_pick ["_law_tape_here", "_law_many"] (defScope s__law_pick) := ⟨rfl, rfl, rfl, by decide +kernel, rfl, by decide +kernel, by decide +kernel⟩
theorem ok__law_pick (G : Facts P w K T mg base)  : Fd P w K T mg base "_law_pick" s__law_pick 1 ["_law_tape_here", "_law_many"] m__law_pick := by
  exact fd_ok (N := N__law_pick) (ps := ["_law_tape_here", "_law_many"]) (κ := [0, 1]) (m := b__law_pick) G.f__law_pick sc__law_pick (fun _ _ _ _ _ _ us hl => match us, hl with | [_, _], _ => rfl) fun f cdv A outer s H E hr W b => ss_al (y := 2) (i := 0) (j := 0) (by decide) sc__law_pick.nd rfl (pv 0) (fun a => ss_cons (s_while b.po (t_w (w_and (t_cmp op_gt opd_cmpI (p_callB DL.call_lenD cad_len G.n_len (pa_consP (p_var (pv 2)) pa_nilP)) p_int) (w_and1 (t_cmp (op_eqD hr.units) opd_eq (p_ix (p_var (pv 2)) (p_un un_neg und_neg p_int)) p_int)))) (ss_one (s_expr (e_pop (pv 2))))) (ss_cons (s_if (t_cmp op_gt opd_cmpI (p_callB DL.call_lenD cad_len G.n_len (pa_consP (p_var (pv 2)) pa_nilP)) p_int) (ss_cons (s_set (i := 3) (by decide) (e_p (p_op op_mod opd_mod (p_callTy call_int1 cad_int G.n_int (pa_consP (p_ix (p_var (pv 2)) (p_un un_neg und_neg p_int)) pa_nilP)) (p_var (pv 1)))) sc__law_pick.nd) (ss_cons (s_setIx (pg_sub (pv 2) (p_un un_neg und_neg p_int) set_list) (e_p (p_op op_fdivW opd_fdiv (p_callTy call_int1 cad_int G.n_int (pa_consP (p_ix (p_var (pv 2)) (p_un un_neg und_neg p_int)) pa_nilP)) (p_var (pv 1))))) (ss_one (s_ret (e_mv (pv 3)))))) ss_nil) (ss_cons (s_setIx2 (j := 1) (pg_sub (pe_ix ix_seq (pv 0) pe_int (fun _ _ => rfl)) p_int set_list) (e_p (p_op op_mod opd_mod (p_op op_addD opd_add (p_op op_mulD opd_mul (p_ix (p_ix (p_var (pv 0)) p_int) p_int) p_int) p_int) p_int))) (ss_one (s_ret (e_p (p_op op_mod opd_mod (p_op op_fdivW opd_fdiv (p_ix (p_ix (p_var (pv 0)) p_int) p_int) p_int) (p_var (pv 1)))))))))
abbrev N__law_same : List Str := ["_law_told", "_law_due", "_law_rows", "_law_pair", "_law_one", "_law_two", "_law_k"]
theorem sc__law_same : FnScope N__law_same ["_law_told", "_law_due"] (defScope s__law_same) := ⟨rfl, rfl, rfl, by decide +kernel, rfl, by decide +kernel, by decide +kernel⟩
theorem ok__law_same (G : Facts P w K T mg base)  : Fd P w K T mg base "_law_same" s__law_same 1 ["_law_told", "_law_due"] m__law_same := by
  exact fd_ok (N := N__law_same) (ps := ["_law_told", "_law_due"]) (κ := [0, 1]) (m := b__law_same) G.f__law_same sc__law_same (fun _ _ _ _ _ _ us hl => match us, hl with | [_, _], _ => rfl) fun f cdv A outer s H E hr W b => ss_cons (s_set (i := 2) (by decide) (e_p (p_lst (pa_consP (p_tup (pa_consP (p_var (pv 0)) (pa_consP (p_var (pv 1)) pa_nilP))) pa_nilP))) sc__law_same.nd) (ss_cons (s_while b.po (t_cmp op_gt opd_cmpI (p_callB DL.call_lenD cad_len G.n_len (pa_consP (p_var (pv 2)) pa_nilP)) p_int) (ss_cons (s_set (i := 3) (by decide) (e_pop (pv 2)) sc__law_same.nd) (ss_cons (s_set (i := 4) (by decide) (e_p (p_ck (p_ix (p_var (pv 3)) p_int))) sc__law_same.nd) (ss_cons (s_set (i := 5) (by decide) (e_p (p_ck (p_ix (p_var (pv 3)) p_int))) sc__law_same.nd) (ss_one (s_if (t_p (p_isi (T := .tup) G.n_isinstance G.n_tuple (p_var (pv 5)))) (ss_cons (s_if (t_w (w_or (t_not (t_p (p_isi (T := .tup) G.n_isinstance G.n_tuple (p_var (pv 4))))) (w_or1 (t_cmp (op_neD hr.units) opd_ne (p_callB DL.call_lenD cad_len G.n_len (pa_consP (p_var (pv 4)) pa_nilP)) (p_callB DL.call_lenD cad_len G.n_len (pa_consP (p_var (pv 5)) pa_nilP)))))) (ss_one (s_ret (e_p p_bl))) ss_nil) (ss_one (s_for (by decide) b.po rfl (i_range1 G.n_range (pa_consE (e_p (p_callB DL.call_lenD cad_len G.n_len (pa_consP (p_var (pv 5)) pa_nilP))) pa_nilE)) (g_name (i := 6) sc__law_same.nd) (ss_one (s_expr (e_append (pv 2) (e_p (p_tup (pa_consP (p_ix (p_var (pv 4)) (p_var (pv 6))) (pa_consP (p_ix (p_var (pv 5)) (p_var (pv 6))) pa_nilP)))))))))) (ss_one (s_if (t_cmp op_isN opd_is (p_var (pv 5)) p_non) (ss_one (s_if (t_cmp op_notN opd_isNot (p_var (pv 4)) p_non) (ss_one (s_ret (e_p p_bl))) ss_nil)) (ss_one (s_if (t_p (p_isi (T := .bool) G.n_isinstance G.n_bool (p_var (pv 5)))) (ss_one (s_if (t_w (w_or (t_not (t_p (p_isi (T := .bool) G.n_isinstance G.n_bool (p_var (pv 4))))) (w_or1 (t_cmp (op_neD hr.units) opd_ne (p_var (pv 4)) (p_var (pv 5)))))) (ss_one (s_ret (e_p p_bl))) ss_nil)) (ss_one (s_if (t_p (p_isi (T := .int) G.n_isinstance G.n_int (p_var (pv 5)))) (ss_one (s_if (t_w (w_or (t_p (p_isi (T := .bool) G.n_isinstance G.n_bool (p_var (pv 4)))) (w_or (t_not (t_p (p_isi (T := .int) G.n_isinstance G.n_int (p_var (pv 4))))) (w_or1 (t_cmp (op_neD hr.units) opd_ne (p_var (pv 4)) (p_var (pv 5))))))) (ss_one (s_ret (e_p p_bl))) ss_nil)) (ss_one (s_if (t_p (p_isi (T := .str) G.n_isinstance G.n_str (p_var (pv 5)))) (ss_one (s_if (t_w (w_or (t_not (t_p (p_isi (T := .str) G.n_isinstance G.n_str (p_var (pv 4))))) (w_or1 (t_cmp (op_neD hr.units) opd_ne (p_var (pv 4)) (p_var (pv 5)))))) (ss_one (s_ret (e_p p_bl))) ss_nil)) (ss_one (s_ret (e_p p_bl))))))))))))))))) (ss_one (s_ret (e_p p_bl))))
abbrev N__law_marks : List Str := ["_law_tape_here", "_law_names", "_law_at", "_law_marks_here", "_law_k"]
theorem sc__law_marks : FnScope N__law_marks ["_law_tape_here"] (defScope s__law_marks) := ⟨rfl, rfl, rfl, by decide +kernel, rfl, by decide +kernel, by decide +kernel⟩
theorem ok__law_marks (G : Facts P w K T mg base) (F__law_pick : Fd P w K T mg base "_law_pick" s__law_pick 1 ["_law_tape_here", "_law_many"] m__law_pick) : Fd P w K T mg base "_law_marks" s__law_marks 2 ["_law_tape_here"] m__law_marks := by
  exact fd_ok (N := N__law_marks) (ps := ["_law_tape_here"]) (κ := [0]) (m := b__law_marks) G.f__law_marks sc__law_marks (fun _ _ _ _ _ _ us hl => match us, hl with | [_], _ => rfl) fun f cdv A outer s H E hr W b => ss_cons (s_set (i := 1) (by decide) (e_p (p_lst (pa_consP p_str (pa_consP p_str (pa_consP p_str (pa_consP p_str (pa_consP p_str (pa_consP p_str (pa_consP p_str (pa_consP p_str pa_nilP)))))))))) sc__law_marks.nd) (ss_cons (s_set (i := 2) (by decide) (e_callF F__law_pick hr b.tk (av_var (pv 0) (av_e (e_p p_int) av_nil))) sc__law_marks.nd) (ss_cons (s_set (i := 3) (by decide) (e_p (p_lst (pa_consP (p_tup (pa_consP (p_ix (p_var (pv 1)) (p_var (pv 2))) (pa_consP p_int pa_nilP))) (pa_consP (p_tup (pa_consP (p_ix (p_var (pv 1)) (p_op op_mod opd_mod (p_op op_addD opd_add (p_var (pv 2)) p_int) p_int)) (pa_consP p_int pa_nilP))) pa_nilP)))) sc__law_marks.nd) (ss_cons (s_if (t_cmpEP (op_eqD hr.units) opd_eq (e_callF F__law_pick hr b.tk (av_var (pv 0) (av_e (e_p p_int) av_nil))) p_int) (ss_one (s_setIx (pg_sub (pv 3) p_int set_list) (e_p (p_tup (pa_consP p_str (pa_consP p_int pa_nilP)))))) ss_nil) (ss_cons (s_for (by decide) b.po rfl (i_range1 G.n_range (pa_consE (e_op op_addD opd_add (e_p p_int) (e_callF F__law_pick hr b.tk (av_var (pv 0) (av_e (e_p p_int) av_nil)))) pa_nilE)) (g_name (i := 4) sc__law_marks.nd) (ss_one (s_expr (e_append (pv 3) (e_tup (pa_consE (e_ixVE (pv 1) (e_opEP op_mod opd_mod (e_opVE op_addD opd_add (pv 2) (e_callF F__law_pick hr b.tk (av_var (pv 0) (av_e (e_p p_int) av_nil)))) p_int)) (pa_consE (e_ix (e_p (p_lst (pa_consP p_int (pa_consP p_int (pa_consP p_int (pa_consP p_int (pa_consP p_int (pa_consP p_int (pa_consP p_int pa_nilP))))))))) (e_callF F__law_pick hr b.tk (av_var (pv 0) (av_e (e_p p_int) av_nil)))) pa_nilE))))))) (ss_one (s_ret (e_mv (pv 3))))))))
abbrev N__law_tree : List Str := ["_law_tape_here", "_law_marks_here", "_law_most", "_law_row", "_law_need", "_law_mark"]
theorem sc__law_tree : FnScope N__law_tree ["_law_tape_here", "_law_marks_here", "_law_most"] (defScope s__law_tree) := ⟨rfl, rfl, rfl, by decide +kernel, rfl, by decide +kernel, by decide +kernel⟩
theorem ok__law_tree (G : Facts P w K T mg base) (F__law_pick : Fd P w K T mg base "_law_pick" s__law_pick 1 ["_law_tape_here", "_law_many"] m__law_pick) : Fd P w K T mg base "_law_tree" s__law_tree 2 ["_law_tape_here", "_law_marks_here", "_law_most"] m__law_tree := by
  exact fd_ok (N := N__law_tree) (ps := ["_law_tape_here", "_law_marks_here", "_law_most"]) (κ := [0, 1, 2]) (m := b__law_tree) G.f__law_tree sc__law_tree (fun _ _ _ _ _ _ us hl => match us, hl with | [_, _, _], _ => rfl) fun f cdv A outer s H E hr W b => ss_cons (s_set (i := 3) (by decide) (e_p (p_lst pa_nilP)) sc__law_tree.nd) (ss_cons (s_set (i := 4) (by decide) (e_p p_int) sc__law_tree.nd) (ss_cons (s_while b.po (t_cmp op_gt opd_cmpI (p_var (pv 4)) p_int) (ss_cons (s_set (i := 5) (by decide) (e_ixVE (pv 1) (e_callF F__law_pick hr b.tk (av_var (pv 0) (av_e (e_p (p_callB DL.call_lenD cad_len G.n_len (pa_consP (p_var (pv 1)) pa_nilP))) av_nil)))) sc__law_tree.nd) (ss_cons (s_if (t_cmp op_gt opd_cmpI (p_ix (p_var (pv 5)) p_int) (p_op op_sub opd_sub (p_op op_sub opd_sub (p_var (pv 2)) (p_callB DL.call_lenD cad_len G.n_len (pa_consP (p_var (pv 3)) pa_nilP))) (p_var (pv 4)))) (ss_one (s_set (i := 5) (by decide) (e_ixVE (pv 1) (e_callF F__law_pick hr b.tk (av_var (pv 0) (av_e (e_p p_int) av_nil)))) sc__law_tree.nd)) ss_nil) (ss_cons (s_expr (e_append (pv 3) (e_mv (pv 5)))) (ss_one (s_set (i := 4) (by decide) (e_p (p_op op_addD opd_add (p_op op_sub opd_sub (p_var (pv 4)) p_int) (p_ix (p_var (pv 5)) p_int))) sc__law_tree.nd)))))) (ss_one (s_ret (e_p (p_callTy call_tuple_of cad_tuple G.n_tuple (pa_consP (p_var (pv 3)) pa_nilP)))))))
abbrev N__law_far : List Str := ["_law_row", "_law_at", "_law_need"]
theorem sc__law_far : FnScope N__law_far ["_law_row", "_law_at"] (defScope s__law_far) := ⟨rfl, rfl, rfl, by decide +kernel, rfl, by decide +kernel, by decide +kernel⟩
theorem ok__law_far (G : Facts P w K T mg base)  : Fd P w K T mg base "_law_far" s__law_far 1 ["_law_row", "_law_at"] m__law_far := by
  exact fd_ok (N := N__law_far) (ps := ["_law_row", "_law_at"]) (κ := [0]) (m := b__law_far) G.f__law_far sc__law_far (fun _ _ _ _ _ _ us hl => match us, hl with | [_, _], _ => rfl) fun f cdv A outer s H E hr W b => ss_cons (s_set (i := 2) (by decide) (e_p p_int) sc__law_far.nd) (ss_cons (s_while b.po (t_cmp op_gt opd_cmpI (p_var (pv 2)) p_int) (ss_cons (s_set (i := 2) (by decide) (e_p (p_op op_sub opd_sub (p_op op_addD opd_add (p_var (pv 2)) (p_ix (p_ix (p_var (pv 0)) (p_var (pv 1))) p_int)) p_int)) sc__law_far.nd) (ss_one (s_set (i := 1) (by decide) (e_p (p_op op_addD opd_add (p_var (pv 1)) p_int)) sc__law_far.nd)))) (ss_one (s_ret (e_mv (pv 1)))))
abbrev N__law_limbs : List Str := ["_law_row", "_law_found", "_law_at", "_law_far_here"]
theorem sc__law_limbs : FnScope N__law_limbs ["_law_row"] (defScope s__law_limbs) := ⟨rfl, rfl, rfl, by decide +kernel, rfl, by decide +kernel, by decide +kernel⟩
theorem ok__law_limbs (G : Facts P w K T mg base) (F__law_far : Fd P w K T mg base "_law_far" s__law_far 1 ["_law_row", "_law_at"] m__law_far) : Fd P w K T mg base "_law_limbs" s__law_limbs 2 ["_law_row"] m__law_limbs := by
  exact fd_ok (N := N__law_limbs) (ps := ["_law_row"]) (κ := [0]) (m := b__law_limbs) G.f__law_limbs sc__law_limbs (fun _ _ _ _ _ _ us hl => match us, hl with | [_], _ => rfl) fun f cdv A outer s H E hr W b => ss_cons (s_set (i := 1) (by decide) (e_p (p_lst pa_nilP)) sc__law_limbs.nd) (ss_cons (s_set (i := 2) (by decide) (e_p p_int) sc__law_limbs.nd) (ss_cons (s_while b.po (t_cmp op_lt opd_cmpI (p_var (pv 2)) (p_callB DL.call_lenD cad_len G.n_len (pa_consP (p_var (pv 0)) pa_nilP))) (ss_cons (s_set (i := 3) (by decide) (e_callF F__law_far hr b.tk (av_var (pv 0) (av_var (pv 2) av_nil))) sc__law_limbs.nd) (ss_cons (s_expr (e_append (pv 1) (e_p (p_sl (p_var (pv 0)) (po_bdS (p_var (pv 2))) (po_bdS (p_var (pv 3))))))) (ss_one (s_set (i := 2) (by decide) (e_mv (pv 3)) sc__law_limbs.nd))))) (ss_one (s_ret (e_p (p_callTy call_tuple_of cad_tuple G.n_tuple (pa_consP (p_var (pv 1)) pa_nilP)))))))
abbrev N__law_levels : List Str := ["_law_row", "_law_ends", "_law_k", "_law_most", "_law_j"]
theorem sc__law_levels : FnScope N__law_levels ["_law_row"] (defScope s__law_levels) := ⟨rfl, rfl, rfl, by decide +kernel, rfl, by decide +kernel, by decide +kernel⟩
theorem ok__law_levels (G : Facts P w K T mg base) (F__law_far : Fd P w K T mg base "_law_far" s__law_far 1 ["_law_row", "_law_at"] m__law_far) : Fd P w K T mg base "_law_levels" s__law_levels 2 ["_law_row"] m__law_levels := by
  exact fd_ok (N := N__law_levels) (ps := ["_law_row"]) (κ := [0]) (m := b__law_levels) G.f__law_levels sc__law_levels (fun _ _ _ _ _ _ us hl => match us, hl with | [_], _ => rfl) fun f cdv A outer s H E hr W b => ss_cons (s_set (i := 1) (by decide) (e_lc (own := [("_law_k", 2)]) rfl sc__law_levels.nd (i_range1 G.n_range (pa_consE (e_p (p_callB DL.call_lenD cad_len G.n_len (pa_consP (p_var (pv 0)) pa_nilP))) pa_nilE)) (blkOk_by (own := [("_law_k", 2)]) (N := N__law_levels) (sc := defScope s__law_levels) (by decide +kernel)) (by decide) (fun _ _ _ _ _ => g_name (i := 2) sc__law_levels.nd) (fun _ _ _ _ _ => ts_nil) (fun _ _ _ _ _ => e_callF F__law_far hr takes0 (av_var (pv 0) (av_var (pv 2) av_nil)))) sc__law_levels.nd) (ss_cons (s_set (i := 3) (by decide) (e_p p_int) sc__law_levels.nd) (ss_cons (s_for (by decide) b.po rfl (i_range1 G.n_range (pa_consE (e_p (p_callB DL.call_lenD cad_len G.n_len (pa_consP (p_var (pv 0)) pa_nilP))) pa_nilE)) (g_name (i := 2) sc__law_levels.nd) (ss_one (s_set (i := 3) (by decide) (e_callB (call_max2 rfl) cad_max G.n_max (pa_consE (e_mv (pv 3)) (pa_consE (e_callB DL.call_lenD cad_len G.n_len (pa_consE (e_lc (own := [("_law_j", 4)]) rfl sc__law_levels.nd (i_range1 G.n_range (pa_consE (e_p (p_op op_addD opd_add (p_var (pv 2)) p_int)) pa_nilE)) (blkOk_by (own := [("_law_j", 4)]) (N := N__law_levels) (sc := defScope s__law_levels) (by decide +kernel)) (by decide) (fun _ _ _ _ _ => g_name (i := 4) sc__law_levels.nd) (fun _ _ _ _ _ => ts_one (t_cmp op_gt opd_cmpI (p_ix (p_var (pv 1)) (p_var (pv 4))) (p_var (pv 2)))) (fun _ _ _ _ _ => e_mv (pv 4))) pa_nilE)) pa_nilE))) sc__law_levels.nd))) (ss_one (s_ret (e_mv (pv 3))))))
abbrev N__law_bits : List Str := ["_law_grove_here", "_law_found", "_law_row", "_law_k", "_law_bit"]
theorem sc__law_bits : FnScope N__law_bits ["_law_grove_here"] (defScope s__law_bits) := ⟨rfl, rfl, rfl, by decide +kernel, rfl, by decide +kernel, by decide +kernel⟩
theorem ok__law_bits (G : Facts P w K T mg base) (F__law_far : Fd P w K T mg base "_law_far" s__law_far 1 ["_law_row", "_law_at"] m__law_far) : Fd P w K T mg base "_law_bits" s__law_bits 4 ["_law_grove_here"] m__law_bits := by
  exact fd_okL (N := N__law_bits) (ps := ["_law_grove_here"]) (κ := [0]) (m := b__law_bits) G.f__law_bits sc__law_bits (fun _ _ _ _ _ _ us hl => match us, hl with | [_], _ => rfl) fun f c Pt TBc hPT A outer s H E hr W b => ss_cons (s_set (i := 1) (by decide) (e_p (p_lst pa_nilP)) sc__law_bits.nd) (ss_cons (s_forV (i := 0) (by decide) b.po rfl (pv 0) (g_name (i := 2) sc__law_bits.nd) (ss_one (s_for (by decide) b.po rfl (i_range1 G.n_range (pa_consE (e_p (p_callB DL.call_lenD cad_len G.n_len (pa_consP (p_var (pv 2)) pa_nilP))) pa_nilE)) (g_name (i := 3) sc__law_bits.nd) (ss_cons (s_set (i := 4) (by decide) (e_sl (e_p (p_ck (p_var (pv 2)))) (o_some (e_mv (pv 3))) (o_some (e_callF F__law_far hr b.tk (av_var (pv 2) (av_var (pv 3) av_nil))))) sc__law_bits.nd) (ss_one (s_if (t_cmp (op_notInDD hr.units65) opd_in (p_var (pv 4)) (p_var (pv 1))) (ss_one (s_expr (e_append (pv 1) (e_mv (pv 4))))) ss_nil)))))) (ss_one (s_ret (e_callTy call_tuple_of cad_tuple G.n_tuple (pa_consE (e_sortLam rfl hr G.n_sorted G.n_len TBc rfl hPT (p_var (pv 1)) ⟨rfl, rfl, rfl, by decide +kernel, rfl, by decide +kernel, by decide +kernel⟩ (hnf := by decide +kernel)) pa_nilE)))))
abbrev N__law_asks : List Str := ["_law_way", "_law_one", "_law_two", "_law_three", "e"]
theorem sc__law_asks : FnScope N__law_asks ["_law_way", "_law_one", "_law_two", "_law_three"] (defScope s__law_asks) := ⟨rfl, rfl, rfl, by decide +kernel, rfl, by decide +kernel, by decide +kernel⟩
theorem ok__law_asks (G : Facts P w K T mg base) (F_tree_of : Fd P w K T mg base "tree_of" s_tree_of 7 ["word", "parts"] m_tree_of) (F_put_at : Fd P w K T mg base "put_at" s_put_at 6 ["place", "piece"] m_put_at) (F_place_of : Fd P w K T mg base "place_of" s_place_of 4 ["tree", "node"] m_place_of) (F_with_piece : Fd P w K T mg base "with_piece" s_with_piece 6 ["tree", "node", "piece"] m_with_piece) (F_piece_at : Fd P w K T mg base "piece_at" s_piece_at 4 ["tree", "node"] m_piece_at) : Fd P w K T mg base "_law_asks" s__law_asks 8 ["_law_way", "_law_one", "_law_two", "_law_three"] m__law_asks := by
  exact fd_ok (N := N__law_asks) (ps := ["_law_way", "_law_one", "_law_two", "_law_three"]) (κ := [0, 1, 2, 3]) (m := b__law_asks) G.f__law_asks sc__law_asks (fun _ _ _ _ _ _ us hl => match us, hl with | [_, _, _, _], _ => rfl) fun f cdv A outer s H E hr W b => ss_one (s_try rfl rfl sc__law_asks.nd b.tk (fun W' pn xe b => ss_cons (s_if (t_cmp (op_eqD hr.units) opd_eq (p_var (pv 0)) p_int) (ss_one (s_ret (e_tup (pa_consE (e_p p_str) (pa_consE (e_callF F_piece_at hr b.tk (av_var (pv 1) (av_var (pv 2) av_nil))) pa_nilE))))) ss_nil) (ss_cons (s_if (t_cmp (op_eqD hr.units) opd_eq (p_var (pv 0)) p_int) (ss_one (s_ret (e_tup (pa_consE (e_p p_str) (pa_consE (e_callF F_with_piece hr b.tk (av_var (pv 1) (av_var (pv 2) (av_var (pv 3) av_nil)))) pa_nilE))))) ss_nil) (ss_cons (s_if (t_cmp (op_eqD hr.units) opd_eq (p_var (pv 0)) p_int) (ss_one (s_ret (e_tup (pa_consE (e_p p_str) (pa_consE (e_callF F_place_of hr b.tk (av_var (pv 1) (av_var (pv 2) av_nil))) pa_nilE))))) ss_nil) (ss_cons (s_if (t_cmp (op_eqD hr.units) opd_eq (p_var (pv 0)) p_int) (ss_one (s_ret (e_tup (pa_consE (e_p p_str) (pa_consE (e_callF F_put_at hr b.tk (av_var (pv 1) (av_var (pv 2) av_nil))) pa_nilE))))) ss_nil) (ss_one (s_ret (e_tup (pa_consE (e_p p_str) (pa_consE (e_callF F_tree_of hr b.tk (av_var (pv 1) (av_var (pv 2) av_nil))) pa_nilE))))))))) (.cons (cn := "NotUsable") (cm := cm_NotUsable) (names_x rfl G.x_NotUsable) rfl rfl (by decide) (hc_NotUsable G) (fun a dd oe pn hz hf => ss_one (s_ret (e_p (p_tup (pa_consP p_str (pa_consP (p_isX (cn := "NotUsable") G.x_NotUsable.ef hz hf G.k_NotUsable_UseError.2 (pv 4) G.n_isinstance G.k_NotUsable_UseError.1) (pa_consP (p_xf (cn := "NotUsable") G.x_NotUsable.xf (G.x_NotUsable.fs _ (by decide)) hz hf (pv 4)) (pa_consP (p_xf (cn := "NotUsable") G.x_NotUsable.xf (G.x_NotUsable.fs _ (by decide)) hz hf (pv 4)) pa_nilP)))))))) (.nil)))
abbrev N__law_bad : List Str := ["_law_name"]
theorem sc__law_bad : FnScope N__law_bad ["_law_name"] (defScope s__law_bad) := ⟨rfl, rfl, rfl, by decide +kernel, rfl, by decide +kernel, by decide +kernel⟩
theorem ok__law_bad (G : Facts P w K T mg base)  : Fd P w K T mg base "_law_bad" s__law_bad 1 ["_law_name"] m__law_bad := by
  exact fd_ok (N := N__law_bad) (ps := ["_law_name"]) (κ := [0]) (m := b__law_bad) G.f__law_bad sc__law_bad (fun _ _ _ _ _ _ us hl => match us, hl with | [_], _ => rfl) fun f cdv A outer s H E hr W b => ss_one (s_ret (e_p (p_tup (pa_consP p_str (pa_consP p_bl (pa_consP (p_var (pv 0)) (pa_consP (p_un un_neg und_neg p_int) pa_nilP)))))))
abbrev N__law_nodes : List Str := ["_law_tall", "_law_bits_here", "_law_start", "_law_k", "_law_far_here", "_law_own", "_law_gap", "_law_bit", "_law_made"]
theorem sc__law_nodes : FnScope N__law_nodes ["_law_tall", "_law_bits_here", "_law_start"] (defScope s__law_nodes) := ⟨rfl, rfl, rfl, by decide +kernel, rfl, by decide +kernel, by decide +kernel⟩
theorem ok__law_nodes (G : Facts P w K T mg base) (F__law_same : Fd P w K T mg base "_law_same" s__law_same 1 ["_law_told", "_law_due"] m__law_same) (F__law_far : Fd P w K T mg base "_law_far" s__law_far 1 ["_law_row", "_law_at"] m__law_far) (F_ends_of : Fd P w K T mg base "ends_of" s_ends_of 1 ["tree"] m_ends_of) (F_with_piece : Fd P w K T mg base "with_piece" s_with_piece 6 ["tree", "node", "piece"] m_with_piece) (F_put_at : Fd P w K T mg base "put_at" s_put_at 6 ["place", "piece"] m_put_at) (F_place_of : Fd P w K T mg base "place_of" s_place_of 4 ["tree", "node"] m_place_of) (F_piece_at : Fd P w K T mg base "piece_at" s_piece_at 4 ["tree", "node"] m_piece_at) : Fd P w K T mg base "_law_nodes" s__law_nodes 7 ["_law_tall", "_law_bits_here", "_law_start"] m__law_nodes := by
  exact fd_ok (N := N__law_nodes) (ps := ["_law_tall", "_law_bits_here", "_law_start"]) (κ := [0, 1, 2]) (m := b__law_nodes) G.f__law_nodes sc__law_nodes (fun _ _ _ _ _ _ us hl => match us, hl with | [_, _, _], _ => rfl) fun f cdv A outer s H E hr W b => ss_cons (s_for (by decide) b.po rfl (i_range1 G.n_range (pa_consE (e_p (p_callB DL.call_lenD cad_len G.n_len (pa_consP (p_var (pv 0)) pa_nilP))) pa_nilE)) (g_name (i := 3) sc__law_nodes.nd) (ss_cons (s_set (i := 4) (by decide) (e_callF F__law_far hr b.tk (av_var (pv 0) (av_var (pv 3) av_nil))) sc__law_nodes.nd) (ss_cons (s_set (i := 5) (by decide) (e_p (p_sl (p_var (pv 0)) (po_bdS (p_var (pv 3))) (po_bdS (p_var (pv 4))))) sc__law_nodes.nd) (ss_cons (s_set (i := 6) (by decide) (e_p (p_tup (pa_consP (p_sl (p_var (pv 0)) po_bdN (po_bdS (p_var (pv 3)))) (pa_consP (p_sl (p_var (pv 0)) (po_bdS (p_var (pv 4))) po_bdN) pa_nilP)))) sc__law_nodes.nd) (ss_cons (s_set (i := 7) (by decide) (e_p (p_ck (p_ix (p_var (pv 1)) (p_op op_mod opd_mod (p_op op_addD opd_add (p_var (pv 2)) (p_var (pv 3))) (p_callB DL.call_lenD cad_len G.n_len (pa_consP (p_var (pv 1)) pa_nilP)))))) sc__law_nodes.nd) (ss_cons (s_set (i := 8) (by decide) (e_p (p_op op_addD opd_add (p_op op_addD opd_add (p_ix (p_var (pv 6)) p_int) (p_var (pv 7))) (p_ix (p_var (pv 6)) p_int))) sc__law_nodes.nd) (ss_cons (s_if (t_not (t_e (e_callF F__law_same hr b.tk (av_e (e_tup (pa_consE (e_callF F_piece_at hr b.tk (av_var (pv 0) (av_var (pv 3) av_nil))) (pa_consE (e_callF F_place_of hr b.tk (av_var (pv 0) (av_var (pv 3) av_nil))) (pa_consE (e_callF F_put_at hr b.tk (av_var (pv 6) (av_var (pv 7) av_nil))) (pa_consE (e_callF F_with_piece hr b.tk (av_var (pv 0) (av_var (pv 3) (av_var (pv 7) av_nil)))) pa_nilE))))) (av_e (e_p (p_tup (pa_consP (p_var (pv 5)) (pa_consP (p_var (pv 6)) (pa_consP (p_var (pv 8)) (pa_consP (p_var (pv 8)) pa_nilP)))))) av_nil))))) (ss_one (s_ret (e_p p_bl))) ss_nil) (ss_one (s_if (t_w (w_and (t_cmp op_lt opd_cmpI (p_callB DL.call_lenD cad_len G.n_len (pa_consP (p_var (pv 0)) pa_nilP)) p_int) (w_and1 (t_not (t_e (e_callF F__law_same hr b.tk (av_e (e_tup (pa_consE (e_callF F_put_at hr b.tk (av_e (e_callF F_place_of hr b.tk (av_var (pv 0) (av_var (pv 3) av_nil))) (av_var (pv 5) av_nil))) (pa_consE (e_callF F_with_piece hr b.tk (av_var (pv 0) (av_var (pv 3) (av_var (pv 5) av_nil)))) pa_nilE))) (av_e (e_p (p_tup (pa_consP (p_var (pv 0)) (pa_consP (p_var (pv 0)) pa_nilP)))) av_nil)))))))) (ss_one (s_ret (e_p p_bl))) ss_nil))))))))) (ss_one (s_ret (e_callF F__law_same hr b.tk (av_e (e_callF F_ends_of hr b.tk (av_var (pv 0) av_nil)) (av_e (e_callTy call_tuple_of cad_tuple G.n_tuple (pa_consE (e_lc (own := [("_law_k", 3)]) rfl sc__law_nodes.nd (i_range1 G.n_range (pa_consE (e_p (p_callB DL.call_lenD cad_len G.n_len (pa_consP (p_var (pv 0)) pa_nilP))) pa_nilE)) (blkOk_by (own := [("_law_k", 3)]) (N := N__law_nodes) (sc := defScope s__law_nodes) (by decide +kernel)) (by decide) (fun _ _ _ _ _ => g_name (i := 3) sc__law_nodes.nd) (fun _ _ _ _ _ => ts_nil) (fun _ _ _ _ _ => e_callF F__law_far hr takes0 (av_var (pv 0) (av_var (pv 3) av_nil)))) pa_nilE)) av_nil)))))
abbrev N__law_odd_node : List Str := ["_law_tape_here", "_law_many", "_law_rows"]
theorem sc__law_odd_node : FnScope N__law_odd_node ["_law_tape_here", "_law_many"] (defScope s__law_odd_node) := ⟨rfl, rfl, rfl, by decide +kernel, rfl, by decide +kernel, by decide +kernel⟩
theorem ok__law_odd_node (G : Facts P w K T mg base) (F__law_pick : Fd P w K T mg base "_law_pick" s__law_pick 1 ["_law_tape_here", "_law_many"] m__law_pick) : Fd P w K T mg base "_law_odd_node" s__law_odd_node 2 ["_law_tape_here", "_law_many"] m__law_odd_node := by
  exact fd_ok (N := N__law_odd_node) (ps := ["_law_tape_here", "_law_many"]) (κ := [0, 1]) (m := b__law_odd_node) G.f__law_odd_node sc__law_odd_node (fun _ _ _ _ _ _ us hl => match us, hl with | [_, _], _ => rfl) fun f cdv A outer s H E hr W b => ss_cons (s_set (i := 2) (by decide) (e_lst (pa_consE (e_p (p_un un_neg und_neg p_int)) (pa_consE (e_mv (pv 1)) (pa_consE (e_p (p_op op_addD opd_add (p_var (pv 1)) p_int)) (pa_consE (e_p p_bl) (pa_consE (e_p p_bl) (pa_consE (e_p p_non) (pa_consE (e_p p_str) (pa_consE (e_p (p_tup (pa_consP p_int pa_nilP))) (pa_consE (e_fz (e_p (p_lst (pa_consP p_int pa_nilP)))) (pa_consE (e_p (p_un un_neg und_neg (p_var (pv 1)))) (pa_consE (e_p (p_op op_pow opd_pow p_int p_int)) (pa_consE (e_p p_str) (pa_consE (e_p (p_tup pa_nilP)) pa_nilE)))))))))))))) sc__law_odd_node.nd) (ss_one (s_ret (e_ixVE (pv 2) (e_callF F__law_pick hr b.tk (av_var (pv 0) (av_e (e_p (p_callB DL.call_lenD cad_len G.n_len (pa_consP (p_var (pv 2)) pa_nilP))) av_nil))))))
abbrev N__law_odd_bit : List Str := ["_law_tape_here", "_law_tall", "_law_rows"]
theorem sc__law_odd_bit : FnScope N__law_odd_bit ["_law_tape_here", "_law_tall"] (defScope s__law_odd_bit) := ⟨rfl, rfl, rfl, by decide +kernel, rfl, by decide +kernel, by decide +kernel⟩
theorem ok__law_odd_bit (G : Facts P w K T mg base) (F__law_pick : Fd P w K T mg base "_law_pick" s__law_pick 1 ["_law_tape_here", "_law_many"] m__law_pick) : Fd P w K T mg base "_law_odd_bit" s__law_odd_bit 2 ["_law_tape_here", "_law_tall"] m__law_odd_bit := by
  exact fd_ok (N := N__law_odd_bit) (ps := ["_law_tape_here", "_law_tall"]) (κ := [0, 1]) (m := b__law_odd_bit) G.f__law_odd_bit sc__law_odd_bit (fun _ _ _ _ _ _ us hl => match us, hl with | [_, _], _ => rfl) fun f cdv A outer s H E hr W b => ss_cons (s_set (i := 2) (by decide) (e_lst (pa_consE (e_p p_non) (pa_consE (e_p (p_tup pa_nilP)) (pa_consE (e_fz (e_p (p_callTy call_list_of cad_list G.n_list (pa_consP (p_var (pv 1)) pa_nilP)))) (pa_consE (e_p (p_op op_addD opd_add (p_var (pv 1)) (p_var (pv 1)))) (pa_consE (e_p (p_sl (p_var (pv 1)) po_bdN (po_bdS (p_un un_neg und_neg p_int)))) (pa_consE (e_p (p_tup (pa_consP (p_tup (pa_consP p_str (pa_consP p_int pa_nilP))) pa_nilP))) (pa_consE (e_p (p_tup (pa_consP p_str (pa_consP p_int pa_nilP)))) (pa_consE (e_p (p_tup (pa_consP (p_tup (pa_consP p_str (pa_consP p_int pa_nilP))) pa_nilP))) (pa_consE (e_p p_bl) (pa_consE (e_p p_str) (pa_consE (e_p (p_tup (pa_consP (p_tup (pa_consP p_str (pa_consP p_bl pa_nilP))) pa_nilP))) pa_nilE)))))))))))) sc__law_odd_bit.nd) (ss_cons (s_set (i := 2) (by decide) (e_p (p_op op_addD opd_add (p_var (pv 2)) (p_lst (pa_consP p_int (pa_consP (p_tup (pa_consP (p_var (pv 1)) pa_nilP)) (pa_consP (p_op op_addD opd_add (p_var (pv 1)) (p_tup (pa_consP p_non pa_nilP))) (pa_consP (p_tup (pa_consP (p_tup (pa_consP p_str (pa_consP p_int pa_nilP))) (pa_consP (p_tup (pa_consP p_str (pa_consP p_int pa_nilP))) pa_nilP))) (pa_consP (p_tup (pa_consP (p_tup (pa_consP p_str (pa_consP p_int pa_nilP))) (pa_consP (p_tup (pa_consP p_str (pa_consP p_int pa_nilP))) pa_nilP))) (pa_consP (p_tup (pa_consP (p_tup (pa_consP p_str (pa_consP p_int pa_nilP))) (pa_consP (p_tup (pa_consP p_str (pa_consP p_int pa_nilP))) pa_nilP))) pa_nilP))))))))) sc__law_odd_bit.nd) (ss_one (s_ret (e_ixVE (pv 2) (e_callF F__law_pick hr b.tk (av_var (pv 0) (av_e (e_p (p_callB DL.call_lenD cad_len G.n_len (pa_consP (p_var (pv 2)) pa_nilP))) av_nil)))))))
abbrev N__law_odd_limbs : List Str := ["_law_tape_here", "_law_tall", "_law_limbs_here", "_law_rows"]
theorem sc__law_odd_limbs : FnScope N__law_odd_limbs ["_law_tape_here", "_law_tall", "_law_limbs_here"] (defScope s__law_odd_limbs) := ⟨rfl, rfl, rfl, by decide +kernel, rfl, by decide +kernel, by decide +kernel⟩
theorem ok__law_odd_limbs (G : Facts P w K T mg base) (F__law_pick : Fd P w K T mg base "_law_pick" s__law_pick 1 ["_law_tape_here", "_law_many"] m__law_pick) : Fd P w K T mg base "_law_odd_limbs" s__law_odd_limbs 2 ["_law_tape_here", "_law_tall", "_law_limbs_here"] m__law_odd_limbs := by
  exact fd_ok (N := N__law_odd_limbs) (ps := ["_law_tape_here", "_law_tall", "_law_limbs_here"]) (κ := [0, 1, 2]) (m := b__law_odd_limbs) G.f__law_odd_limbs sc__law_odd_limbs (fun _ _ _ _ _ _ us hl => match us, hl with | [_, _, _], _ => rfl) fun f cdv A outer s H E hr W b => ss_cons (s_set (i := 3) (by decide) (e_lst (pa_consE (e_fz (e_p (p_callTy call_list_of cad_list G.n_list (pa_consP (p_var (pv 2)) pa_nilP)))) (pa_consE (e_mv (pv 1)) (pa_consE (e_p (p_op op_addD opd_add (p_sl (p_var (pv 2)) po_bdN (po_bdS p_int)) (p_tup (pa_consP p_non pa_nilP)))) (pa_consE (e_p (p_op op_mulD opd_mul (p_tup (pa_consP (p_var (pv 1)) pa_nilP)) p_int)) (pa_consE (e_p (p_tup (pa_consP (p_tup (pa_consP (p_tup (pa_consP p_str (pa_consP p_int pa_nilP))) pa_nilP)) pa_nilP))) (pa_consE (e_p (p_tup (pa_consP (p_tup (pa_consP (p_var (pv 1)) pa_nilP)) pa_nilP))) (pa_consE (e_p p_non) (pa_consE (e_p p_str) (pa_consE (e_p p_bl) (pa_consE (e_p p_int) (pa_consE (e_p (p_tup (pa_consP (p_tup pa_nilP) pa_nilP))) pa_nilE)))))))))))) sc__law_odd_limbs.nd) (ss_cons (s_set (i := 3) (by decide) (e_opVE op_addD opd_add (pv 3) (e_lst (pa_consE (e_fz (e_op op_addD opd_add (e_p (p_sl (p_var (pv 2)) po_bdN (po_bdS p_int))) (e_tup (pa_consE (e_fz (e_p (p_callTy call_list_of cad_list G.n_list (pa_consP (p_var (pv 1)) pa_nilP)))) pa_nilE)))) (pa_consE (e_p (p_op op_addD opd_add (p_sl (p_var (pv 2)) po_bdN (po_bdS p_int)) (p_tup (pa_consP (p_sl (p_var (pv 1)) po_bdN (po_bdS (p_un un_neg und_neg p_int))) pa_nilP)))) (pa_consE (e_p (p_tup (pa_consP (p_tup (pa_consP (p_tup (pa_consP p_str (pa_consP p_bl pa_nilP))) pa_nilP)) pa_nilP))) (pa_consE (e_p (p_op op_addD opd_add (p_sl (p_var (pv 2)) po_bdN (po_bdS p_int)) (p_tup (pa_consP (p_op op_addD opd_add (p_var (pv 1)) (p_var (pv 1))) pa_nilP)))) (pa_consE (e_fz (e_p (p_lst pa_nilP))) pa_nilE))))))) sc__law_odd_limbs.nd) (ss_one (s_ret (e_ixVE (pv 3) (e_callF F__law_pick hr b.tk (av_var (pv 0) (av_e (e_p (p_callB DL.call_lenD cad_len G.n_len (pa_consP (p_var (pv 3)) pa_nilP))) av_nil)))))))
abbrev N__law_refusals : List Str := ["_law_tape_here", "_law_tall", "_law_bit", "_law_limbs_here", "_law_gap", "_law_at", "_law_k", "_law_spot", "_law_odd"]
theorem sc__law_refusals : FnScope N__law_refusals ["_law_tape_here", "_law_tall", "_law_bit", "_law_limbs_here"] (defScope s__law_refusals) := ⟨rfl, rfl, rfl, by decide +kernel, rfl, by decide +kernel, by decide +kernel⟩
theorem ok__law_refusals (G : Facts P w K T mg base) (F__law_same : Fd P w K T mg base "_law_same" s__law_same 1 ["_law_told", "_law_due"] m__law_same) (F__law_asks : Fd P w K T mg base "_law_asks" s__law_asks 8 ["_law_way", "_law_one", "_law_two", "_law_three"] m__law_asks) (F__law_bad : Fd P w K T mg base "_law_bad" s__law_bad 1 ["_law_name"] m__law_bad) (F__law_odd_limbs : Fd P w K T mg base "_law_odd_limbs" s__law_odd_limbs 2 ["_law_tape_here", "_law_tall", "_law_limbs_here"] m__law_odd_limbs) (F__law_odd_bit : Fd P w K T mg base "_law_odd_bit" s__law_odd_bit 2 ["_law_tape_here", "_law_tall"] m__law_odd_bit) (F__law_odd_node : Fd P w K T mg base "_law_odd_node" s__law_odd_node 2 ["_law_tape_here", "_law_many"] m__law_odd_node) (F__law_pick : Fd P w K T mg base "_law_pick" s__law_pick 1 ["_law_tape_here", "_law_many"] m__law_pick) : Fd P w K T mg base "_law_refusals" s__law_refusals 9 ["_law_tape_here", "_law_tall", "_law_bit", "_law_limbs_here"] m__law_refusals := by
  exact fd_ok (N := N__law_refusals) (ps := ["_law_tape_here", "_law_tall", "_law_bit", "_law_limbs_here"]) (κ := [0, 1, 2, 3]) (m := b__law_refusals) G.f__law_refusals sc__law_refusals (fun _ _ _ _ _ _ us hl => match us, hl with | [_, _, _, _], _ => rfl) fun f cdv A outer s H E hr W b => ss_cons (s_set (i := 4) (by decide) (e_p (p_tup (pa_consP (p_sl (p_var (pv 1)) po_bdN (po_bdS p_int)) (pa_consP (p_sl (p_var (pv 1)) (po_bdS (p_callB DL.call_lenD cad_len G.n_len (pa_consP (p_var (pv 1)) pa_nilP))) po_bdN) pa_nilP)))) sc__law_refusals.nd) (ss_cons (s_set (i := 5) (by decide) (e_callF F__law_pick hr b.tk (av_var (pv 0) (av_e (e_p (p_callB DL.call_lenD cad_len G.n_len (pa_consP (p_var (pv 1)) pa_nilP))) av_nil))) sc__law_refusals.nd) (ss_cons (s_for (by decide) b.po rfl (i_range1 G.n_range (pa_consE (e_p p_int) pa_nilE)) (g_name (i := 6) sc__law_refusals.nd) (ss_cons (s_set (i := 7) (by decide) (e_callF F__law_odd_node hr b.tk (av_var (pv 0) (av_e (e_p (p_callB DL.call_lenD cad_len G.n_len (pa_consP (p_var (pv 1)) pa_nilP))) av_nil))) sc__law_refusals.nd) (ss_cons (s_set (i := 8) (by decide) (e_callF F__law_odd_bit hr b.tk (av_var (pv 0) (av_var (pv 1) av_nil))) sc__law_refusals.nd) (ss_cons (s_if (t_not (t_e (e_callF F__law_same hr b.tk (av_e (e_callF F__law_asks hr b.tk (av_e (e_p p_int) (av_var (pv 1) (av_var (pv 7) (av_e (e_p p_non) av_nil))))) (av_e (e_callF F__law_bad hr b.tk (av_e (e_p p_str) av_nil)) av_nil))))) (ss_one (s_ret (e_p p_bl))) ss_nil) (ss_cons (s_if (t_not (t_e (e_callF F__law_same hr b.tk (av_e (e_callF F__law_asks hr b.tk (av_e (e_p p_int) (av_var (pv 1) (av_var (pv 7) (av_e (e_p (p_ix (p_lst (pa_consP (p_var (pv 2)) (pa_consP (p_var (pv 8)) pa_nilP))) (p_op op_mod opd_mod (p_var (pv 6)) p_int))) av_nil))))) (av_e (e_callF F__law_bad hr b.tk (av_e (e_p p_str) av_nil)) av_nil))))) (ss_one (s_ret (e_p p_bl))) ss_nil) (ss_cons (s_if (t_not (t_e (e_callF F__law_same hr b.tk (av_e (e_callF F__law_asks hr b.tk (av_e (e_p p_int) (av_var (pv 1) (av_var (pv 7) (av_e (e_p p_non) av_nil))))) (av_e (e_callF F__law_bad hr b.tk (av_e (e_p p_str) av_nil)) av_nil))))) (ss_one (s_ret (e_p p_bl))) ss_nil) (ss_cons (s_if (t_not (t_e (e_callF F__law_same hr b.tk (av_e (e_callF F__law_asks hr b.tk (av_e (e_p p_int) (av_var (pv 1) (av_var (pv 5) (av_var (pv 8) av_nil))))) (av_e (e_callF F__law_bad hr b.tk (av_e (e_p p_str) av_nil)) av_nil))))) (ss_one (s_ret (e_p p_bl))) ss_nil) (ss_cons (s_if (t_not (t_e (e_callF F__law_same hr b.tk (av_e (e_callF F__law_asks hr b.tk (av_e (e_p p_int) (av_var (pv 4) (av_var (pv 8) (av_e (e_p p_non) av_nil))))) (av_e (e_callF F__law_bad hr b.tk (av_e (e_p p_str) av_nil)) av_nil))))) (ss_one (s_ret (e_p p_bl))) ss_nil) (ss_one (s_if (t_not (t_e (e_callF F__law_same hr b.tk (av_e (e_callF F__law_asks hr b.tk (av_e (e_p p_int) (av_e (e_p p_str) (av_e (e_callF F__law_odd_limbs hr b.tk (av_var (pv 0) (av_var (pv 1) (av_var (pv 3) av_nil)))) (av_e (e_p p_non) av_nil))))) (av_e (e_callF F__law_bad hr b.tk (av_e (e_p p_str) av_nil)) av_nil))))) (ss_one (s_ret (e_p p_bl))) ss_nil)))))))))) (ss_cons (s_if (t_not (t_e (e_callF F__law_same hr b.tk (av_e (e_callF F__law_asks hr b.tk (av_e (e_p p_int) (av_e (e_p p_str) (av_e (e_p (p_tup (pa_consP (p_var (pv 2)) pa_nilP))) (av_e (e_p p_non) av_nil))))) (av_e (e_callF F__law_bad hr b.tk (av_e (e_p p_str) av_nil)) av_nil))))) (ss_one (s_ret (e_p p_bl))) ss_nil) (ss_one (s_ret (e_callF F__law_same hr b.tk (av_e (e_callF F__law_asks hr b.tk (av_e (e_p p_int) (av_e (e_p p_str) (av_e (e_p (p_tup pa_nilP)) (av_e (e_p p_non) av_nil))))) (av_e (e_p (p_tup (pa_consP p_str (pa_consP (p_tup (pa_consP (p_tup (pa_consP p_str (pa_consP p_int pa_nilP))) pa_nilP)) pa_nilP)))) av_nil))))))))
abbrev N__law_joins : List Str := ["_law_tape_here", "_law_grove_here", "_law_bits_here", "_law_limbs_here", "_law_k", "_law_name", "_law_whole", "_law_bit", "_law_told", "_law_row", "_law_own"]
theorem sc__law_joins : FnScope N__law_joins ["_law_tape_here", "_law_grove_here", "_law_bits_here"] (defScope s__law_joins) := ⟨rfl, rfl, rfl, by decide +kernel, rfl, by decide +kernel, by decide +kernel⟩
theorem ok__law_joins (G : Facts P w K T mg base) (F__law_refusals : Fd P w K T mg base "_law_refusals" s__law_refusals 9 ["_law_tape_here", "_law_tall", "_law_bit", "_law_limbs_here"] m__law_refusals) (F__law_same : Fd P w K T mg base "_law_same" s__law_same 1 ["_law_told", "_law_due"] m__law_same) (F_tree_of : Fd P w K T mg base "tree_of" s_tree_of 7 ["word", "parts"] m_tree_of) (F_parts_of : Fd P w K T mg base "parts_of" s_parts_of 2 ["tree"] m_parts_of) (F__law_limbs : Fd P w K T mg base "_law_limbs" s__law_limbs 2 ["_law_row"] m__law_limbs) (F__law_pick : Fd P w K T mg base "_law_pick" s__law_pick 1 ["_law_tape_here", "_law_many"] m__law_pick) : Fd P w K T mg base "_law_joins" s__law_joins 10 ["_law_tape_here", "_law_grove_here", "_law_bits_here"] m__law_joins := by
  exact fd_ok (N := N__law_joins) (ps := ["_law_tape_here", "_law_grove_here", "_law_bits_here"]) (κ := [0, 1, 2]) (m := b__law_joins) G.f__law_joins sc__law_joins (fun _ _ _ _ _ _ us hl => match us, hl with | [_, _, _], _ => rfl) fun f cdv A outer s H E hr W b => ss_cons (s_set (i := 3) (by decide) (e_callTy call_tuple_of cad_tuple G.n_tuple (pa_consE (e_lc (own := [("_law_k", 4)]) rfl sc__law_joins.nd (i_range1 G.n_range (pa_consE (e_callF F__law_pick hr b.tk (av_var (pv 0) (av_e (e_p p_int) av_nil))) pa_nilE)) (blkOk_by (own := [("_law_k", 4)]) (N := N__law_joins) (sc := defScope s__law_joins) (by decide +kernel)) (by decide) (fun _ _ _ _ _ => g_name (i := 4) sc__law_joins.nd) (fun _ _ _ _ _ => ts_nil) (fun _ _ _ _ _ => e_ixVE (pv 2) (e_callF F__law_pick hr takes0 (av_var (pv 0) (av_e (e_p (p_callB DL.call_lenD cad_len G.n_len (pa_consP (p_var (pv 2)) pa_nilP))) av_nil))))) pa_nilE)) sc__law_joins.nd) (ss_cons (s_if (t_w (w_and (t_cmp op_gt opd_cmpI (p_callB DL.call_lenD cad_len G.n_len (pa_consP (p_var (pv 3)) pa_nilP)) p_int) (w_and1 (t_cmpEP (op_eqD hr.units) opd_eq (e_callF F__law_pick hr b.tk (av_var (pv 0) (av_e (e_p p_int) av_nil))) p_int)))) (ss_one (s_set (i := 3) (by decide) (e_p (p_op op_addD opd_add (p_sl (p_var (pv 3)) po_bdN (po_bdS (p_un un_neg und_neg p_int))) (p_tup (pa_consP (p_ix (p_var (pv 3)) p_int) pa_nilP)))) sc__law_joins.nd)) ss_nil) (ss_cons (s_set (i := 5) (by decide) (e_ix (e_p (p_lst (pa_consP p_str (pa_consP p_str (pa_consP p_str (pa_consP p_str pa_nilP)))))) (e_callF F__law_pick hr b.tk (av_var (pv 0) (av_e (e_p p_int) av_nil)))) sc__law_joins.nd) (ss_cons (s_set (i := 6) (by decide) (e_p (p_tup (pa_consP (p_tup (pa_consP (p_var (pv 5)) (pa_consP (p_callB DL.call_lenD cad_len G.n_len (pa_consP (p_var (pv 3)) pa_nilP)) pa_nilP))) pa_nilP))) sc__law_joins.nd) (ss_cons (s_forV (i := 3) (by decide) b.po rfl (pv 3) (g_name (i := 7) sc__law_joins.nd) (ss_one (s_set (i := 6) (by decide) (e_p (p_op op_addD opd_add (p_var (pv 6)) (p_var (pv 7)))) sc__law_joins.nd))) (ss_cons (s_set (i := 8) (by decide) (e_tup (pa_consE (e_callF F_tree_of hr b.tk (av_var (pv 5) (av_var (pv 3) av_nil))) (pa_consE (e_callK (ks := ["parts", "word"]) (pi := [1, 0]) F_tree_of hr (k_cons (p_var (pv 3)) (k_cons (p_var (pv 5)) k_nil)) (fun _ _ _ _ _ _ ws hl => match ws, hl with | [_, _], _ => rfl)) (pa_consE (e_callF F_parts_of hr b.tk (av_e (e_callF F_tree_of hr b.tk (av_var (pv 5) (av_var (pv 3) av_nil))) av_nil)) pa_nilE)))) sc__law_joins.nd) (ss_cons (s_if (t_not (t_e (e_callF F__law_same hr b.tk (av_var (pv 8) (av_e (e_p (p_tup (pa_consP (p_var (pv 6)) (pa_consP (p_var (pv 6)) (pa_consP (p_var (pv 3)) pa_nilP))))) av_nil))))) (ss_one (s_ret (e_p p_bl))) ss_nil) (ss_cons (s_forV (i := 1) (by decide) b.po rfl (pv 1) (g_name (i := 9) sc__law_joins.nd) (ss_cons (s_set (i := 10) (by decide) (e_callF F__law_limbs hr b.tk (av_var (pv 9) av_nil)) sc__law_joins.nd) (ss_one (s_if (t_w (w_or (t_not (t_e (e_callF F__law_same hr b.tk (av_e (e_callF F_parts_of hr b.tk (av_var (pv 9) av_nil)) (av_var (pv 10) av_nil))))) (w_or1 (t_not (t_e (e_callF F__law_same hr b.tk (av_e (e_callF F_tree_of hr b.tk (av_e (e_p (p_ck (p_ix (p_ix (p_var (pv 9)) p_int) p_int))) (av_var (pv 10) av_nil))) (av_var (pv 9) av_nil)))))))) (ss_one (s_ret (e_p p_bl))) ss_nil)))) (ss_one (s_ret (e_callF F__law_refusals hr b.tk (av_var (pv 0) (av_e (e_p (p_ck (p_ix (p_var (pv 1)) p_int))) (av_e (e_p (p_ck (p_ix (p_var (pv 2)) p_int))) (av_var (pv 3) av_nil))))))))))))))
abbrev N__law_grove : List Str := ["_law_tape_here", "_law_marks_here", "_law_size", "_law_tall", "_law_rows", "_law_at", "_law_extra", "_law_near", "_law_k", "_law_once", "_law_row"]
theorem sc__law_grove : FnScope N__law_grove ["_law_tape_here", "_law_marks_here"] (defScope s__law_grove) := ⟨rfl, rfl, rfl, by decide +kernel, rfl, by decide +kernel, by decide +kernel⟩
theorem ok__law_grove (G : Facts P w K T mg base) (F__law_pick : Fd P w K T mg base "_law_pick" s__law_pick 1 ["_law_tape_here", "_law_many"] m__law_pick) (F__law_tree : Fd P w K T mg base "_law_tree" s__law_tree 2 ["_law_tape_here", "_law_marks_here", "_law_most"] m__law_tree) (F__law_far : Fd P w K T mg base "_law_far" s__law_far 1 ["_law_row", "_law_at"] m__law_far) : Fd P w K T mg base "_law_grove" s__law_grove 3 ["_law_tape_here", "_law_marks_here"] m__law_grove := by
  exact fd_ok (N := N__law_grove) (ps := ["_law_tape_here", "_law_marks_here"]) (κ := [0, 1]) (m := b__law_grove) G.f__law_grove sc__law_grove (fun _ _ _ _ _ _ us hl => match us, hl with | [_, _], _ => rfl) fun f cdv A outer s H E hr W b => ss_cons (s_set (i := 2) (by decide) (e_op op_addD opd_add (e_p p_int) (e_callF F__law_pick hr b.tk (av_var (pv 0) (av_e (e_p p_int) av_nil)))) sc__law_grove.nd) (ss_cons (s_if (t_cmpEP (op_eqD hr.units) opd_eq (e_callF F__law_pick hr b.tk (av_var (pv 0) (av_e (e_p p_int) av_nil))) p_int) (ss_one (s_set (i := 2) (by decide) (e_p p_int) sc__law_grove.nd)) ss_nil) (ss_cons (s_set (i := 3) (by decide) (e_callF F__law_tree hr b.tk (av_var (pv 0) (av_var (pv 1) (av_var (pv 2) av_nil)))) sc__law_grove.nd) (ss_cons (s_set (i := 4) (by decide) (e_p (p_lst (pa_consP (p_var (pv 3)) pa_nilP))) sc__law_grove.nd) (ss_cons (s_set (i := 5) (by decide) (e_callF F__law_pick hr b.tk (av_var (pv 0) (av_e (e_p (p_callB DL.call_lenD cad_len G.n_len (pa_consP (p_var (pv 3)) pa_nilP))) av_nil))) sc__law_grove.nd) (ss_cons (s_set (i := 6) (by decide) (e_callF F__law_tree hr b.tk (av_var (pv 0) (av_var (pv 1) (av_e (e_op op_addD opd_add (e_p p_int) (e_callF F__law_pick hr b.tk (av_var (pv 0) (av_e (e_p p_int) av_nil)))) av_nil)))) sc__law_grove.nd) (ss_cons (s_set (i := 7) (by decide) (e_op op_addD opd_add (e_p (p_op op_addD opd_add (p_sl (p_var (pv 3)) po_bdN (po_bdS (p_var (pv 5)))) (p_var (pv 6)))) (e_sl (e_p (p_ck (p_var (pv 3)))) (o_some (e_callF F__law_far hr b.tk (av_var (pv 3) (av_var (pv 5) av_nil)))) o_none)) sc__law_grove.nd) (ss_cons (s_if (t_cmp op_lt opd_cmpI (p_callB DL.call_lenD cad_len G.n_len (pa_consP (p_var (pv 7)) pa_nilP)) p_int) (ss_one (s_expr (e_append (pv 4) (e_mv (pv 7))))) ss_nil) (ss_cons (s_expr (e_append (pv 4) (e_sl (e_p (p_ck (p_var (pv 3)))) (o_some (e_mv (pv 5))) (o_some (e_callF F__law_far hr b.tk (av_var (pv 3) (av_var (pv 5) av_nil))))))) (ss_cons (s_for (by decide) b.po rfl (i_range1 G.n_range (pa_consE (e_callF F__law_pick hr b.tk (av_var (pv 0) (av_e (e_p p_int) av_nil))) pa_nilE)) (g_name (i := 8) sc__law_grove.nd) (ss_one (s_expr (e_append (pv 4) (e_callF F__law_tree hr b.tk (av_var (pv 0) (av_var (pv 1) (av_e (e_op op_addD opd_add (e_p p_int) (e_callF F__law_pick hr b.tk (av_var (pv 0) (av_e (e_p p_int) av_nil)))) av_nil)))))))) (ss_cons (s_set (i := 9) (by decide) (e_p (p_lst pa_nilP)) sc__law_grove.nd) (ss_cons (s_forV (i := 4) (by decide) b.po rfl (pv 4) (g_name (i := 10) sc__law_grove.nd) (ss_one (s_if (t_cmp (op_notInDD hr.units65) opd_in (p_var (pv 10)) (p_var (pv 9))) (ss_one (s_expr (e_append (pv 9) (e_mv (pv 10))))) ss_nil))) (ss_one (s_ret (e_mv (pv 9)))))))))))))))
abbrev N__law_symbols : List Str := ["_law_grove_here", "_law_found", "_law_row"]
theorem sc__law_symbols : FnScope N__law_symbols ["_law_grove_here"] (defScope s__law_symbols) := ⟨rfl, rfl, rfl, by decide +kernel, rfl, by decide +kernel, by decide +kernel⟩
theorem ok__law_symbols (G : Facts P w K T mg base)  : Fd P w K T mg base "_law_symbols" s__law_symbols 1 ["_law_grove_here"] m__law_symbols := by
  exact fd_ok (N := N__law_symbols) (ps := ["_law_grove_here"]) (κ := [0]) (m := b__law_symbols) G.f__law_symbols sc__law_symbols (fun _ _ _ _ _ _ us hl => match us, hl with | [_], _ => rfl) fun f cdv A outer s H E hr W b => ss_cons (s_set (i := 1) (by decide) (e_p (p_lst pa_nilP)) sc__law_symbols.nd) (ss_cons (s_forV (i := 0) (by decide) b.po rfl (pv 0) (g_name (i := 2) sc__law_symbols.nd) (ss_one (s_set (i := 1) (by decide) (e_p (p_op op_addD opd_add (p_var (pv 1)) (p_callTy call_list_of cad_list G.n_list (pa_consP (p_var (pv 2)) pa_nilP)))) sc__law_symbols.nd))) (ss_one (s_ret (e_p (p_callTy call_tuple_of cad_tuple G.n_tuple (pa_consP (p_sortSetL rfl hr.units G.n_sorted G.n_set (p_var (pv 1))) pa_nilP))))))
abbrev N__law_named : List Str := ["_law_tape_here", "_law_tall", "_law_bits_here", "_law_at", "_law_far_here", "_law_bit", "_law_gap", "_law_told"]
theorem sc__law_named : FnScope N__law_named ["_law_tape_here", "_law_tall", "_law_bits_here"] (defScope s__law_named) := ⟨rfl, rfl, rfl, by decide +kernel, rfl, by decide +kernel, by decide +kernel⟩
theorem ok__law_named (G : Facts P w K T mg base) (F__law_same : Fd P w K T mg base "_law_same" s__law_same 1 ["_law_told", "_law_due"] m__law_same) (F__law_limbs : Fd P w K T mg base "_law_limbs" s__law_limbs 2 ["_law_row"] m__law_limbs) (F_parts_of : Fd P w K T mg base "parts_of" s_parts_of 2 ["tree"] m_parts_of) (F_ends_of : Fd P w K T mg base "ends_of" s_ends_of 1 ["tree"] m_ends_of) (F_with_piece : Fd P w K T mg base "with_piece" s_with_piece 6 ["tree", "node", "piece"] m_with_piece) (F_put_at : Fd P w K T mg base "put_at" s_put_at 6 ["place", "piece"] m_put_at) (F_place_of : Fd P w K T mg base "place_of" s_place_of 4 ["tree", "node"] m_place_of) (F_piece_at : Fd P w K T mg base "piece_at" s_piece_at 4 ["tree", "node"] m_piece_at) (F__law_pick : Fd P w K T mg base "_law_pick" s__law_pick 1 ["_law_tape_here", "_law_many"] m__law_pick) (F__law_far : Fd P w K T mg base "_law_far" s__law_far 1 ["_law_row", "_law_at"] m__law_far) : Fd P w K T mg base "_law_named" s__law_named 7 ["_law_tape_here", "_law_tall", "_law_bits_here"] m__law_named := by
  exact fd_ok (N := N__law_named) (ps := ["_law_tape_here", "_law_tall", "_law_bits_here"]) (κ := [0, 1, 2]) (m := b__law_named) G.f__law_named sc__law_named (fun _ _ _ _ _ _ us hl => match us, hl with | [_, _, _], _ => rfl) fun f cdv A outer s H E hr W b => ss_cons (s_set (i := 3) (by decide) (e_callF F__law_pick hr b.tk (av_var (pv 0) (av_e (e_p (p_callB DL.call_lenD cad_len G.n_len (pa_consP (p_var (pv 1)) pa_nilP))) av_nil))) sc__law_named.nd) (ss_cons (s_set (i := 4) (by decide) (e_callF F__law_far hr b.tk (av_var (pv 1) (av_var (pv 3) av_nil))) sc__law_named.nd) (ss_cons (s_set (i := 5) (by decide) (e_ixVE (pv 2) (e_callF F__law_pick hr b.tk (av_var (pv 0) (av_e (e_p (p_callB DL.call_lenD cad_len G.n_len (pa_consP (p_var (pv 2)) pa_nilP))) av_nil)))) sc__law_named.nd) (ss_cons (s_set (i := 6) (by decide) (e_p (p_tup (pa_consP (p_sl (p_var (pv 1)) po_bdN (po_bdS (p_var (pv 3)))) (pa_consP (p_sl (p_var (pv 1)) (po_bdS (p_var (pv 4))) po_bdN) pa_nilP)))) sc__law_named.nd) (ss_cons (s_set (i := 7) (by decide) (e_tup (pa_consE (e_callK (ks := ["node", "tree"]) (pi := [1, 0]) F_piece_at hr (k_cons (p_var (pv 3)) (k_cons (p_var (pv 1)) k_nil)) (fun _ _ _ _ _ _ ws hl => match ws, hl with | [_, _], _ => rfl)) (pa_consE (e_callK (ks := ["node", "tree"]) (pi := [1, 0]) F_place_of hr (k_cons (p_var (pv 3)) (k_cons (p_var (pv 1)) k_nil)) (fun _ _ _ _ _ _ ws hl => match ws, hl with | [_, _], _ => rfl)) (pa_consE (e_callK (ks := ["piece", "place"]) (pi := [1, 0]) F_put_at hr (k_cons (p_var (pv 5)) (k_cons (p_var (pv 6)) k_nil)) (fun _ _ _ _ _ _ ws hl => match ws, hl with | [_, _], _ => rfl)) pa_nilE)))) sc__law_named.nd) (ss_cons (s_set (i := 7) (by decide) (e_opVE op_addD opd_add (pv 7) (e_tup (pa_consE (e_callK (ks := ["piece", "node", "tree"]) (pi := [2, 1, 0]) F_with_piece hr (k_cons (p_var (pv 5)) (k_cons (p_var (pv 3)) (k_cons (p_var (pv 1)) k_nil))) (fun _ _ _ _ _ _ ws hl => match ws, hl with | [_, _, _], _ => rfl)) (pa_consE (e_ix (e_callK (ks := ["tree"]) (pi := [0]) F_ends_of hr (k_cons (p_var (pv 1)) k_nil) (fun _ _ _ _ _ _ ws hl => match ws, hl with | [_], _ => rfl)) (e_mv (pv 3))) (pa_consE (e_callK (ks := ["tree"]) (pi := [0]) F_parts_of hr (k_cons (p_var (pv 5)) k_nil) (fun _ _ _ _ _ _ ws hl => match ws, hl with | [_], _ => rfl)) pa_nilE))))) sc__law_named.nd) (ss_one (s_ret (e_callF F__law_same hr b.tk (av_var (pv 7) (av_e (e_tup (pa_consE (e_p (p_sl (p_var (pv 1)) (po_bdS (p_var (pv 3))) (po_bdS (p_var (pv 4))))) (pa_consE (e_mv (pv 6)) (pa_consE (e_p (p_op op_addD opd_add (p_op op_addD opd_add (p_ix (p_var (pv 6)) p_int) (p_var (pv 5))) (p_ix (p_var (pv 6)) p_int))) (pa_consE (e_p (p_op op_addD opd_add (p_op op_addD opd_add (p_ix (p_var (pv 6)) p_int) (p_var (pv 5))) (p_ix (p_var (pv 6)) p_int))) (pa_consE (e_mv (pv 4)) (pa_consE (e_callF F__law_limbs hr b.tk (av_var (pv 5) av_nil)) pa_nilE))))))) av_nil))))))))))
abbrev N_law : List Str := ["_law_script", "_law_tape_here", "_law_marks_here", "_law_grove_here", "_law_bits_here", "_law_start", "_law_k", "_law_told", "_law_last"]
theorem sc_law : FnScope N_law ["_law_script"] (defScope s_law) := ⟨rfl, rfl, rfl, by decide +kernel, rfl, by decide +kernel, by decide +kernel⟩
theorem ok_law (G : Facts P w K T mg base) (F__law_same : Fd P w K T mg base "_law_same" s__law_same 1 ["_law_told", "_law_due"] m__law_same) (F__law_bits : Fd P w K T mg base "_law_bits" s__law_bits 4 ["_law_grove_here"] m__law_bits) (F_pieces_of : Fd P w K T mg base "pieces_of" s_pieces_of 2 ["trees"] m_pieces_of) (F__law_nodes : Fd P w K T mg base "_law_nodes" s__law_nodes 7 ["_law_tall", "_law_bits_here", "_law_start"] m__law_nodes) (F__law_named : Fd P w K T mg base "_law_named" s__law_named 7 ["_law_tape_here", "_law_tall", "_law_bits_here"] m__law_named) (F__law_joins : Fd P w K T mg base "_law_joins" s__law_joins 10 ["_law_tape_here", "_law_grove_here", "_law_bits_here"] m__law_joins) (F__law_symbols : Fd P w K T mg base "_law_symbols" s__law_symbols 1 ["_law_grove_here"] m__law_symbols) (F_symbols_of : Fd P w K T mg base "symbols_of" s_symbols_of 1 ["trees"] m_symbols_of) (F__law_levels : Fd P w K T mg base "_law_levels" s__law_levels 2 ["_law_row"] m__law_levels) (F_levels_of : Fd P w K T mg base "levels_of" s_levels_of 1 ["tree"] m_levels_of) (F__law_pick : Fd P w K T mg base "_law_pick" s__law_pick 1 ["_law_tape_here", "_law_many"] m__law_pick) (F__law_grove : Fd P w K T mg base "_law_grove" s__law_grove 3 ["_law_tape_here", "_law_marks_here"] m__law_grove) (F__law_marks : Fd P w K T mg base "_law_marks" s__law_marks 2 ["_law_tape_here"] m__law_marks) (F__law_tape : Fd P w K T mg base "_law_tape" s__law_tape 1 ["_law_script"] m__law_tape) : Fd P w K T mg base "law" s_law 11 ["_law_script"] m_law := by
  exact fd_ok (N := N_law) (ps := ["_law_script"]) (κ := [0]) (m := b_law) G.f_law sc_law (fun _ _ _ _ _ _ us hl => match us, hl with | [_], _ => rfl) fun f cdv A outer s H E hr W b => ss_cons (s_set (i := 1) (by decide) (e_callF F__law_tape hr b.tk (av_var (pv 0) av_nil)) sc_law.nd) (ss_cons (s_set (i := 2) (by decide) (e_callF F__law_marks hr b.tk (av_var (pv 1) av_nil)) sc_law.nd) (ss_cons (s_set (i := 3) (by decide) (e_callF F__law_grove hr b.tk (av_var (pv 1) (av_var (pv 2) av_nil))) sc_law.nd) (ss_cons (s_set (i := 4) (by decide) (e_callF F__law_bits hr b.tk (av_var (pv 3) av_nil)) sc_law.nd) (ss_cons (s_set (i := 5) (by decide) (e_callF F__law_pick hr b.tk (av_var (pv 1) (av_e (e_p (p_callB DL.call_lenD cad_len G.n_len (pa_consP (p_var (pv 4)) pa_nilP))) av_nil))) sc_law.nd) (ss_cons (s_for (by decide) b.po rfl (i_range1 G.n_range (pa_consE (e_p (p_callB DL.call_lenD cad_len G.n_len (pa_consP (p_var (pv 3)) pa_nilP))) pa_nilE)) (g_name (i := 6) sc_law.nd) (ss_cons (s_if (t_not (t_e (e_callF F__law_same hr b.tk (av_e (e_callF F_levels_of hr b.tk (av_e (e_p (p_ck (p_ix (p_var (pv 3)) (p_var (pv 6))))) av_nil)) (av_e (e_callF F__law_levels hr b.tk (av_e (e_p (p_ck (p_ix (p_var (pv 3)) (p_var (pv 6))))) av_nil)) av_nil))))) (ss_one (s_ret (e_p p_bl))) ss_nil) (ss_one (s_if (t_w (w_and (t_w (w_or (t_cmp (op_eqD hr.units) opd_eq (p_var (pv 6)) p_int) (w_or1 (t_w (w_and (t_cmp (op_eqD hr.units) opd_eq (p_var (pv 6)) p_int) (w_and1 (t_cmp op_lt opd_cmpI (p_callB DL.call_lenD cad_len G.n_len (pa_consP (p_ix (p_var (pv 3)) (p_var (pv 6))) pa_nilP)) p_int))))))) (w_and1 (t_not (t_e (e_callF F__law_nodes hr b.tk (av_e (e_p (p_ck (p_ix (p_var (pv 3)) (p_var (pv 6))))) (av_var (pv 4) (av_var (pv 5) av_nil))))))))) (ss_one (s_ret (e_p p_bl))) ss_nil)))) (ss_cons (s_set (i := 7) (by decide) (e_tup (pa_consE (e_callF F_pieces_of hr b.tk (av_e (e_p (p_callTy call_tuple_of cad_tuple G.n_tuple (pa_consP (p_var (pv 3)) pa_nilP))) av_nil)) (pa_consE (e_callF F_pieces_of hr b.tk (av_e (e_p (p_callTy call_tuple_of cad_tuple G.n_tuple (pa_consP (p_rev (p_var (pv 3))) pa_nilP))) av_nil)) (pa_consE (e_callF F_symbols_of hr b.tk (av_e (e_p (p_callTy call_tuple_of cad_tuple G.n_tuple (pa_consP (p_var (pv 3)) pa_nilP))) av_nil)) (pa_consE (e_callF F_pieces_of hr b.tk (av_e (e_p (p_tup pa_nilP)) av_nil)) (pa_consE (e_callF F_symbols_of hr b.tk (av_e (e_p (p_tup pa_nilP)) av_nil)) pa_nilE)))))) sc_law.nd) (ss_cons (s_if (t_not (t_e (e_callF F__law_same hr b.tk (av_var (pv 7) (av_e (e_tup (pa_consE (e_mv (pv 4)) (pa_consE (e_mv (pv 4)) (pa_consE (e_callF F__law_symbols hr b.tk (av_var (pv 3) av_nil)) (pa_consE (e_p (p_tup pa_nilP)) (pa_consE (e_p (p_tup pa_nilP)) pa_nilE)))))) av_nil))))) (ss_one (s_ret (e_p p_bl))) ss_nil) (ss_cons (s_if (t_w (w_or (t_not (t_e (e_callF F__law_joins hr b.tk (av_var (pv 1) (av_var (pv 3) (av_var (pv 4) av_nil)))))) (w_or1 (t_not (t_e (e_callF F__law_named hr b.tk (av_var (pv 1) (av_e (e_p (p_ck (p_ix (p_var (pv 3)) p_int))) (av_var (pv 4) av_nil))))))))) (ss_one (s_ret (e_p p_bl))) ss_nil) (ss_cons (s_set (i := 8) (by decide) (e_ifExp (t_cmp op_lt opd_cmpI (p_callB DL.call_lenD cad_len G.n_len (pa_consP (p_ix (p_var (pv 3)) (p_un un_neg und_neg p_int)) pa_nilP)) p_int) (e_p (p_ck (p_ix (p_var (pv 3)) (p_un un_neg und_neg p_int)))) (e_p (p_ck (p_ix (p_var (pv 4)) p_int)))) sc_law.nd) (ss_one (s_ret (e_and (e_callF F__law_nodes hr b.tk (av_var (pv 8) (av_var (pv 4) (av_e (e_p (p_op op_addD opd_add (p_var (pv 5)) p_int)) av_nil)))) (e_one (e_callF F__law_same hr b.tk (av_e (e_callF F_pieces_of hr b.tk (av_e (e_p (p_tup (pa_consP (p_ix (p_var (pv 3)) p_int) pa_nilP))) av_nil)) (av_e (e_callF F__law_bits hr b.tk (av_e (e_p (p_sl (p_var (pv 3)) po_bdN (po_bdS p_int))) av_nil)) av_nil))))))))))))))))
end TH
set_option maxHeartbeats 0
namespace TH
open PySem PySem.Spec PyProof.Rows L2 DL

def d_a_begins : He.DefD := ⟨("a_begins", none), "a_begins", "a_begins", defArgs s_a_begins, defBody s_a_begins, defScope s_a_begins, [], []⟩
def d_a_goes_on : He.DefD := ⟨("a_goes_on", none), "a_goes_on", "a_goes_on", defArgs s_a_goes_on, defBody s_a_goes_on, defScope s_a_goes_on, [], []⟩
def d_a_ask_node : He.DefD := ⟨("a_ask_node", none), "a_ask_node", "a_ask_node", defArgs s_a_ask_node, defBody s_a_ask_node, defScope s_a_ask_node, [], []⟩
def d_a_end : He.DefD := ⟨("a_end", none), "a_end", "a_end", defArgs s_a_end, defBody s_a_end, defScope s_a_end, [], []⟩
def d_is_word : He.DefD := ⟨("is_word", none), "is_word", "is_word", defArgs s_is_word, defBody s_is_word, defScope s_is_word, [], []⟩
def d__a_is_count : He.DefD := ⟨("_a_is_count", none), "_a_is_count", "_a_is_count", defArgs s__a_is_count, defBody s__a_is_count, defScope s__a_is_count, [], []⟩
def d_is_symbol : He.DefD := ⟨("is_symbol", none), "is_symbol", "is_symbol", defArgs s_is_symbol, defBody s_is_symbol, defScope s_is_symbol, [], []⟩
def d__a_is_hole : He.DefD := ⟨("_a_is_hole", none), "_a_is_hole", "_a_is_hole", defArgs s__a_is_hole, defBody s__a_is_hole, defScope s__a_is_hole, [], []⟩
def d__a_is_row : He.DefD := ⟨("_a_is_row", none), "_a_is_row", "_a_is_row", defArgs s__a_is_row, defBody s__a_is_row, defScope s__a_is_row, [], []⟩
def d_is_tree : He.DefD := ⟨("is_tree", none), "is_tree", "is_tree", defArgs s_is_tree, defBody s_is_tree, defScope s_is_tree, [], []⟩
def d_ends_of : He.DefD := ⟨("ends_of", none), "ends_of", "ends_of", defArgs s_ends_of, defBody s_ends_of, defScope s_ends_of, [], []⟩
def d_piece_at : He.DefD := ⟨("piece_at", none), "piece_at", "piece_at", defArgs s_piece_at, defBody s_piece_at, defScope s_piece_at, [], []⟩
def d_with_piece : He.DefD := ⟨("with_piece", none), "with_piece", "with_piece", defArgs s_with_piece, defBody s_with_piece, defScope s_with_piece, [], []⟩
def d_parts_of : He.DefD := ⟨("parts_of", none), "parts_of", "parts_of", defArgs s_parts_of, defBody s_parts_of, defScope s_parts_of, [], []⟩
def d__a_may_follow : He.DefD := ⟨("_a_may_follow", none), "_a_may_follow", "_a_may_follow", defArgs s__a_may_follow, defBody s__a_may_follow, defScope s__a_may_follow, [], []⟩
def d_tree_of : He.DefD := ⟨("tree_of", none), "tree_of", "tree_of", defArgs s_tree_of, defBody s_tree_of, defScope s_tree_of, [], []⟩
def d_in_order : He.DefD := ⟨("in_order", none), "in_order", "in_order", defArgs s_in_order, defBody s_in_order, defScope s_in_order, [], []⟩
def d_pieces_of : He.DefD := ⟨("pieces_of", none), "pieces_of", "pieces_of", defArgs s_pieces_of, defBody s_pieces_of, defScope s_pieces_of, [], []⟩
def d_symbols_of : He.DefD := ⟨("symbols_of", none), "symbols_of", "symbols_of", defArgs s_symbols_of, defBody s_symbols_of, defScope s_symbols_of, [], []⟩
def d_levels_of : He.DefD := ⟨("levels_of", none), "levels_of", "levels_of", defArgs s_levels_of, defBody s_levels_of, defScope s_levels_of, [], []⟩
def d_place_of : He.DefD := ⟨("place_of", none), "place_of", "place_of", defArgs s_place_of, defBody s_place_of, defScope s_place_of, [], []⟩
def d_put_at : He.DefD := ⟨("put_at", none), "put_at", "put_at", defArgs s_put_at, defBody s_put_at, defScope s_put_at, [], []⟩
def d__law_tape : He.DefD := ⟨("_law_tape", none), "_law_tape", "_law_tape", defArgs s__law_tape, defBody s__law_tape, defScope s__law_tape, [], []⟩
def d__law_pick : He.DefD := ⟨("_law_pick", none), "_law_pick", "_law_pick", defArgs s__law_pick, defBody s__law_pick, defScope s__law_pick, [], []⟩
def d__law_same : He.DefD := ⟨("_law_same", none), "_law_same", "_law_same", defArgs s__law_same, defBody s__law_same, defScope s__law_same, [], []⟩
def d__law_marks : He.DefD := ⟨("_law_marks", none), "_law_marks", "_law_marks", defArgs s__law_marks, defBody s__law_marks, defScope s__law_marks, [], []⟩
def d__law_tree : He.DefD := ⟨("_law_tree", none), "_law_tree", "_law_tree", defArgs s__law_tree, defBody s__law_tree, defScope s__law_tree, [], []⟩
def d__law_far : He.DefD := ⟨("_law_far", none), "_law_far", "_law_far", defArgs s__law_far, defBody s__law_far, defScope s__law_far, [], []⟩
def d__law_limbs : He.DefD := ⟨("_law_limbs", none), "_law_limbs", "_law_limbs", defArgs s__law_limbs, defBody s__law_limbs, defScope s__law_limbs, [], []⟩
def d__law_levels : He.DefD := ⟨("_law_levels", none), "_law_levels", "_law_levels", defArgs s__law_levels, defBody s__law_levels, defScope s__law_levels, [], []⟩
def d__law_bits : He.DefD := ⟨("_law_bits", none), "_law_bits", "_law_bits", defArgs s__law_bits, defBody s__law_bits, defScope s__law_bits, [], []⟩
def d__law_asks : He.DefD := ⟨("_law_asks", none), "_law_asks", "_law_asks", defArgs s__law_asks, defBody s__law_asks, defScope s__law_asks, [], []⟩
def d__law_bad : He.DefD := ⟨("_law_bad", none), "_law_bad", "_law_bad", defArgs s__law_bad, defBody s__law_bad, defScope s__law_bad, [], []⟩
def d__law_nodes : He.DefD := ⟨("_law_nodes", none), "_law_nodes", "_law_nodes", defArgs s__law_nodes, defBody s__law_nodes, defScope s__law_nodes, [], []⟩
def d__law_odd_node : He.DefD := ⟨("_law_odd_node", none), "_law_odd_node", "_law_odd_node", defArgs s__law_odd_node, defBody s__law_odd_node, defScope s__law_odd_node, [], []⟩
def d__law_odd_bit : He.DefD := ⟨("_law_odd_bit", none), "_law_odd_bit", "_law_odd_bit", defArgs s__law_odd_bit, defBody s__law_odd_bit, defScope s__law_odd_bit, [], []⟩
def d__law_odd_limbs : He.DefD := ⟨("_law_odd_limbs", none), "_law_odd_limbs", "_law_odd_limbs", defArgs s__law_odd_limbs, defBody s__law_odd_limbs, defScope s__law_odd_limbs, [], []⟩
def d__law_refusals : He.DefD := ⟨("_law_refusals", none), "_law_refusals", "_law_refusals", defArgs s__law_refusals, defBody s__law_refusals, defScope s__law_refusals, [], []⟩
def d__law_joins : He.DefD := ⟨("_law_joins", none), "_law_joins", "_law_joins", defArgs s__law_joins, defBody s__law_joins, defScope s__law_joins, [], []⟩
def d__law_grove : He.DefD := ⟨("_law_grove", none), "_law_grove", "_law_grove", defArgs s__law_grove, defBody s__law_grove, defScope s__law_grove, [], []⟩
def d__law_symbols : He.DefD := ⟨("_law_symbols", none), "_law_symbols", "_law_symbols", defArgs s__law_symbols, defBody s__law_symbols, defScope s__law_symbols, [], []⟩
def d__law_named : He.DefD := ⟨("_law_named", none), "_law_named", "_law_named", defArgs s__law_named, defBody s__law_named, defScope s__law_named, [], []⟩
def d_law : He.DefD := ⟨("law", none), "law", "law", defArgs s_law, defBody s_law, defScope s_law, [], []⟩
def d_NotUsable_ini : He.DefD := ⟨("NotUsable", some "__init__"), "__init__", "NotUsable.__init__", defArgs s_NotUsable___init__, defBody s_NotUsable___init__, defScope s_NotUsable___init__, [], []⟩
def fn : List He.DefD := [d_a_begins, d_a_goes_on, d_a_ask_node, d_a_end, d_is_word, d__a_is_count, d_is_symbol, d__a_is_hole, d__a_is_row, d_is_tree, d_ends_of, d_piece_at, d_with_piece, d_parts_of, d__a_may_follow, d_tree_of, d_in_order, d_pieces_of, d_symbols_of, d_levels_of, d_place_of, d_put_at, d__law_tape, d__law_pick, d__law_same, d__law_marks, d__law_tree, d__law_far, d__law_limbs, d__law_levels, d__law_bits, d__law_asks, d__law_bad, d__law_nodes, d__law_odd_node, d__law_odd_bit, d__law_odd_limbs, d__law_refusals, d__law_joins, d__law_grove, d__law_symbols, d__law_named, d_law, d_NotUsable_ini]
def fa : List He.Fa := [.glo "a_begins", .glo "a_goes_on", .glo "a_ask_node", .glo "a_end", .glo "is_word", .glo "_a_is_count", .glo "is_symbol", .glo "_a_is_hole", .glo "_a_is_row", .glo "is_tree", .glo "ends_of", .glo "piece_at", .glo "with_piece", .glo "parts_of", .glo "_a_may_follow", .glo "tree_of", .glo "in_order", .glo "pieces_of", .glo "symbols_of", .glo "levels_of", .glo "place_of", .glo "put_at", .glo "_law_tape", .glo "_law_pick", .glo "_law_same", .glo "_law_marks", .glo "_law_tree", .glo "_law_far", .glo "_law_limbs", .glo "_law_levels", .glo "_law_bits", .glo "_law_asks", .glo "_law_bad", .glo "_law_nodes", .glo "_law_odd_node", .glo "_law_odd_bit", .glo "_law_odd_limbs", .glo "_law_refusals", .glo "_law_joins", .glo "_law_grove", .glo "_law_symbols", .glo "_law_named", .glo "law", .glo "NotUsable", .glo "UseError", .free "abs", .free "all", .free "bool", .free "enumerate", .free "int", .free "isinstance", .free "len", .free "list", .free "max", .free "range", .free "reversed", .free "set", .free "sorted", .free "str", .free "tuple", .str "_A_LETTERS" "abcdefghijklmnopqrstuvwxyz", .str "_A_OTHERS" "0123456789-", .exm "NotUsable" "NotUsable" true]
def loose : List PySem.Str := ([("NotUsable" : PySem.Str), ("StoodError" : PySem.Str), ("UseError" : PySem.Str), ("_A_LETTERS" : PySem.Str), ("_A_OTHERS" : PySem.Str), ("_a_is_count" : PySem.Str), ("_a_is_hole" : PySem.Str), ("_a_is_row" : PySem.Str), ("_a_may_follow" : PySem.Str), ("_law_asks" : PySem.Str), ("_law_bad" : PySem.Str), ("_law_bits" : PySem.Str), ("_law_far" : PySem.Str), ("_law_grove" : PySem.Str), ("_law_joins" : PySem.Str), ("_law_levels" : PySem.Str), ("_law_limbs" : PySem.Str), ("_law_marks" : PySem.Str), ("_law_named" : PySem.Str), ("_law_nodes" : PySem.Str), ("_law_odd_bit" : PySem.Str), ("_law_odd_limbs" : PySem.Str), ("_law_odd_node" : PySem.Str), ("_law_pick" : PySem.Str), ("_law_refusals" : PySem.Str), ("_law_same" : PySem.Str), ("_law_symbols" : PySem.Str), ("_law_tape" : PySem.Str), ("_law_tree" : PySem.Str), ("a_ask_node" : PySem.Str), ("a_begins" : PySem.Str), ("a_end" : PySem.Str), ("a_goes_on" : PySem.Str), ("ends_of" : PySem.Str), ("in_order" : PySem.Str), ("is_symbol" : PySem.Str), ("is_tree" : PySem.Str), ("is_word" : PySem.Str), ("levels_of" : PySem.Str), ("parts_of" : PySem.Str)] : List PySem.Str) ++ ([("piece_at" : PySem.Str), ("pieces_of" : PySem.Str), ("place_of" : PySem.Str), ("put_at" : PySem.Str), ("symbols_of" : PySem.Str), ("tree_of" : PySem.Str), ("with_piece" : PySem.Str)] : List PySem.Str)
def ex (K : PySem.W.Frag) : Bool := excB K "NotUsable" ["word", "at"] && decide (PySem.W.kitOne K (.ref (He.ga K "NotUsable")) (.ref (He.ga K "UseError")) = some true)
def tf : List He.Defn := [("_law_bits", none)]
abbrev R : PySem.W.OpenRow := PySem.W.OpenLaw.row PySem.Challenge.rw_stoodthere_k13_whole_pieces_and_places
abbrev hk : PySem.W.Hook := He.hookX 6 fa fn [] tf ex
def ob (s : PySem.W.SharedT) : He.AlX := He.obsX 6 fa fn [] tf ex (HandSHeadRun.getT s)
theorem ob_eq (s : PySem.W.SharedT) : ob s = hk.obs s.abs := He.obsX_eq (HandSHeadRun.getT_eq s)
theorem run (w : World) : HandSHeadRun.RunEq R (PySem.W.view R.prog [55]) hk ob 4000 loose w := by
  intro os
  kernel_rfl
end TH
set_option maxHeartbeats 0
namespace TH
open PySem PySem.Spec PyProof.Rows L2 DL
section
variable {P : Program} {w : World} {K : PySem.W.Frag} {h base : Heap} {mg : Str → Option Value}
theorem scI_NotUsable : FnScope ["self", "word", "at"] ["self", "word", "at"] (defScope s_NotUsable___init__) := ⟨rfl, rfl, rfl, by decide +kernel, rfl, by decide +kernel, by decide +kernel⟩
theorem ini_NotUsable {fI : Addr} {fd : FuncData} (A : ExcA K "NotUsable" ["word", "at"]) (F : FunD K "__init__" "NotUsable.__init__" (defArgs s_NotUsable___init__) (defBody s_NotUsable___init__) (defScope s_NotUsable___init__) [] [] fI fd) :
    FnOk P w K mg base CX0 1 fI fd ["self", "word", "at"] (spIni2 (He.ga K "NotUsable") "word" "at") ∧ Binds K fd ["self", "word", "at"] [] :=
  ini2_ok A F scI_NotUsable (fun _ _ _ _ _ _ us hl => match us, hl with | [_, _, _], _ => rfl) fun cdv Ar outer s H E => pss_cons (ps_ost (pv 0) (pv 1)) (pss_one (ps_ost (pv 0) (pv 2)))
theorem facts (X : K.In h) (G : h.Ns mainGlobals mg) (c : He.SaysX fa fn [] tf ex w h K) (TB : ∀ p ∈ tf.map (He.cT K), LamX.TabB base mg p.1 p.2) : Facts P w K [((He.cT K ("_law_bits", none)).2, lamQ)] mg base := by
  have d := c.t.d
  have hex := c.more
  unfold ex at hex
  simp only [Bool.and_eq_true, decide_eq_true_eq] at hex
  obtain ⟨x0, x1⟩ := hex
  have A_NotUsable := excB_ok x0
  have G_NotUsable := He.glo_ok X G (d.fact 43 (f := .glo "NotUsable") rfl)
  exact {
    f_a_begins := by
      obtain ⟨fd, F⟩ := d.def_ 0 (d := d_a_begins) rfl
      exact ⟨_, fd, F, He.glo_ok X G (d.fact 0 (f := .glo "a_begins") rfl)⟩
    f_a_goes_on := by
      obtain ⟨fd, F⟩ := d.def_ 1 (d := d_a_goes_on) rfl
      exact ⟨_, fd, F, He.glo_ok X G (d.fact 1 (f := .glo "a_goes_on") rfl)⟩
    f_a_ask_node := by
      obtain ⟨fd, F⟩ := d.def_ 2 (d := d_a_ask_node) rfl
      exact ⟨_, fd, F, He.glo_ok X G (d.fact 2 (f := .glo "a_ask_node") rfl)⟩
    f_a_end := by
      obtain ⟨fd, F⟩ := d.def_ 3 (d := d_a_end) rfl
      exact ⟨_, fd, F, He.glo_ok X G (d.fact 3 (f := .glo "a_end") rfl)⟩
    f_is_word := by
      obtain ⟨fd, F⟩ := d.def_ 4 (d := d_is_word) rfl
      exact ⟨_, fd, F, He.glo_ok X G (d.fact 4 (f := .glo "is_word") rfl)⟩
    f__a_is_count := by
      obtain ⟨fd, F⟩ := d.def_ 5 (d := d__a_is_count) rfl
      exact ⟨_, fd, F, He.glo_ok X G (d.fact 5 (f := .glo "_a_is_count") rfl)⟩
    f_is_symbol := by
      obtain ⟨fd, F⟩ := d.def_ 6 (d := d_is_symbol) rfl
      exact ⟨_, fd, F, He.glo_ok X G (d.fact 6 (f := .glo "is_symbol") rfl)⟩
    f__a_is_hole := by
      obtain ⟨fd, F⟩ := d.def_ 7 (d := d__a_is_hole) rfl
      exact ⟨_, fd, F, He.glo_ok X G (d.fact 7 (f := .glo "_a_is_hole") rfl)⟩
    f__a_is_row := by
      obtain ⟨fd, F⟩ := d.def_ 8 (d := d__a_is_row) rfl
      exact ⟨_, fd, F, He.glo_ok X G (d.fact 8 (f := .glo "_a_is_row") rfl)⟩
    f_is_tree := by
      obtain ⟨fd, F⟩ := d.def_ 9 (d := d_is_tree) rfl
      exact ⟨_, fd, F, He.glo_ok X G (d.fact 9 (f := .glo "is_tree") rfl)⟩
    f_ends_of := by
      obtain ⟨fd, F⟩ := d.def_ 10 (d := d_ends_of) rfl
      exact ⟨_, fd, F, He.glo_ok X G (d.fact 10 (f := .glo "ends_of") rfl)⟩
    f_piece_at := by
      obtain ⟨fd, F⟩ := d.def_ 11 (d := d_piece_at) rfl
      exact ⟨_, fd, F, He.glo_ok X G (d.fact 11 (f := .glo "piece_at") rfl)⟩
    f_with_piece := by
      obtain ⟨fd, F⟩ := d.def_ 12 (d := d_with_piece) rfl
      exact ⟨_, fd, F, He.glo_ok X G (d.fact 12 (f := .glo "with_piece") rfl)⟩
    f_parts_of := by
      obtain ⟨fd, F⟩ := d.def_ 13 (d := d_parts_of) rfl
      exact ⟨_, fd, F, He.glo_ok X G (d.fact 13 (f := .glo "parts_of") rfl)⟩
    f__a_may_follow := by
      obtain ⟨fd, F⟩ := d.def_ 14 (d := d__a_may_follow) rfl
      exact ⟨_, fd, F, He.glo_ok X G (d.fact 14 (f := .glo "_a_may_follow") rfl)⟩
    f_tree_of := by
      obtain ⟨fd, F⟩ := d.def_ 15 (d := d_tree_of) rfl
      exact ⟨_, fd, F, He.glo_ok X G (d.fact 15 (f := .glo "tree_of") rfl)⟩
    f_in_order := by
      obtain ⟨fd, F⟩ := d.def_ 16 (d := d_in_order) rfl
      exact ⟨_, fd, F, He.glo_ok X G (d.fact 16 (f := .glo "in_order") rfl)⟩
    f_pieces_of := by
      obtain ⟨fd, F⟩ := d.def_ 17 (d := d_pieces_of) rfl
      exact ⟨_, fd, F, He.glo_ok X G (d.fact 17 (f := .glo "pieces_of") rfl)⟩
    f_symbols_of := by
      obtain ⟨fd, F⟩ := d.def_ 18 (d := d_symbols_of) rfl
      exact ⟨_, fd, F, He.glo_ok X G (d.fact 18 (f := .glo "symbols_of") rfl)⟩
    f_levels_of := by
      obtain ⟨fd, F⟩ := d.def_ 19 (d := d_levels_of) rfl
      exact ⟨_, fd, F, He.glo_ok X G (d.fact 19 (f := .glo "levels_of") rfl)⟩
    f_place_of := by
      obtain ⟨fd, F⟩ := d.def_ 20 (d := d_place_of) rfl
      exact ⟨_, fd, F, He.glo_ok X G (d.fact 20 (f := .glo "place_of") rfl)⟩
    f_put_at := by
      obtain ⟨fd, F⟩ := d.def_ 21 (d := d_put_at) rfl
      exact ⟨_, fd, F, He.glo_ok X G (d.fact 21 (f := .glo "put_at") rfl)⟩
    f__law_tape := by
      obtain ⟨fd, F⟩ := d.def_ 22 (d := d__law_tape) rfl
      exact ⟨_, fd, F, He.glo_ok X G (d.fact 22 (f := .glo "_law_tape") rfl)⟩
    f__law_pick := by
      obtain ⟨fd, F⟩ := d.def_ 23 (d := d__law_pick) rfl
      exact ⟨_, fd, F, He.glo_ok X G (d.fact 23 (f := .glo "_law_pick") rfl)⟩
    f__law_same := by
      obtain ⟨fd, F⟩ := d.def_ 24 (d := d__law_same) rfl
      exact ⟨_, fd, F, He.glo_ok X G (d.fact 24 (f := .glo "_law_same") rfl)⟩
    f__law_marks := by
      obtain ⟨fd, F⟩ := d.def_ 25 (d := d__law_marks) rfl
      exact ⟨_, fd, F, He.glo_ok X G (d.fact 25 (f := .glo "_law_marks") rfl)⟩
    f__law_tree := by
      obtain ⟨fd, F⟩ := d.def_ 26 (d := d__law_tree) rfl
      exact ⟨_, fd, F, He.glo_ok X G (d.fact 26 (f := .glo "_law_tree") rfl)⟩
    f__law_far := by
      obtain ⟨fd, F⟩ := d.def_ 27 (d := d__law_far) rfl
      exact ⟨_, fd, F, He.glo_ok X G (d.fact 27 (f := .glo "_law_far") rfl)⟩
    f__law_limbs := by
      obtain ⟨fd, F⟩ := d.def_ 28 (d := d__law_limbs) rfl
      exact ⟨_, fd, F, He.glo_ok X G (d.fact 28 (f := .glo "_law_limbs") rfl)⟩
    f__law_levels := by
      obtain ⟨fd, F⟩ := d.def_ 29 (d := d__law_levels) rfl
      exact ⟨_, fd, F, He.glo_ok X G (d.fact 29 (f := .glo "_law_levels") rfl)⟩
    f__law_bits := by
      obtain ⟨fd, F⟩ := d.def_ 30 (d := d__law_bits) rfl
      obtain ⟨oc, od, dV, kV, doc, pm, an, cdv, ct, osl, e, lk, hcd, _, _⟩ := F.ex
      obtain ⟨cc, ec⟩ := He.codeIn_ref hcd
      have e2 : fd.code = .ref cc := by rw [e, ← ec] <;> rfl
      have e3 : He.codeOf K ("_law_bits", none) = cc := He.codeOf_eq lk e2
      refine ⟨_, fd, cc, (He.cT K ("_law_bits", none)).2, F, He.glo_ok X G (d.fact 30 (f := .glo "_law_bits") rfl), e2, ?_, List.mem_singleton.mpr rfl⟩
      have z := TB (He.cT K ("_law_bits", none)) (List.mem_map.mpr ⟨_, List.mem_singleton.mpr rfl, rfl⟩)
      rw [← e3]
      exact z
    f__law_asks := by
      obtain ⟨fd, F⟩ := d.def_ 31 (d := d__law_asks) rfl
      exact ⟨_, fd, F, He.glo_ok X G (d.fact 31 (f := .glo "_law_asks") rfl)⟩
    f__law_bad := by
      obtain ⟨fd, F⟩ := d.def_ 32 (d := d__law_bad) rfl
      exact ⟨_, fd, F, He.glo_ok X G (d.fact 32 (f := .glo "_law_bad") rfl)⟩
    f__law_nodes := by
      obtain ⟨fd, F⟩ := d.def_ 33 (d := d__law_nodes) rfl
      exact ⟨_, fd, F, He.glo_ok X G (d.fact 33 (f := .glo "_law_nodes") rfl)⟩
    f__law_odd_node := by
      obtain ⟨fd, F⟩ := d.def_ 34 (d := d__law_odd_node) rfl
      exact ⟨_, fd, F, He.glo_ok X G (d.fact 34 (f := .glo "_law_odd_node") rfl)⟩
    f__law_odd_bit := by
      obtain ⟨fd, F⟩ := d.def_ 35 (d := d__law_odd_bit) rfl
      exact ⟨_, fd, F, He.glo_ok X G (d.fact 35 (f := .glo "_law_odd_bit") rfl)⟩
    f__law_odd_limbs := by
      obtain ⟨fd, F⟩ := d.def_ 36 (d := d__law_odd_limbs) rfl
      exact ⟨_, fd, F, He.glo_ok X G (d.fact 36 (f := .glo "_law_odd_limbs") rfl)⟩
    f__law_refusals := by
      obtain ⟨fd, F⟩ := d.def_ 37 (d := d__law_refusals) rfl
      exact ⟨_, fd, F, He.glo_ok X G (d.fact 37 (f := .glo "_law_refusals") rfl)⟩
    f__law_joins := by
      obtain ⟨fd, F⟩ := d.def_ 38 (d := d__law_joins) rfl
      exact ⟨_, fd, F, He.glo_ok X G (d.fact 38 (f := .glo "_law_joins") rfl)⟩
    f__law_grove := by
      obtain ⟨fd, F⟩ := d.def_ 39 (d := d__law_grove) rfl
      exact ⟨_, fd, F, He.glo_ok X G (d.fact 39 (f := .glo "_law_grove") rfl)⟩
    f__law_symbols := by
      obtain ⟨fd, F⟩ := d.def_ 40 (d := d__law_symbols) rfl
      exact ⟨_, fd, F, He.glo_ok X G (d.fact 40 (f := .glo "_law_symbols") rfl)⟩
    f__law_named := by
      obtain ⟨fd, F⟩ := d.def_ 41 (d := d__law_named) rfl
      exact ⟨_, fd, F, He.glo_ok X G (d.fact 41 (f := .glo "_law_named") rfl)⟩
    f_law := by
      obtain ⟨fd, F⟩ := d.def_ 42 (d := d_law) rfl
      exact ⟨_, fd, F, He.glo_ok X G (d.fact 42 (f := .glo "law") rfl)⟩
    n_abs := He.free_ok X G (d.fact 45 (f := .free "abs") rfl)
    n_all := He.free_ok X G (d.fact 46 (f := .free "all") rfl)
    n_bool := He.free_ok X G (d.fact 47 (f := .free "bool") rfl)
    n_enumerate := He.free_ok X G (d.fact 48 (f := .free "enumerate") rfl)
    n_int := He.free_ok X G (d.fact 49 (f := .free "int") rfl)
    n_isinstance := He.free_ok X G (d.fact 50 (f := .free "isinstance") rfl)
    n_len := He.free_ok X G (d.fact 51 (f := .free "len") rfl)
    n_list := He.free_ok X G (d.fact 52 (f := .free "list") rfl)
    n_max := He.free_ok X G (d.fact 53 (f := .free "max") rfl)
    n_range := He.free_ok X G (d.fact 54 (f := .free "range") rfl)
    n_reversed := He.free_ok X G (d.fact 55 (f := .free "reversed") rfl)
    n_set := He.free_ok X G (d.fact 56 (f := .free "set") rfl)
    n_sorted := He.free_ok X G (d.fact 57 (f := .free "sorted") rfl)
    n_str := He.free_ok X G (d.fact 58 (f := .free "str") rfl)
    n_tuple := He.free_ok X G (d.fact 59 (f := .free "tuple") rfl)
    g_A_LETTERS := He.str_ok X G (d.fact 60 (f := .str "_A_LETTERS" "abcdefghijklmnopqrstuvwxyz") rfl)
    g_A_OTHERS := He.str_ok X G (d.fact 61 (f := .str "_A_OTHERS" "0123456789-") rfl)
    c_NotUsable := by
      obtain ⟨fd, F⟩ := d.def_ 43 (d := d_NotUsable_ini) rfl
      exact A_NotUsable.two G_NotUsable (ini_NotUsable A_NotUsable F)
    x_NotUsable := A_NotUsable.x G_NotUsable
    e_NotUsable_NotUsable := He.exm_ok (d.fact 62 (f := .exm "NotUsable" "NotUsable" true) rfl)
    k_NotUsable_UseError := ⟨He.glo_ok X G (d.fact 44 (f := .glo "UseError") rfl), x1⟩
  }
end
theorem fd_law {P : Program} {w : World} {K : PySem.W.Frag} {T : List (Addr × Str)} {mg : Str → Option Value} {base : Heap} (G : Facts P w K T mg base) : Fd P w K T mg base "law" s_law 11 ["_law_script"] m_law := by
  have F_a_begins := ok_a_begins G
  have F_a_goes_on := ok_a_goes_on G
  have F_a_ask_node := ok_a_ask_node G
  have F_a_end := ok_a_end G
  have F_is_word := ok_is_word G F_a_goes_on F_a_begins
  have F__a_is_count := ok__a_is_count G
  have F_is_symbol := ok_is_symbol G F__a_is_count F_is_word
  have F__a_is_hole := ok__a_is_hole G F__a_is_count
  have F__a_is_row := ok__a_is_row G F__a_is_hole F_is_symbol
  have F_is_tree := ok_is_tree G F__a_is_row
  have F_ends_of := ok_ends_of G
  have F_piece_at := ok_piece_at G F_a_end F_a_ask_node
  have F_with_piece := ok_with_piece G F_a_end F_is_tree F_a_ask_node
  have F_parts_of := ok_parts_of G F_a_end
  have F__a_may_follow := ok__a_may_follow G F_is_tree
  have F_tree_of := ok_tree_of G F__a_may_follow
  have F_in_order := ok_in_order G
  have F_pieces_of := ok_pieces_of G F_in_order F_ends_of
  have F_symbols_of := ok_symbols_of G
  have F_levels_of := ok_levels_of G
  have F_place_of := ok_place_of G F_a_end F_a_ask_node
  have F_put_at := ok_put_at G F_is_tree
  have F__law_tape := ok__law_tape G
  have F__law_pick := ok__law_pick G
  have F__law_same := ok__law_same G
  have F__law_marks := ok__law_marks G F__law_pick
  have F__law_tree := ok__law_tree G F__law_pick
  have F__law_far := ok__law_far G
  have F__law_limbs := ok__law_limbs G F__law_far
  have F__law_levels := ok__law_levels G F__law_far
  have F__law_bits := ok__law_bits G F__law_far
  have F__law_asks := ok__law_asks G F_tree_of F_put_at F_place_of F_with_piece F_piece_at
  have F__law_bad := ok__law_bad G
  have F__law_nodes := ok__law_nodes G F__law_same F__law_far F_ends_of F_with_piece F_put_at F_place_of F_piece_at
  have F__law_odd_node := ok__law_odd_node G F__law_pick
  have F__law_odd_bit := ok__law_odd_bit G F__law_pick
  have F__law_odd_limbs := ok__law_odd_limbs G F__law_pick
  have F__law_refusals := ok__law_refusals G F__law_same F__law_asks F__law_bad F__law_odd_limbs F__law_odd_bit F__law_odd_node F__law_pick
  have F__law_joins := ok__law_joins G F__law_refusals F__law_same F_tree_of F_parts_of F__law_limbs F__law_pick
  have F__law_grove := ok__law_grove G F__law_pick F__law_tree F__law_far
  have F__law_symbols := ok__law_symbols G
  have F__law_named := ok__law_named G F__law_same F__law_limbs F_parts_of F_ends_of F_with_piece F_put_at F_place_of F_piece_at F__law_pick F__law_far
  have F_law := ok_law G F__law_same F__law_bits F_pieces_of F__law_nodes F__law_named F__law_joins F__law_symbols F_symbols_of F__law_levels F_levels_of F__law_pick F__law_grove F__law_marks F__law_tape
  exact F_law
end TH
open PySem PySem.W PySem.Calls PyProof.Rows
set_option maxRecDepth 100000 in
set_option maxHeartbeats 0 in
theorem PySem.Challenge.cw_stoodthere_k13_whole_pieces_and_places_holds : PySem.Challenge.rw_stoodthere_k13_whole_pieces_and_places.Holds := by
  w_on; o_law
  refine HandSHeadRun.head_any (r := OpenLaw.row PySem.Challenge.rw_stoodthere_k13_whole_pieces_and_places) (q := view (OpenLaw.row PySem.Challenge.rw_stoodthere_k13_whole_pieces_and_places).prog [55]) (H := TH.hk) (ob := TH.ob) (M := 4000) (loose := TH.loose) (d := HandSHeadRun.topDef (OpenLaw.row PySem.Challenge.rw_stoodthere_k13_whole_pieces_and_places).prog 55) (kwd := []) TH.ob_eq
    (by kernel_rfl) (fun s => by kernel_rfl) TH.run (by kernel_rfl) (by kernel_rfl) (by kernel_rfl) (by rfl) (by first | assumption | decide +kernel) (by decide +kernel) ⟨rfl, rfl, rfl, rfl, rfl, by decide +kernel⟩ ?hw ?hc
  case hw => w_witness2
  case hc =>
    refine LamX.walk_ofTsE (l := PySem.Challenge.rw_stoodthere_k13_whole_pieces_and_places) (n := 63) (k := 11) (x := "_law_script") (CX := fun w => L2.CX (PySem.Challenge.rw_stoodthere_k13_whole_pieces_and_places).prog w) rfl (by decide) (by kernel_rfl) ⟨rfl, by decide, by decide⟩ ?F (fun w H s e s' z => by obtain ⟨_, _, _, _, _, _, _, _, _, _, _, _, z⟩ := z; exact z)
    intro w mg fa h Y G hmg0
    obtain ⟨K, KX, c⟩ := Y
    have hmg : mg ("law" : PySem.Str) = some (.ref fa) := by
      have e : (HandSHeadRun.topDef (OpenLaw.row PySem.Challenge.rw_stoodthere_k13_whole_pieces_and_places).prog 55).name = ("law" : PySem.Str) := by kernel_rfl
      rw [← e]
      exact hmg0
    obtain ⟨fdL, FL⟩ := c.t.d.def_ 42 (d := TH.d_law) rfl
    have e := hmg.symm.trans (He.glo_ok KX G (c.t.d.fact 42 (f := .glo "law") rfl))
    cases e
    have b := FL.bindsA (ps := ["_law_script"]) fun _ _ _ _ _ _ us hl => match us, hl with | [_], _ => rfl
    refine ⟨K, KX, fdL, TH.tf.map (He.cT K), DL.spM (DL.cf0 K w [((He.cT K ("_law_bits", none)).2, DL.lamQ)]) 1 TH.m_law, fun p hp => by
      obtain ⟨q, hq, rfl⟩ := List.mem_map.mp hp
      exact c.empty q hq, fun p hp => by
      obtain ⟨q, hq, rfl⟩ := List.mem_map.mp hp
      exact c.out q hq, fun p hp => by
      obtain ⟨q, hq, rfl⟩ := List.mem_map.mp hp
      exact PySem.W.codeHd_of_K KX (c.hd q hq), fun s v => b s [v] rfl, ?_, ?_⟩
    · intro H a ns hl hbits hH hS
      refine DL.spM_law (T := [((He.cT K ("_law_bits", none)).2, DL.lamQ)]) (m := TH.m_law) ?_ hS (TH.law_all ns (Nat.le_trans hl (by decide)))
      refine ⟨fun p hp => ?_, fun p hp => ?_⟩
      · rw [List.mem_singleton.mp hp]
      · rw [List.mem_singleton.mp hp]
        exact LamX.TabS.nil (hH _ (List.mem_map.mpr ⟨_, List.mem_singleton.mpr rfl, rfl⟩))
    · intro base KB GB TB
      obtain ⟨f, fd, F, hm, FO, _⟩ := (TH.fd_law (TH.facts (w := w) KX G c TB) : DL.Fd (PySem.Challenge.rw_stoodthere_k13_whole_pieces_and_places).prog w K [((He.cT K ("_law_bits", none)).2, DL.lamQ)] mg base "law" TH.s_law 11 ["_law_script"] TH.m_law).ex
      have e2 := hm.symm.trans hmg
      cases e2
      have e3 : fd = fdL := DL.funD_uniq F FL
      rw [e3] at FO
      exact FO
