import PyProof.Rows.All
import Wide.All
import OpenK.AllK
import Wide.FinOn
import HandS.ForMost
import KE.SortData
import HandS.Style
import HandS.TupAny
import KE.DataFind
import KE.GoesMore
import KE.KeyNested
import HandS.TupSets
import HandS.IsInst
import HandS.LawCells
import HandS.Flow
import PySem.Challenge.RW_stepgrove_k09_whole_trees_counted
set_option Elab.async false
set_option linter.all false
set_option maxRecDepth 100000
set_option maxHeartbeats 4200000
/-! The eighty-five trees of at most seven knots by number, in rising order: their boughs, knots, densities, turns; plain Lean. -/
namespace SG
open PySem
/-- the boughs of tree number i, by number -/
def kidsT : List (List Nat) :=
  [[], [0], [0, 0], [0, 0, 0], [0, 0, 0, 0], [0, 0, 0, 0, 0], [0, 0, 0, 0, 0, 0], [1], [1, 0], [1, 0, 0], [1, 0, 0, 0], [1, 0, 0, 0, 0], [1, 1], [1, 1,
  0], [1, 1, 0, 0], [1, 1, 1], [2], [2, 0], [2, 0, 0], [2, 0, 0, 0], [2, 1], [2, 1, 0], [2, 2], [3], [3, 0], [3, 0, 0], [3, 1], [4], [4, 0], [5], [7],
  [7, 0], [7, 0, 0], [7, 0, 0, 0], [7, 1], [7, 1, 0], [7, 2], [7, 7], [8], [8, 0], [8, 0, 0], [8, 1], [9], [9, 0], [10], [12], [12, 0], [13], [16],
  [16, 0], [16, 0, 0], [16, 1], [17], [17, 0], [18], [20], [23], [23, 0], [24], [27], [30], [30, 0], [30, 0, 0], [30, 1], [31], [31, 0], [32], [34],
  [38], [38, 0], [39], [42], [45], [48], [48, 0], [49], [52], [56], [60], [60, 0], [61], [64], [68], [73], [78]]
def knotsT : List Nat :=
  [1, 2, 3, 4, 5, 6, 7, 3, 4, 5, 6, 7, 5, 6, 7, 7, 4, 5, 6, 7, 6, 7, 7, 5, 6, 7, 7, 6, 7, 7, 4, 5, 6, 7, 6, 7, 7, 7, 5, 6, 7, 7, 6, 7, 7, 6, 7, 7, 5,
  6, 7, 7, 6, 7, 7, 7, 6, 7, 7, 7, 5, 6, 7, 7, 6, 7, 7, 7, 6, 7, 7, 7, 7, 6, 7, 7, 7, 7, 6, 7, 7, 7, 7, 7, 7]
def densT : List Nat :=
  [1, 2, 3, 4, 5, 6, 7, 6, 8, 10, 12, 14, 20, 24, 28, 56, 12, 15, 18, 21, 36, 42, 63, 20, 24, 28, 56, 30, 35, 42, 24, 30, 36, 42, 72, 84, 126, 252, 40,
  48, 56, 112, 60, 70, 84, 120, 140, 168, 60, 72, 84, 168, 90, 105, 126, 252, 120, 140, 168, 210, 120, 144, 168, 336, 180, 210, 252, 504, 240, 280,
  336, 420, 840, 360, 420, 504, 630, 840, 720, 840, 1008, 1260, 1680, 2520, 5040]
def turnsT : List Nat :=
  [1, 1, 2, 6, 24, 120, 720, 1, 1, 2, 6, 24, 2, 2, 4, 6, 2, 2, 4, 12, 2, 2, 8, 6, 6, 12, 6, 24, 24, 120, 1, 1, 2, 6, 1, 1, 2, 2, 1, 1, 2, 1, 2, 2, 6,
  2, 2, 2, 2, 2, 4, 2, 2, 2, 4, 2, 6, 6, 6, 24, 1, 1, 2, 1, 1, 1, 2, 1, 1, 1, 1, 2, 2, 2, 2, 2, 2, 6, 1, 1, 1, 1, 1, 2, 1]
def depthT : List Nat :=
  [1, 2, 2, 2, 2, 2, 2, 3, 3, 3, 3, 3, 3, 3, 3, 3, 3, 3, 3, 3, 3, 3, 3, 3, 3, 3, 3, 3, 3, 3, 4, 4, 4, 4, 4, 4, 4, 4, 4, 4, 4, 4, 4, 4, 4, 4, 4, 4, 4,
  4, 4, 4, 4, 4, 4, 4, 4, 4, 4, 4, 5, 5, 5, 5, 5, 5, 5, 5, 5, 5, 5, 5, 5, 5, 5, 5, 5, 5, 6, 6, 6, 6, 6, 6, 7]
def hashT : List Int :=
  [5740354900026072187, -5486347211504344842, 9028247024705308198, -3517168634428989288, 8203820493126157775, 4135970141718370334,
  -2027804347301077785, 4510597632111149919, -1807087918374670097, 4664087542628982029, -3316850775265387180, -3646414498081027604,
  8189856925240824664, 5229467384623698525, 3977913688162645183, 1178025537514009798, -8129927606219974177, -7649420596463976355, 1188078663157753444,
  -6435786387380814200, 6745881630135886534, 421240690329015366, -5894643608195237562, -7426779196126117489, 1034098451106924292, -8626266151769696285,
  -3017343396002764435, 6065354386661140753, -1615458154959455861, 8686792741840686921, -2010042300121347165, -3674758447004149557,
  -7603576017643177218, -2799649150276266419, 6322186396611345204, 7833112986396103, -6318338841719778892, -4596810918605520008, -4255453644681420661,
  -7633419334760122304, 3480582342634222108, 2363525508855372457, -6527915657073787012, -5287378050397800012, 689319326636901197, 3272293113811265743,
  -8168872048566147190, 8187223789704774824, -4036653320055449708, 8135774028599478745, -7872866811925364485, -314025201494578110, -325184957796747170,
  -6444910600198553046, 3499595945611353143, -533191025837454980, -1727271575174305268, 3431766336458946038, -2824729285786065464, 3754104405995943876,
  5897120461648011547, 7650451737026937986, 995010717509302858, -799347493067118869, 6916173354922913149, -5442401751542183617, 5773809594761744998,
  -4002823960293952063, 1800693471872377265, 7024814589908968516, 5121722104527473205, -5132779940573575139, -8005492415624748088, 2970775157595387041,
  -4748238413347093736, -6599362416047294805, 524124497958944785, 7149174503279570998, -869347361025822534, 117629005838913739, 527124988929497636,
  -8763305577815332594, 4902193639059460174, -1862571898043339054, -446549404724807673]
/-- the trees of 1, 2, .. 7 knots -/
def ofT : List (List Nat) :=
  [[0], [1], [2, 7], [3, 8, 16, 30], [4, 9, 12, 17, 23, 31, 38, 48, 60], [5, 10, 13, 18, 20, 24, 27, 32, 34, 39, 42, 45, 49, 52, 56, 61, 64, 68, 73,
  78], [6, 11, 14, 15, 19, 21, 22, 25, 26, 28, 29, 33, 35, 36, 37, 40, 41, 43, 44, 46, 47, 50, 51, 53, 54, 55, 57, 58, 59, 62, 63, 65, 66, 67, 69, 70,
  71, 72, 74, 75, 76, 77, 79, 80, 81, 82, 83, 84]]
/-- the trees of at most 0, 1, .. 7 knots, fewer ones first -/
def toT : List (List Nat) :=
  [[], [0], [0, 1], [0, 1, 2, 7], [0, 1, 2, 7, 3, 8, 16, 30], [0, 1, 2, 7, 3, 8, 16, 30, 4, 9, 12, 17, 23, 31, 38, 48, 60], [0, 1, 2, 7, 3, 8, 16, 30,
  4, 9, 12, 17, 23, 31, 38, 48, 60, 5, 10, 13, 18, 20, 24, 27, 32, 34, 39, 42, 45, 49, 52, 56, 61, 64, 68, 73, 78], [0, 1, 2, 7, 3, 8, 16, 30, 4, 9,
  12, 17, 23, 31, 38, 48, 60, 5, 10, 13, 18, 20, 24, 27, 32, 34, 39, 42, 45, 49, 52, 56, 61, 64, 68, 73, 78, 6, 11, 14, 15, 19, 21, 22, 25, 26, 28, 29,
  33, 35, 36, 37, 40, 41, 43, 44, 46, 47, 50, 51, 53, 54, 55, 57, 58, 59, 62, 63, 65, 66, 67, 69, 70, 71, 72, 74, 75, 76, 77, 79, 80, 81, 82, 83, 84]]
def kids (i : Nat) : List Nat := kidsT.getD i []
def knots (i : Nat) : Nat := knotsT.getD i 0
def dens (i : Nat) : Nat := densT.getD i 0
def turns (i : Nat) : Nat := turnsT.getD i 0
def depth (i : Nat) : Nat := depthT.getD i 0
def hashOf (i : Nat) : Int := hashT.getD i 0
def ofs (n : Nat) : List Nat := ofT.getD (n - 1) []
def tos (n : Nat) : List Nat := toT.getD n []
/-- what is true of each of the eighty-five -/
theorem each {p : Nat → Bool} (h : (List.range 85).all p = true) {i : Nat} (hi : i < 85) : p i = true := List.all_eq_true.mp h i (List.mem_range.mpr hi)
theorem each2 {p : Nat → Nat → Bool} (h : ((List.range 85).all fun i => (List.range 85).all (p i)) = true) {i j : Nat} (hi : i < 85) (hj : j < 85) : p i j = true := each (each h hi) hj
theorem kids_lt {i k : Nat} (hi : i < 85) (hk : k ∈ kids i) : k < 85 ∧ k < i ∧ depth k < depth i := by
  have h := each (p := fun i => (kids i).all fun k => decide (k < 85 ∧ k < i ∧ depth k < depth i)) (by decide +kernel) hi
  exact of_decide_eq_true (List.all_eq_true.mp h k hk)
theorem depth_le {i : Nat} (hi : i < 85) : depth i ≤ 7 := of_decide_eq_true (each (p := fun i => decide (depth i ≤ 7)) (by decide +kernel) hi)
theorem knots_eq {i : Nat} (hi : i < 85) : knots i = 1 + ((kids i).map knots).sum := of_decide_eq_true (each (p := fun i => decide (knots i = 1 + ((kids i).map knots).sum)) (by decide +kernel) hi)
theorem knots_le {i : Nat} (hi : i < 85) : 1 ≤ knots i ∧ knots i ≤ 7 := of_decide_eq_true (each (p := fun i => decide (1 ≤ knots i ∧ knots i ≤ 7)) (by decide +kernel) hi)
theorem kids_len {i : Nat} (hi : i < 85) : (kids i).length ≤ 6 := of_decide_eq_true (each (p := fun i => decide ((kids i).length ≤ 6)) (by decide +kernel) hi)
/-- the density as the loop makes it: behind n boughs -/
def densAt (i n : Nat) : Nat := ((kids i).take n).foldl (fun a k => a * dens k) (knots i)
theorem dens_eq {i : Nat} (hi : i < 85) : dens i = densAt i (kids i).length := of_decide_eq_true (each (p := fun i => decide (dens i = densAt i (kids i).length)) (by decide +kernel) hi)
theorem densAt_le {i n : Nat} (hi : i < 85) (hn : n ≤ (kids i).length) : densAt i n ≤ 5040 := by
  have h := each (p := fun i => (List.range ((kids i).length + 1)).all fun n => decide (densAt i n ≤ 5040)) (by decide +kernel) hi
  exact of_decide_eq_true (List.all_eq_true.mp h n (List.mem_range.mpr (by omega)))
theorem densAt_zero (i : Nat) : densAt i 0 = knots i := rfl
theorem densAt_succ {i n : Nat} {k : Nat} (h : (kids i)[n]? = some k) : densAt i (n + 1) = densAt i n * dens k := by
  unfold densAt
  rw [List.take_add_one, h, Option.toList_some, List.foldl_append]
  rfl
/-- the turns as the loop makes them: behind n boughs -/
def turnsAt (ks : List Nat) : Nat → Nat
  | 0 => 1
  | n + 1 => turnsAt ks n * turns (ks.getD n 0) * (ks.take (n + 1)).count (ks.getD n 0)
theorem turns_eq {i : Nat} (hi : i < 85) : turns i = turnsAt (kids i) (kids i).length := of_decide_eq_true (each (p := fun i => decide (turns i = turnsAt (kids i) (kids i).length)) (by decide +kernel) hi)
theorem turnsAt_le {i n : Nat} (hi : i < 85) (hn : n ≤ (kids i).length) : turnsAt (kids i) n ≤ 720 := by
  have h := each (p := fun i => (List.range ((kids i).length + 1)).all fun n => decide (turnsAt (kids i) n ≤ 720)) (by decide +kernel) hi
  exact of_decide_eq_true (List.all_eq_true.mp h n (List.mem_range.mpr (by omega)))
theorem turns_le {i : Nat} (hi : i < 85) : 1 ≤ turns i ∧ turns i ≤ 720 := of_decide_eq_true (each (p := fun i => decide (1 ≤ turns i ∧ turns i ≤ 720)) (by decide +kernel) hi)
theorem dens_le {i : Nat} (hi : i < 85) : 1 ≤ dens i ∧ dens i ≤ 5040 := of_decide_eq_true (each (p := fun i => decide (1 ≤ dens i ∧ dens i ≤ 5040)) (by decide +kernel) hi)
/-- the boughs fall -/
theorem kids_fall {i : Nat} (hi : i < 85) : (kids i).Pairwise (fun a b => b ≤ a) := by
  have h := each (p := fun i => decide ((kids i).Pairwise (fun a b => b ≤ a))) (by decide +kernel) hi
  exact of_decide_eq_true h
/-! ### sorting numbers -/
/-- the rising order of a list of numbers -/
def srt (l : List Nat) : List Nat := l.mergeSort (fun a b => decide (a ≤ b))
theorem srt_perm (l : List Nat) : (srt l).Perm l := List.mergeSort_perm l _
theorem srt_rise (l : List Nat) : (srt l).Pairwise (fun a b => a ≤ b) := by
  have h := List.pairwise_mergeSort (le := fun a b : Nat => decide (a ≤ b)) (fun a b c h1 h2 => decide_eq_true (Nat.le_trans (of_decide_eq_true h1) (of_decide_eq_true h2))) (fun a b => by
    rcases Nat.le_total a b with h | h <;> simp [h]) l
  exact h.imp fun h => of_decide_eq_true h
theorem perm_rise_eq : ∀ {l m : List Nat}, l.Perm m → l.Pairwise (fun a b => a ≤ b) → m.Pairwise (fun a b => a ≤ b) → l = m
  | [], m, p, _, _ => (List.nil_perm.mp p).symm
  | a :: l, [], p, _, _ => absurd (List.perm_nil.mp p) (by simp)
  | a :: l, b :: m, p, hl, hm => by
    have h1 : a ∈ b :: m := p.mem_iff.mp List.mem_cons_self
    have h2 : b ∈ a :: l := p.mem_iff.mpr List.mem_cons_self
    have e : a = b := by
      rcases List.mem_cons.mp h1 with e | h1
      · exact e
      · rcases List.mem_cons.mp h2 with e | h2
        · exact e.symm
        · exact Nat.le_antisymm ((List.pairwise_cons.mp hl).1 b h2) ((List.pairwise_cons.mp hm).1 a h1)
    subst e
    rw [perm_rise_eq (List.Perm.cons_inv p) (List.pairwise_cons.mp hl).2 (List.pairwise_cons.mp hm).2]
/-- a rising list of the same numbers is that order -/
theorem srt_of {l m : List Nat} (p : m.Perm l) (h : m.Pairwise (fun a b => a ≤ b)) : srt l = m := perm_rise_eq ((srt_perm l).trans p.symm) (srt_rise l) h
theorem srt_len (l : List Nat) : (srt l).length = l.length := (srt_perm l).length_eq
/-- falling(boughs) is boughs -/
theorem kids_srt {i : Nat} (hi : i < 85) : (srt (kids i)).reverse = kids i := by
  have h : srt (kids i) = (kids i).reverse := srt_of (List.reverse_perm _) (List.pairwise_reverse.mpr (kids_fall hi))
  rw [h, List.reverse_reverse]
/-! ### all tuples of trees of a falling pool with so many knots together -/
/-- the rows, each a tuple's items by number; f: how deep one may go -/
def boughs : Nat → Nat → List Nat → List (List Nat)
  | _, 0, _ => [[]]
  | 0, _ + 1, _ => []
  | f + 1, m + 1, pool => (List.range pool.length).flatMap fun i =>
    if knots (pool.getD i 0) ≤ m + 1 then (boughs f (m + 1 - knots (pool.getD i 0)) (pool.drop i)).map (pool.getD i 0 :: ·) else []
/-- the tree whose boughs stand in a row -/
def numOf (row : List Nat) : Nat := kidsT.idxOf row
/-- the pool for trees of n + 1 knots: all of at most n knots, falling -/
def poolOf (n : Nat) : List Nat := (srt (tos n)).reverse
def poolT (n : Nat) : List Nat := (List.range 85).reverse.filter fun i => decide (knots i ≤ n)
theorem pool_eq {n : Nat} (hn : n < 7) : poolOf n = poolT n := by
  have key : ∀ n, n < 7 → ((poolT n).reverse.isPerm (tos n) && decide ((poolT n).reverse.Pairwise (fun a b => a ≤ b))) = true := by decide +kernel
  have h := key n hn
  rw [Bool.and_eq_true] at h
  unfold poolOf
  rw [srt_of (List.isPerm_iff.mp h.1) (of_decide_eq_true h.2), List.reverse_reverse]
/-- each row of n + 1 knots is a tree's, and sorted they are the trees of so many knots -/
theorem rows_ok {n : Nat} (hn : n < 7) : (∀ row ∈ boughs 7 n (poolOf n), numOf row < 85 ∧ kids (numOf row) = row) ∧ srt ((boughs 7 n (poolOf n)).map numOf) = ofs (n + 1) ∧ (boughs 7 n (poolOf n)).length ≤ 48 := by
  rw [pool_eq hn]
  have key : ∀ n, n < 7 → ((boughs 7 n (poolT n)).all (fun row => decide (numOf row < 85 ∧ kids (numOf row) = row)) && ((ofs (n + 1)).isPerm ((boughs 7 n (poolT n)).map numOf) && (decide ((ofs (n + 1)).Pairwise (fun a b => a ≤ b)) && decide ((boughs 7 n (poolT n)).length ≤ 48)))) = true := by decide +kernel
  have h := key n hn
  rw [Bool.and_eq_true, Bool.and_eq_true, Bool.and_eq_true] at h
  exact ⟨fun row hr => of_decide_eq_true (List.all_eq_true.mp h.1 row hr), srt_of (List.isPerm_iff.mp h.2.1) (of_decide_eq_true h.2.2.1), of_decide_eq_true h.2.2.2⟩
theorem tos_lt {n i : Nat} (hn : n ≤ 7) (hi : i ∈ tos n) : i < 85 := by
  have key : ∀ n, n ≤ 7 → (tos n).all (fun i => decide (i < 85)) = true := by decide +kernel
  exact of_decide_eq_true (List.all_eq_true.mp (key n hn) i hi)
theorem tos_len {n : Nat} (hn : n ≤ 7) : (tos n).length ≤ 85 := by
  have key : ∀ n, n ≤ 7 → decide ((tos n).length ≤ 85) = true := by decide +kernel
  exact of_decide_eq_true (key n hn)
theorem tos_succ {n : Nat} (hn : n < 7) : tos (n + 1) = tos n ++ ofs (n + 1) := by
  have key : ∀ n, n < 7 → decide (tos (n + 1) = tos n ++ ofs (n + 1)) = true := by decide +kernel
  exact of_decide_eq_true (key n hn)
theorem ofs_lt {n i : Nat} (hn : n < 7) (hi : i ∈ ofs (n + 1)) : i < 85 := by
  have key : ∀ n, n < 7 → (ofs (n + 1)).all (fun i => decide (i < 85)) = true := by decide +kernel
  exact of_decide_eq_true (List.all_eq_true.mp (key n hn) i hi)
end SG
/-! The trees as data, and sorted of a list or a tuple of them, over the raw heap. -/
namespace SG
open PySem PyProof.Rows PySem.W
/-! ### tree number i as data -/
def datF : Nat → Nat → PyData
  | 0, _ => .none
  | n + 1, i => .tuple ((kids i).map (datF n))
def dat (i : Nat) : PyData := datF 8 i
theorem datF_stable : ∀ (n m i : Nat), i < 85 → depth i < n → depth i < m → datF n i = datF m i
  | 0, _, _, _, h, _ => absurd h (Nat.not_lt_zero _)
  | _ + 1, 0, _, _, _, h => absurd h (Nat.not_lt_zero _)
  | n + 1, m + 1, i, hi, h1, h2 => by
    show PyData.tuple ((kids i).map (datF n)) = PyData.tuple ((kids i).map (datF m))
    refine congrArg PyData.tuple (List.map_congr_left fun k hk => ?_)
    obtain ⟨a, _, c⟩ := kids_lt hi hk
    exact datF_stable n m k a (by omega) (by omega)
theorem dat_eq {i : Nat} (hi : i < 85) : dat i = .tuple ((kids i).map dat) := by
  show PyData.tuple ((kids i).map (datF 7)) = PyData.tuple ((kids i).map dat)
  refine congrArg PyData.tuple (List.map_congr_left fun k hk => ?_)
  obtain ⟨a, _, c⟩ := kids_lt hi hk
  have d := depth_le hi
  exact datF_stable 7 8 k a (by omega) (by omega)
theorem dat_eqv {i j : Nat} (hi : i < 85) (hj : j < 85) : PyData.eqv (dat i) (dat j) = decide (i = j) := by
  have h := each2 (p := fun i j => PyData.eqv (dat i) (dat j) == decide (i = j)) (by decide +kernel) hi hj
  exact eq_of_beq h
theorem dat_lt {i j : Nat} (hi : i < 85) (hj : j < 85) : dataLt (dat i) (dat j) = decide (i < j) := by
  have h := each2 (p := fun i j => dataLt (dat i) (dat j) == decide (i < j)) (by decide +kernel) hi hj
  exact eq_of_beq h
theorem dat_alike {i j : Nat} (hi : i < 85) (hj : j < 85) : alike (dat i) (dat j) = true := each2 (p := fun i j => alike (dat i) (dat j)) (by decide +kernel) hi hj
theorem dat_depth {i : Nat} (hi : i < 85) : (dat i).depth ≤ 7 := of_decide_eq_true (each (p := fun i => decide ((dat i).depth ≤ 7)) (by decide +kernel) hi)
theorem dat_lay {i : Nat} (hi : i < 85) : (dat i).canLay0 = true := each (p := fun i => (dat i).canLay0) (by decide +kernel) hi
theorem dat_shaped {i : Nat} (hi : i < 85) : SeqAt.shaped (dat i) = true := by
  show ((dat i).canLay0 && decide ((dat i).depth ≤ 64)) = true
  have h := dat_depth hi
  rw [dat_lay hi, decide_eq_true (show (dat i).depth ≤ 64 by omega)]
  rfl
theorem dats_lay : ∀ {ks : List Nat}, (∀ k ∈ ks, k < 85) → PyData.canLayAll0 (ks.map dat) = true
  | [], _ => by simp [PyData.canLayAll0]
  | k :: ks, h => by
    rw [List.map_cons, PyData.canLayAll0, dat_lay (h k List.mem_cons_self), dats_lay fun j hj => h j (List.mem_cons_of_mem _ hj)]
    rfl
theorem dats_depth : ∀ {ks : List Nat}, (∀ k ∈ ks, k < 85) → PyData.depthAll (ks.map dat) ≤ 7
  | [], _ => by simp [PyData.depthAll]
  | k :: ks, h => by
    have a := dat_depth (h k List.mem_cons_self)
    have b := dats_depth (ks := ks) fun j hj => h j (List.mem_cons_of_mem _ hj)
    simp only [PyData.depthAll, List.map_cons]
    omega
end SG
namespace SG
open PySem PySem.Calls PySem.W PyProof.Rows
/-- v is tree number b in the heap -/
def RT (h : Heap) (v : Value) (b : Nat) : Prop := b < 85 ∧ ∃ as, Reads h v (dat b) as
theorem RT.tup {h : Heap} {v : Value} {b : Nat} (r : RT h v b) : ∃ a o xs n as, v = .ref a ∧ h.get? a = some o ∧ o.cls = .type "tuple" ∧ o.data = .seq xs n ∧ ReadsAll h xs.toList ((kids b).map dat) as := by
  obtain ⟨hb, as, r⟩ := r
  rw [dat_eq hb] at r
  cases r with
  | @tuple a o xs n _ _ ho hc hd hr => exact ⟨a, o, xs, n, as, rfl, ho, hc, hd, hr⟩
theorem RT.first {h : Heap} {b : Nat} {xs : Array Value} {as : List Addr} (hr : ReadsAll h xs.toList ((kids b).map dat) as) : (xs[0]?).isSome = !(kids b).isEmpty := by
  have e : xs.size = (kids b).length := by simpa using SeqAt.ReadsAll.length _ _ _ hr
  cases q : kids b with
  | nil =>
    rw [q] at e
    have : xs[0]? = none := by simp [show xs.size = 0 from e]
    rw [this] <;> rfl
  | cons k r =>
    rw [q] at e
    have : 0 < xs.size := by rw [e, List.length_cons]; omega
    rw [Array.getElem?_eq_getElem this] <;> rfl
section
variable {w : World} {prog : Program} {E : Value → Shared → Prop} {A : Around} {s : Shared}
/-- what the sort looks at first: each key's first item -/
theorem firsts_trees : ∀ {vs : List Value} {bs : List Nat} {Q : List (Option Value) → Shared → Prop}, EachIs (RT s.heap) vs bs →
    (∀ fs : List (Option Value), fs.map Option.isSome = bs.map (fun b => !(kids b).isEmpty) → Q fs s) → wpAny (model prog w) A (vs.mapM firstOfTuple') Q E s
  | _, _, Q, .nil, h => by
    rw [List.mapM_nil]
    exact wpAny_pure (h [] rfl)
  | _, _, Q, .cons (a := v) (b := b) (as := vs) r t, h => by
    obtain ⟨a, o, xs, n, as, rfl, ho, hc, hd, hr⟩ := r.tup
    rw [List.mapM_cons]
    refine wpAny_bind ?_
    rw [kas_first_eq]
    have isT : s.TypeIs (.ref a) "tuple" := ⟨o, ho, hc⟩
    refine wpAny_bind (wpAny_typeOf isT ?_)
    rw [if_neg (by decide)]
    refine wpAny_bind (listItems_at ho hd (wpAny_pure (wpAny_bind (firsts_trees t fun fs hf => wpAny_pure (h (xs[0]? :: fs) ?_)))))
    rw [List.map_cons, List.map_cons, hf, RT.first hr]
theorem types_trees : ∀ {vs : List Value} {bs : List Nat} {Q : List Value → Shared → Prop}, EachIs (RT s.heap) vs bs → Q (vs.map fun _ => Value.type "tuple") s → wpAny (model prog w) A (vs.mapM typeOf) Q E s
  | _, _, Q, .nil, h => by
    rw [List.mapM_nil]
    exact wpAny_pure h
  | _, _, Q, .cons (a := v) (b := b) (as := vs) r t, h => by
    obtain ⟨a, o, xs, n, as, rfl, ho, hc, hd, hr⟩ := r.tup
    rw [List.mapM_cons]
    have isT : s.TypeIs (.ref a) "tuple" := ⟨o, ho, hc⟩
    exact wpAny_bind (wpAny_typeOf isT (wpAny_bind (types_trees t (wpAny_pure h))))
/-- t < u as a call of tuple's own __lt__ -/
theorem one_lt {a b : Value} {i j : Nat} {f : Bool} {Q : Bool → Shared → Prop} (ra : RT s.heap a i) (rb : RT s.heap b j) (hu : A.units + 8 < cLine) (h : Q (decide (i < j)) s) : wpAny (model prog w) A (oneLt' f a b) Q E s := by
  have hal := dat_alike ra.1 rb.1
  have hd1 := dat_depth ra.1
  have hd2 := dat_depth rb.1
  have hlt := dat_lt ra.1 rb.1
  cases f with
  | false =>
    obtain ⟨hi, as, r1⟩ := ra
    obtain ⟨hj, bs, r2⟩ := rb
    refine oneLt_alike (fun z => nomatch z) r1 r2 hal ?_ (by omega) ?_
    · rw [dat_eq hi]
      exact fun z => nomatch z
    · rw [hlt]
      exact h
  | true =>
    obtain ⟨l, o, vs, n, as, rfl, h1, h2, h3, h4⟩ := ra.tup
    obtain ⟨l', o', vs', n', bs, rfl, k1, k2, k3, k4⟩ := rb.tup
    have n1 : vs.size = ((kids i).map dat).length := by simpa using SeqAt.ReadsAll.length _ _ _ h4
    have n2 : vs'.size = ((kids j).map dat).length := by simpa using SeqAt.ReadsAll.length _ _ _ k4
    rw [dat_eq ra.1, dat_eq rb.1] at hal hlt
    rw [dat_eq ra.1] at hd1
    rw [dat_eq rb.1] at hd2
    have hall : alikeAll ((kids i).map dat) ((kids j).map dat) = true := by simpa [alike] using hal
    simp only [PyData.depth] at hd1 hd2
    have hin : A.in1.units + min (PyData.depthAll ((kids i).map dat)) (PyData.depthAll ((kids j).map dat)) < cLine := by
      rw [Around.in1_units]
      omega
    rw [← hlt, dataLt_tuple, ← firstLt_toks _ _ hall, ← n1, ← n2] at h
    rw [oneLt'_eq]
    simp only [if_true]
    refine wpAny_bind (wpAny_cRoomFor (by omega) (wpAny_bind ?_))
    refine (wpAny_callSpecialIfBound?_slot (T := "tuple") ⟨_, h1, h2⟩ PySem.F.slot_tuple_lt ?_)
    obtain ⟨cls, dd, data, sl⟩ := o
    obtain ⟨cls2, dd2, data2, sl2⟩ := o'
    simp only at h2 h3 k2 k3
    subst h2 h3 k2 k3
    refine call_meets PySem.F.slot_tuple_lt ⟨_, h1, rfl⟩ PySem.F.entry_tuple_lt (PySem.F.args_tuple_lt_2 _ _) (SeqAt.tuple_ltAt l l' vs vs' n n' dd dd2 sl sl2 (SeqAt.pairEq ((kids i).map dat) ((kids j).map dat)) (fun q => dataLt (((kids i).map dat).getD q .none) (((kids j).map dat).getD q .none)))
      ⟨h1, k1, fun q j1 j2 => ?_, fun q j1 j2 hq => ?_, ?_⟩
    · have := eqAt_alikeAll _ _ A.in1 s vs.toList vs'.toList _ _ h4 k4 hall hin q (by simpa using j1) (by simpa using j2)
      simpa using this
    · have := rcLt_alikeAll _ _ A.in1 s vs.toList vs'.toList _ _ h4 k4 hall hin q (by simpa using j1) (by simpa using j2) hq
      simpa using this
    · exact wpAny_truthy_bool h
theorem each_right {α β : Type} {R : α → β → Prop} : ∀ {as : List α} {bs : List β}, EachIs R as bs → ∀ b ∈ bs, ∃ a, R a b
  | _, _, .nil, _, h => absurd h (by simp)
  | _, _, .cons r t, b, h => by
    rcases List.mem_cons.mp h with e | later
    · exact ⟨_, e ▸ r⟩
    · exact each_right t b later
/-- trees can be sorted, the single knot among them too -/
theorem sorts_trees {vs : List Value} {bs : List Nat} (e : EachIs (RT s.heap) vs bs) (hu : A.units + 8 < cLine) : SortsAt prog w A s (dataKind s.heap (bs.map dat)) vs := by
  have lt85 : ∀ b ∈ bs, b < 85 := fun b hb => by
    obtain ⟨v, r⟩ := each_right e b hb
    exact r.1
  have hal : AllAlike (bs.map dat) := fun d hd d' hd' => by
    obtain ⟨i, hi, rfl⟩ := List.mem_map.mp hd
    obtain ⟨j, hj, rfl⟩ := List.mem_map.mp hd'
    exact dat_alike (lt85 i hi) (lt85 j hj)
  have er : EachIs (fun v d => ∃ as, Reads s.heap v d as) vs (bs.map dat) := each_map dat (e.mono fun v b r => r.2)
  by_cases hk : ∀ b ∈ bs, kids b ≠ []
  · refine SortsAt.data er hal (.inl fun d hd => ?_) fun d hd => ?_
    · obtain ⟨i, hi, rfl⟩ := List.mem_map.mp hd
      rw [dat_eq (lt85 i hi)]
      cases q : kids i with
      | nil => exact absurd q (hk i hi)
      | cons k r => exact ⟨_, _, rfl⟩
    · obtain ⟨i, hi, rfl⟩ := List.mem_map.mp hd
      have := dat_depth (lt85 i hi)
      omega
  · refine ⟨fun v hv => ?_, (if (bs.head?.map fun b => !(kids b).isEmpty) = some true then general' else oneType'), ?_, fun h2 E Q hq => ?_⟩
    · obtain ⟨d, hm, as, rd⟩ := er.left v hv
      exact ⟨_, dataKind_some hal hm rd⟩
    · intro E x y a b Q ha hb hq
      obtain ⟨_, _, m1, ra, rfl⟩ := dataKind_inv ha
      obtain ⟨_, _, m2, rb, rfl⟩ := dataKind_inv hb
      obtain ⟨i, hi, rfl⟩ := List.mem_map.mp m1
      obtain ⟨j, hj, rfl⟩ := List.mem_map.mp m2
      have hq' : Q (dataLt (dat i) (dat j)) s := hq
      rw [dat_lt (lt85 i hi) (lt85 j hj)] at hq'
      have r1 : RT s.heap x i := ⟨lt85 i hi, _, ra⟩
      have r2 : RT s.heap y j := ⟨lt85 j hj, _, rb⟩
      split
      · exact one_lt (f := false) r1 r2 hu hq'
      · rw [keyLt'_oneType]
        exact one_lt (f := true) r1 r2 hu hq'
    · rw [keyKind'_eq, List.mapM_toArray, map_eq_pure_bind]
      refine wpAny_bind (wpAny_bind (firsts_trees e fun fs hf => wpAny_pure ?_))
      have hno : ¬ (fs.toArray.all fun x => x.isSome) = true := fun h => by
        refine hk fun b hb q => ?_
        have h1 : fs.all Option.isSome = true := by simpa using h
        have h2 : (bs.map fun b => !(kids b).isEmpty).all id = true := by
          rw [← hf, List.all_map]
          exact h1
        rw [List.all_map] at h2
        have h3 := List.all_eq_true.mp h2 b hb
        simp [q] at h3
      rw [if_neg hno]
      have hhead : (fs.toArray[0]?.bind id).isSome = true ↔ (bs.head?.map fun b => !(kids b).isEmpty) = some true := by
        cases fs with
        | nil =>
          cases bs with
          | nil => simp
          | cons b bs => simp at hf
        | cons f fs =>
          cases bs with
          | nil => simp at hf
          | cons b bs =>
            rw [List.map_cons, List.map_cons] at hf
            have h1 := (List.cons.inj hf).1
            simp [h1]
      by_cases hc : (bs.head?.map fun b => !(kids b).isEmpty) = some true
      · rw [if_pos (hhead.mpr hc)]
        rw [if_pos hc] at hq
        exact wpAny_pure hq
      · rw [if_neg fun z => hc (hhead.mp z)]
        rw [if_neg hc] at hq
        rw [oneTypeOnly'_eq]
        rw [List.mapM_toArray, map_eq_pure_bind]
        refine wpAny_bind (wpAny_bind (wpAny_bind (types_trees e (wpAny_pure ?_))))
        have h0 : (vs.map fun _ => Value.type "tuple").toArray[0]? = some (Value.type "tuple") := by
          cases vs with
          | nil => simp at h2
          | cons v vs => simp
        have hall : ((vs.map fun _ => Value.type "tuple").toArray.all fun x => x == Value.type "tuple") = true := by
          simp
        rw [h0]
        simp only [hall, if_true]
        exact wpAny_pure <| wpAny_pure hq
/-- collecting a tuple's items -/
theorem collect_tup {l : Addr} {vs : List Value} {Q : List Value → Shared → Prop} (hl : IsTup s.heap l vs.toArray) (hsz : vs.length ≤ sizeLine)
    (h : Q vs { s with heap := (s.heap.push (seqObj "list" #[] 0)).update s.heap.objs.size (Obj.mapSeq (· ++ vs.toArray)) }) : wpAny (model prog w) A (collect (.ref l)) Q E s := by
  obtain ⟨o, ho, hc, m, hda⟩ := hl
  let L := seqObj "list" #[] 0
  have atNew : (s.heap.push L).get? s.heap.objs.size = some L := Heap.get?_push_size _ rfl
  have atOld : (s.heap.push L).get? l = some o := Heap.get?_push_of_some _ ho
  have isT : Shared.TypeIs { s with heap := s.heap.push L } (.ref l) "tuple" := ⟨o, atOld, hc⟩
  unfold collect
  refine wpAny_bind (wpAny_runValue (codeAny_builtin entry_proto_collect' (wpAny_bind ?_)))
  refine wpAny_newList (wpAny_pure ⟨Code.quiet_builtin _ (by decide +kernel), codeAny_builtin entry_list_iadd' ?_⟩)
  show wpAny _ _ (Builtin.List.listExtendWith (.ref s.heap.objs.size) (.ref l) _) _ _ { s with heap := s.heap.push L }
  unfold Builtin.List.listExtendWith; refine wpAny_bind (wpAny_typeOf isT ?_)
  rw [if_pos (by simp)]
  refine wpAny_bind (listItems_at atOld hda (wpAny_bind (listItems_at atNew rfl ?_)))
  rw [if_neg (by simp)]
  refine wpAny_bind (listUpdate_at atNew rfl ?_ (Nat.zero_le _) (by show (#[] ++ vs.toArray).size ≤ sizeLine + 1; simp only [Array.size_append, List.size_toArray, List.length_nil]; omega))
  refine wpAny_pure (wpAny_bind (wpAny_load (get?_update_seq atNew _) ?_))
  have whole : (Array.append (#[] : Array Value) vs.toArray).toList = vs := by simp
  show wpAny _ _ (pure (Array.append (#[] : Array Value) vs.toArray).toList) Q E _
  rw [whole]
  exact wpAny_pure h
end
end SG
namespace SG
open PySem PySem.Calls PySem.W PyProof.Rows
section
variable {w : World} {prog : Program} {E : Value → Shared → Prop} {A : Around} {s : Shared}
/-- the order of the trees is that of their numbers -/
theorem data_srt {bs : List Nat} (h : ∀ b ∈ bs, b < 85) : bs.mergeSort (dataLe false dat) = srt bs := by
  unfold srt
  refine sort_congr fun a ha b hb => ?_
  show (!dataLt (dat b) (dat a)) = decide (a ≤ b)
  rw [dat_lt (h b hb) (h a ha)]
  by_cases c : b < a
  · rw [decide_eq_true c, decide_eq_false (by omega)] <;> rfl
  · rw [decide_eq_false c, decide_eq_true (by omega)] <;> rfl
theorem each_lt {h : Heap} {vs : List Value} {bs : List Nat} (e : EachIs (RT h) vs bs) : ∀ b ∈ bs, b < 85 := fun b hb => by
  obtain ⟨v, r⟩ := each_right e b hb
  exact r.1
/-- sorted of a list or a tuple of trees; R: whatever else is known of the items -/
theorem sorted_trees {R : Value → Nat → Prop} {l : Addr} {vs : List Value} {bs : List Nat} {Q : Value → Shared → Prop} (hl : s.heap.IsList l vs.toArray ∨ IsTup s.heap l vs.toArray) (e : EachIs (RT s.heap) vs bs) (eR : EachIs R vs bs)
    (hL : vs.length ≤ sizeLine) (hu : A.units + 10 < cLine) (h : ∀ out : List Value, EachIs R out (srt bs) → Q (.ref (s.heap.objs.size + 1)) { s with heap := sortedAll s.heap vs out.toArray }) : wpAny (model prog w) A (call (.builtin "sorted") [.ref l]) Q E s := by
  have e' : EachIs (RT (sortingHeap (copyHeap s.heap vs) (s.heap.objs.size + 1) vs)) vs bs := e.mono fun v b ⟨hb, as, r⟩ => ⟨hb, as, PyProof.Rows.Reads.keeps (fun _ _ => sorting_copy_old) r⟩
  have S : SortsAt prog w A.in1.in1 { s with heap := sortingHeap (copyHeap s.heap vs) (s.heap.objs.size + 1) vs } (dataKind (sortingHeap (copyHeap s.heap vs) (s.heap.objs.size + 1) vs) (bs.map dat)) vs :=
    sorts_trees (s := { s with heap := sortingHeap (copyHeap s.heap vs) (s.heap.objs.size + 1) vs }) e' (by rw [Around.in1_units, Around.in1_units]; omega)
  have hal : AllAlike (bs.map dat) := fun d hd d' hd' => by
    obtain ⟨i, hi, rfl⟩ := List.mem_map.mp hd
    obtain ⟨j, hj, rfl⟩ := List.mem_map.mp hd'
    exact dat_alike (each_lt e i hi) (each_lt e j hj)
  have out := h (sortVals (dataKind (sortingHeap (copyHeap s.heap vs) (s.heap.objs.size + 1) vs) (bs.map dat)) false vs vs) (by
    rw [← data_srt (each_lt e)]
    exact sortVals_data false eR (e'.mono fun _ _ r => r.2) hal)
  rcases hl with hl | hl
  · exact sorted_vals hl S hL out
  · refine call_function_entry kind_sorted plain_sorted entry_sorted (args_sorted1 _) ?_
    unfold Builtin.«sorted»
    refine wpAny_bind (m := checkCount _ 1 1 _) (wpAny_pure (wpAny_bind (collect_tup hl hL (wpAny_bind (wpAny_newList ?_ hL)))))
    have next : ((s.heap.push (seqObj "list" #[] 0)).update s.heap.objs.size (Obj.mapSeq fun x => x ++ vs.toArray)).objs.size = s.heap.objs.size + 1 := by
      rw [Heap.size_update]
      exact size_push' _ _
    rw [next]
    refine wpAny_bind (wpAny_holding (wpAny_call_entry slot_list_sort (s := { s with heap := copyHeap s.heap vs }) ⟨_, copyHeap_at s.heap vs, rfl⟩ entry_list_sort ?_ (args_list_sort _)))
    exact list_sort_vals (s := { s with heap := copyHeap s.heap vs }) (copyHeap_at s.heap vs) S hL ⟨_, rfl, wpAny_pure ⟨_, rfl, out⟩⟩
end
end SG
/-! A tree in the abstract heap: tuples whose object is known (so that its dict is none). -/
namespace SG
open PySem L2 PySem.Spec PyProof.Rows
/-- the object of a tuple -/
def tupO (its : List Value) (n : Nat) : Obj := { cls := .type "tuple", data := .seq its.toArray n }
/-- at a stands a tuple of xs whose object is known -/
def FT (H : Hp) (a : Addr) (xs : List V) : Prop := ∃ its n, H a = some (.frz (tupO its n) (.tup xs))
section
variable {H H' : Hp} {a : Addr} {xs : List V} {K : PySem.W.Frag}
theorem FT.sq (h : FT H a xs) : SqT K H a xs := by
  obtain ⟨its, n, h⟩ := h
  exact .inl (.inr ⟨_, h⟩)
/-- what is known by its object stays known -/
def SameF (H H' : Hp) : Prop := ∀ b o u, H b = some (.frz o u) → H' b = some (.frz o u)
theorem samef {H H' : Hp} (e : Same H H') : SameF H H' := fun b o u h => e b _ h
theorem SameF.trans {H H1 H2 : Hp} (e : SameF H H1) (e' : SameF H1 H2) : SameF H H2 := fun b o u h => e' b o u (e b o u h)
theorem samef_upd {H : Hp} {D : Addr} {zs : List V} {o : HO} (h : H D = some (.lst zs)) : SameF H (upd H D o) := fun b ob u e => by
  rw [upd_ne (fun z => by rw [z, h] at e; cases e)]
  exact e
theorem FT.sameF (e : SameF H H') (h : FT H a xs) : FT H' a xs := by
  obtain ⟨its, n, h⟩ := h
  exact ⟨its, n, e _ _ _ h⟩
theorem FT.same (e : Same H H') (h : FT H a xs) : FT H' a xs := h.sameF (samef e)
theorem FT.new {its : List Value} {n : Nat} : FT (upd H a (.frz (tupO its n) (.tup xs))) a xs := ⟨its, n, upd_same⟩
theorem same_upd {p : Addr} {o : HO} (h : H p = none) : Same H (upd H p o) := fun b x e => by
  rw [upd_ne (ne_of_none e h)]
  exact e
end
/-- v is tree number i -/
inductive Tr (H : Hp) : Nat → V → Prop
  | mk {i : Nat} {a : Addr} {xs : List V} : i < 85 → FT H a xs → Paired (Tr H) (kids i) xs → Tr H i (.ref a)
section
variable {H H' : Hp}
theorem Tr.lt {i : Nat} {v : V} (h : Tr H i v) : i < 85 := by
  cases h with
  | mk hi _ _ => exact hi
theorem pairedM {α β : Type} {F G : α → β → Prop} : ∀ {l : List α} {m : List β}, Paired F l m → (∀ a ∈ l, ∀ b, F a b → G a b) → Paired G l m
  | _, _, .nil, _ => .nil
  | _, _, .cons r t, h => .cons (h _ List.mem_cons_self _ r) (pairedM t fun a ha => h a (List.mem_cons_of_mem _ ha))
theorem Tr.sameF (e : SameF H H') : ∀ (i : Nat) {v : V}, Tr H i v → Tr H' i v := fun i => by
  induction i using Nat.strongRecOn with
  | ind i ih =>
    intro v h
    cases h with
    | mk hi hf hp => exact .mk hi (hf.sameF e) (pairedM hp fun k hk b hb => ih k (kids_lt hi hk).2.1 hb)
theorem Tr.same (e : Same H H') {i : Nat} {v : V} (h : Tr H i v) : Tr H' i v := h.sameF (samef e)
/-- a row of trees -/
abbrev Trs (H : Hp) (ks : List Nat) (xs : List V) : Prop := Paired (Tr H) ks xs
theorem Trs.sameF (e : SameF H H') {ks : List Nat} {xs : List V} (h : Trs H ks xs) : Trs H' ks xs := Paired.mapP h fun i _ => Tr.sameF e i
theorem Trs.same (e : Same H H') {ks : List Nat} {xs : List V} (h : Trs H ks xs) : Trs H' ks xs := h.sameF (samef e)
theorem Trs.lt {ks : List Nat} {xs : List V} (h : Trs H ks xs) : ∀ k ∈ ks, k < 85 := by
  induction h with
  | nil => intro k hk; exact absurd hk (by simp)
  | cons r _ ih =>
    intro k hk
    rcases List.mem_cons.mp hk with e | hk
    · rw [e]; exact r.lt
    · exact ih k hk
theorem paired_get {α β : Type} {F : α → β → Prop} : ∀ {l : List α} {m : List β}, Paired F l m → ∀ {i : Nat} {b : β}, m[i]? = some b → ∃ a, l[i]? = some a ∧ F a b
  | _, _, .nil, i, b, h => by simp at h
  | _, _, .cons r t, 0, b, h => by
    rw [List.getElem?_cons_zero] at h
    cases h
    exact ⟨_, rfl, r⟩
  | _, _, .cons r t, i + 1, b, h => by
    rw [List.getElem?_cons_succ] at h
    rw [List.getElem?_cons_succ]
    exact paired_get t h
theorem paired_take {α β : Type} {F : α → β → Prop} : ∀ {l : List α} {m : List β} (n : Nat), Paired F l m → Paired F (l.take n) (m.take n)
  | _, _, 0, _ => .nil
  | _, _, _ + 1, .nil => .nil
  | _, _, n + 1, .cons r t => .cons r (paired_take n t)
theorem paired_drop {α β : Type} {F : α → β → Prop} : ∀ {l : List α} {m : List β} (n : Nat), Paired F l m → Paired F (l.drop n) (m.drop n)
  | _, _, 0, r => r
  | _, _, _ + 1, .nil => .nil
  | _, _, n + 1, .cons _ t => paired_drop n t
theorem paired_app {α β : Type} {F : α → β → Prop} : ∀ {l l' : List α} {m m' : List β}, Paired F l m → Paired F l' m' → Paired F (l ++ l') (m ++ m')
  | _, _, _, _, .nil, s => s
  | _, _, _, _, .cons r t, s => .cons r (paired_app t s)
theorem paired_rev {α β : Type} {F : α → β → Prop} {l : List α} {m : List β} (h : Paired F l m) : Paired F l.reverse m.reverse := by
  induction h with
  | nil => exact .nil
  | cons r t ih => rw [List.reverse_cons, List.reverse_cons]; exact paired_app ih (.cons r .nil)
/-- a tree as data -/
theorem Tr.dp {K : PySem.W.Frag} : ∀ (i : Nat) {v : V}, Tr H i v → Dp K H v (dat i) := fun i => by
  induction i using Nat.strongRecOn with
  | ind i ih =>
    intro v h
    cases h with
    | mk hi hf hp =>
      rename_i a xs
      rw [dat_eq hi]
      refine .tup hf.sq ?_
      have key : ∀ {ks : List Nat} {xs : List V}, (∀ k ∈ ks, k < i) → Paired (Tr H) ks xs → DpAll K H xs (ks.map dat) := by
        intro ks xs hk hp
        induction hp with
        | nil => exact .nil
        | cons r _ jh => exact .cons (ih _ (hk _ List.mem_cons_self) r) (jh fun k hk' => hk k (List.mem_cons_of_mem _ hk'))
      exact key (fun k hk => (kids_lt hi hk).2.1) hp
theorem Trs.dps {K : PySem.W.Frag} {ks : List Nat} {xs : List V} (h : Trs H ks xs) : DpAll K H xs (ks.map dat) := by
  induction h with
  | nil => exact .nil
  | cons r _ ih => exact .cons (Tr.dp _ r) ih
theorem Tr.ref {i : Nat} {v : V} (h : Tr H i v) : ∃ a xs, v = .ref a ∧ FT H a xs ∧ Trs H (kids i) xs := by
  cases h with
  | mk hi hf hp => exact ⟨_, _, rfl, hf, hp⟩
end
section
variable {H : Hp} {s : Shared} {X : Cx} {σ : L2.St} {pins : List (Addr × Obj)}
theorem Tr.rt (I : Inv X pins σ H s) {i : Nat} {v : V} {u : Value} (h : Tr H i v) (r : RelV v u) : RT s.heap u i := ⟨h.lt, Dp.reads I (dat i) v u (Tr.dp i h) r⟩
theorem Trs.rts (I : Inv X pins σ H s) : ∀ {ks : List Nat} {xs : List V} {us : List Value}, Trs H ks xs → Vals xs us → PySem.W.EachIs (fun u k => RT s.heap u k ∧ ∃ v, Tr H k v ∧ RelV v u) us ks
  | _, _, _, .nil, .nil => .nil
  | _, _, _, .cons h t, .cons r q => .cons ⟨h.rt I r, _, h, r⟩ (Trs.rts I t q)
theorem vals_of_each : ∀ {us : List Value} {ks : List Nat}, PySem.W.EachIs (fun u k => ∃ v, Tr H k v ∧ RelV v u) us ks → ∃ ys, Trs H ks ys ∧ Vals ys us
  | _, _, .nil => ⟨[], .nil, .nil⟩
  | _, _, .cons ⟨v, h, r⟩ t => by
    obtain ⟨ys, h1, h2⟩ := vals_of_each t
    exact ⟨v :: ys, .cons h h1, .cons r h2⟩
/-- the object of a known tuple -/
theorem FT.obj (I : Inv X pins σ H s) {a : Addr} {xs : List V} (h : FT H a xs) : ∃ its n, Vals xs its ∧ s.heap.get? a = some (tupO its n) ∧ xs.length ≤ sizeLine := by
  obtain ⟨its, n, h⟩ := h
  obtain ⟨e, z, its', r, ⟨o, ho, _, m, hd⟩⟩ := I.hok a _ h
  have e2 : tupO its n = o := Option.some.inj (e.symm.trans ho)
  subst e2
  have hd' : Data.seq its.toArray n = Data.seq its'.toArray m := hd
  injection hd' with h1 h2
  have e3 : its = its' := by simpa using congrArg Array.toList h1
  subst e3
  exact ⟨its, n, r, e, z⟩
/-! ### sorted -/
def rSortTr (K : PySem.W.Frag) : List V → Hp → VK → Prop := fun vs H Q => ∃ (a : Addr) (xs : List V) (ks : List Nat), vs = [.ref a] ∧ (SqL K H a xs ∨ SqT K H a xs) ∧ Trs H ks xs ∧
  ∀ (ys : List V) (p : Addr), Trs H (srt ks) ys → H p = none → Q (.ref p) (upd H p (.lst ys))
theorem cr_sortedTr (hu : X.A.units + 10 < cLine) : CallR X (.builtin "sorted") (rSortTr X.K) := by
  intro pins s σ H vs ws Q I r h
  obtain ⟨a, xs, ks, rfl, hs, ht, q⟩ := h
  rw [Vals.ref1 r]
  obtain ⟨its, rv, hl, hz⟩ : ∃ its : List Value, Vals xs its ∧ (s.heap.IsList a its.toArray ∨ IsTup s.heap a its.toArray) ∧ xs.length ≤ sizeLine := by
    rcases hs with hs | hs
    · obtain ⟨its, rv, p, z⟩ := I.list hs
      exact ⟨its, rv, .inl p.isList, z⟩
    · obtain ⟨its, rv, p, z⟩ := I.tuple hs
      exact ⟨its, rv, .inr p, z⟩
  have e := Trs.rts I ht rv
  refine sorted_trees (R := fun u k => ∃ v, Tr H k v ∧ RelV v u) hl (e.mono fun _ _ h => h.1) (e.mono fun _ _ h => h.2) (by rw [← rv.length]; exact hz) hu fun out ho => ?_
  obtain ⟨ys, h1, h2⟩ := vals_of_each ho
  obtain ⟨c, hc⟩ := PyProof.Rows.sortedAll_at s.heap its out.toArray
  have hlen : ys.length ≤ sizeLine := by
    rw [← h1.length, srt_len, ht.length]
    exact hz
  exact ⟨.ref _, upd H (s.heap.objs.size + 1) (.lst ys), I.laid (t' := s.toks) (fun _ _ => PyProof.Rows.sortedAll_old) (Nat.le_succ _) ⟨hlen, out, c, h2, hc⟩, rfl, q ys _ h1 (I.hok.fresh (Nat.le_succ _))⟩
end
end SG
/-! Rules that keep a tuple's object known: the display, t + u, t[:k]; t.count(u); enumerate(t). -/
namespace SG
open PySem L2 PySem.Spec PyProof.Rows
section
variable {H : Hp} {s : Shared} {X : Cx} {σ : L2.St} {pins : List (Addr × Obj)}
/-- a new tuple is laid, its object known -/
theorem laid_tup {xs : List V} {its : List Value} {h' : Heap} {n : Nat} (I : Inv X pins σ H s) (r : Vals xs its) (z : xs.length ≤ sizeLine) (k : ∀ b u, s.heap.get? b = some u → h'.get? b = some u) (e : h'.get? s.heap.objs.size = some (tupO its n)) :
    Inv X pins σ (upd H s.heap.objs.size (.frz (tupO its n) (.tup xs))) { s with heap := h' } :=
  I.laid (t' := s.toks) k (Nat.le_refl _) ⟨e, z, its, r, _, e, rfl, n, rfl⟩
end
section
variable {X : Cx}
/-- (e, ..), the object known -/
def tTupF (t : TA) : TE := fun σ H Q => t σ H fun xs H1 => xs.length ≤ sizeLine ∧ ∀ p its n, H1 p = none → Q (.ref p) (upd H1 p (.frz (tupO its n) (.tup xs)))
theorem pe_tupF {es : List Expr} {t : TA} {k : Nat} {pos : Pos} (h : PA X es t) : PE X (.Tuple es k pos) (tTupF t) := by
  constructor
  intro pins s σ H Q I hq
  refine wpAny_Tuple_spliced (thn (h.run pos pins s σ H _ I hq) fun us s1 ok => ?_)
  obtain ⟨xs, H1, I1, r, z, q⟩ := ok
  refine ⟨r.length ▸ z, ?_⟩
  exact ⟨.ref s1.heap.objs.size, _, laid_tup (n := 0) I1 r z (fun b u e => Heap.get?_push_of_some _ e) (Heap.get?_push_size _ rfl), rfl, q _ us 0 (I1.hok.fresh (Nat.le_refl _))⟩
/-- t + u, t not empty; u empty gives t itself -/
def rCatF (K : PySem.W.Frag) : R2 := fun x y H Q => ∃ a b xs ys, x = .ref a ∧ y = .ref b ∧ FT H a xs ∧ SqT K H b ys ∧ xs ≠ [] ∧ xs.length + ys.length ≤ sizeLine ∧
  (ys = [] → Q (.ref a) H) ∧ (ys ≠ [] → ∀ p its n, H p = none → Q (.ref p) (upd H p (.frz (tupO its n) (.tup (xs ++ ys)))))
theorem op_catF : OpR X (binaryOp .Add) (rCatF X.K) := by
  intro pins s σ H x y v u Q I r0 r0' h
  obtain ⟨a, b, xs, ys, rfl, rfl, hf, hb, full, hz, q1, q2⟩ := h
  cases r0
  cases r0'
  obtain ⟨its, r1, p1, _⟩ := I.tuple hf.sq
  obtain ⟨us, r2, p2, _⟩ := I.tuple hb
  have hz' : its.length + us.length ≤ sizeLine := by rw [← r1.length, ← r2.length]; exact hz
  refine HT.cat_tup p1 p2 (fun none => full (r1.nil_iff.mp none)) (fun none => ⟨.ref a, H, I, rfl, q1 (r2.nil_iff.mp none)⟩) (fun z => ?_) hz'
  exact ⟨.ref s.heap.objs.size, _, laid_tup (n := 0) I (r1.append r2) (by rw [List.length_append]; exact hz) (fun b ob q => Heap.get?_push_of_some _ q) (Heap.get?_push_size _ rfl), rfl,
    q2 (fun w => z (r2.nil_iff.mpr w)) _ _ 0 (I.hok.fresh (Nat.le_refl _))⟩
/-- t[:k], 0 ≤ k ≤ len(t): the whole of it is t itself -/
def rTakeF (K : PySem.W.Frag) : V → Option Int → Option Int → Hp → VK → Prop := fun x lo hi H Q => ∃ (a : Addr) (xs : List V) (k : Nat), x = .ref a ∧ FT H a xs ∧ lo = none ∧ hi = some (k : Int) ∧ k ≤ xs.length ∧
  ∀ p H', Same H H' → FT H' p (xs.take k) → Q (.ref p) H'
theorem sl_takeF : SlR X (rTakeF X.K) := by
  intro pins s σ H x v vl vu lo hi sl Q I r0 hs pl pu h
  obtain ⟨a, xs, k, rfl, hx, rfl, rfl, hk, q⟩ := h
  cases r0
  obtain ⟨its, r, ht, hz⟩ := I.tuple hx.sq
  have hlen : its.toArray.size = xs.length := List.size_toArray.trans r.length.symm
  have e0 : HT.sIx its.toArray.size 0 none = 0 := rfl
  have e1 : HT.sIx its.toArray.size its.toArray.size (some (k : Int)) = k := by rw [HT.sIx_nat, hlen]; omega
  refine ⟨"tuple", _, PyProof.Rows.slot_tuple_getitem.lookup, by exact ht.typeIs, ?_⟩
  by_cases hw : k = xs.length
  · refine getItem_tuple_whole ht hs pl pu ⟨e0, by rw [e1, hlen]; exact hw⟩ ⟨.ref a, H, I, rfl, q a H (Same.refl H) ?_⟩
    rw [hw, List.take_length]
    exact hx
  · refine HT.getItem_tuple_cut ht hs pl pu (fun z => hw (by have := z.2; rw [e1, hlen] at this; exact this)) ?_ (by rw [hlen]; exact hz)
    rw [e0, e1]
    refine ⟨.ref s.heap.objs.size, _, laid_tup (its := its.take k) (n := 0) I (r.take k) (by rw [List.length_take]; omega) (fun b ob q => Heap.get?_push_of_some _ q) ?_, rfl, q _ _ (same_upd (I.hok.fresh (Nat.le_refl _))) FT.new⟩
    exact (Heap.get?_push_size _ rfl)
/-! ### t.count(u) -/
theorem count_nums : ∀ {ks : List Nat} {j : Nat}, (∀ k ∈ ks, k < 85) → j < 85 → ((ks.map dat).countP fun y => PyData.eqv y (dat j)) = ks.count j
  | [], _, _, _ => rfl
  | k :: ks, j, h, hj => by
    have ih := count_nums (ks := ks) (j := j) (fun i hi => h i (List.mem_cons_of_mem _ hi)) hj
    rw [List.map_cons, List.countP_cons, ih, List.count_cons, dat_eqv (h k List.mem_cons_self) hj]
    by_cases c : k = j
    · simp [c]
    · simp [c]
/-- the row at a holds the trees ks, u is tree j: so often j -/
def rCount (K : PySem.W.Frag) (a : Addr) (Q : VK) : List V → Hp → Prop := fun vs H => ∃ y ys ks j, vs = [y] ∧ SqT K H a ys ∧ Trs H ks ys ∧ Tr H j y ∧ Q (.int (ks.count j : Nat)) H
def tCountF (K : PySem.W.Frag) (to te : TE) : TE := fun σ H Q => to σ H fun x H1 => ∃ a, x = .ref a ∧ (∃ xs, FT H1 a xs) ∧ te σ H1 fun y H2 => rCount K a Q [y] H2
theorem pe_countF {o e : Expr} {to te : TE} {apos cpos : Pos} (hu : X.A.units + 9 < cLine) (ho : PE X o to) (ha : PE X e te)
    (hbase : attributeBase o "count" X.env (eval o X.env) = eval o X.env := by rfl)
    (hfew : ((backTo cpos (starEach [e] X.env)).all (fun x => !x.1) && (backToKw cpos (keywordEach [] X.env)).all (fun x => x.1.isSome) && decide ([e].length + ([] : List Keyword).length + (if ([] : List Keyword).isEmpty then 0 else 1) < 30)) = true := by rfl)
    (hline : (apos.endLine == cpos.line) = true := by rfl) (hs : starEach [e] X.env = (false, eval e X.env) :: starEach [] X.env := by rfl) :
    PE X (.Call (.Attribute o "count" apos) [e] [] cpos) (tCountF X.K to te) := by
  constructor
  intro pins s σ H Q I h
  refine wpAny_Call_method_late hbase hfew hline rfl (thn (ho.run pins s σ H _ I h) fun v s1 ⟨x, H1, I1, r1, a, ex, ⟨xs, hf⟩, q1⟩ => ?_)
  subst ex
  have ev0 : v = Value.ref a := r1
  subst ev0
  obtain ⟨its, n, rv, hg, hz⟩ := hf.obj I1
  refine ⟨"tuple", "tuple.count", PySem.F.plainAttrs_tuple, PySem.F.slot_tuple_count, PySem.F.type_tuple_count, ⟨_, hg, rfl⟩, fun b eb => ?_, ?_⟩
  · cases eb
    exact ⟨_, hg, rfl⟩
  · have hA := (pa_cons ha pa_nil hs).run cpos pins s1 σ H1 (rCount X.K a Q) I1 q1
    rw [hs] at hA ⊢
    refine Calls.callWith_builtin rfl (Calls.evalArgs_plain ?_)
    refine thn hA fun us s2 ⟨vs, H2, I2, r2, y, ys, ks, j, ev, hS, hT, hj, q⟩ => ?_
    subst ev
    obtain ⟨uy, rfl, ry⟩ := Vals.one r2
    obtain ⟨its2, rv2, pt, hz2⟩ := I2.tuple hS
    obtain ⟨o2, ho2, hc2, m2, hd2⟩ := pt
    obtain ⟨as, ra⟩ := Dp.readsAll I2 (ks.map dat) ys its2 hT.dps rv2
    obtain ⟨_, bs, rb⟩ := hj.rt I2 ry
    have hks := hT.lt
    have hdp := dats_depth hks
    refine SeqAt.count_tuple_data (l := a) (vs := its2.toArray) (xs := ks.map dat) (d := dat j) ⟨o2, ho2, hc2, m2, hd2⟩ (by simpa using ra) rb ?_ ?_ (by omega) ?_
    · exact PyData.plainAll_of_canLay0 _ (dats_lay hks)
    · exact PyData.plain_of_canLay0 _ (dat_lay hj.lt)
    · rw [count_nums hks hj.lt]
      exact ⟨.int (ks.count j : Nat), H2, I2.tok _, ⟨_, rfl⟩, q⟩
end
end SG
/-! for i, x in enumerate(t), t a tuple. -/
namespace SG
open PySem L2 PySem.Spec PyProof.Rows
theorem meets_enum_tup (l : Addr) (items : Array Value) (n : Nat) (dct : Option Addr) (sl : Array (Option Value)) :
    Meets (Builtin.«enumerate.__new__» ⟨[.type "enumerate", .ref l], []⟩) (fun _ R s => s.heap.get? l = some { cls := .type "tuple", dict := dct, data := .seq items n, slots := sl } ∧
      R (.ok (.ret (.ref (s.heap.push { cls := .type "tuple_iterator", data := .fields #[.ref l, .int 0 0] }).objs.size)))
        { s with heap := (s.heap.push { cls := .type "tuple_iterator", data := .fields #[.ref l, .int 0 0] }).push { cls := .type "enumerate", data := .fields #[.none, .bool false, .ref s.heap.objs.size, rawInt 0, .none, .none] } }) :=
  .of_wp fun prog w A R s ⟨hl, h⟩ => by
    obtain ⟨hp, gl, dd, tk, os⟩ := s
    have hsub := sub_enumerate
    have hT : Heap.IsTuple (Shared.heap ⟨hp, gl, dd, tk, os⟩) l items := ⟨_, hl, rfl, n, rfl⟩
    wp_walk using AutoSeq1.wpAny_loadPart' hl
    refine wpAny_stack_any fun _ => wpAny_pure ?_
    split
    · rename_i c _ _ _ _ _
      cases (c == Value.type "enumerate") <;> (wp_walk using AutoSeq1.wpAny_loadPart' hl, wpAny_pyIter_tuple hT) <;> exact ⟨_, rfl, h⟩
    · wp_walk using AutoSeq1.wpAny_loadPart' hl, wpAny_pyIter_tuple hT
      exact ⟨_, rfl, h⟩
section
variable {w : World} {prog : Program} {E : Value → Shared → Prop} {A : Around} {s : Shared}
theorem call_enum_tup {t : Addr} {items : Array Value} {Q : Value → Shared → Prop} (hL : s.heap.IsTuple t items)
    (h : ∀ h', IsEnum h' (s.heap.objs.size + 1) s.heap.objs.size 0 .none → h'.IsTupleIter s.heap.objs.size t 0 →
      (∀ c u, s.heap.get? c = some u → h'.get? c = some u) → Q (.ref (s.heap.objs.size + 1)) { s with heap := h' }) : wpAny (model prog w) A (call (.type "enumerate") [.ref t]) Q E s := by
  obtain ⟨⟨cl, dct, dt, sl⟩, hat, e1, n, e2⟩ := hL
  simp only at e1 e2
  subst e1 e2
  let I0 : Obj := { cls := .type "tuple_iterator", data := .fields #[.ref t, .int 0 0] }
  let E0 : Obj := { cls := .type "enumerate", data := .fields #[.none, .bool false, .ref s.heap.objs.size, rawInt 0, .none, .none] }
  have hz : (s.heap.push I0).objs.size = s.heap.objs.size + 1 := Heap.size_push ..
  have he := Heap.get?_push_size (s.heap.push I0) (o := E0) rfl
  rw [hz] at he
  refine callType_new F.called_enumerate (by decide) (F.typeCall_enumerate_1 _) (F.newCall_enumerate_1 _) (fun x => F.args_object_init_2 x _) F.entry_enumerate_new (meets_enum_tup t items n dct sl) ⟨hat, ?_⟩
  show _ ∧ _
  rw [hz]
  exact ⟨⟨_, he, rfl⟩, h _ he ⟨_, Heap.get?_push_of_some _ (Heap.get?_push_size _ rfl), rfl, rfl⟩ fun c u x => Heap.get?_push_of_some _ (Heap.get?_push_of_some _ x)⟩
end
/-- the tuple at a, its items in new pairs with their places -/
def Itf (K : PySem.W.Frag) (a : Addr) : It where
  go := fun i H => ∃ (xs : List V) (x : V), SqT K H a xs ∧ xs[i]? = some x
  yld := fun i H v H' => ∃ T x, v = .ref T ∧ H T = none ∧ H' = upd H T (.tup [.int (i : Nat), x]) ∧ ∀ xs, SqT K H a xs → xs[i]? = some x
  stop := fun i H => ∃ xs : List V, SqT K H a xs ∧ xs.length ≤ i
theorem apart_of {h : Heap} {a b : Addr} {o o' : Obj} (h1 : h.get? a = some o) (h2 : h.get? b = some o') (hc : o.cls ≠ o'.cls) : a ≠ b := fun e => by
  subst e
  rw [h1] at h2
  cases h2
  exact hc rfl
theorem turn_enumT {P : Program} {w : World} {K : PySem.W.Frag} {elts : List Expr} {kk : Nat} {tpos : Pos} (a e it : Addr) :
    Turn P w K (.Tuple elts kk tpos) (Itf K a) [e, it] e (fun i h => (∃ old, IsEnum h e it ((i : Nat) : Int) old) ∧ h.IsTupleIter it a i ∧ e ≠ it) where
  mem := List.mem_cons_self
  obj := fun i h st b hb => by
    obtain ⟨⟨old, he⟩, ⟨o, ho, _, hd⟩, _⟩ := st
    rcases List.mem_cons.mp hb with top | z
    · exact ⟨_, by rw [top]; exact he, fun v q => by cases q⟩
    · have z := List.mem_singleton.mp z
      rw [z]
      exact ⟨o, ho, fun v q => by rw [hd] at q; cases q⟩
  keep := fun i h h' st k => let ⟨⟨old, he⟩, hi, hne⟩ := st; ⟨⟨old, k e List.mem_cons_self _ he⟩, hi.at fun o q => k it (by simp) o q, hne⟩
  item := by
    intro X hP hw hK hc i pins s σ H E I hf ⟨⟨old, he⟩, hit, hne⟩ ⟨xs, x, hq, hx⟩
    subst hP hw hK
    obtain ⟨its, rv, hT, hz⟩ := I.tuple hq
    obtain ⟨u, atu, ru⟩ := rv.get hx
    have hT' : s.heap.IsTuple a its.toArray := hT
    obtain ⟨oa, hoa, hca, _⟩ := hT
    have hit0 := hit
    obtain ⟨oi, hoi, hci, _⟩ := hit0
    have hai : a ≠ it := apart_of hoa hoi (by rw [hca, hci]; exact fun z => absurd (Value.type.inj z) (by decide))
    have hae : a ≠ e := apart_of hoa he (by rw [hca]; exact fun z => absurd (Value.type.inj z) (by decide))
    have hlt : i < its.toArray.size := by
      have := (List.getElem?_eq_some_iff.mp atu).1
      simpa using this
    have eOld : e < s.heap.objs.size := Heap.lt_size he
    have itOld : it < s.heap.objs.size := Heap.lt_size hoi
    have D := Draws.tuple (prog := X.prog) (w := X.w) (A := X.A.in1) (I.ok.hd hc) it a hai its.toArray
    refine wpAny_pyNext_enum_itemD D he ⟨hit, hT'⟩ hlt hne (by simp only [List.mem_cons, List.not_mem_nil, or_false, not_or]; exact ⟨hne, Ne.symm hae⟩) fun x' h' tk hP ho hst hTu hsz hk => ?_
    have ex : x' = u := by
      have q : its.toArray[i]? = some x' := hP
      rw [List.getElem?_toArray, atu] at q
      exact Eq.symm (Option.some.inj q)
    subst ex
    refine ⟨_, rfl, wpAny_letOwnedTupleGo_enum (s := { s with heap := h', toks := tk + 1 }) ho fun hf2 he' ofOld => ?_⟩
    have hT2 : hf2.get? s.heap.objs.size = some { cls := .type "tuple", data := .seq #[.int i tk, x'] } := (ofOld.2 _ (Nat.ne_of_gt eOld)).trans hTu
    have pair : ObjOk X.prog X.w (upd H s.heap.objs.size (.tup [V.int (i : Nat), x])) hf2 s.heap.objs.size (.tup [V.int (i : Nat), x]) :=
      ⟨by show 2 ≤ sizeLine; decide, [.int i tk, x'], .cons ⟨_, rfl⟩ (.cons ru .nil), ⟨_, hT2, rfl, _, rfl⟩⟩
    have I1 : Inv X pins σ (upd H s.heap.objs.size (.tup [.int (i : Nat), x])) { s with heap := hf2, toks := tk + 1 } := by
      refine I.turnedNew (ch := [e, it]) (fun b ob hb q => ?_) hf (Nat.le_refl _) pair
      simp only [List.mem_cons, List.not_mem_nil, or_false, not_or] at hb
      exact (ofOld.2 b hb.1).trans (hk b ob hb.1 hb.2 q)
    refine ⟨.ref s.heap.objs.size, _, I1, rfl, ⟨_, x, rfl, I.hok.fresh (Nat.le_refl _), rfl, fun ys hy => by rw [I.tuple_inj hy hq]; exact hx⟩, ⟨⟨x', ?_⟩, hst.1.at fun o q => (ofOld.2 it (Ne.symm hne)).trans q, hne⟩, fun b hb => ?_⟩
    · rw [show ((i + 1 : Nat) : Int) = (i : Int) + 1 by omega]
      exact he'
    · have bOld : b < s.heap.objs.size := by
        simp only [List.not_mem_nil, or_false, List.mem_cons] at hb
        rcases hb with z | z <;> rw [z] <;> assumption
      rw [upd_ne (Nat.ne_of_lt (bOld))]
      exact (hf b hb).1
  done := by
    intro X hP hw hK hc i pins s σ H E I hf ⟨⟨old, he⟩, hit, hne⟩ ⟨xs, hq, hx⟩
    subst hP hw hK
    obtain ⟨its, rv, hT, hz⟩ := I.tuple hq
    have hT' : s.heap.IsTuple a its.toArray := hT
    have hl := rv.length
    obtain ⟨z0, z1, z2, z3, z4, z5⟩ := hf it (by simp)
    have hTT : s.TypeIs (.ref e) "enumerate" := ⟨_, he, rfl⟩
    unfold pyNext
    refine wpAny_bind (wpAny_attempt (wpAny_callSpecial?_slot (name := Str.ofString "__next__") hTT F.slot_enumerate_next (wpAny_call_entry F.slot_enumerate_next hTT F.entry_enumerate_next ?_ (F.args_enumerate_next_1 _))))
    show wpAny _ _ (field (.ref e) 2 >>= fun _ => _) _ _ _
    refine wpAny_bind (wpAny_field he rfl (x := .ref it) rfl (wpAny_bind ?_))
    refine (wpAny_nextOf_tuple_end (I.ok.hd hc) hit hT' (by simp; omega) fun h' x he' ⟨o, ho, hco⟩ => ?_)
    refine wpAny_bind (wpAny_isInstance (T := "StopIteration") (b := true) ⟨o, ho, hco⟩ isSubtype_stop ?_)
    exact wpAny_pure ⟨rfl, I.turned (t' := s.toks) (fun b o hb q => he' b o hb q) z0 z1 z3 z4 z5⟩
  self := fun A i s Q E st h => wpAny_pyIter_enum st.1.choose_spec h
def iEnumT (K : PySem.W.Frag) (ta : TA) : TI := fun σ H R => ta σ H fun vs H1 => ∃ a xs, vs = [.ref a] ∧ SqT K H1 a xs ∧ R (Itf K a) H1
theorem pi_enumT {X : Cx} {e : Expr} {ta : TA} {p pos tpos : Pos} {elts : List Expr} {kk : Nat} (hg : Gl X "enumerate") (hm : X.mg "enumerate" = none) (ha : PA X [e] ta) (hs : starEach [e] X.env = [(false, eval e X.env)] := by rfl) :
    PI X (.Tuple elts kk tpos) (.Call (.Name "enumerate" p) [e] [] pos) (iEnumT X.K ta) := by
  constructor
  intro pins s σ H R I h
  refine Call_ (ld_blt I hg hm boot_enumerate (PyProof.Rows.callWith_type1 (thn (ha.run pos pins s σ H _ I h) fun us s1 ⟨vs, H1, I1, r1, a, xs, ex, hq, q⟩ => ?_) hs rfl))
  subst ex
  rw [Vals.ref1 r1]
  obtain ⟨its, rv, hT, hz⟩ := I1.tuple hq
  refine call_enum_tup (items := its.toArray) hT fun h' he hit hk => wpAny_pyIter_enum he ?_
  have Inow : Inv X pins σ H1 { s1 with heap := h' } := I1.kept (t' := s1.toks) hk
  refine ⟨s1.heap.objs.size + 1, [s1.heap.objs.size + 1, s1.heap.objs.size], _, _, H1, rfl, Inow, turn_enumT a (s1.heap.objs.size + 1) s1.heap.objs.size, ⟨⟨.none, he⟩, hit, Nat.succ_ne_self _⟩, fun b hb => ?_, q⟩
  have bNew : s1.heap.objs.size ≤ b := by
    simp only [List.not_mem_nil, or_false, List.mem_cons] at hb
    rcases hb with z | z <;> rw [z]
    · exact Nat.le_add_right _ _
    · exact Nat.le_refl _
  exact I1.fpOk bNew (I1.hok.fresh bNew)
end SG
/-! The hash of a tree, and what a set asks of it. -/
namespace SG
open PySem L2 PySem.Spec PyProof.Rows
def keyF : Nat → Nat → NestedKey
  | 0, _ => .none
  | n + 1, i => .tup ((kids i).map (keyF n))
def key (i : Nat) : NestedKey := keyF 8 i
theorem keyF_stable : ∀ (n m i : Nat), i < 85 → depth i < n → depth i < m → keyF n i = keyF m i
  | 0, _, _, _, h, _ => absurd h (Nat.not_lt_zero _)
  | _ + 1, 0, _, _, _, h => absurd h (Nat.not_lt_zero _)
  | n + 1, m + 1, i, hi, h1, h2 => by
    show NestedKey.tup ((kids i).map (keyF n)) = NestedKey.tup ((kids i).map (keyF m))
    refine congrArg NestedKey.tup (List.map_congr_left fun k hk => ?_)
    obtain ⟨a, _, c⟩ := kids_lt hi hk
    exact keyF_stable n m k a (by omega) (by omega)
theorem key_eq {i : Nat} (hi : i < 85) : key i = .tup ((kids i).map key) := by
  show NestedKey.tup ((kids i).map (keyF 7)) = NestedKey.tup ((kids i).map key)
  refine congrArg NestedKey.tup (List.map_congr_left fun k hk => ?_)
  obtain ⟨a, _, c⟩ := kids_lt hi hk
  have d := depth_le hi
  exact keyF_stable 7 8 k a (by omega) (by omega)
theorem key_depth {i : Nat} (hi : i < 85) : (key i).depth ≤ 7 := of_decide_eq_true (each (p := fun i => decide ((key i).depth ≤ 7)) (by decide +kernel) hi)
theorem hash_step {i : Nat} (hi : i < 85) : reduceHash (Builtin.Tuple.tupleHashOf ((kids i).map hashOf)) = hashOf i := of_decide_eq_true (each (p := fun i => decide (reduceHash (Builtin.Tuple.tupleHashOf ((kids i).map hashOf)) = hashOf i)) (by decide +kernel) hi)
theorem hash_inj {i j : Nat} (hi : i < 85) (hj : j < 85) (h : hashOf i = hashOf j) : i = j := by
  have q := each2 (p := fun i j => decide (hashOf i = hashOf j → i = j)) (by decide +kernel) hi hj
  exact of_decide_eq_true q h
theorem hashes_map (w : World) : ∀ ks : List NestedKey, NestedKey.hashes w ks = ks.map (NestedKey.hash w)
  | [] => by rw [NestedKey.hashes] <;> rfl
  | k :: ks => by rw [NestedKey.hashes, hashes_map w ks, List.map_cons]
/-- the model's hash of tree number i, in every world -/
theorem key_hash (w : World) : ∀ i : Nat, i < 85 → (key i).hash w = hashOf i := fun i => by
  induction i using Nat.strongRecOn with
  | ind i ih =>
    intro hi
    rw [key_eq hi, NestedKey.hash, hashes_map, List.map_map, ← hash_step hi]
    refine congrArg (fun l => reduceHash (Builtin.Tuple.tupleHashOf l)) (List.map_congr_left fun k hk => ?_)
    obtain ⟨a, b, _⟩ := kids_lt hi hk
    exact ih k b a
theorem nested_of : ∀ (i : Nat) {h : Heap} {v : Value}, RT h v i → NestedIs h (key i) v := fun i => by
  induction i using Nat.strongRecOn with
  | ind i ih =>
    intro h v r
    obtain ⟨a, o, xs, n, as, rfl, hob, hc, hd, hr⟩ := r.tup
    have hi := r.1
    rw [key_eq hi]
    refine .tup hob hc hd ?_
    have key' : ∀ {ks : List Nat} {us : List Value} {as : List Addr}, (∀ k ∈ ks, k < 85 ∧ k < i) → ReadsAll h us (ks.map dat) as → NestedAll h (ks.map key) us := by
      intro ks
      induction ks with
      | nil =>
        intro us as _ hr
        cases hr
        exact .nil
      | cons k ks jh =>
        intro us as hk hr
        cases hr with
        | cons r1 r2 =>
          obtain ⟨k1, k2⟩ := hk k List.mem_cons_self
          exact .cons (ih k k2 ⟨k1, _, r1⟩) (jh (fun j hj => hk j (List.mem_cons_of_mem _ hj)) r2)
    exact key' (fun k hk => ⟨(kids_lt hi hk).1, (kids_lt hi hk).2.1⟩) hr
section
variable {w : World} {prog : Program} {E : Value → Shared → Prop} {A : Around} {s : Shared}
theorem hash_tree {v : Value} {i : Nat} {Q : Int → Shared → Prop} (r : RT s.heap v i) (hu : A.units + 8 < cLine) (h : ∀ tk, Q (hashOf i) { s with toks := tk }) : wpAny (model prog w) A (pyHash v) Q E s := by
  have hd := key_depth r.1
  refine pyHash_key (key i) v A s Q (nested_of i r) (by omega) ?_
  rw [key_hash w i r.1]
  exact h _
/-- the hash is by value, n levels down -/
theorem byVal_tree : ∀ (n i : Nat) {v : Value} {Q : Bool → Shared → Prop}, depth i ≤ n → RT s.heap v i → Q true s → wpAny (model prog w) A (hashByValue n v) Q E s
  | 0, i, v, Q, hn, r, _ => by
    have := of_decide_eq_true (each (p := fun i => decide (1 ≤ depth i)) (by decide +kernel) r.1)
    omega
  | n + 1, i, v, Q, hn, r, h => by
    obtain ⟨a, o, xs, m, as, rfl, hob, hc, hd, hr⟩ := r.tup
    have hi := r.1
    unfold hashByValue
    refine wpAny_bind (wpAny_specialOf (T := "tuple") ⟨o, hob, hc⟩ F.slot_tuple_hash.lookup ?_)
    refine wpAny_bind (wpAny_seqItems hob hd (wpAny_bind ?_))
    rw [Option.getD_some, ← Array.forIn_toList]
    have rest : ∀ {ks : List Nat} {us : List Value} {as : List Addr}, (∀ k ∈ ks, k < 85 ∧ depth k ≤ n) → ReadsAll s.heap us (ks.map dat) as → ∀ v ∈ us, ∃ k, depth k ≤ n ∧ RT s.heap v k := by
      intro ks
      induction ks with
      | nil =>
        intro us as _ hr v hmv
        cases hr
        cases hmv
      | cons k ks ih =>
        intro us as hk hr v hmv
        cases hr with
        | cons r1 r2 =>
          obtain ⟨k1, k2⟩ := hk k List.mem_cons_self
          rcases List.mem_cons.mp hmv with e | hmv
          · exact ⟨k, k2, by rw [e]; exact ⟨k1, _, r1⟩⟩
          · exact ih (fun j hj => hk j (List.mem_cons_of_mem _ hj)) r2 v hmv
    refine wpAny_forIn_list _ (fun us r s' => r.1 = none ∧ s' = s ∧ ∀ v ∈ us, ∃ k, depth k ≤ n ∧ RT s.heap v k) _ ?_ ?_ _ _ ⟨rfl, rfl, rest (fun k hk => ⟨(kids_lt hi hk).1, by have := (kids_lt hi hk).2.2; omega⟩) hr⟩
    · rintro v us r s' ⟨hr1, es, hall⟩
      rw [es]
      obtain ⟨k, k1, k2⟩ := hall v List.mem_cons_self
      refine wpAny_bind (byVal_tree n k k1 k2 ?_)
      simp only [if_false, Bool.false_eq_true, Bool.not_true]
      exact wpAny_pure ⟨rfl, rfl, fun u hu => hall u (List.mem_cons_of_mem _ hu)⟩
    · rintro ⟨r1, r2⟩ s' ⟨hr1, es, _⟩
      rw [es]
      simp only at hr1
      subst hr1
      exact wpAny_pure h
end
end SG
/-! A set of unlike trees: their hashes are unlike, so each search ends at an empty slot. -/
namespace SG
open PySem L2 PySem.Spec PyProof.Rows
/-- the set at a holds the trees done (told by their hashes), its table is well laid -/
structure SR (h : Heap) (a : Addr) (done : List Nat) (es : Array (Int × Value)) (ep : Nat) (t : SetTable) : Prop where
  ob : ∃ o : Obj, h.get? a = some o ∧ o.ExactSet ∧ o.data = .set es ep t
  tab : TabOk t (es.toList.map (·.1))
  perm : (es.toList.map (·.1)).Perm (done.map hashOf)
  plain : t.plain = true
  room : done.length * 5 < t.mask * 3
  few : done.length < 64
  lt : ∀ k ∈ done, k < 85
section
variable {h : Heap} {a : Addr} {done : List Nat} {es : Array (Int × Value)} {ep : Nat} {t : SetTable}
theorem SR.size (R : SR h a done es ep t) : es.size = done.length := by
  have e := R.perm.length_eq
  rw [List.length_map, List.length_map, Array.length_toList] at e
  exact e
theorem SR.fits (R : SR h a done es ep t) : t.fits es.size = true := by
  have hn1 := R.tab.sz
  rw [List.length_map, Array.length_toList] at hn1
  have hn2 := R.size
  have h3 := R.room
  unfold SetTable.fits; unfold SetTable.fill
  rw [R.tab.dm, hn1]
  rw [Bool.and_eq_true]
  exact ⟨beq_self_eq_true _, decide_eq_true (show es.size + 0 ≤ t.mask by omega)⟩
theorem SR.keep {h' : Heap} (R : SR h a done es ep t) (k : ∀ o, h.get? a = some o → h'.get? a = some o) : SR h' a done es ep t := by
  obtain ⟨o, hob, r⟩ := R.ob
  exact ⟨⟨o, k o hob, r⟩, R.tab, R.perm, R.plain, R.room, R.few, R.lt⟩
theorem dummy_none (m : Nat) : ∀ (n : Nat) (p : SetTable.Probe), p.dummy = none → (nth m p n).dummy = none
  | 0, _, h => h
  | n + 1, p, h => dummy_none m n (adv m p) (by unfold adv; split <;> exact h)
end
section
variable {w : World} {prog : Program} {E : Value → Shared → Prop} {A : Around} {s : Shared} {a : Addr} {done : List Nat} {es : Array (Int × Value)} {ep : Nat} {t : SetTable}
/-- looking for a tree that is not in -/
theorem search_free (R : SR s.heap a done es ep t) {k : Nat} (hk : k < 85) (hn : k ∉ done) (x : Value) {Q : SetFound → Shared → Prop}
    (h : ∀ K, way t.mask (hashOf k) K ∉ t.place.toList → (∀ c, c < K → way t.mask (hashOf k) c ∈ t.place.toList) → Q (.free (way t.mask (hashOf k) K) false) s) : wpAny (model prog w) A (setSearch a x (hashOf k) true) Q E s := by
  obtain ⟨o, hob, hxs, hda⟩ := R.ob
  have hcn := R.size
  have hrm := R.room
  obtain ⟨K, hKf, hK, hKb⟩ := R.tab.first (by rw [List.length_map, Array.length_toList]; omega) (hashOf k)
  unfold setSearch
  rw [show (100000 : Nat) = 99999 + 1 by rfl, setSearchFrom_succ]
  refine wpAny_bind (wpAny_setState_of hob hda R.fits ?_)
  dsimp only
  refine wp_if_neg (by unfold SetTable.gaveWay; rw [mask_odd R.tab.mok]; decide) ?_
  try (refine wpAny_bind (wpAny_pure ?_))
  have spec := go_spec t R.tab.ris R.tab.dm (fun i => (es[i]?.map (·.1)).getD 0) (hashOf k) (10 * SetTable.turns t.mask) K (runAt t.mask (SetTable.bits (hashOf k) % (t.mask + 1)) (SetTable.bits (hashOf k))) rfl hKf hKb hK
  have hp : t.probe (fun i => (es[i]?.map (·.1)).getD 0) (hashOf k) ((none : Option SetTable.Probe).getD (t.probeStart (hashOf k))) = some (.empty (way t.mask (hashOf k) K) none) := by
    rcases spec with ⟨q, i, hq, hi, hh, _, _⟩ | ⟨_, hp⟩
    · exfalso
      -- a stored tree of that hash
      have hil : i < es.size := by
        have hn1 := (List.getElem?_eq_some_iff.mp hi).1
        have hn2 := R.tab.sz
        rw [List.length_map, Array.length_toList] at hn2
        rw [Array.length_toList] at hn1
        omega
      rw [Array.getElem?_eq_getElem hil] at hh
      have hm : hashOf k ∈ es.toList.map (·.1) := by
        rw [← hh]
        exact List.mem_map.mpr ⟨es[i], Array.getElem_mem_toList hil, rfl⟩
      obtain ⟨j, hj, ej⟩ := List.mem_map.mp (R.perm.mem_iff.mp hm)
      exact hn (hash_inj (R.lt j hj) hk ej ▸ hj)
    · exact hp
  rw [hp]
  exact wpAny_pure (h K hK hKb)
/-- the table laid anew -/
theorem relay_tree {wanted M : Nat} (hob : ∃ o, s.heap.get? a = some o ∧ o.ExactSet ∧ o.data = .set es ep t) (hft : t.fits es.size = true) (perm : (es.toList.map (·.1)).Perm (done.map hashOf)) (pl : t.plain = true) (few : done.length < 64) (lt : ∀ k ∈ done, k < 85)
    (hw : SetTable.sizeAbove wanted - 1 = M) (hM : MaskOk M) (hw2 : SetTable.sizeAbove wanted ≤ 128) (hrm : done.length * 5 < M * 3) {Q : Unit → Shared → Prop}
    (h : ∀ h' es' ep' t', Heap.SameBut a s.heap h' → SR h' a done es' ep' t' → Q () { s with heap := h' }) : wpAny (model prog w) A (setRelay a wanted) Q E s := by
  obtain ⟨o, hob, hxs, hda⟩ := hob
  have hcn : es.size = done.length := by
    have e := perm.length_eq
    rw [List.length_map, List.length_map, Array.length_toList] at e
    exact e
  obtain ⟨t', order, e, hp, T, em, _, epl, _⟩ := relaid_ok t (hs := es.map (·.1)) (wanted := wanted) hw hM (by rw [Array.size_map]; omega)
  rw [Array.size_map] at hp
  have hin : ∀ i ∈ order.toList, i < es.size := fun i hi => List.mem_range.mp (hp.mem_iff.mp hi)
  have hrows : ∀ l : List Nat, (∀ i ∈ l, i < es.size) → (l.filterMap (fun i => es[i]?)).map (·.1) = l.map fun i => (es.map (·.1)).getD i 0 := by
    intro l
    induction l with
    | nil => intro _; rfl
    | cons i l ih =>
      intro hll
      have hi := hll i List.mem_cons_self
      rw [List.filterMap_cons_some (Array.getElem?_eq_getElem hi), List.map_cons, List.map_cons, ih fun j hj => hll j (List.mem_cons_of_mem _ hj)]
      congr 1
      simp [Array.getD_eq_getD_getElem?, hi]
  have hcs : ((order.filterMap (es[·]?)).toList).map (·.1) = order.toList.map fun i => (es.map (·.1)).getD i 0 := by
    rw [Array.toList_filterMap]
    exact hrows order.toList hin
  have hpm : (order.toList.map fun i => (es.map (·.1)).getD i 0).Perm (es.toList.map (·.1)) := by
    refine (hp.map _).trans ?_
    have : (List.range es.size).map (fun i => (es.map (·.1)).getD i 0) = es.toList.map (·.1) := by
      refine List.ext_getElem (by simp) fun i hn1 hn2 => ?_
      have hi : i < es.size := by simpa using hn1
      simp [Array.getD_eq_getD_getElem?, hi]
    rw [this]
  have hcm : (order.filterMap (es[·]?)).size = es.size := by
    have q := congrArg List.length hcs
    rw [List.length_map, List.length_map, Array.length_toList, hp.length_eq, List.length_range] at q
    exact q
  rw [setRelay_eq]
  refine wpAny_bind (wpAny_setState_of hob hda hft ?_)
  dsimp only
  refine wp_if_neg (by simp only [sizeLine_eq]; omega) ?_
  try (refine wpAny_bind (wpAny_pure ?_))
  rw [e]
  dsimp only
  refine wpAny_bind ?_
  refine wp_if_neg (by rw [hcm]; simp) ?_
  try (refine wpAny_bind (wpAny_pure ?_))
  refine wpAny_pure ?_
  dsimp only
  refine wpAny_storeSet_of hob hda ?_ (by rw [hcm, hcn, sizeLine_eq]; omega)
  refine h _ (order.filterMap (es[·]?)) (ep + 1) t' (Heap.SameBut.update ..) ⟨⟨_, store_at hob hda, ⟨hxs.1, hxs.2.1, hxs.2.2⟩, rfl⟩, ?_, ?_, by rw [epl]; exact pl, by rw [em]; exact hrm, few, lt⟩
  · rw [hcs]
    exact T
  · rw [hcs]
    exact hpm.trans perm
/-- a tree that is not in is put in -/
theorem add_tree (R : SR s.heap a done es ep t) {k : Nat} {x : Value} (r : RT s.heap x k) (hn : k ∉ done) (hfew : done.length + 1 < 64) {Q : Bool → Shared → Prop}
    (h : ∀ h' es' ep' t', Heap.SameBut a s.heap h' → SR h' a (k :: done) es' ep' t' → Q true { s with heap := h' }) : wpAny (model prog w) A (setAddHashed a x (hashOf k)) Q E s := by
  obtain ⟨o, hob, hxs, hda⟩ := R.ob
  have hcn := R.size
  have hrm := R.room
  have hlen : (es.toList.map (·.1)).length = done.length := by rw [List.length_map, Array.length_toList, hcn]
  obtain ⟨b, ob, xs, m, as, ex, _⟩ := r.tup
  unfold setAddHashed
  refine wpAny_holding ?_
  rw [show (100000 : Nat) = 99999 + 1 by rfl, setAddHashedIn_succ]
  refine wpAny_bind (wpAny_setState_of hob hda R.fits ?_)
  dsimp only
  refine wp_if_neg (by rw [ex]; simp [byScan, Value.scannable]) ?_
  try (refine wpAny_bind (wpAny_pure ?_))
  refine wpAny_bind (search_free R r.1 hn x fun K hK hKb => ?_)
  dsimp only
  refine wpAny_bind (wpAny_setState_of hob hda R.fits ?_)
  dsimp only
  obtain ⟨q1, q2, q3, q4, q5, q6, q7, q8, q9⟩ := R.tab.put hK hKb
  have hpl : (t.put (way t.mask (hashOf k) K)).1.plain = true := q6.trans R.plain
  generalize t.put (way t.mask (hashOf k) K) = pt at q1 q3 q4 q5 q6 q7 q8 q9 hpl ⊢
  obtain ⟨tn, p⟩ := pt
  dsimp only at q1 q3 q4 q5 q6 q7 q8 q9 hpl ⊢
  subst q1
  generalize hpp : SetTable.below t.place (way t.mask (hashOf k) K) = p at q2 q3 ⊢
  rw [hlen] at q2 q9
  have hin : (SetTable.insertAt es p (hashOf k, x)).toList.map (·.1) = (es.toList.map (·.1)).take p ++ hashOf k :: (es.toList.map (·.1)).drop p := by
    rw [SetTable.toList_insertAt, List.map_append, List.map_cons, List.map_take, List.map_drop]
  rw [← hin] at q3
  have hperm : ((SetTable.insertAt es p (hashOf k, x)).toList.map (·.1)).Perm ((k :: done).map hashOf) := by
    rw [hin, List.map_cons]
    refine List.perm_middle.trans ?_
    rw [List.take_append_drop]
    exact R.perm.cons _
  have hlt : ∀ j ∈ k :: done, j < 85 := fun j hj => by
    rcases List.mem_cons.mp hj with e | hj
    · rw [e]; exact r.1
    · exact R.lt j hj
  have hcs : (SetTable.insertAt es p (hashOf k, x)).size = done.length + 1 := by
    have e := hperm.length_eq
    rw [List.length_map, List.length_map, Array.length_toList, List.length_cons] at e
    exact e
  generalize SetTable.insertAt es p (hashOf k, x) = esn at q3 hperm hcs ⊢
  have byv : ∀ {Q' : Bool → Shared → Prop}, Q' true s → wpAny (model prog w) A (hashByValue 8 x) Q' E s := fun hq => byVal_tree 8 k (by have := depth_le r.1; omega) r hq
  first
    | (refine wpAny_bind ?_; refine wp_if_pos hpl ?_; refine byv ?_)
    | refine wp_if_pos hpl (wpAny_bind (byv ?_))
  simp only [if_true]
  refine wpAny_bind (wpAny_storeSet_of hob hda ?_ (by rw [hcs, sizeLine_eq]; omega))
  have sbt : Heap.SameBut a s.heap (s.heap.update a (Obj.putSet esn tn)) := Heap.SameBut.update ..
  have hob1 := store_at (es' := esn) (t' := tn) hob hda
  generalize s.heap.update a (Obj.putSet esn tn) = hn1 at sbt hob1 ⊢
  have ob1 : ∃ o, hn1.get? a = some o ∧ o.ExactSet ∧ o.data = .set esn (ep + 1) tn := ⟨_, hob1, ⟨hxs.1, hxs.2.1, hxs.2.2⟩, rfl⟩
  by_cases hft : tn.tooFull = true
  · have hfl : (done.length + 1) * 5 ≥ tn.mask * 3 := by
      have q := hft
      unfold SetTable.tooFull at q
      rw [decide_eq_true_eq, q9] at q
      exact q
    have ways : (t.mask = 7 ∧ done.length = 4) ∨ (t.mask = 31 ∧ done.length = 18) := by
      rcases R.tab.mok with m7 | m7 | m7
      · left
        rw [q4, m7] at hfl
        rw [m7] at hrm
        exact ⟨m7, by omega⟩
      · right
        rw [q4, m7] at hfl
        rw [m7] at hrm
        exact ⟨m7, by omega⟩
      · rw [q4, m7] at hfl
        omega
    have hf1 : tn.fits esn.size = true := by
      have z := q3.sz
      rw [List.length_map, Array.length_toList] at z
      unfold SetTable.fits; unfold SetTable.fill
      rw [q3.dm, z, Bool.and_eq_true]
      refine ⟨beq_self_eq_true _, decide_eq_true (show esn.size + 0 ≤ tn.mask from ?_)⟩
      rw [hcs, q4]
      rcases ways with ⟨e1, e2⟩ | ⟨e1, e2⟩ <;> rw [e1, e2] <;> decide
    have go : ∀ M, SetTable.sizeAbove (SetTable.grown (done.length + 1)) - 1 = M → MaskOk M → SetTable.sizeAbove (SetTable.grown (done.length + 1)) ≤ 128 → (done.length + 1) * 5 < M * 3 →
        wpAny (model prog w) A (setRelay a (SetTable.grown (done.length + 1))) (fun _ s' => wpAny (model prog w) A (pure true) Q E s') E { s with heap := hn1 } := fun M m1 m2 m3 m4 => by
      refine relay_tree (s := { s with heap := hn1 }) (done := k :: done) ob1 hf1 hperm hpl (by rw [List.length_cons]; exact hfew) hlt m1 m2 m3 (by rw [List.length_cons]; exact m4) fun hn2 es2 ep2 t2 sb2 R2 => ?_
      exact wpAny_pure (h hn2 es2 ep2 t2 (sbt.trans sb2) R2)
    rw [hcn]
    first
      | (refine wpAny_bind ?_; refine wp_if_pos (by simp [hft]) ?_)
      | (refine wp_if_pos (by simp [hft]) ?_; refine wpAny_bind ?_)
    rcases ways with ⟨_, e2⟩ | ⟨_, e2⟩
    · exact go 31 (by rw [e2, size_20]) (.inr (.inl rfl)) (by rw [e2, size_20]; decide) (by omega)
    · exact go 127 (by rw [e2, size_76]) (.inr (.inr rfl)) (by rw [e2, size_76]; decide) (by omega)
  · have hroom1 : (done.length + 1) * 5 < tn.mask * 3 := by
      have q := hft
      unfold SetTable.tooFull at q
      rw [decide_eq_true_eq, q9] at q
      omega
    first
      | refine wp_if_neg (by simp [hft]) ?_
      | (refine wpAny_bind ?_; refine wp_if_neg (by simp [hft]) ?_; refine wpAny_pure ?_)
    exact wpAny_pure (h hn1 esn (ep + 1) tn sbt ⟨ob1, q3, hperm, hpl, by rw [List.length_cons]; exact hroom1, by rw [List.length_cons]; exact hfew, hlt⟩)
end
end SG
/-! set(xs), xs a list of unlike trees, and its len. -/
namespace SG
open PySem PySem.Spec PySem.Calls PyProof.Rows L2
/-- a new, empty set -/
def setO (led : Bool) : Obj := { cls := .type "set", dict := none, data := .set #[] 0 (.fresh 0 0 led) }
theorem sr_fresh {h : Heap} {a : Addr} {led : Bool} (hob : h.get? a = some (setO led)) : SR h a [] #[] 0 (.fresh 0 0 led) where
  ob := ⟨_, hob, ⟨rfl, rfl, rfl⟩, rfl⟩
  tab := ⟨List.Pairwise.nil, rfl, rfl, .inl rfl, fun x hx => absurd hx (by show x ∉ ([] : List Nat); simp), fun i h j hi => by simp at hi⟩
  perm := List.Perm.refl _
  plain := rfl
  room := by show 0 * 5 < 7 * 3; decide
  few := by show 0 < 64; decide
  lt := fun k hk => absurd hk (by simp)
section
variable {w : World} {prog : Program} {E : Value → Shared → Prop} {A : Around} {s : Shared}
set_option maxHeartbeats 8400000 in
/-- set(x) is a new set, updated from x -/
theorem set_call {x : Value} {Q : Value → Shared → Prop}
    (body : ∀ (led : Bool) (R : Unit → Shared → Prop), (∀ s', Q (.ref s.heap.objs.size) s' → R () s') → wpAny (model prog w) A.in1.in1 (Builtin.Frozenset.updateFrom "set.__init__" s.heap.objs.size x) R E { s with heap := s.heap.push (setO led) }) :
    wpAny (model prog w) A (call (.type "set") [x]) Q E s := by
  have hmro := F.mro_set
  have made0 := F.called_set.made
  have hsub := F.called_set.sub
  have hnt := F.called_set.notType
  have hcc := F.called_set.canCreate
  have hct := F.typeCall_set_1 x
  refine wpAny_call (codeAny_of_tree (wpAny_pure ⟨Code.quiet_builtin _ (by decide +kernel), codeAny_builtin F.entry_type_call ?_⟩))
  rw [Around.under_plain (weight_type_call_type "set" [x] []) rfl]
  repeat (any_goals first | assumption | wp_step)
  refine codeAny_mono (code_set_new_1 x (E := E) (Q₁ := fun obj s₁ => ∃ led, obj = .ref s.heap.objs.size ∧ s₁ = { s with heap := s.heap.push (setO led) }) fun led => ⟨led, rfl, rfl⟩) fun r s₁ hr => ?_
  match r, hr with
  | .error _, hr => exact hr
  | .ok (.ret _), ⟨led, e1, e2⟩ =>
    subst e1 e2
    have hT : Shared.TypeIs { s with heap := s.heap.push (setO led) } (.ref s.heap.objs.size) "set" := ⟨_, Heap.get?_push_size _ rfl, rfl⟩
    have hS : (s.heap.push (setO led)).get? s.heap.objs.size = some (setO led) := Heap.get?_push_size _ rfl
    have init0 := F.called_set.init.lookup
    have bind0 := F.called_set.init.bind (.ref s.heap.objs.size)
    repeat (any_goals first | assumption | wp_step)
    refine codeAny_mono (codeAny_call_builtin (R := wants (fun r s₂ => r = .none ∧ Q (.ref s.heap.objs.size) s₂) E) F.called_set.init.plain F.entry_set_init (check_set_init_1 hT ?_)) fun r₂ s₂ hr₂ => ?_
    · unfold Builtin.«set.__init__»; unfold noKeywords
      generalize hU : Builtin.Frozenset.updateFrom = U
      wp_walk
      subst hU
      exact body led _ fun s' q => wpAny_pure ⟨rfl, q⟩
    · match r₂, hr₂ with
      | .error _, hr₂ => exact hr₂
      | .ok (.ret _), ⟨e3, hq⟩ =>
        subst e3
        repeat (any_goals first | assumption | wp_step)
end
end SG
namespace SG
open PySem PySem.Spec PySem.Calls PyProof.Rows L2
section
variable {w : World} {prog : Program} {E : Value → Shared → Prop} {A : Around} {s : Shared}
theorem RT.keep {h h' : Heap} {v : Value} {k : Nat} (r : RT h v k) (hk : ∀ b o, h.get? b = some o → h'.get? b = some o) : RT h' v k := by
  obtain ⟨hi, as, r⟩ := r
  exact ⟨hi, as, PyProof.Rows.Reads.keeps hk r⟩
/-- the loop over a list of unlike trees -/
theorem loop_trees {R : Result → Shared → Prop} (hh : A.in1.handled = none) (hu : A.units + 12 < cLine) {aS I l : Addr} {items : Array Value} {ks : List Nat} (hn : items.size = ks.length) (h64 : ks.length < 64) (nd : ks.Nodup) {h0 : Heap}
    (hr : ∀ (i : Nat) (v : Value), items[i]? = some v → ∃ k, ks[i]? = some k ∧ RT h0 v k) (hl : h0.IsList l items) (hS0 : h0.get? aS = none) (hI0 : h0.get? I = none) (hSI : aS ≠ I) :
    ∀ (j i : Nat) (s : Shared), items.size - i = j → i ≤ items.size → s.heap.IsListIter I l i → (∀ b o, h0.get? b = some o → s.heap.get? b = some o) → (∃ es ep t, SR s.heap aS (ks.take i).reverse es ep t) →
      (∀ h' tk es ep t, SR h' aS ks.reverse es ep t → (∀ b o, h0.get? b = some o → h'.get? b = some o) → R (.ok (.ret .none)) { s with heap := h', toks := tk }) →
      codeAny (model prog w) A (.builtin "set.update.loop" ⟨[.ref aS, .ref I], []⟩) R s := by
  have hlI : l ≠ I := fun e => by
    obtain ⟨o, ho, _⟩ := hl
    rw [e, hI0] at ho
    cases ho
  have hlS : l ≠ aS := fun e => by
    obtain ⟨o, ho, _⟩ := hl
    rw [e, hS0] at ho
    cases ho
  have W := Walks.list (prog := prog) (w := w) (A := A.in1) hh I l hlI items
  have lst : ∀ {h : Heap}, (∀ b o, h0.get? b = some o → h.get? b = some o) → h.IsList l items := fun k => by
    obtain ⟨o, ho, q⟩ := hl
    exact ⟨o, k l o ho, q⟩
  intro j
  induction j with
  | zero =>
    intro i s hj hi hit hk hS hR
    have e : i = items.size := by omega
    obtain ⟨es, ep, t, hS⟩ := hS
    refine codeAny_builtin (F.entry_set_update_loop) ?_
    rw [Around.under_plainId (F.plain_set_update_loop) _]
    refine wpAny_bind (W.done s _ _ (by rw [← e]; exact ⟨hit, lst hk⟩) fun h' tk k1 => ?_)
    rw [e, hn, List.take_length] at hS
    refine wpAny_pure (hR h' tk es ep t (hS.keep fun o ho => k1 aS o (by simpa using hSI) ho) fun b o hb => k1 b o ?_ (hk b o hb))
    rw [List.mem_singleton]
    exact fun z => by rw [z, hI0] at hb; cases hb
  | succ j ih =>
    intro i s hj hi hit hk hS hR
    have iOld : i < items.size := by omega
    obtain ⟨es, ep, t, hS⟩ := hS
    refine codeAny_builtin (F.entry_set_update_loop) ?_
    rw [Around.under_plainId (F.plain_set_update_loop) _]
    refine wpAny_bind (W.item i s _ _ iOld ⟨hit, lst hk⟩ fun v h' tk hv st' k1 => ?_)
    obtain ⟨k, hki, rk⟩ := hr i v hv
    have keep1 : ∀ b o, h0.get? b = some o → h'.get? b = some o := fun b o hb => by
      refine k1 b o ?_ (hk b o hb)
      rw [List.mem_singleton]
      exact fun z => by rw [z, hI0] at hb; cases hb
    have hS1 : SR h' aS (ks.take i).reverse es ep t := hS.keep fun o ho => k1 aS o (by simpa using hSI) ho
    have rk1 : RT h' v k := rk.keep keep1
    have hil : i < ks.length := by omega
    have hnew : k ∉ (ks.take i).reverse := fun hm => by
      obtain ⟨m, hm1, hm2⟩ := List.getElem_of_mem (List.mem_reverse.mp hm)
      rw [List.length_take] at hm1
      have hkk : ks[i] = k := by
        rw [List.getElem?_eq_getElem hil] at hki
        exact Option.some.inj hki
      rw [List.getElem_take] at hm2
      exact (List.pairwise_iff_getElem.mp nd m i (by omega) hil (by omega)) (hm2.trans hkk.symm)
    have hdone : (ks.take (i + 1)).reverse = k :: (ks.take i).reverse := by
      rw [List.take_add_one, hki, List.reverse_append]
      rfl
    refine wpAny_bind (wpAny_holding (?_))
    unfold setAdd
    refine wpAny_holding (wpAny_bind ?_)
    refine (hash_tree (s := { s with heap := h', toks := tk }) rk1 (by rw [Around.in1_units]; omega) fun tk2 => ?_)
    refine add_tree (s := { s with heap := h', toks := tk2 }) hS1 rk1 hnew (by rw [List.length_reverse, List.length_take]; omega) fun h2 es2 ep2 t2 sb R2 => ?_
    have keep2 : ∀ b o, h0.get? b = some o → h2.get? b = some o := fun b o hb => (sb.2 b fun z => by rw [z, hS0] at hb; cases hb).trans (keep1 b o hb)
    refine wpAny_pure ⟨plainId_quiet F.plain_set_update_loop _, ih (i + 1) { s with heap := h2, toks := tk2 } (by omega) iOld (st'.1.at fun o ho => (sb.2 I (Ne.symm hSI)).trans ho) keep2 ⟨es2, ep2, t2, by rw [hdone]; exact R2⟩ fun h3 tk3 es3 ep3 t3 R3 k3 => hR h3 tk3 es3 ep3 t3 R3 k3⟩
theorem set_trees {l : Addr} {items : Array Value} {ks : List Nat} {Q : Value → Shared → Prop} (hh : A.handled = none) (hu : A.units + 16 < cLine) (hn : items.size = ks.length) (h64 : ks.length < 64) (nd : ks.Nodup)
    (hr : ∀ (i : Nat) (v : Value), items[i]? = some v → ∃ k, ks[i]? = some k ∧ RT s.heap v k) (hl : s.heap.IsList l items)
    (h : ∀ h' tk es ep t, SR h' s.heap.objs.size ks.reverse es ep t → (∀ b o, s.heap.get? b = some o → h'.get? b = some o) → Q (.ref s.heap.objs.size) { s with heap := h', toks := tk }) : wpAny (model prog w) A (call (.type "set") [.ref l]) Q E s := by
  refine set_call fun led R hR => ?_
  obtain ⟨⟨ocls, odict, odata, oslots⟩, ho, hc, n, hd⟩ := id hl
  simp only at hc hd
  subst hc hd
  have keep1 : ∀ b u, s.heap.get? b = some u → (s.heap.push (setO led)).get? b = some u := fun b u e => Heap.get?_push_of_some _ e
  have hol := keep1 l _ ho
  have hl1 : (s.heap.push (setO led)).IsList l items := ⟨_, hol, rfl, n, rfl⟩
  have hz1 : (s.heap.push (setO led)).objs.size = s.heap.objs.size + 1 := Heap.size_push ..
  have none_at : ∀ b, s.heap.objs.size ≤ b → s.heap.get? b = none := fun b hb => Heap.get?_none_of_le hb
  have s1 := F.sub_list_set
  have s2 := F.sub_list_frozenset
  have notDict : (Value.type "list" == Value.type "dict") = false := by decide
  unfold Builtin.Frozenset.updateFrom
  generalize hP : pyIter = PI
  wp_walk
  subst hP
  refine wpAny_pyIter_list hl1 (wpAny_bind (wpAny_runValue ?_))
  rw [hz1]
  refine loop_trees (A := A.in1.in1) (by rw [Around.in1_handled, Around.in1_handled, Around.in1_handled]; exact hh) (by rw [Around.in1_units, Around.in1_units]; omega) hn h64 nd (h0 := s.heap) hr hl (none_at _ (Nat.le_refl _)) (none_at _ (Nat.le_succ _)) (Nat.ne_of_lt (Nat.lt_succ_self _))
    items.size 0 _ (by omega) (Nat.zero_le _) ?_ (fun b u e => Heap.get?_push_of_some _ (keep1 b u e)) ⟨#[], 0, .fresh 0 0 led, ?_⟩ fun h' tk es ep t hS hk => ?_
  · have q := Heap.get?_push_size (s.heap.push (setO led)) (o := { cls := .type "list_iterator", data := .fields #[.ref l, .int 0 0] }) rfl
    rw [hz1] at q
    exact ⟨_, q, rfl, rfl⟩
  · rw [List.take_zero]
    exact sr_fresh (Heap.get?_push_of_some _ (Heap.get?_push_size _ rfl))
  · exact wpAny_pure (hR _ (h h' tk es ep t hS hk))
end
section
variable {X : Cx}
/-- len(set(xs)), xs a list of unlike trees -/
def tLenSetTr (K : PySem.W.Frag) (ta : TE) : TE := fun σ H Q => ta σ H fun x H1 => ∃ (l : Addr) (xs : List V) (ks : List Nat), x = V.ref l ∧ SqL K H1 l xs ∧ Trs H1 ks xs ∧ ks.length < 64 ∧ ks.Nodup ∧ Q (.int ks.length) H1
theorem pe_lenSetTr {a : Expr} {ta : TE} {p p2 q pos : Pos} (hc : X.calm = true) (hu : X.A.units + 16 < cLine) (hg : Gl X "len") (hm : X.mg "len" = none) (hg2 : Gl X "set") (hm2 : X.mg "set" = none) (ha : PE X a ta)
    (na : starEach [a] X.env = (false, eval a X.env) :: starEach [] X.env := by rfl) : PE X (.Call (.Name "len" p) [.Call (.Name "set" p2) [a] [] q] [] pos) (tLenSetTr X.K ta) := by
  constructor
  intro pins s σ H Q I h
  refine Call_ (ld_blt I hg hm PySem.boot_len (PyProof.Rows.callWith_builtin1 (PyProof.Rows.args_cons (Call_ (ld_blt I hg2 hm2 PyProof.Rows.boot_set ?_)) rfl) rfl rfl))
  refine PyProof.Rows.callWith_type1 (PyProof.Rows.args_cons (thn (ha.run pins s σ H _ I h) fun v s1 ok => PyProof.Rows.args_nil ?_) na) na rfl
  obtain ⟨x, H1, I1, r1, q1⟩ := ok
  obtain ⟨l, xs, ks, rfl, hq, ht, h64, hnd, q1⟩ := q1
  obtain rfl : v = Value.ref l := r1
  obtain ⟨its, rv, pl, hz⟩ := I1.list hq
  have hsz : its.toArray.size = ks.length := by rw [List.size_toArray, ← rv.length, ← ht.length]
  refine set_trees (I1.ok.hd hc) hu hsz h64 hnd (fun i u hi => ?_) pl.isList fun h' tk es ep t hS hk => PyProof.Rows.args_nil ?_
  · have hi' : its[i]? = some u := by simpa using hi
    have iOld := (List.getElem?_eq_some_iff.mp hi').1
    have hx : xs[i]? = some (xs[i]'(by rw [rv.length]; exact iOld)) := List.getElem?_eq_getElem _
    obtain ⟨u', hu1, ru⟩ := rv.get hx
    rw [hi'] at hu1
    cases hu1
    obtain ⟨k, hk1, hk2⟩ := paired_get ht hx
    exact ⟨k, hk1, hk2.rt I1 ru⟩
  · obtain ⟨o, ho, hex, hd⟩ := hS.ob
    have e := hS.size
    rw [List.length_reverse] at e
    have I2 : Inv X pins σ H1 { s1 with heap := h', toks := tk } := I1.kept fun b o e => hk b o e
    exact call_len_set ho hex hd hS.fits (by omega) ⟨.int ks.length, H1, I2.tok _, ⟨_, by rw [e]⟩, q1⟩
end
end SG
namespace SG
open PySem L2 PySem.Spec PyProof.Rows
/-! ### the text by places -/
def topS (i : Nat) : Stmt := PySem.Challenge.pw_stepgrove_k09_whole_trees_counted.main.body.getD i (.Pass ⟨0, 0, 0, 0⟩)
abbrev sWhole : Stmt := topS 5
abbrev sFalling : Stmt := topS 8
abbrev sIsTree : Stmt := topS 9
abbrev sLook : Stmt := topS 10
abbrev sKnotsIn : Stmt := topS 11
abbrev sDensIn : Stmt := topS 12
abbrev sTurnsIn : Stmt := topS 13
abbrev sKnots : Stmt := topS 14
abbrev sDens : Stmt := topS 15
abbrev sTurns : Stmt := topS 16
abbrev sWays : Stmt := topS 17
abbrev sBoughs : Stmt := topS 18
abbrev sOf : Stmt := topS 19
abbrev sTo : Stmt := topS 20
abbrev sCell : Stmt := topS 22
abbrev sMixed : Stmt := topS 23
abbrev sRest : Stmt := topS 24
abbrev sLaw : Stmt := topS 25
theorem scWhole : FnScope ["thing"] ["thing"] (defScope sWhole) := ⟨rfl, rfl, rfl, by decide +kernel, rfl, by decide +kernel, by decide +kernel⟩
theorem scFalling : FnScope ["things"] ["things"] (defScope sFalling) := ⟨rfl, rfl, rfl, by decide +kernel, rfl, by decide +kernel, by decide +kernel⟩
theorem scIsTree : FnScope ["thing", "bough"] ["thing"] (defScope sIsTree) := ⟨rfl, rfl, rfl, by decide +kernel, rfl, by decide +kernel, by decide +kernel⟩
theorem scLook : FnScope ["tree"] ["tree"] (defScope sLook) := ⟨rfl, rfl, rfl, by decide +kernel, rfl, by decide +kernel, by decide +kernel⟩
theorem tru85 : (85 : Nat) ≤ sizeLine := by decide
theorem hu10 {A : Around} {k : Nat} (hr : Room k A) : A.units + 10 < cLine := Nat.lt_of_le_of_lt (Nat.add_le_add_left (by decide : 10 ≤ 64) _) hr.units
theorem hu9 {A : Around} {k : Nat} (hr : Room k A) : A.units + 9 < cLine := Nat.lt_of_le_of_lt (Nat.add_le_add_left (by decide : 9 ≤ 64) _) hr.units
theorem hu16 {A : Around} {k : Nat} (hr : Room k A) : A.units + 16 < cLine := Nat.lt_of_le_of_lt (Nat.add_le_add_left (by decide : 16 ≤ 64) _) hr.units
section
variable {w : World} {P : Program} {base : Heap} {K : PySem.W.Frag} {mg : Str → Option Value}
/-! ### is_whole(thing), of an int -/
def spWhole : Sp := fun vs H Q _ => ∃ i : Int, vs = [.int i] ∧ Q (.bl true) H
theorem ok_whole {f : Addr} {fd : FuncData} (F : Fun K "is_whole" "is_whole" sWhole f fd) (mi : mg "isinstance" = none) (mt : mg "int" = none) (mb : mg "bool" = none) : FnOk P w K mg base CX0 1 f fd ["thing"] spWhole := by
  refine F.ok scWhole (fun vs H Q E h => ?_) (fun cdv A outer s H vs Q E hr h => ?_)
  · obtain ⟨i, rfl, _⟩ := h
    rfl
  obtain ⟨i, rfl, q⟩ := h
  refine ⟨_, pss_one (ps_ret (pe_and (pe_callB call_isi (by rfl) mi (by decide +kernel) (pa_cons (pv 0) (pa_cons (pe_bltn (v := .ty "int") (by rfl) mt (by decide +kernel) rfl) pa_nil)))
    (pe_one (pe_not (pe_callB call_isi (by rfl) mi (by decide +kernel) (pa_cons (pv 0) (pa_cons (pe_bltn (v := .ty "bool") (by rfl) mb (by decide +kernel) rfl) pa_nil))))))), ?_⟩
  refine ⟨_, rfl, .int i, .ty "int", .type "int", .type "int", true, rfl, .ty "int", .base (.int i), kit_ty (by decide +kernel), true, rfl, iteT ?_⟩
  exact ⟨_, rfl, .int i, .ty "bool", .type "int", .type "bool", false, rfl, .ty "bool", .base (.int i), kit_ty (by decide +kernel), false, rfl, q⟩
/-! ### falling(things), of trees -/
def spFalling (K : PySem.W.Frag) : Sp := fun vs H Q _ => ∃ (a : Addr) (xs : List V) (ks : List Nat), vs = [.ref a] ∧ (SqL K H a xs ∨ SqT K H a xs) ∧ Trs H ks xs ∧
  ∀ (p : Addr) (ys : List V) (H' : Hp), Same H H' → Trs H' (srt ks).reverse ys → H' p = some (.tup ys) → Q (.ref p) H'
theorem ok_falling {f : Addr} {fd : FuncData} (F : Fun K "falling" "falling" sFalling f fd) (ms : mg "sorted" = none) (mt : mg "tuple" = none) : FnOk P w K mg base CX0 1 f fd ["things"] (spFalling K) := by
  refine F.ok scFalling (fun vs H Q E h => ?_) (fun cdv A outer s H vs Q E hr h => ?_)
  · obtain ⟨a, xs, ks, rfl, _⟩ := h
    rfl
  obtain ⟨a, xs, ks, rfl, hs, ht, q⟩ := h
  refine ⟨_, pss_one (ps_ret (pe_callTy call_tuple_of (by rfl) mt (by decide +kernel) (pa_cons (pe_revL (pe_callB (cr_sortedTr (hu10 hr)) (by rfl) ms (by decide +kernel) (pa_cons (pv 0) pa_nil))) pa_nil))), ?_⟩
  refine ⟨_, rfl, a, xs, ks, rfl, hs, ht, fun ys p hy hp => ?_⟩
  refine ⟨p, ys, rfl, .of upd_same, fun p2 hp2 => ?_⟩
  refine ⟨p2, ys.reverse, rfl, .inl ⟨.of upd_same, fun p3 hp3 => ?_⟩⟩
  have s1 : Same H (upd H p (.lst ys)) := same_upd hp
  have s2 := s1.trans (same_upd (o := .lst ys.reverse) hp2)
  have s3 := s2.trans (same_upd (o := .tup ys.reverse) hp3)
  exact q p3 ys.reverse _ s3 (Trs.same s3 (paired_rev hy)) upd_same
/-! ### is_tree(thing), of a tree -/
theorem FT.isi {H : Hp} {a : Addr} {xs : List V} (h : FT H a xs) : TyX K H (.ref a) (.type "tuple") := by
  obtain ⟨its, n, h⟩ := h
  exact .fTuple h
def spIsTree (n : Nat) : Sp := fun vs H Q _ => ∃ (i : Nat) (v : V), vs = [v] ∧ Tr H i v ∧ depth i ≤ n ∧ ∀ H', Same H H' → Q (.bl true) H'
theorem depth_pos {i : Nat} (hi : i < 85) : 1 ≤ depth i := of_decide_eq_true (each (p := fun i => decide (1 ≤ depth i)) (by decide +kernel) hi)
theorem vacuous {sp : Sp} {f : Addr} {fd : FuncData} {ps : List Str} {k : Nat} (no : ∀ vs H Q E, ¬ sp vs H Q E) : FnOk P w K mg base CX0 k f fd ps sp :=
  ⟨fun vs H Q E h => absurd h (no vs H Q E), fun A outer s H args us vs Q E _ _ _ _ h => absurd h (no vs H Q E)⟩
theorem ok_isTree_step {n : Nat} {f ff : Addr} {fd ffd : FuncData} (F : Fun K "is_tree" "is_tree" sIsTree f fd) (b : Binds K fd ["thing"] []) (m : mg "is_tree" = some (.ref f)) (G : FnOk P w K mg base CX0 (n + 1) f fd ["thing"] (spIsTree n))
    (FF : FnOk P w K mg base CX0 1 ff ffd ["things"] (spFalling K)) (bF : Binds K ffd ["things"] []) (kF : PySem.W.keepIn K (.ref ff) = true) (mF : mg "falling" = some (.ref ff)) (mi : mg "isinstance" = none) (mt : mg "tuple" = none) :
    FnOk P w K mg base CX0 (n + 2) f fd ["thing"] (spIsTree (n + 1)) := by
  refine F.ok scIsTree (fun vs H Q E h => ?_) (fun cdv A outer s H vs Q E hr h => ?_)
  · obtain ⟨i, v, rfl, _⟩ := h
    rfl
  obtain ⟨i, v, rfl, hv, hd, q⟩ := h
  refine ⟨_, pss_cons (ps_if (pt_not (pt_val (pe_callB call_isi (by rfl) mi (by decide +kernel) (pa_cons (pv 0) (pa_cons (pe_bltn (v := .ty "tuple") (by rfl) mt (by decide +kernel) rfl) pa_nil))))) (pss_one (ps_ret pe_bl)) pss_nil)
    (pss_cons (ps_for PassesOwn.never rfl (pi_tup (pv 0)) (pg_name (i := 1) scIsTree.nd rfl (.inl rfl)) (pss_one (ps_if (pt_not (pt_val (pe_call G hr rfl m F.kp b .nil pass0 (pa_cons (pv 1) pa_nil)))) (pss_one (ps_ret pe_bl)) pss_nil)))
    (pss_one (ps_ret (pe_cmpR (op_eqD hr.units) (pv 0) (pe_call FF (hr.mono (by omega)) rfl mF kF bF .nil pass0 (pa_cons (pv 0) pa_nil)) (nomark _))))), ?_⟩
  obtain ⟨a, xs, rfl, hf, ht⟩ := hv.ref
  have hi := hv.lt
  refine ⟨_, rfl, .ref a, .ty "tuple", .type "tuple", .type "tuple", true, rfl, .ty "tuple", hf.isi, kit_ty (by decide +kernel), true, rfl, iteF ?_⟩
  refine ⟨_, rfl, a, rfl, ⟨xs, hf.sq⟩, for_tup (xs := xs) (fun j σ H' => Same H H' ∧ ∃ y, σ = [some (.ref a), y]) ⟨Same.refl H, none, rfl⟩ (fun j σ H' _ h => (hf.same h.1).sq) (fun j x σ H' hx h => ?_) (fun σ H' h => ?_)⟩
  · obtain ⟨hs, y, rfl⟩ := h
    obtain ⟨k, hk, hk2⟩ := paired_get ht hx
    have hkm : k ∈ kids i := List.mem_of_getElem? hk
    have := (kids_lt hi hkm).2.2
    refine ⟨_, rfl, k, x, rfl, hk2.same hs, by omega, fun H2 h2 => ⟨true, rfl, iteF ⟨hs.trans h2, _, rfl⟩⟩⟩
  · obtain ⟨hs, y, rfl⟩ := h
    refine ⟨_, rfl, _, rfl, a, xs, kids i, rfl, .inr (hf.same hs).sq, ht.same hs, fun p ys H2 h2 hy hp => ?_⟩
    rw [kids_srt hi] at hy
    have s2 := hs.trans h2
    refine ⟨dat i, dat i, Tr.dp i (hv.same s2), ?_, dat_shaped hi, dat_shaped hi, ?_⟩
    · rw [dat_eq hi]
      exact .tup (.of hp) hy.dps
    · rw [dat_eqv hi hi, decide_eq_true rfl]
      exact q H2 s2
theorem ok_isTree {f ff : Addr} {fd ffd : FuncData} (F : Fun K "is_tree" "is_tree" sIsTree f fd) (b : Binds K fd ["thing"] []) (m : mg "is_tree" = some (.ref f))
    (FF : FnOk P w K mg base CX0 1 ff ffd ["things"] (spFalling K)) (bF : Binds K ffd ["things"] []) (kF : PySem.W.keepIn K (.ref ff) = true) (mF : mg "falling" = some (.ref ff)) (mi : mg "isinstance" = none) (mt : mg "tuple" = none) :
    ∀ n : Nat, FnOk P w K mg base CX0 (n + 1) f fd ["thing"] (spIsTree n)
  | 0 => vacuous fun vs H Q E ⟨i, v, _, hv, hd, _⟩ => by have := depth_pos hv.lt; omega
  | n + 1 => ok_isTree_step F b m (ok_isTree F b m FF bF kF mF mi mt n) FF bF kF mF mi mt
/-! ### look_tree(tree) -/
def spLook : Sp := fun vs H Q _ => ∃ (i : Nat) (v : V), vs = [v] ∧ Tr H i v ∧ ∀ H', Same H H' → Q .non H'
theorem ok_look {f g : Addr} {fd gd : FuncData} (F : Fun K "look_tree" "look_tree" sLook f fd) (G : FnOk P w K mg base CX0 8 g gd ["thing"] (spIsTree 7)) (bG : Binds K gd ["thing"] []) (kG : PySem.W.keepIn K (.ref g) = true) (mG : mg "is_tree" = some (.ref g)) :
    FnOk P w K mg base CX0 9 f fd ["tree"] spLook := by
  refine F.ok scLook (fun vs H Q E h => ?_) (fun cdv A outer s H vs Q E hr h => ?_)
  · obtain ⟨i, v, rfl, _⟩ := h
    rfl
  obtain ⟨i, v, rfl, hv, q⟩ := h
  refine ⟨_, pss_one (ps_if (pt_not (pt_val (pe_call G hr rfl mG kG bG .nil pass0 (pa_cons (pv 0) pa_nil)))) pss_never pss_nil), ?_⟩
  exact ⟨_, rfl, i, v, rfl, hv, depth_le hv.lt, fun H' hs => ⟨true, rfl, iteF (q H' hs)⟩⟩
end
end SG
namespace SG
open PySem L2 PySem.Spec PyProof.Rows
theorem scKnotsIn : FnScope ["tree", "bough"] ["tree"] (defScope sKnotsIn) := ⟨rfl, rfl, rfl, by decide +kernel, rfl, by decide +kernel, by decide +kernel⟩
theorem sum_cast : ∀ ks : List Nat, (ks.map fun k => (knots k : Int)).sum = ((ks.map knots).sum : Nat)
  | [] => rfl
  | k :: ks => by
    rw [List.map_cons, List.map_cons, List.sum_cons, List.sum_cons, sum_cast ks]
    omega
/-- all that stood stands, with p's object changed, p new -/
theorem same_over {H H' : Hp} {p : Addr} {o : HO} (h : Same H H') (hp : H p = none) : Same H (upd H' p o) := fun b u e => by
  rw [upd_ne (ne_of_none e hp)]
  exact h b u e
section
variable {w : World} {P : Program} {base : Heap} {K : PySem.W.Frag} {mg : Str → Option Value}
/-! ### knots_in(tree) -/
def spKnots (n : Nat) : Sp := fun vs H Q _ => ∃ (i : Nat) (v : V), vs = [v] ∧ Tr H i v ∧ depth i ≤ n ∧ ∀ H', Same H H' → Q (.int (knots i : Nat)) H'
theorem ok_knots_step {n : Nat} {f : Addr} {fd : FuncData} (F : Fun K "knots_in" "knots_in" sKnotsIn f fd) (b : Binds K fd ["tree"] []) (m : mg "knots_in" = some (.ref f)) (G : FnOk P w K mg base CX0 n f fd ["tree"] (spKnots n)) (ms : mg "sum" = none) :
    FnOk P w K mg base CX0 (n + 1) f fd ["tree"] (spKnots (n + 1)) := by
  refine F.ok scKnotsIn (fun vs H Q E h => ?_) (fun cdv A outer s H vs Q E hr h => ?_)
  · obtain ⟨i, v, rfl, _⟩ := h
    rfl
  obtain ⟨i, v, rfl, hv, hd, q⟩ := h
  refine ⟨_, pss_one (ps_ret (pe_op op_add pe_int (pe_callB (cr_sum rfl) (by rfl) ms (by decide +kernel) (pa_cons
    (pe_lc (own := [("bough", 1)]) (g := gName 1) (tt := tYes) rfl scKnotsIn.nd (pi_tup (pv 0)) (blkOk_by (N := ["tree", "bough"]) (sc := defScope sKnotsIn) (by decide +kernel)) (fun _ _ _ _ _ => pg_name (i := 1) scKnotsIn.nd rfl (Or.inl rfl)) (fun _ _ _ _ _ => pts_nil)
      (fun _ _ _ _ _ => pe_call G hr rfl m F.kp b .nil pass0 (pa_cons (pv 1) pa_nil))) pa_nil)))), ?_⟩
  obtain ⟨a, xs, rfl, hf, ht⟩ := hv.ref
  have hi := hv.lt
  have hlen := ht.length
  have hk6 := kids_len hi
  refine ⟨_, rfl, a, rfl, ⟨xs, hf.sq⟩, fun D hD => lc_tup (xs := xs) (fun j H' => Same H H' ∧ H' D = some (.lst (((kids i).take j).map fun k => .int (knots k : Nat)))) ⟨same_upd hD, upd_same⟩ (fun j H' _ h => (hf.same h.1).sq) (fun j x H' hx h => ?_) fun H' h => ?_⟩
  · obtain ⟨hs, hD'⟩ := h
    obtain ⟨k, hk, hk2⟩ := paired_get ht hx
    have hkm : k ∈ kids i := List.mem_of_getElem? hk
    have := (kids_lt hi hkm).2.2
    refine ⟨rfl, ?_⟩
    refine ⟨_, rfl, k, x, rfl, hk2.same hs, by omega, fun H2 h2 => ⟨_, h2 _ _ hD', ?_, same_over (hs.trans h2) hD, ?_⟩⟩
    · rw [List.length_map, List.length_take]
      exact Nat.lt_of_le_of_lt (Nat.min_le_right _ _) (small1000 (by omega))
    · rw [upd_same, List.take_add_one, hk, List.map_append]
      rfl
  · obtain ⟨hs, hD'⟩ := h
    rw [← hlen, List.take_length] at hD'
    refine ⟨D, (kids i).map fun k => (knots k : Int), rfl, .of ?_, 1, _, rfl, rfl, ?_⟩
    · rw [hD', List.map_map]
      rfl
    · rw [sum_cast]
      have e := knots_eq hi
      have e2 : (1 : Int) + (((kids i).map knots).sum : Nat) = (knots i : Nat) := by omega
      show Q (.int ((1 : Int) + (((kids i).map knots).sum : Nat))) H'
      rw [e2]
      exact q H' hs
theorem ok_knots {f : Addr} {fd : FuncData} (F : Fun K "knots_in" "knots_in" sKnotsIn f fd) (b : Binds K fd ["tree"] []) (m : mg "knots_in" = some (.ref f)) (ms : mg "sum" = none) : ∀ n : Nat, FnOk P w K mg base CX0 n f fd ["tree"] (spKnots n)
  | 0 => vacuous fun vs H Q E ⟨i, v, _, hv, hd, _⟩ => by have := depth_pos hv.lt; omega
  | n + 1 => ok_knots_step F b m (ok_knots F b m ms n) ms
end
end SG
namespace SG
open PySem L2 PySem.Spec PyProof.Rows
theorem scDensIn : FnScope ["tree", "found", "bough"] ["tree"] (defScope sDensIn) := ⟨rfl, rfl, rfl, by decide +kernel, rfl, by decide +kernel, by decide +kernel⟩
theorem scTurnsIn : FnScope ["tree", "found", "place", "bough"] ["tree"] (defScope sTurnsIn) := ⟨rfl, rfl, rfl, by decide +kernel, rfl, by decide +kernel, by decide +kernel⟩
theorem cmul_of {m n : Nat} (h : m ≤ 1000000) : CMul (m : Int) (n : Int) := .inl ⟨by omega, by omega⟩
section
variable {w : World} {P : Program} {base : Heap} {K : PySem.W.Frag} {mg : Str → Option Value}
/-! ### density_in(tree) -/
def spDens (n : Nat) : Sp := fun vs H Q _ => ∃ (i : Nat) (v : V), vs = [v] ∧ Tr H i v ∧ depth i ≤ n ∧ ∀ H', Same H H' → Q (.int (dens i : Nat)) H'
theorem ok_dens_step {n : Nat} {f g : Addr} {fd gd : FuncData} (F : Fun K "density_in" "density_in" sDensIn f fd) (b : Binds K fd ["tree"] []) (m : mg "density_in" = some (.ref f)) (G : FnOk P w K mg base CX0 (n + 7) f fd ["tree"] (spDens n))
    (GK : FnOk P w K mg base CX0 7 g gd ["tree"] (spKnots 7)) (bK : Binds K gd ["tree"] []) (kK : PySem.W.keepIn K (.ref g) = true) (mK : mg "knots_in" = some (.ref g)) :
    FnOk P w K mg base CX0 (n + 8) f fd ["tree"] (spDens (n + 1)) := by
  refine F.ok scDensIn (fun vs H Q E h => ?_) (fun cdv A outer s H vs Q E hr h => ?_)
  · obtain ⟨i, v, rfl, _⟩ := h
    rfl
  obtain ⟨i, v, rfl, hv, hd, q⟩ := h
  refine ⟨_, pss_cons (ps_set (i := 1) scDensIn.nd rfl (.inl rfl) (pe_call GK (hr.mono (by omega)) rfl mK kK bK .nil pass0 (pa_cons (pv 0) pa_nil)))
    (pss_cons (ps_for PassesOwn.never rfl (pi_tup (pv 0)) (pg_name (i := 2) scDensIn.nd rfl (.inl rfl)) (pss_one (ps_set (i := 1) scDensIn.nd rfl (.inl rfl) (pe_op op_mul (pv 1) (pe_call G hr rfl m F.kp b .nil pass0 (pa_cons (pv 2) pa_nil))))))
    (pss_one (ps_ret (pv 1)))), ?_⟩
  obtain ⟨a, xs, rfl, hf, ht⟩ := hv.ref
  have hi := hv.lt
  have hlen := ht.length
  refine ⟨_, rfl, i, _, rfl, hv, depth_le hi, fun H1 h1 => ?_⟩
  refine ⟨_, rfl, a, rfl, ⟨xs, (hf.same h1).sq⟩, for_tup (xs := xs) (fun j σ H' => Same H H' ∧ ∃ y, σ = [some (.ref a), some (.int (densAt i j : Nat)), y]) ⟨h1, none, rfl⟩ (fun j σ H' _ h => (hf.same h.1).sq) (fun j x σ H' hx h => ?_) (fun σ H' h => ?_)⟩
  · obtain ⟨hs, y, rfl⟩ := h
    obtain ⟨k, hk, hk2⟩ := paired_get ht hx
    have hkm : k ∈ kids i := List.mem_of_getElem? hk
    have := (kids_lt hi hkm).2.2
    have hj : j < (kids i).length := (List.getElem?_eq_some_iff.mp hk).1
    have hle := densAt_le hi (Nat.le_of_lt hj)
    refine ⟨_, rfl, _, rfl, k, x, rfl, hk2.same hs, by omega, fun H2 h2 => ⟨_, _, rfl, rfl, cmul_of (by omega), hs.trans h2, some x, ?_⟩⟩
    have e : ((densAt i j : Nat) : Int) * (dens k : Nat) = (densAt i (j + 1) : Nat) := by rw [densAt_succ hk, Int.natCast_mul]
    rw [← e]
    rfl
  · obtain ⟨hs, y, rfl⟩ := h
    refine ⟨_, rfl, ?_⟩
    rw [← hlen, ← dens_eq hi]
    exact q H' hs
theorem ok_dens {f g : Addr} {fd gd : FuncData} (F : Fun K "density_in" "density_in" sDensIn f fd) (b : Binds K fd ["tree"] []) (m : mg "density_in" = some (.ref f))
    (GK : FnOk P w K mg base CX0 7 g gd ["tree"] (spKnots 7)) (bK : Binds K gd ["tree"] []) (kK : PySem.W.keepIn K (.ref g) = true) (mK : mg "knots_in" = some (.ref g)) : ∀ n : Nat, FnOk P w K mg base CX0 (n + 7) f fd ["tree"] (spDens n)
  | 0 => vacuous fun vs H Q E ⟨i, v, _, hv, hd, _⟩ => by have := depth_pos hv.lt; omega
  | n + 1 => ok_dens_step F b m (ok_dens F b m GK bK kK mK n) GK bK kK mK
/-! ### turns_in(tree) -/
def spTurns (n : Nat) : Sp := fun vs H Q _ => ∃ (i : Nat) (v : V), vs = [v] ∧ Tr H i v ∧ depth i ≤ n ∧ ∀ H', Same H H' → Q (.int (turns i : Nat)) H'
theorem ok_turns_step {n : Nat} {f : Addr} {fd : FuncData} (F : Fun K "turns_in" "turns_in" sTurnsIn f fd) (b : Binds K fd ["tree"] []) (m : mg "turns_in" = some (.ref f)) (G : FnOk P w K mg base CX0 n f fd ["tree"] (spTurns n)) (me : mg "enumerate" = none) :
    FnOk P w K mg base CX0 (n + 1) f fd ["tree"] (spTurns (n + 1)) := by
  refine F.ok scTurnsIn (fun vs H Q E h => ?_) (fun cdv A outer s H vs Q E hr h => ?_)
  · obtain ⟨i, v, rfl, _⟩ := h
    rfl
  obtain ⟨i, v, rfl, hv, hd, q⟩ := h
  refine ⟨_, pss_cons (ps_set (i := 1) scTurnsIn.nd rfl (.inl rfl) pe_int)
    (pss_cons (ps_for PassesOwn.never rfl (pi_enumT (by rfl) me (pa_cons (pv 0) pa_nil)) (pg_tup rfl (pgs_cons (pg_name (i := 2) scTurnsIn.nd rfl (.inl rfl)) (pgs_cons (pg_name (i := 3) scTurnsIn.nd rfl (.inl rfl)) pgs_nil)))
      (pss_one (ps_set (i := 1) scTurnsIn.nd rfl (.inl rfl) (pe_op op_mul (pe_op op_mul (pv 1) (pe_call G hr rfl m F.kp b .nil pass0 (pa_cons (pv 3) pa_nil)))
        (pe_countF (hu9 hr) (pe_slice sl_takeF (pv 0) po_none (po_some (pe_op op_add (pv 2) pe_int))) (pv 3))))))
    (pss_one (ps_ret (pv 1)))), ?_⟩
  obtain ⟨a, xs, rfl, hf, ht⟩ := hv.ref
  have hi := hv.lt
  have hlen := ht.length
  refine ⟨_, rfl, a, xs, rfl, hf.sq, fun j mm σ H' => mm = xs.length - j ∧ j ≤ xs.length ∧ Same H H' ∧ ∃ y z, σ = [some (.ref a), some (.int (turnsAt (kids i) j : Nat)), y, z], ⟨_, rfl, Nat.zero_le _, Same.refl H, none, none, rfl⟩, fun j mm σ H' hW => ?_⟩
  obtain ⟨rfl, hj, hs, y, z, rfl⟩ := hW
  have hS : SqT K H' a xs := (hf.same hs).sq
  by_cases hlt : j < xs.length
  · have hx : xs[j]? = some xs[j] := List.getElem?_eq_getElem hlt
    obtain ⟨k, hk, hk2⟩ := paired_get ht hx
    refine .inr ⟨⟨xs, xs[j], hS, hx⟩, fun σ' H'' => j + 1 ≤ xs.length ∧ Same H H'' ∧ ∃ y z, σ' = [some (.ref a), some (.int (turnsAt (kids i) (j + 1) : Nat)), y, z], fun σ' H'' h => ⟨xs.length - (j + 1), by omega, rfl, h⟩, fun x H'' hy => ?_⟩
    obtain ⟨T, x0, rfl, hT, rfl, hx0⟩ := hy
    have ex : x0 = xs[j] := Option.some.inj ((hx0 xs hS).symm.trans hx)
    rw [ex]
    clear hx0 ex x0
    generalize xs[j] = x at hx hk2
    have hkm : k ∈ kids i := List.mem_of_getElem? hk
    have := (kids_lt hi hkm).2.2
    have hle := turnsAt_le hi (n := j) (by omega)
    have hle2 := turnsAt_le hi (n := j + 1) (by omega)
    have tk := turns_le (kids_lt hi hkm).1
    have s1 : Same H (upd H' T (.tup [.int (j : Nat), x])) := hs.trans (same_upd hT)
    refine ⟨T, _, rfl, .of upd_same, rfl, _, _, rfl, _, _, rfl, rfl, ?_⟩
    refine ⟨_, rfl, _, rfl, k, x, rfl, hk2.same s1, by omega, fun H2 h2 => ⟨_, _, rfl, rfl, cmul_of (by omega), ?_⟩⟩
    have s2 := s1.trans h2
    refine ⟨_, rfl, _, rfl, _, _, rfl, rfl, (j : Int) + 1, rfl, a, xs, j + 1, rfl, hf.same s2, rfl, rfl, hlt, fun p H3 h3 hp => ?_⟩
    have s3 := s2.trans h3
    refine ⟨p, rfl, ⟨_, hp⟩, _, rfl, x, xs.take (j + 1), (kids i).take (j + 1), k, rfl, hp.sq, paired_take _ (ht.same s3), hk2.same s3, _, _, rfl, rfl, ?_, hlt, s3, some (.int (j : Nat)), some x, ?_⟩
    · have hp := Nat.mul_le_mul hle tk.2
      rw [← Int.natCast_mul]
      exact cmul_of (by omega)
    · have hg : (kids i).getD j 0 = k := by rw [List.getD_eq_getElem?_getD, hk] <;> rfl
      have e : ((turnsAt (kids i) j : Nat) : Int) * (turns k : Nat) * (((kids i).take (j + 1)).count k : Nat) = (turnsAt (kids i) (j + 1) : Nat) := by
        rw [← Int.natCast_mul, ← Int.natCast_mul]
        show _ = (((turnsAt (kids i) j * turns ((kids i).getD j 0) * ((kids i).take (j + 1)).count ((kids i).getD j 0) : Nat)) : Int)
        rw [hg]
      rw [← e]
      rfl
  · refine .inl ⟨⟨xs, hS, by omega⟩, _, rfl, ?_⟩
    have ej : j = (kids i).length := by omega
    rw [ej, ← turns_eq hi]
    exact q H' hs
theorem ok_turns {f : Addr} {fd : FuncData} (F : Fun K "turns_in" "turns_in" sTurnsIn f fd) (b : Binds K fd ["tree"] []) (m : mg "turns_in" = some (.ref f)) (me : mg "enumerate" = none) : ∀ n : Nat, FnOk P w K mg base CX0 n f fd ["tree"] (spTurns n)
  | 0 => vacuous fun vs H Q E ⟨i, v, _, hv, hd, _⟩ => by have := depth_pos hv.lt; omega
  | n + 1 => ok_turns_step F b m (ok_turns F b m me n) me
end
end SG
namespace SG
open PySem L2 PySem.Spec PyProof.Rows
def fac : Nat → Nat
  | 0 => 1
  | n + 1 => fac n * (n + 1)
/-- the ways of tree number i -/
def ways (i : Nat) : Nat := fac (knots i) / (dens i * turns i)
theorem dt_le {i : Nat} (hi : i < 85) : 1 ≤ dens i * turns i ∧ dens i * turns i ≤ 5040 := of_decide_eq_true (each (p := fun i => decide (1 ≤ dens i * turns i ∧ dens i * turns i ≤ 5040)) (by decide +kernel) hi)
theorem fac_le : ∀ n, n ≤ 7 → fac n ≤ 5040 := by decide +kernel
theorem scKnots : FnScope ["tree"] ["tree"] (defScope sKnots) := ⟨rfl, rfl, rfl, by decide +kernel, rfl, by decide +kernel, by decide +kernel⟩
theorem scDens : FnScope ["tree"] ["tree"] (defScope sDens) := ⟨rfl, rfl, rfl, by decide +kernel, rfl, by decide +kernel, by decide +kernel⟩
theorem scTurns : FnScope ["tree"] ["tree"] (defScope sTurns) := ⟨rfl, rfl, rfl, by decide +kernel, rfl, by decide +kernel, by decide +kernel⟩
theorem scWays : FnScope ["tree", "found", "number"] ["tree"] (defScope sWays) := ⟨rfl, rfl, rfl, by decide +kernel, rfl, by decide +kernel, by decide +kernel⟩
/-- a def of a tree that tells a number -/
def spNum (g : Nat → Nat) : Sp := fun vs H Q _ => ∃ (i : Nat) (v : V), vs = [v] ∧ Tr H i v ∧ ∀ H', Same H H' → Q (.int (g i : Nat)) H'
section
variable {w : World} {P : Program} {base : Heap} {K : PySem.W.Frag} {mg : Str → Option Value} {f l g g2 g3 : Addr} {fd ld gd gd2 gd3 : FuncData}
theorem ok_knotsT (F : Fun K "tree_knots" "tree_knots" sKnots f fd) (L : FnOk P w K mg base CX0 9 l ld ["tree"] spLook) (bL : Binds K ld ["tree"] []) (kL : PySem.W.keepIn K (.ref l) = true) (mL : mg "look_tree" = some (.ref l))
    (G : FnOk P w K mg base CX0 7 g gd ["tree"] (spKnots 7)) (bG : Binds K gd ["tree"] []) (kG : PySem.W.keepIn K (.ref g) = true) (mG : mg "knots_in" = some (.ref g)) : FnOk P w K mg base CX0 15 f fd ["tree"] (spNum knots) := by
  refine F.ok scKnots (fun vs H Q E h => ?_) (fun cdv A outer s H vs Q E hr h => ?_)
  · obtain ⟨i, v, rfl, _⟩ := h
    rfl
  obtain ⟨i, v, rfl, hv, q⟩ := h
  refine ⟨_, pss_cons (ps_expr (pe_call L (hr.mono (by decide)) rfl mL kL bL .nil pass0 (pa_cons (pv 0) pa_nil))) (pss_one (ps_ret (pe_call G (hr.mono (by decide)) rfl mG kG bG .nil pass0 (pa_cons (pv 0) pa_nil)))), ?_⟩
  exact ⟨_, rfl, i, v, rfl, hv, fun H1 h1 => ⟨_, rfl, i, v, rfl, hv.same h1, depth_le hv.lt, fun H2 h2 => q H2 (h1.trans h2)⟩⟩
theorem ok_densT (F : Fun K "tree_density" "tree_density" sDens f fd) (L : FnOk P w K mg base CX0 9 l ld ["tree"] spLook) (bL : Binds K ld ["tree"] []) (kL : PySem.W.keepIn K (.ref l) = true) (mL : mg "look_tree" = some (.ref l))
    (G : FnOk P w K mg base CX0 14 g gd ["tree"] (spDens 7)) (bG : Binds K gd ["tree"] []) (kG : PySem.W.keepIn K (.ref g) = true) (mG : mg "density_in" = some (.ref g)) : FnOk P w K mg base CX0 15 f fd ["tree"] (spNum dens) := by
  refine F.ok scDens (fun vs H Q E h => ?_) (fun cdv A outer s H vs Q E hr h => ?_)
  · obtain ⟨i, v, rfl, _⟩ := h
    rfl
  obtain ⟨i, v, rfl, hv, q⟩ := h
  refine ⟨_, pss_cons (ps_expr (pe_call L (hr.mono (by decide)) rfl mL kL bL .nil pass0 (pa_cons (pv 0) pa_nil))) (pss_one (ps_ret (pe_call G (hr.mono (by decide)) rfl mG kG bG .nil pass0 (pa_cons (pv 0) pa_nil)))), ?_⟩
  exact ⟨_, rfl, i, v, rfl, hv, fun H1 h1 => ⟨_, rfl, i, v, rfl, hv.same h1, depth_le hv.lt, fun H2 h2 => q H2 (h1.trans h2)⟩⟩
theorem ok_turnsT (F : Fun K "tree_turns" "tree_turns" sTurns f fd) (L : FnOk P w K mg base CX0 9 l ld ["tree"] spLook) (bL : Binds K ld ["tree"] []) (kL : PySem.W.keepIn K (.ref l) = true) (mL : mg "look_tree" = some (.ref l))
    (G : FnOk P w K mg base CX0 7 g gd ["tree"] (spTurns 7)) (bG : Binds K gd ["tree"] []) (kG : PySem.W.keepIn K (.ref g) = true) (mG : mg "turns_in" = some (.ref g)) : FnOk P w K mg base CX0 15 f fd ["tree"] (spNum turns) := by
  refine F.ok scTurns (fun vs H Q E h => ?_) (fun cdv A outer s H vs Q E hr h => ?_)
  · obtain ⟨i, v, rfl, _⟩ := h
    rfl
  obtain ⟨i, v, rfl, hv, q⟩ := h
  refine ⟨_, pss_cons (ps_expr (pe_call L (hr.mono (by decide)) rfl mL kL bL .nil pass0 (pa_cons (pv 0) pa_nil))) (pss_one (ps_ret (pe_call G (hr.mono (by decide)) rfl mG kG bG .nil pass0 (pa_cons (pv 0) pa_nil)))), ?_⟩
  exact ⟨_, rfl, i, v, rfl, hv, fun H1 h1 => ⟨_, rfl, i, v, rfl, hv.same h1, depth_le hv.lt, fun H2 h2 => q H2 (h1.trans h2)⟩⟩
theorem ok_waysT (F : Fun K "tree_ways" "tree_ways" sWays f fd) (L : FnOk P w K mg base CX0 9 l ld ["tree"] spLook) (bL : Binds K ld ["tree"] []) (kL : PySem.W.keepIn K (.ref l) = true) (mL : mg "look_tree" = some (.ref l))
    (G : FnOk P w K mg base CX0 7 g gd ["tree"] (spKnots 7)) (bG : Binds K gd ["tree"] []) (kG : PySem.W.keepIn K (.ref g) = true) (mG : mg "knots_in" = some (.ref g))
    (G2 : FnOk P w K mg base CX0 14 g2 gd2 ["tree"] (spDens 7)) (bG2 : Binds K gd2 ["tree"] []) (kG2 : PySem.W.keepIn K (.ref g2) = true) (mG2 : mg "density_in" = some (.ref g2))
    (G3 : FnOk P w K mg base CX0 7 g3 gd3 ["tree"] (spTurns 7)) (bG3 : Binds K gd3 ["tree"] []) (kG3 : PySem.W.keepIn K (.ref g3) = true) (mG3 : mg "turns_in" = some (.ref g3)) (mr : mg "range" = none) : FnOk P w K mg base CX0 15 f fd ["tree"] (spNum ways) := by
  refine F.ok scWays (fun vs H Q E h => ?_) (fun cdv A outer s H vs Q E hr h => ?_)
  · obtain ⟨i, v, rfl, _⟩ := h
    rfl
  obtain ⟨i, v, rfl, hv, q⟩ := h
  refine ⟨_, pss_cons (ps_expr (pe_call L (hr.mono (by decide)) rfl mL kL bL .nil pass0 (pa_cons (pv 0) pa_nil)))
    (pss_cons (ps_set (i := 1) scWays.nd rfl (.inl rfl) pe_int)
    (pss_cons (ps_for PassesOwn.never rfl (pi_range2 (by rfl) mr (pa_cons pe_int (pa_cons (pe_op op_add (pe_call G (hr.mono (by decide)) rfl mG kG bG .nil pass0 (pa_cons (pv 0) pa_nil)) pe_int) pa_nil))) (pg_name (i := 2) scWays.nd rfl (.inl rfl))
      (pss_one (ps_set (i := 1) scWays.nd rfl (.inl rfl) (pe_op op_mul (pv 1) (pv 2)))))
    (pss_one (ps_ret (pe_op op_fdiv (pv 1) (pe_op op_mul (pe_call G2 (hr.mono (by decide)) rfl mG2 kG2 bG2 .nil pass0 (pa_cons (pv 0) pa_nil)) (pe_call G3 (hr.mono (by decide)) rfl mG3 kG3 bG3 .nil pass0 (pa_cons (pv 0) pa_nil)))))))), ?_⟩
  have hi := hv.lt
  have kn := knots_le hi
  have dn := dens_le hi
  have dt := dt_le hi
  refine ⟨_, rfl, i, v, rfl, hv, fun H1 h1 => ?_⟩
  refine ⟨_, rfl, i, v, rfl, hv.same h1, depth_le hi, fun H2 h2 => ⟨_, _, rfl, rfl, 1, (knots i : Nat) + 1, rfl, ⟨by omega, by omega, by omega, by omega⟩, ?_⟩⟩
  have e1 : (((knots i : Nat) : Int) + 1 - 1).toNat = knots i := by omega
  rw [e1]
  refine for_range (lo := 1) (n := knots i) (fun j σ H' => Same H H' ∧ ∃ y, σ = [some v, some (.int (fac j : Nat)), y]) ⟨h1.trans h2, none, rfl⟩ (fun j σ H' hj h => ?_) (fun σ H' h => ?_)
  · obtain ⟨hs, y, rfl⟩ := h
    have hf := fac_le j (by omega)
    refine ⟨_, rfl, _, rfl, _, _, rfl, rfl, ?_, hs, some (.int (1 + (j : Nat))), ?_⟩
    · exact .inl ⟨by omega, by omega⟩
    · have e : ((fac j : Nat) : Int) * (1 + (j : Nat)) = (fac (j + 1) : Nat) := by
        show _ = (((fac j * (j + 1) : Nat)) : Int)
        rw [Int.natCast_mul, show ((j + 1 : Nat) : Int) = 1 + (j : Nat) by omega]
      rw [← e]
      rfl
  · obtain ⟨hs, y, rfl⟩ := h
    refine ⟨_, rfl, _, rfl, i, v, rfl, hv.same hs, depth_le hi, fun H3 h3 => ⟨_, rfl, i, v, rfl, hv.same (hs.trans h3), depth_le hi, fun H4 h4 => ⟨_, _, rfl, rfl, cmul_of (by omega), _, _, rfl, rfl, ?_, ?_⟩⟩⟩
    · rw [← Int.natCast_mul]
      exact ⟨by omega, by omega⟩
    · have e : ((fac (knots i) : Nat) : Int) / ((dens i : Nat) * (turns i : Nat)) = (ways i : Nat) := by
        rw [← Int.natCast_mul]
        rfl
      show Q (.int (((fac (knots i) : Nat) : Int) / ((dens i : Nat) * (turns i : Nat)))) H4
      rw [e]
      exact q H4 ((hs.trans h3).trans h4)
end
end SG
namespace SG
open PySem L2 PySem.Spec PyProof.Rows
/-! ### the rows, turn by turn -/
def bou (f m : Nat) (ks : List Nat) (i : Nat) : List (List Nat) :=
  if knots (ks.getD i 0) ≤ m then (boughs f (m - knots (ks.getD i 0)) (ks.drop i)).map (ks.getD i 0 :: ·) else []
def bouTo (f m : Nat) (ks : List Nat) (n : Nat) : List (List Nat) := (List.range n).flatMap (bou f m ks)
theorem boughs_zero (f : Nat) (ks : List Nat) : boughs f 0 ks = [[]] := by cases f <;> rfl
theorem boughs_succ (f m : Nat) (ks : List Nat) : boughs (f + 1) (m + 1) ks = bouTo f (m + 1) ks ks.length := rfl
theorem bouTo_succ (f m : Nat) (ks : List Nat) (n : Nat) : bouTo f m ks (n + 1) = bouTo f m ks n ++ bou f m ks n := by
  unfold bouTo
  rw [List.range_succ, List.flatMap_append, List.flatMap_singleton]
theorem bouTo_le (f m : Nat) (ks : List Nat) (n : Nat) : ∀ d, (bouTo f m ks n).length ≤ (bouTo f m ks (n + d)).length
  | 0 => Nat.le_refl _
  | d + 1 => by
    rw [show n + (d + 1) = (n + d) + 1 from rfl, bouTo_succ, List.length_append]
    have := bouTo_le f m ks n d
    omega
theorem bou_len {f m : Nat} {ks : List Nat} {n : Nat} (hn : n < ks.length) : (bou f m ks n).length ≤ (bouTo f m ks ks.length).length := by
  have h := bouTo_le f m ks (n + 1) (ks.length - (n + 1))
  rw [show n + 1 + (ks.length - (n + 1)) = ks.length by omega, bouTo_succ, List.length_append] at h
  omega
theorem row_len : ∀ (f m : Nat) (ks : List Nat), (∀ k ∈ ks, k < 85) → ∀ row ∈ boughs f m ks, row.length ≤ m
  | f, 0, ks, _, row, hr => by
    rw [boughs_zero] at hr
    rw [List.mem_singleton.mp hr]
    exact Nat.le_refl _
  | 0, m + 1, ks, _, row, hr => absurd hr (by show row ∉ ([] : List (List Nat)); simp)
  | f + 1, m + 1, ks, hk, row, hr => by
    rw [boughs_succ] at hr
    obtain ⟨i, hi, hr⟩ := List.mem_flatMap.mp hr
    have hil : i < ks.length := List.mem_range.mp hi
    have hg : ks.getD i 0 ∈ ks := by
      rw [List.getD_eq_getElem?_getD, List.getElem?_eq_getElem hil]
      exact List.getElem_mem hil
    have h1 := (knots_le (hk _ hg)).1
    unfold bou at hr
    split at hr
    · rename_i hle
      obtain ⟨r, hr1, rfl⟩ := List.mem_map.mp hr
      have := row_len f _ (ks.drop i) (fun k hk' => hk k (List.mem_of_mem_drop hk')) r hr1
      rw [List.length_cons]
      omega
    · exact absurd hr (by simp)
/-- v is a tuple of the trees of a row -/
def RowV (H : Hp) (row : List Nat) (v : V) : Prop := ∃ a xs, v = .ref a ∧ FT H a xs ∧ Trs H row xs
abbrev Rows (H : Hp) (rows : List (List Nat)) (ys : List V) : Prop := Paired (RowV H) rows ys
theorem RowV.sameF {H H' : Hp} {row : List Nat} {v : V} (e : SameF H H') (h : RowV H row v) : RowV H' row v := by
  obtain ⟨a, xs, rfl, h1, h2⟩ := h
  exact ⟨a, xs, rfl, h1.sameF e, h2.sameF e⟩
theorem Rows.sameF {H H' : Hp} {rows : List (List Nat)} {ys : List V} (e : SameF H H') (h : Rows H rows ys) : Rows H' rows ys := Paired.mapP h fun _ _ => RowV.sameF e
theorem Rows.same {H H' : Hp} {rows : List (List Nat)} {ys : List V} (e : Same H H') (h : Rows H rows ys) : Rows H' rows ys := h.sameF (samef e)
theorem cutV_drop {xs : List V} {j : Nat} (hj : j ≤ xs.length) : cutV xs (some (j : Int)) none = xs.drop j := by
  unfold cutV
  rw [HT.sIx_nat, HT.sIx_none, Nat.min_eq_left hj, List.take_of_length_le (by rw [List.length_drop]; exact Nat.le_refl _)]
theorem scBoughs : FnScope ["many", "pool", "found", "place", "tree", "left", "rest"] ["many", "pool"] (defScope sBoughs) := ⟨rfl, rfl, rfl, by decide +kernel, rfl, by decide +kernel, by decide +kernel⟩
section
variable {w : World} {P : Program} {base : Heap} {K : PySem.W.Frag} {mg : Str → Option Value}
/-! ### boughs_of(many, pool) -/
def spBoughs (K : PySem.W.Frag) (f : Nat) : Sp := fun vs H Q _ => ∃ (m : Nat) (a : Addr) (xs : List V) (ks : List Nat), vs = [.int (m : Nat), .ref a] ∧ m < f ∧ f ≤ 7 ∧ SqL K H a xs ∧ Trs H ks xs ∧ (boughs f m ks).length ≤ 1000 ∧
  ∀ (p : Addr) (ys : List V) (H' : Hp), Same H H' → Rows H' (boughs f m ks) ys → H' p = some (.lst ys) → Q (.ref p) H'
theorem ok_boughs_step {n : Nat} {f g : Addr} {fd gd : FuncData} (F : Fun K "boughs_of" "boughs_of" sBoughs f fd) (b : Binds K fd ["many", "pool"] []) (m : mg "boughs_of" = some (.ref f)) (G : FnOk P w K mg base CX0 (n + 7) f fd ["many", "pool"] (spBoughs K n))
    (GK : FnOk P w K mg base CX0 7 g gd ["tree"] (spKnots 7)) (bK : Binds K gd ["tree"] []) (kK : PySem.W.keepIn K (.ref g) = true) (mK : mg "knots_in" = some (.ref g)) (me : mg "enumerate" = none) :
    FnOk P w K mg base CX0 (n + 8) f fd ["many", "pool"] (spBoughs K (n + 1)) := by
  refine F.ok scBoughs (fun vs H Q E h => ?_) (fun cdv A outer s H vs Q E hr h => ?_)
  · obtain ⟨c, a, xs, ks, rfl, _⟩ := h
    rfl
  obtain ⟨c, a, xs, ks, rfl, hc, hn7, hS, hT, h1000, q⟩ := h
  refine ⟨_, pss_cons (ps_if (pt_cmpR op_eq (pv 0) pe_int (nomark _)) (pss_one (ps_ret (pe_lst (pa_cons (pe_tupF pa_nil) pa_nil)))) pss_nil)
    (pss_cons (ps_set (i := 2) scBoughs.nd rfl (.inl rfl) (pe_lst pa_nil))
    (pss_cons (ps_for PassesOwn.never rfl (pi_enum (by rfl) me (pa_cons (pv 1) pa_nil)) (pg_tup rfl (pgs_cons (pg_name (i := 3) scBoughs.nd rfl (.inl rfl)) (pgs_cons (pg_name (i := 4) scBoughs.nd rfl (.inr rfl)) pgs_nil)))
      (pss_cons (ps_set (i := 5) scBoughs.nd rfl (.inl rfl) (pe_op op_sub (pv 0) (pe_call GK (hr.mono (by omega)) rfl mK kK bK .nil pass0 (pa_cons (pv 4) pa_nil))))
      (pss_one (ps_if (pt_cmpR op_ge (pv 5) pe_int (nomark _)) (pss_one (ps_set (i := 2) scBoughs.nd rfl (.inl rfl) (pe_op op_cat (pv 2)
        (pe_lc (own := [("rest", 6)]) (g := gName 6) (tt := tYes) rfl scBoughs.nd (pi_list (pe_call G hr rfl m F.kp b .nil pass0 (pa_cons (pv 5) (pa_cons (pe_slice sl_list (pv 1) (po_some (pv 3)) po_none) pa_nil))))
          (blkOk_by (N := ["many", "pool", "found", "place", "tree", "left", "rest"]) (sc := defScope sBoughs) (by decide +kernel)) (fun _ _ _ _ _ => pg_name (i := 6) scBoughs.nd rfl (Or.inl rfl)) (fun _ _ _ _ _ => pts_nil)
          (fun _ _ _ _ _ => pe_op (r := rCatF K) op_catF (pe_tupF (pa_cons (pv 4) pa_nil)) (pv 6)))))) pss_nil))))
    (pss_one (ps_ret (pv 2))))), ?_⟩
  have hlen := hT.length
  have hks := hT.lt
  refine ⟨_, rfl, rfl, _, rfl, ite2 (fun e => ?_) (fun e => ?_)⟩
  · have e0 : c = 0 := by
      have := V.int.inj (of_decide_eq_true e)
      omega
    subst e0
    refine ⟨Nat.zero_le _, fun t its k ht => ⟨by show 1 ≤ sizeLine; decide, fun r hr' => ?_⟩⟩
    have s1 := same_upd (o := .frz (tupO its k) (.tup [])) ht
    have s2 := same_upd (o := .lst [.ref t]) hr'
    refine q r [.ref t] _ (s1.trans s2) ?_ upd_same
    rw [boughs_zero]
    exact .cons ⟨t, [], rfl, FT.new.same s2, .nil⟩ .nil
  · obtain ⟨d, rfl⟩ : ∃ d, c = d + 1 := ⟨c - 1, by
      have : c ≠ 0 := fun z => e (by subst z; exact decide_eq_true rfl)
      omega⟩
    rw [boughs_succ] at h1000 q
    refine ⟨Nat.zero_le _, fun o ho => ?_⟩
    have s0 : Same H (upd H o (.lst [])) := same_upd ho
    refine ⟨_, rfl, a, xs, rfl, s0.seq hS, fun j mm σ H' => mm = xs.length - j ∧ j ≤ xs.length ∧ Same H H' ∧ ∃ r ys y3 y4 y5, σ = [some (.int ((d + 1 : Nat) : Int)), some (.ref a), some (.ref r), y3, y4, y5, none] ∧ H' r = some (.lst ys) ∧ Rows H' (bouTo n (d + 1) ks j) ys,
      ⟨_, rfl, Nat.zero_le _, s0, o, [], none, none, none, rfl, upd_same, .nil⟩, fun j mm σ H' hW => ?_⟩
    obtain ⟨rfl, hj, hs, r, ys, y3, y4, y5, rfl, hr1, hrows⟩ := hW
    have hS' : SqL K H' a xs := hs.seq hS
    by_cases hlt : j < xs.length
    · have hx : xs[j]? = some xs[j] := List.getElem?_eq_getElem hlt
      obtain ⟨k, hk, hk2⟩ := paired_get hT hx
      refine .inr ⟨⟨xs, xs[j], hS', hx⟩, fun σ' H'' => j + 1 ≤ xs.length ∧ Same H H'' ∧ ∃ r ys y3 y4 y5, σ' = [some (.int ((d + 1 : Nat) : Int)), some (.ref a), some (.ref r), y3, y4, y5, none] ∧ H'' r = some (.lst ys) ∧ Rows H'' (bouTo n (d + 1) ks (j + 1)) ys,
        fun σ' H'' h => ⟨xs.length - (j + 1), by omega, rfl, h⟩, fun x H'' hy => ?_⟩
      obtain ⟨T, x0, rfl, hT0, rfl, hx0⟩ := hy
      have ex : x0 = xs[j] := Option.some.inj ((hx0 xs hS').symm.trans hx)
      rw [ex]
      clear hx0 ex x0
      generalize xs[j] = x at hx hk2
      have hkm : k ∈ ks := List.mem_of_getElem? hk
      have hk85 := hks k hkm
      have hkn := knots_le hk85
      have hg : ks.getD j 0 = k := by rw [List.getD_eq_getElem?_getD, hk] <;> rfl
      have t1 : Same H' (upd H' T (.tup [.int (j : Nat), x])) := same_upd hT0
      refine ⟨T, _, rfl, .of upd_same, rfl, _, _, rfl, _, _, rfl, rfl, ?_⟩
      refine ⟨_, rfl, _, rfl, k, x, rfl, hk2.same (hs.trans t1), depth_le hk85, fun H2 h2 => ⟨_, _, rfl, rfl, ?_⟩⟩
      have t2 : Same H' H2 := t1.trans h2
      refine ⟨_, rfl, _, _, rfl, rfl, _, rfl, ite2 (fun hge => ?_) (fun hge => ?_)⟩
      · have hle : knots k ≤ d + 1 := by
          have := of_decide_eq_true hge
          omega
        have eb : bou n (d + 1) ks j = (boughs n (d + 1 - knots k) (ks.drop j)).map (k :: ·) := by
          unfold bou
          rw [hg, if_pos hle]
        have hbl := bou_len (f := n) (m := d + 1) (ks := ks) (n := j) (by omega)
        have hsub : (boughs n (d + 1 - knots k) (ks.drop j)).length ≤ 1000 := by
          rw [eb, List.length_map] at hbl
          omega
        have ecast : (((d + 1 : Nat) : Int) - (knots k : Nat)) = ((d + 1 - knots k : Nat) : Int) := by omega
        refine ⟨_, rfl, _, rfl, _, rfl, _, rfl, (j : Int), rfl, a, xs, rfl, t2.seq hS', fun p hp => ?_⟩
        have t3 : Same H' (upd H2 p (.lst (cutV xs (some (j : Int)) none))) := t2.trans (same_upd hp)
        refine ⟨d + 1 - knots k, p, xs.drop j, ks.drop j, ?_, by omega, by omega, ?_, paired_drop j (hT.same (hs.trans t3)), hsub, fun p3 ys3 H3 h3 hrows3 hp3 => ?_⟩
        · rw [← ecast]
          rfl
        · rw [cutV_drop (Nat.le_of_lt hlt)]
          exact .of upd_same
        have t4 : Same H' H3 := t3.trans h3
        -- the comprehension
        refine ⟨p3, rfl, ⟨ys3, .of hp3⟩, fun D hD => lc_list (xs := ys3) (fun i H4 => Same H3 H4 ∧ ∃ acc, H4 D = some (.lst acc) ∧ Rows H4 (((boughs n (d + 1 - knots k) (ks.drop j)).take i).map (k :: ·)) acc) ⟨same_upd hD, [], upd_same, .nil⟩
          (fun i H4 _ h => h.1.seq (.of hp3)) (fun i y H4 hy h => ?_) fun H4 h => ?_⟩
        · obtain ⟨u1, acc, hacc, hra⟩ := h
          obtain ⟨row, hrow, hrv⟩ := paired_get hrows3 hy
          have hrl := row_len n _ _ (fun k' hk' => hks k' (List.mem_of_mem_drop hk')) row (List.mem_of_getElem? hrow)
          obtain ⟨pb, zs, rfl, hfb, htb⟩ := hrv.sameF (samef u1)
          have hzl := htb.length
          have hal := hra.length
          rw [List.length_map, List.length_take] at hal
          have t5 : Same H' H4 := t4.trans u1
          have hk4 : Tr H4 k x := hk2.same (hs.trans t5)
          have hsmall : acc.length < sizeLine := small1000 (by omega)
          have etake : ((boughs n (d + 1 - knots k) (ks.drop j)).take (i + 1)).map (k :: ·) = ((boughs n (d + 1 - knots k) (ks.drop j)).take i).map (k :: ·) ++ [k :: row] := by
            rw [List.take_add_one, hrow, List.map_append]
            rfl
          refine ⟨rfl, ?_⟩
          refine ⟨_, rfl, ⟨by show 1 ≤ sizeLine; decide, fun t its c1 ht => ⟨_, rfl, t, pb, [x], zs, rfl, rfl, FT.new, (hfb.same (same_upd ht)).sq, by simp, ?_, fun ez => ?_, fun ez p5 its5 c5 hp5 => ?_⟩⟩⟩
          · have : zs.length ≤ 999 := by omega
            exact Nat.le_of_lt (small1000 (by rw [List.length_singleton]; omega))
          · have v1 : Same H4 (upd H4 t (.frz (tupO its c1) (.tup [x]))) := same_upd ht
            have hD1 := v1 _ _ hacc
            have w1 := samef_upd (o := .lst (acc ++ [.ref t])) hD1
            subst ez
            refine ⟨acc, hD1, hsmall, same_over (u1.trans v1) hD, _, upd_same, ?_⟩
            rw [etake]
            refine paired_app (hra.sameF ((samef v1).trans w1)) (.cons ⟨t, [x], rfl, FT.new.sameF w1, ?_⟩ .nil)
            cases htb
            exact .cons ((hk4.same v1).sameF w1) .nil
          · have v1 : Same H4 (upd H4 t (.frz (tupO its c1) (.tup [x]))) := same_upd ht
            have v2 := v1.trans (same_upd (o := .frz (tupO its5 c5) (.tup ([x] ++ zs))) hp5)
            have hD1 := v2 _ _ hacc
            have w1 := samef_upd (o := .lst (acc ++ [.ref p5])) hD1
            refine ⟨acc, hD1, hsmall, same_over (u1.trans v2) hD, _, upd_same, ?_⟩
            rw [etake]
            exact paired_app (hra.sameF ((samef v2).trans w1)) (.cons ⟨p5, [x] ++ zs, rfl, FT.new.sameF w1, .cons ((hk4.same v2).sameF w1) ((htb.same v2).sameF w1)⟩ .nil)
        · obtain ⟨u1, acc, hacc, hra⟩ := h
          rw [← hrows3.length, List.take_length, ← eb] at hra
          have t5 : Same H' H4 := t4.trans u1
          have hyl := hrows.length
          have hal := hra.length
          have hb1 := bouTo_le n (d + 1) ks j (ks.length - j)
          rw [show j + (ks.length - j) = ks.length by omega] at hb1
          refine ⟨r, D, ys, acc, rfl, rfl, t5 _ _ hr1, hacc, Nat.le_trans (Nat.add_le_add (show ys.length ≤ 1000 by omega) (show acc.length ≤ 1000 by omega)) (by decide), fun p4 hp4 => ?_⟩
          have t6 : Same H' (upd H4 p4 (.lst (ys ++ acc))) := t5.trans (same_upd hp4)
          refine ⟨by omega, hs.trans t6, p4, ys ++ acc, some (.int (j : Nat)), some x, some (.int (((d + 1 : Nat) : Int) - (knots k : Nat))), rfl, upd_same, ?_⟩
          rw [bouTo_succ]
          exact paired_app (hrows.same t6) (hra.same (same_upd hp4))
      · have hlt2 : ¬ knots k ≤ d + 1 := fun z => hge (decide_eq_true (by omega))
        have eb : bou n (d + 1) ks j = [] := by
          unfold bou
          rw [hg, if_neg hlt2]
        refine ⟨by omega, hs.trans t2, r, ys, some (.int (j : Nat)), some x, some (.int (((d + 1 : Nat) : Int) - (knots k : Nat))), rfl, t2 _ _ hr1, ?_⟩
        rw [bouTo_succ, eb, List.append_nil]
        exact hrows.same t2
    · refine .inl ⟨⟨xs, hS', by omega⟩, _, rfl, ?_⟩
      have ej : j = ks.length := by omega
      subst ej
      exact q r ys H' hs hrows hr1
theorem ok_boughs {f g : Addr} {fd gd : FuncData} (F : Fun K "boughs_of" "boughs_of" sBoughs f fd) (b : Binds K fd ["many", "pool"] []) (m : mg "boughs_of" = some (.ref f))
    (GK : FnOk P w K mg base CX0 7 g gd ["tree"] (spKnots 7)) (bK : Binds K gd ["tree"] []) (kK : PySem.W.keepIn K (.ref g) = true) (mK : mg "knots_in" = some (.ref g)) (me : mg "enumerate" = none) :
    ∀ n : Nat, FnOk P w K mg base CX0 (n + 7) f fd ["many", "pool"] (spBoughs K n)
  | 0 => vacuous fun vs H Q E ⟨c, a, xs, ks, _, hc, _⟩ => absurd hc (Nat.not_lt_zero _)
  | n + 1 => ok_boughs_step F b m (ok_boughs F b m GK bK kK mK me n) GK bK kK mK me
end
end SG
namespace SG
open PySem L2 PySem.Spec PyProof.Rows
theorem rows_trs {H : Hp} {rows : List (List Nat)} {ys : List V} (h : Rows H rows ys) (hr : ∀ row ∈ rows, numOf row < 85 ∧ kids (numOf row) = row) : Trs H (rows.map numOf) ys := by
  induction h with
  | nil => exact .nil
  | cons r _ ih =>
    obtain ⟨a, xs, rfl, hf, ht⟩ := r
    obtain ⟨h1, h2⟩ := hr _ List.mem_cons_self
    exact .cons (.mk h1 hf (by rw [h2]; exact ht)) (ih fun row hm => hr row (List.mem_cons_of_mem _ hm))
theorem pool_len {j : Nat} (hj : j ≤ 7) : (poolOf j).length ≤ 85 := by
  unfold poolOf
  rw [List.length_reverse, srt_len]
  exact tos_len hj
theorem scTo : FnScope ["most", "found", "many"] ["most"] (defScope sTo) := ⟨rfl, rfl, rfl, by decide +kernel, rfl, by decide +kernel, by decide +kernel⟩
theorem scOf : FnScope ["many"] ["many"] (defScope sOf) := ⟨rfl, rfl, rfl, by decide +kernel, rfl, by decide +kernel, by decide +kernel⟩
section
variable {w : World} {P : Program} {base : Heap} {K : PySem.W.Frag} {mg : Str → Option Value} {f gw gb gf gt : Addr} {fd wd bd ffd td : FuncData} {tk : Tok}
/-! ### trees_to(most) -/
def spTo : Sp := fun vs H Q _ => ∃ m : Nat, vs = [.int (m : Nat)] ∧ m ≤ 7 ∧ ∀ (p : Addr) (ys : List V) (H' : Hp), Same H H' → Trs H' (tos m) ys → H' p = some (.lst ys) → Q (.ref p) H'
theorem ok_to (F : Fun K "trees_to" "trees_to" sTo f fd) (W : FnOk P w K mg base CX0 1 gw wd ["thing"] spWhole) (bW : Binds K wd ["thing"] []) (kW : PySem.W.keepIn K (.ref gw) = true) (mW : mg "is_whole" = some (.ref gw))
    (B : FnOk P w K mg base CX0 14 gb bd ["many", "pool"] (spBoughs K 7)) (bB : Binds K bd ["many", "pool"] []) (kB : PySem.W.keepIn K (.ref gb) = true) (mB : mg "boughs_of" = some (.ref gb))
    (FF : FnOk P w K mg base CX0 1 gf ffd ["things"] (spFalling K)) (bF : Binds K ffd ["things"] []) (kF : PySem.W.keepIn K (.ref gf) = true) (mF : mg "falling" = some (.ref gf))
    (mN : mg "MOST_KNOTS" = some (.int 7 tk)) (mr : mg "range" = none) (ms : mg "sorted" = none) (ml : mg "list" = none) : FnOk P w K mg base CX0 15 f fd ["most"] spTo := by
  refine F.ok scTo (fun vs H Q E h => ?_) (fun cdv A outer s H vs Q E hr h => ?_)
  · obtain ⟨m, rfl, _⟩ := h
    rfl
  obtain ⟨m, rfl, hm, q⟩ := h
  refine ⟨_, pss_cons (ps_if (PW.pt (pw_or (pt_not (pt_val (pe_call W (hr.mono (by decide)) rfl mW kW bW .nil pass0 (pa_cons (pv 0) pa_nil)))) (pw_or (pt_cmpR op_lt (pv 0) pe_int (nomark _)) (pw_or1 (pt_cmpR op_gt (pv 0) (pe_glob (v := .int 7) (by rfl) mN ⟨_, rfl⟩) (nomark _)))))) pss_never pss_nil)
    (pss_cons (ps_set (i := 1) scTo.nd rfl (.inl rfl) (pe_lst pa_nil))
    (pss_cons (ps_for PassesOwn.never rfl (pi_range2 (by rfl) mr (pa_cons pe_int (pa_cons (pe_op op_add (pv 0) pe_int) pa_nil))) (pg_name (i := 2) scTo.nd rfl (.inl rfl))
      (pss_one (ps_set (i := 1) scTo.nd rfl (.inl rfl) (pe_op op_cat (pv 1) (pe_callB (cr_sortedTr (hu10 hr)) (by rfl) ms (by decide +kernel) (pa_cons
        (pe_call B (hr.mono (by decide)) rfl mB kB bB .nil pass0 (pa_cons (pe_op op_sub (pv 2) pe_int) (pa_cons (pe_callTy call_list_of (by rfl) ml (by decide +kernel) (pa_cons (pe_call FF (hr.mono (by decide)) rfl mF kF bF .nil pass0 (pa_cons (pv 1) pa_nil)) pa_nil)) pa_nil))) pa_nil))))))
    (pss_one (ps_ret (pv 1))))), ?_⟩
  refine ⟨_, rfl, _, rfl, true, rfl, iteF ⟨_, rfl, _, _, rfl, rfl, _, rfl, ?_⟩⟩
  rw [decide_eq_false (show ¬ ((m : Nat) : Int) < 0 by omega)]
  refine iteF ⟨_, rfl, _, _, rfl, rfl, _, rfl, ?_⟩
  rw [decide_eq_false (show ¬ (7 : Int) < ((m : Nat) : Int) by omega)]
  refine iteF ⟨Nat.zero_le _, fun o ho => ?_⟩
  refine ⟨_, rfl, _, _, rfl, rfl, 1, (m : Nat) + 1, rfl, ⟨by omega, by omega, by omega, by omega⟩, ?_⟩
  rw [show (((m : Nat) : Int) + 1 - 1).toNat = m by omega]
  refine for_range (lo := 1) (n := m) (fun j σ H' => Same H H' ∧ ∃ r ys y, σ = [some (.int (m : Nat)), some (.ref r), y] ∧ H' r = some (.lst ys) ∧ Trs H' (tos j) ys) ⟨same_upd ho, o, [], none, rfl, upd_same, .nil⟩ (fun j σ H' hj h => ?_) (fun σ H' h => ?_)
  · obtain ⟨hs, r, ys, y, rfl, hr1, ht⟩ := h
    have hj7 : j < 7 := by omega
    obtain ⟨hrow, hsrt, h48⟩ := rows_ok hj7
    refine ⟨_, rfl, _, rfl, _, _, rfl, rfl, _, rfl, r, ys, tos j, rfl, .inl (.of hr1), ht, fun p1 ys1 H1 h1 ht1 hp1 => ?_⟩
    refine ⟨p1, ys1, rfl, .inr (.of hp1), fun l hl => ?_⟩
    have s1 : Same H1 (upd H1 l (.lst ys1)) := same_upd hl
    refine ⟨j, l, ys1, poolOf j, ?_, hj7, Nat.le_refl _, .of upd_same, ht1.same s1, Nat.le_trans h48 (by decide), fun p2 rows H2 h2 hrows hp2 => ?_⟩
    · show [V.int (1 + (j : Int) - 1), V.ref l] = [V.int (j : Nat), V.ref l]
      rw [show (1 : Int) + (j : Int) - 1 = (j : Nat) by omega]
    have t2 : Same H' H2 := h1.trans (s1.trans h2)
    refine ⟨p2, rows, _, rfl, .inl (.of hp2), rows_trs hrows hrow, fun ys3 p3 hy3 hp3 => ?_⟩
    rw [hsrt] at hy3
    have t3 : Same H2 (upd H2 p3 (.lst ys3)) := same_upd hp3
    have l1 := ht.length
    have l2 := tos_len (n := j) (by omega)
    have l3 := hy3.length
    have l4 : (ofs (j + 1)).length ≤ 48 := by rw [← hsrt, srt_len, List.length_map]; exact h48
    refine ⟨r, p3, ys, ys3, rfl, rfl, (t2.trans t3) _ _ hr1, upd_same, Nat.le_trans (Nat.add_le_add (show ys.length ≤ 1000 by omega) (show ys3.length ≤ 1000 by omega)) (by decide), fun p4 hp4 => ?_⟩
    have t4 := same_upd (o := .lst (ys ++ ys3)) hp4
    refine ⟨hs.trans ((t2.trans t3).trans t4), p4, ys ++ ys3, some (.int (1 + (j : Nat))), rfl, upd_same, ?_⟩
    rw [tos_succ hj7]
    exact paired_app (ht.same ((t2.trans t3).trans t4)) (hy3.same (t3.trans t4))
  · obtain ⟨hs, r, ys, y, rfl, hr1, ht⟩ := h
    exact ⟨_, rfl, q r ys H' hs ht hr1⟩
/-! ### trees_of(many) -/
def spOf : Sp := fun vs H Q _ => ∃ m : Nat, vs = [.int ((m + 1 : Nat) : Int)] ∧ m < 7 ∧ ∀ (p : Addr) (ys : List V) (H' : Hp), Same H H' → Trs H' (ofs (m + 1)) ys → H' p = some (.lst ys) → Q (.ref p) H'
theorem ok_of (F : Fun K "trees_of" "trees_of" sOf f fd) (W : FnOk P w K mg base CX0 1 gw wd ["thing"] spWhole) (bW : Binds K wd ["thing"] []) (kW : PySem.W.keepIn K (.ref gw) = true) (mW : mg "is_whole" = some (.ref gw))
    (B : FnOk P w K mg base CX0 14 gb bd ["many", "pool"] (spBoughs K 7)) (bB : Binds K bd ["many", "pool"] []) (kB : PySem.W.keepIn K (.ref gb) = true) (mB : mg "boughs_of" = some (.ref gb))
    (FF : FnOk P w K mg base CX0 1 gf ffd ["things"] (spFalling K)) (bF : Binds K ffd ["things"] []) (kF : PySem.W.keepIn K (.ref gf) = true) (mF : mg "falling" = some (.ref gf))
    (TT : FnOk P w K mg base CX0 15 gt td ["most"] spTo) (bT : Binds K td ["most"] []) (kT : PySem.W.keepIn K (.ref gt) = true) (mT : mg "trees_to" = some (.ref gt))
    (mN : mg "MOST_KNOTS" = some (.int 7 tk)) (ms : mg "sorted" = none) (ml : mg "list" = none) : FnOk P w K mg base CX0 16 f fd ["many"] spOf := by
  refine F.ok scOf (fun vs H Q E h => ?_) (fun cdv A outer s H vs Q E hr h => ?_)
  · obtain ⟨m, rfl, _⟩ := h
    rfl
  obtain ⟨m, rfl, hm, q⟩ := h
  refine ⟨_, pss_cons (ps_if (PW.pt (pw_or (pt_not (pt_val (pe_call W (hr.mono (by decide)) rfl mW kW bW .nil pass0 (pa_cons (pv 0) pa_nil)))) (pw_or (pt_cmpR op_lt (pv 0) pe_int (nomark _)) (pw_or1 (pt_cmpR op_gt (pv 0) (pe_glob (v := .int 7) (by rfl) mN ⟨_, rfl⟩) (nomark _)))))) pss_never pss_nil)
    (pss_one (ps_ret (pe_callB (cr_sortedTr (hu10 hr)) (by rfl) ms (by decide +kernel) (pa_cons
        (pe_call B (hr.mono (by decide)) rfl mB kB bB .nil pass0 (pa_cons (pe_op op_sub (pv 0) pe_int) (pa_cons (pe_callTy call_list_of (by rfl) ml (by decide +kernel) (pa_cons (pe_call FF (hr.mono (by decide)) rfl mF kF bF .nil pass0 (pa_cons
          (pe_call TT (hr.mono (by decide)) rfl mT kT bT .nil pass0 (pa_cons (pe_op op_sub (pv 0) pe_int) pa_nil)) pa_nil)) pa_nil)) pa_nil))) pa_nil)))), ?_⟩
  obtain ⟨hrow, hsrt, h48⟩ := rows_ok hm
  refine ⟨_, rfl, _, rfl, true, rfl, iteF ⟨_, rfl, _, _, rfl, rfl, _, rfl, ?_⟩⟩
  rw [decide_eq_false (show ¬ ((m + 1 : Nat) : Int) < 1 by omega)]
  refine iteF ⟨_, rfl, _, _, rfl, rfl, _, rfl, ?_⟩
  rw [decide_eq_false (show ¬ (7 : Int) < ((m + 1 : Nat) : Int) by omega)]
  have em : (((m + 1 : Nat) : Int) - 1) = (m : Nat) := by omega
  refine iteF ⟨_, rfl, _, _, rfl, rfl, _, rfl, _, _, rfl, rfl, m, ?_, by omega, fun p0 ys0 H0 h0 ht0 hp0 => ?_⟩
  · rw [← em]
    rfl
  refine ⟨p0, ys0, tos m, rfl, .inl (.of hp0), ht0, fun p1 ys1 H1 h1 ht1 hp1 => ?_⟩
  refine ⟨p1, ys1, rfl, .inr (.of hp1), fun l hl => ?_⟩
  have s1 : Same H1 (upd H1 l (.lst ys1)) := same_upd hl
  refine ⟨m, l, ys1, poolOf m, ?_, hm, Nat.le_refl _, .of upd_same, ht1.same s1, Nat.le_trans h48 (by decide), fun p2 rows H2 h2 hrows hp2 => ?_⟩
  · rw [← em]
    rfl
  have t2 : Same H H2 := h0.trans (h1.trans (s1.trans h2))
  refine ⟨p2, rows, _, rfl, .inl (.of hp2), rows_trs hrows hrow, fun ys3 p3 hy3 hp3 => ?_⟩
  rw [hsrt] at hy3
  have t3 : Same H2 (upd H2 p3 (.lst ys3)) := same_upd hp3
  exact q p3 ys3 _ (t2.trans t3) (hy3.same t3) upd_same
end
end SG
namespace SG
open PySem L2 PySem.Spec PyProof.Rows
/-! ### the law's own small defs: some number -/
theorem scCell : FnScope ["_law_script", "_law_k"] ["_law_script", "_law_k"] (defScope sCell) := ⟨rfl, rfl, rfl, by decide +kernel, rfl, by decide +kernel, by decide +kernel⟩
theorem scMixed : FnScope ["_law_cell", "_law_k", "_law_number"] ["_law_cell", "_law_k"] (defScope sMixed) := ⟨rfl, rfl, rfl, by decide +kernel, rfl, by decide +kernel, by decide +kernel⟩
theorem scRest : FnScope ["_law_script", "_law_k", "_law_cell", "_law_big"] ["_law_script", "_law_k"] (defScope sRest) := ⟨rfl, rfl, rfl, by decide +kernel, rfl, by decide +kernel, by decide +kernel⟩
section
variable {w : World} {P : Program} {base : Heap} {K : PySem.W.Frag} {mg : Str → Option Value} {f gc gm : Addr} {fd cd md : FuncData}
/-- a cell of the script, or 0: some number -/
def spCellI (K : PySem.W.Frag) : Sp := fun vs H Q _ => ∃ (a : Addr) (ns : List Int) (k : Nat), vs = [.ref a, .int (k : Nat)] ∧ SqL K H a (ns.map V.int) ∧ ∀ i : Int, Q (.int i) H
theorem ok_cell (F : Fun K "_law_cell_at" "_law_cell_at" sCell f fd) (ml : mg "len" = none) : FnOk P w K mg base CX0 1 f fd ["_law_script", "_law_k"] (spCellI K) := by
  refine F.ok scCell (fun vs H Q E h => ?_) (fun cdv A outer s H vs Q E hr h => ?_)
  · obtain ⟨a, ns, k, rfl, _⟩ := h
    rfl
  obtain ⟨a, ns, k, rfl, hS, q⟩ := h
  refine ⟨_, pss_cons (ps_if (pt_cmpR op_lt (pv 1) (pe_callB call_len_seq (by rfl) ml PySem.boot_len (pa_cons (pv 0) pa_nil)) (nomark _))
    (pss_one (ps_ret (pe_ix ix_list (pv 0) (pv 1) (fun _ _ => rfl)))) pss_nil) (pss_one (ps_ret pe_int)), ?_⟩
  refine ⟨_, rfl, _, rfl, a, _, rfl, .inl hS, _, _, rfl, rfl, _, rfl, ite2 (fun c => ?_) (fun _ => q 0)⟩
  have c' := of_decide_eq_true c
  rw [List.length_map] at c'
  exact ⟨_, rfl, _, rfl, a, _, _, _, rfl, rfl, hS, atI_cell (by omega), q _⟩
/-- some number below the last of the law's three odd numbers -/
def spMixed : Sp := fun vs H Q _ => ∃ c k : Int, vs = [.int c, .int k] ∧ ∀ i : Int, 0 ≤ i → i < 2147483587 → Q (.int i) H
theorem ok_mixed (F : Fun K "_law_mixed" "_law_mixed" sMixed f fd) : FnOk P w K mg base CX0 1 f fd ["_law_cell", "_law_k"] spMixed := by
  refine F.ok scMixed (fun vs H Q E h => ?_) (fun cdv A outer s H vs Q E hr h => ?_)
  · obtain ⟨c, k, rfl, _⟩ := h
    rfl
  obtain ⟨c, k, rfl, q⟩ := h
  refine ⟨_, pss_cons (ps_set (i := 2) scMixed.nd rfl (.inl rfl) (pe_op op_mod (pe_op op_add (pe_op op_add (pe_op op_mul (pe_op op_mod (pv 0) pe_int) pe_int) (pe_op op_mul (pv 1) pe_int)) pe_int) pe_int))
    (pss_cons (ps_set (i := 2) scMixed.nd rfl (.inl rfl) (pe_op op_mod (pe_op op_mul (pv 2) (pv 2)) pe_int))
    (pss_one (ps_ret (pe_op op_mod (pe_op op_mul (pv 2) (pv 2)) pe_int)))), ?_⟩
  have p1 : (0 : Int) < 2147483647 := by decide
  have p2 : (0 : Int) < 2147483629 := by decide
  have p3 : (0 : Int) < 2147483587 := by decide
  refine ⟨_, rfl, _, _, rfl, rfl, p1, _, _, rfl, rfl, .inr ⟨by decide, by decide⟩, _, rfl, _, _, rfl, rfl, .inr ⟨by decide, by decide⟩, _, _, rfl, rfl, _, _, rfl, rfl, _, _, rfl, rfl, p1, ?_⟩
  refine ⟨_, rfl, _, rfl, _, _, rfl, rfl, .inl ⟨by omega, by omega⟩, _, _, rfl, rfl, p2, ?_⟩
  refine ⟨_, rfl, _, rfl, _, _, rfl, rfl, .inl ⟨by omega, by omega⟩, _, _, rfl, rfl, p3, ?_⟩
  exact q _ (Int.emod_nonneg _ (by decide)) (Int.emod_lt_of_pos _ p3)
/-- some number -/
def spRest (K : PySem.W.Frag) : Sp := fun vs H Q _ => ∃ (a : Addr) (ns : List Int) (k : Nat), vs = [.ref a, .int (k : Nat)] ∧ SqL K H a (ns.map V.int) ∧ ∀ i : Int, Q (.int i) H
theorem ok_rest (F : Fun K "_law_rest" "_law_rest" sRest f fd) (C : FnOk P w K mg base CX0 1 gc cd ["_law_script", "_law_k"] (spCellI K)) (bC : Binds K cd ["_law_script", "_law_k"] []) (kC : PySem.W.keepIn K (.ref gc) = true) (mC : mg "_law_cell_at" = some (.ref gc))
    (M : FnOk P w K mg base CX0 1 gm md ["_law_cell", "_law_k"] spMixed) (bM : Binds K md ["_law_cell", "_law_k"] []) (kM : PySem.W.keepIn K (.ref gm) = true) (mM : mg "_law_mixed" = some (.ref gm)) (ma : mg "abs" = none) : FnOk P w K mg base CX0 2 f fd ["_law_script", "_law_k"] (spRest K) := by
  refine F.ok scRest (fun vs H Q E h => ?_) (fun cdv A outer s H vs Q E hr h => ?_)
  · obtain ⟨a, ns, k, rfl, _⟩ := h
    rfl
  obtain ⟨a, ns, k, rfl, hS, q⟩ := h
  refine ⟨_, pss_cons (ps_set (i := 2) scRest.nd rfl (.inl rfl) (pe_call C (hr.mono (by decide)) rfl mC kC bC .nil pass0 (pa_cons (pv 0) (pa_cons (pv 1) pa_nil))))
    (pss_cons (ps_if (pt_cmpR op_ge (pe_callB call_abs (by rfl) ma (by decide +kernel) (pa_cons (pv 2) pa_nil)) (pe_op op_pow pe_int pe_int) (nomark _)) (pss_one (ps_ret (pv 2))) pss_nil)
    (pss_cons (ps_set (i := 3) scRest.nd rfl (.inl rfl) (pe_op op_add (pe_call M (hr.mono (by decide)) rfl mM kM bM .nil pass0 (pa_cons (pv 2) (pa_cons (pv 1) pa_nil)))
      (pe_op op_mul (pe_call M (hr.mono (by decide)) rfl mM kM bM .nil pass0 (pa_cons (pv 2) (pa_cons (pe_op op_add (pv 1) pe_int) pa_nil))) pe_int)))
    (pss_one (ps_ret (pe_op op_add (pv 3) (pe_op op_mul (pe_op op_mul (pe_call M (hr.mono (by decide)) rfl mM kM bM .nil pass0 (pa_cons (pv 2) (pa_cons (pe_op op_add (pv 1) pe_int) pa_nil))) pe_int) pe_int)))))), ?_⟩
  refine ⟨_, rfl, _, rfl, a, ns, k, rfl, hS, fun c => ?_⟩
  refine ⟨_, rfl, _, rfl, _, _, rfl, rfl, ⟨by decide, by decide, by decide⟩, _, _, rfl, rfl, _, rfl, ite2 (fun _ => ⟨_, rfl, q _⟩) (fun _ => ?_)⟩
  refine ⟨_, rfl, _, rfl, _, _, rfl, fun x hx0 hx => ?_⟩
  refine ⟨_, rfl, _, rfl, _, _, rfl, rfl, _, _, rfl, fun y hy0 hy => ⟨_, _, rfl, rfl, .inr ⟨by decide, by decide⟩, _, _, rfl, rfl, ?_⟩⟩
  refine ⟨_, rfl, _, rfl, _, rfl, _, _, rfl, rfl, _, _, rfl, fun z hz0 hz => ⟨_, _, rfl, rfl, .inr ⟨by decide, by decide⟩, _, _, rfl, rfl, .inr ⟨by decide, by decide⟩, _, _, rfl, rfl, ?_⟩⟩
  exact q _
end
end SG
namespace SG
open PySem L2 PySem.Spec PyProof.Rows
/-! ### the counts of the law, plain -/
def sumW (m j : Nat) : Nat := (((ofs (m + 1)).take j).map ways).sum
def sumL (m j : Nat) : Nat := (((ofs (m + 1)).take j).map fun i => fac (m + 1) / turns i).sum
theorem sum_more {g : Nat → Nat} {l : List Nat} {j k : Nat} (h : l[j]? = some k) : ((l.take (j + 1)).map g).sum = ((l.take j).map g).sum + g k := by
  rw [List.take_add_one, h, Option.toList_some, List.map_append, List.sum_append]
  simp
theorem ways_le {i : Nat} (hi : i < 85) : ways i ≤ 5040 := of_decide_eq_true (each (p := fun i => decide (ways i ≤ 5040)) (by decide +kernel) hi)
theorem each_of {m : Nat} (hm : m < 7) {i : Nat} (hi : i ∈ ofs (m + 1)) : dens i * turns i * ways i = fac (m + 1) ∧ fac (m + 1) % turns i = 0 ∧ knots i = m + 1 := by
  have key : ∀ m, m < 7 → (ofs (m + 1)).all (fun i => decide (dens i * turns i * ways i = fac (m + 1) ∧ fac (m + 1) % turns i = 0 ∧ knots i = m + 1)) = true := by decide +kernel
  exact of_decide_eq_true (List.all_eq_true.mp (key m hm) i hi)
theorem sums_of {m : Nat} (hm : m < 7) : sumW m (ofs (m + 1)).length * (m + 1) = fac (m + 1) ∧ sumL m (ofs (m + 1)).length = (m + 1) ^ m := by
  have key : ∀ m, m < 7 → decide (sumW m (ofs (m + 1)).length * (m + 1) = fac (m + 1) ∧ sumL m (ofs (m + 1)).length = (m + 1) ^ m) = true := by decide +kernel
  exact of_decide_eq_true (key m hm)
theorem nodup_of {m : Nat} (hm : m < 7) : (ofs (m + 1)).Nodup ∧ (ofs (m + 1)).length ≤ 48 := by
  have key : ∀ m, m < 7 → decide ((ofs (m + 1)).Nodup ∧ (ofs (m + 1)).length ≤ 48) = true := by decide +kernel
  exact of_decide_eq_true (key m hm)
theorem count_of {m : Nat} (hm : m < 7) : [V.int 1, V.int 1, V.int 2, V.int 4, V.int 9, V.int 20, V.int 48][m]? = some (V.int ((ofs (m + 1)).length : Nat)) := by
  have key : ∀ m, m < 7 → decide (([1, 1, 2, 4, 9, 20, 48] : List Int)[m]? = some (((ofs (m + 1)).length : Nat) : Int)) = true := by decide +kernel
  have h := of_decide_eq_true (key m hm)
  show (([1, 1, 2, 4, 9, 20, 48] : List Int).map V.int)[m]? = _
  rw [List.getElem?_map, h]
  rfl
theorem fac_of {m : Nat} (hm : m < 7) : 1 ≤ fac (m + 1) ∧ fac (m + 1) ≤ 5040 := by
  have key : ∀ m, m < 7 → decide (1 ≤ fac (m + 1) ∧ fac (m + 1) ≤ 5040) = true := by decide +kernel
  exact of_decide_eq_true (key m hm)
theorem neF {x y : V} {A B : Prop} (e : x = y) (h : B) : if (!decide (x = y)) = true then A else B := by
  rw [if_neg (by simp [e])]
  exact h
theorem eqT {x y : V} {A B : Prop} (e : x = y) (h : A) : if decide (x = y) = true then A else B := by
  rw [if_pos (decide_eq_true e)]
  exact h
theorem scLaw : FnScope ["_law_script", "_law_many", "_law_product", "_law_k", "_law_trees", "_law_ways", "_law_labelled", "_law_tree", "_law_turns", "_law_powers"] ["_law_script"] (defScope sLaw) := ⟨rfl, rfl, rfl, by decide +kernel, rfl, by decide +kernel, by decide +kernel⟩
section
variable {w : World} {P : Program} {base : Heap} {K : PySem.W.Frag} {mg : Str → Option Value} {f gr go gt gd gw gk : Addr} {fd rd od td dd wd kd : FuncData}
/-! ### law(script) -/
def spLaw (K : PySem.W.Frag) : Sp := fun vs H Q _ => ∃ (a : Addr) (ns : List Int), vs = [.ref a] ∧ SqL K H a (ns.map V.int) ∧ ns.length ≤ 63 ∧ ∀ H', Q (.bl true) H'
theorem ok_law (F : Fun K "law" "law" sLaw f fd) (R : FnOk P w K mg base CX0 2 gr rd ["_law_script", "_law_k"] (spRest K)) (bR : Binds K rd ["_law_script", "_law_k"] []) (kR : PySem.W.keepIn K (.ref gr) = true) (mR : mg "_law_rest" = some (.ref gr))
    (O : FnOk P w K mg base CX0 16 go od ["many"] spOf) (bO : Binds K od ["many"] []) (kO : PySem.W.keepIn K (.ref go) = true) (mO : mg "trees_of" = some (.ref go))
    (T : FnOk P w K mg base CX0 15 gt td ["tree"] (spNum turns)) (bT : Binds K td ["tree"] []) (kT : PySem.W.keepIn K (.ref gt) = true) (mT : mg "tree_turns" = some (.ref gt))
    (D : FnOk P w K mg base CX0 15 gd dd ["tree"] (spNum dens)) (bD : Binds K dd ["tree"] []) (kD : PySem.W.keepIn K (.ref gd) = true) (mD : mg "tree_density" = some (.ref gd))
    (W : FnOk P w K mg base CX0 15 gw wd ["tree"] (spNum ways)) (bW : Binds K wd ["tree"] []) (kW : PySem.W.keepIn K (.ref gw) = true) (mW : mg "tree_ways" = some (.ref gw))
    (N : FnOk P w K mg base CX0 15 gk kd ["tree"] (spNum knots)) (bN : Binds K kd ["tree"] []) (kN : PySem.W.keepIn K (.ref gk) = true) (mN : mg "tree_knots" = some (.ref gk))
    (mr : mg "range" = none) (ml : mg "len" = none) (ms : mg "set" = none) : FnOk P w K mg base CX0 17 f fd ["_law_script"] (spLaw K) := by
  refine F.ok scLaw (fun vs H Q E h => ?_) (fun cdv A outer s H vs Q E hr h => ?_)
  · obtain ⟨a, ns, rfl, _⟩ := h
    rfl
  obtain ⟨a, ns, rfl, hS, h63, q⟩ := h
  refine ⟨_, pss_cons (ps_set (i := 1) scLaw.nd rfl (.inl rfl) (pe_op op_add pe_int (pe_op op_mod (pe_call R (hr.mono (by decide)) rfl mR kR bR .nil pass0 (pa_cons (pv 0) (pa_cons pe_int pa_nil))) pe_int)))
    (pss_cons (ps_set (i := 2) scLaw.nd rfl (.inl rfl) pe_int)
    (pss_cons (ps_for PassesOwn.never rfl (pi_range2 (by rfl) mr (pa_cons pe_int (pa_cons (pe_op op_add (pv 1) pe_int) pa_nil))) (pg_name (i := 3) scLaw.nd rfl (.inl rfl))
      (pss_one (ps_set (i := 2) scLaw.nd rfl (.inl rfl) (pe_op op_mul (pv 2) (pv 3)))))
    (pss_cons (ps_set (i := 4) scLaw.nd rfl (.inl rfl) (pe_call O (hr.mono (by decide)) rfl mO kO bO .nil pass0 (pa_cons (pv 1) pa_nil)))
    (pss_cons (ps_set (i := 5) scLaw.nd rfl (.inl rfl) pe_int)
    (pss_cons (ps_set (i := 6) scLaw.nd rfl (.inl rfl) pe_int)
    (pss_cons (ps_for PassesOwn.never rfl (pi_list (pv 4)) (pg_name (i := 7) scLaw.nd rfl (.inl rfl))
      (pss_cons (ps_set (i := 8) scLaw.nd rfl (.inl rfl) (pe_call T (hr.mono (by decide)) rfl mT kT bT .nil pass0 (pa_cons (pv 7) pa_nil)))
      (pss_cons (ps_if (PW.pt (pw_or (pt_cmpR op_ne (pe_op op_mul (pe_op op_mul (pe_call D (hr.mono (by decide)) rfl mD kD bD .nil pass0 (pa_cons (pv 7) pa_nil)) (pv 8)) (pe_call W (hr.mono (by decide)) rfl mW kW bW .nil pass0 (pa_cons (pv 7) pa_nil))) (pv 2) (nomark _))
          (pw_or (pt_cmpR op_ne (pe_op op_mod (pv 2) (pv 8)) pe_int (nomark _))
          (pw_or1 (pt_cmpR op_ne (pe_call N (hr.mono (by decide)) rfl mN kN bN .nil pass0 (pa_cons (pv 7) pa_nil)) (pv 1) (nomark _)))))) (pss_one (ps_ret pe_bl)) pss_nil)
      (pss_cons (ps_set (i := 5) scLaw.nd rfl (.inl rfl) (pe_op op_add (pv 5) (pe_call W (hr.mono (by decide)) rfl mW kW bW .nil pass0 (pa_cons (pv 7) pa_nil))))
      (pss_one (ps_set (i := 6) scLaw.nd rfl (.inl rfl) (pe_op op_add (pv 6) (pe_op op_fdiv (pv 2) (pv 8)))))))))
    (pss_cons (ps_set (i := 9) scLaw.nd rfl (.inl rfl) pe_int)
    (pss_cons (ps_for PassesOwn.never rfl (pi_range1 (by rfl) mr (pa_cons (pe_op op_sub (pv 1) pe_int) pa_nil)) (pg_name (i := 3) scLaw.nd rfl (.inl rfl))
      (pss_one (ps_set (i := 9) scLaw.nd rfl (.inl rfl) (pe_op op_mul (pv 9) (pv 1)))))
    (pss_cons (ps_if (PW.pt (pw_or (pt_cmpR op_ne (pe_lenSetTr rfl (hu16 hr) (by rfl) ml (by rfl) ms (pv 4)) (pe_ix ix_list (pe_lst (pa_cons pe_int (pa_cons pe_int (pa_cons pe_int (pa_cons pe_int (pa_cons pe_int (pa_cons pe_int (pa_cons pe_int pa_nil)))))))) (pe_op op_sub (pv 1) pe_int) (fun _ _ => rfl)) (nomark _))
        (pw_or1 (pt_cmpR op_ne (pe_callB call_len_seq (by rfl) ml PySem.boot_len (pa_cons (pv 4) pa_nil)) (pe_lenSetTr rfl (hu16 hr) (by rfl) ml (by rfl) ms (pv 4)) (nomark _))))) (pss_one (ps_ret pe_bl)) pss_nil)
    (pss_one (ps_ret (pe_and (pe_cmpR op_eq (pe_op op_mul (pv 5) (pv 1)) (pv 2) (nomark _)) (pe_one (pe_cmpR op_eq (pv 6) (pv 9) (nomark _))))))))))))))), ?_⟩
  refine ⟨_, rfl, a, ns, 0, rfl, hS, fun r => ?_⟩
  obtain ⟨m, hm, em⟩ : ∃ m : Nat, m < 7 ∧ r % 7 = (m : Nat) := ⟨(r % 7).toNat, by omega, by omega⟩
  refine ⟨_, _, rfl, rfl, (show (0 : Int) < 7 by decide), _, _, rfl, rfl, ?_⟩
  rw [em]
  obtain ⟨f1, f2⟩ := fac_of hm
  -- the product
  refine ⟨_, rfl, _, _, rfl, rfl, 2, 1 + (m : Nat) + 1, rfl, ⟨by omega, by omega, by omega, by omega⟩, ?_⟩
  rw [show (1 + ((m : Nat) : Int) + 1 - 2).toNat = m by omega]
  refine for_range (lo := 2) (n := m) (fun j σ H' => H' = H ∧ ∃ y, σ = [some (.ref a), some (.int ((m + 1 : Nat) : Int)), some (.int (fac (j + 1) : Nat)), y, none, none, none, none, none, none]) ⟨rfl, none, by rw [show ((m + 1 : Nat) : Int) = 1 + (m : Nat) by omega]; rfl⟩ (fun j σ H' hj h => ?_) (fun σ H' h => ?_)
  · obtain ⟨rfl, y, rfl⟩ := h
    have hf := (fac_of (m := j) (by omega)).2
    refine ⟨_, rfl, _, rfl, _, _, rfl, rfl, .inl ⟨by omega, by omega⟩, rfl, some (.int (2 + (j : Nat))), ?_⟩
    have e : ((fac (j + 1) : Nat) : Int) * (2 + (j : Nat)) = (fac (j + 1 + 1) : Nat) := by
      show _ = (((fac (j + 1) * (j + 1 + 1) : Nat)) : Int)
      rw [Int.natCast_mul, show ((j + 1 + 1 : Nat) : Int) = 2 + (j : Nat) by omega]
    rw [← e]
    rfl
  obtain ⟨rfl, y3, rfl⟩ := h
  -- the trees
  refine ⟨_, rfl, m, rfl, hm, fun p ys H1 h1 ht hp => ?_⟩
  obtain ⟨nd, l48⟩ := nodup_of hm
  have hlen := ht.length
  refine ⟨_, rfl, p, rfl, ⟨_, .of hp⟩, ?_⟩
  refine for_list (a := p) (xs := ys) (fun j σ H' => Same H1 H' ∧ ∃ y7 y8, σ = [some (.ref a), some (.int ((m + 1 : Nat) : Int)), some (.int (fac (m + 1) : Nat)), y3, some (.ref p), some (.int (sumW m j : Nat)), some (.int (sumL m j : Nat)), y7, y8, none])
    ⟨fun _ _ e => e, none, none, rfl⟩ (fun j σ H' hj h => .of (h.1 _ _ hp)) (fun j x σ H' hx h => ?_) (fun σ H' h => ?_)
  · obtain ⟨hs, y7, y8, rfl⟩ := h
    obtain ⟨k, hk1, hk2⟩ := paired_get ht hx
    have hv := hk2.same hs
    have hi := hv.lt
    obtain ⟨e1, e2, e3⟩ := each_of hm (List.mem_of_getElem? hk1)
    obtain ⟨t1, t2⟩ := turns_le hi
    have d1 := (dens_le hi).2
    have w1 := ways_le hi
    have tpos : (0 : Int) < ((turns k : Nat) : Int) := by omega
    refine ⟨_, rfl, k, x, rfl, hv, fun H2 h2 => ?_⟩
    refine ⟨_, rfl, k, x, rfl, hv.same h2, fun H3 h3 => ⟨_, rfl, _, _, rfl, rfl, cmul_of (by omega), _, rfl, k, x, rfl, hv.same (h2.trans h3), fun H4 h4 => ⟨_, _, rfl, rfl, .inr ⟨by omega, by omega⟩, _, rfl, rfl, _, rfl, ?_⟩⟩⟩
    have s4 : Same H' H4 := h2.trans (h3.trans h4)
    refine neF (congrArg V.int (by rw [← Int.natCast_mul, ← Int.natCast_mul, e1])) ?_
    refine ⟨_, rfl, _, rfl, _, _, rfl, rfl, tpos, rfl, _, rfl, ?_⟩
    refine neF (congrArg V.int (show ((fac (m + 1) : Nat) : Int) % ((turns k : Nat) : Int) = 0 by rw [← Int.natCast_emod, e2]; rfl)) ?_
    refine ⟨_, rfl, k, x, rfl, hv.same s4, fun H5 h5 => ⟨_, rfl, rfl, _, rfl, ?_⟩⟩
    refine neF (congrArg V.int (by rw [e3])) ?_
    refine ⟨_, rfl, _, rfl, k, x, rfl, hv.same (s4.trans h5), fun H6 h6 => ⟨_, _, rfl, rfl, ?_⟩⟩
    refine ⟨_, rfl, _, rfl, _, rfl, _, _, rfl, rfl, ⟨tpos, by omega⟩, _, _, rfl, rfl, hs.trans (s4.trans (h5.trans h6)), some x, some (.int (turns k : Nat)), ?_⟩
    have ew : ((sumW m j : Nat) : Int) + (ways k : Nat) = (sumW m (j + 1) : Nat) := by
      rw [← Int.natCast_add]
      exact congrArg Int.ofNat (sum_more hk1).symm
    have el : ((sumL m j : Nat) : Int) + ((fac (m + 1) : Nat) : Int) / (turns k : Nat) = (sumL m (j + 1) : Nat) := by
      rw [← Int.natCast_ediv, ← Int.natCast_add]
      exact congrArg Int.ofNat (sum_more (g := fun i => fac (m + 1) / turns i) hk1).symm
    rw [← ew, ← el]
    rfl
  obtain ⟨hs, y7, y8, rfl⟩ := h
  rw [← hlen]
  obtain ⟨z1, z2⟩ := sums_of hm
  -- the powers
  refine ⟨_, rfl, _, _, rfl, rfl, ((m + 1 : Nat) : Int) - 1, rfl, by omega, by omega, ?_⟩
  rw [show (((m + 1 : Nat) : Int) - 1).toNat = m by omega]
  refine for_range (lo := 0) (n := m) (fun j σ H2 => H2 = H' ∧ ∃ y, σ = [some (.ref a), some (.int ((m + 1 : Nat) : Int)), some (.int (fac (m + 1) : Nat)), y, some (.ref p), some (.int (sumW m (ofs (m + 1)).length : Nat)), some (.int (sumL m (ofs (m + 1)).length : Nat)), y7, y8, some (.int ((m + 1) ^ j : Nat))])
    ⟨rfl, y3, rfl⟩ (fun j σ H2 hj h => ?_) (fun σ H2 h => ?_)
  · obtain ⟨rfl, y, rfl⟩ := h
    refine ⟨_, rfl, _, rfl, _, _, rfl, rfl, .inr ⟨by omega, by omega⟩, rfl, some (.int (0 + (j : Nat))), ?_⟩
    rw [Nat.pow_succ, Int.natCast_mul]
    rfl
  obtain ⟨rfl, y, rfl⟩ := h
  have hp2 := hs _ _ hp
  have ht2 := ht.same hs
  -- the last tests
  refine ⟨_, rfl, p, ys, _, rfl, .of hp2, ht2, by omega, nd, ?_⟩
  refine ⟨by decide, fun o ho => ?_⟩
  have so : Same H2 (upd H2 o (.lst [V.int 1, V.int 1, V.int 2, V.int 4, V.int 9, V.int 20, V.int 48])) := same_upd ho
  refine ⟨_, rfl, _, _, rfl, rfl, o, _, _, V.int ((ofs (m + 1)).length : Nat), rfl, rfl, .of upd_same, ?_, rfl, _, rfl, ?_⟩
  · show atI _ (((m + 1 : Nat) : Int) - 1) = _
    rw [show ((m + 1 : Nat) : Int) - 1 = (m : Nat) by omega]
    exact atI_nat (count_of hm)
  refine neF rfl ?_
  refine ⟨_, rfl, p, ys, rfl, .inl (.of (so _ _ hp2)), _, rfl, p, ys, _, rfl, .of (so _ _ hp2), ht2.same so, by omega, nd, rfl, _, rfl, ?_⟩
  refine neF (congrArg V.int (by rw [← hlen])) ?_
  refine ⟨_, rfl, _, rfl, _, _, rfl, rfl, .inr ⟨by omega, by omega⟩, _, rfl, rfl, _, rfl, ?_⟩
  refine eqT (congrArg V.int (by rw [← Int.natCast_mul, z1])) ?_
  refine ⟨_, rfl, _, rfl, rfl, ?_⟩
  show Q (.bl (decide (V.int (sumL m (ofs (m + 1)).length : Nat) = V.int ((m + 1) ^ m : Nat)))) _
  rw [z2, decide_eq_true rfl]
  exact q _
end
end SG
namespace SG
open PySem L2 PySem.Spec PyProof.Rows
/-! ### what the top has written (printed by gentop.py) -/
theorem all_mk {l : PySem.W.OpenLaw} {w : World} {K : PySem.W.Frag} {h : Heap} {mg : Str → Option Value} {fa f1 f2 f3 f4 f5 f6 f7 f8 f9 f10 f11 f12 f13 f14 f15 f16 f17 f18 : Addr} {tk : Tok} (X : K.In h) (G : h.Ns mainGlobals mg) (hfa : mg "law" = some (.ref fa))
    {od1 an1 od2 an2 od3 an3 od4 an4 od5 an5 od6 an6 od7 an7 od8 an8 od9 an9 od10 an10 od11 an11 od12 an12 od13 an13 od14 an14 od15 an15 od16 an16 od17 an17 od18 an18 : Option Addr} {sl1 sl2 sl3 sl4 sl5 sl6 sl7 sl8 sl9 sl10 sl11 sl12 sl13 sl14 sl15 sl16 sl17 sl18 : Array (Option Value)} {oc1 kV1 dc1 pm1 cd1 ct1 oc2 kV2 dc2 pm2 cd2 ct2 oc3 kV3 dc3 pm3 cd3 ct3 oc4 kV4 dc4 pm4 cd4 ct4 oc5 kV5 dc5 pm5 cd5 ct5 oc6 kV6 dc6 pm6 cd6 ct6 oc7 kV7 dc7 pm7 cd7 ct7 oc8 kV8 dc8 pm8 cd8 ct8 oc9 kV9 dc9 pm9 cd9 ct9 oc10 kV10 dc10 pm10 cd10 ct10 oc11 kV11 dc11 pm11 cd11 ct11 oc12 kV12 dc12 pm12 cd12 ct12 oc13 kV13 dc13 pm13 cd13 ct13 oc14 kV14 dc14 pm14 cd14 ct14 oc15 kV15 dc15 pm15 cd15 ct15 oc16 kV16 dc16 pm16 cd16 ct16 oc17 kV17 dc17 pm17 cd17 ct17 oc18 kV18 dc18 pm18 cd18 ct18 : Value}
    (a1 : PySem.W.nsIn K mainGlobals "is_whole" = some (some (.ref f1))) (l1 : K.lookup f1 = some ⟨oc1, od1, .func (PySem.W.fnOf "is_whole" "is_whole" (defArgs sWhole) (defBody sWhole) (defScope sWhole) .none kV1 dc1 pm1 an1 cd1 ct1), sl1⟩)
    (c1 : PySem.W.codeIn K cd1 "is_whole" = true) (k1 : PySem.W.keepIn K (.ref f1) = true)
    (a2 : PySem.W.nsIn K mainGlobals "falling" = some (some (.ref f2))) (l2 : K.lookup f2 = some ⟨oc2, od2, .func (PySem.W.fnOf "falling" "falling" (defArgs sFalling) (defBody sFalling) (defScope sFalling) .none kV2 dc2 pm2 an2 cd2 ct2), sl2⟩)
    (c2 : PySem.W.codeIn K cd2 "falling" = true) (k2 : PySem.W.keepIn K (.ref f2) = true)
    (a3 : PySem.W.nsIn K mainGlobals "is_tree" = some (some (.ref f3))) (l3 : K.lookup f3 = some ⟨oc3, od3, .func (PySem.W.fnOf "is_tree" "is_tree" (defArgs sIsTree) (defBody sIsTree) (defScope sIsTree) .none kV3 dc3 pm3 an3 cd3 ct3), sl3⟩)
    (c3 : PySem.W.codeIn K cd3 "is_tree" = true) (k3 : PySem.W.keepIn K (.ref f3) = true)
    (a4 : PySem.W.nsIn K mainGlobals "look_tree" = some (some (.ref f4))) (l4 : K.lookup f4 = some ⟨oc4, od4, .func (PySem.W.fnOf "look_tree" "look_tree" (defArgs sLook) (defBody sLook) (defScope sLook) .none kV4 dc4 pm4 an4 cd4 ct4), sl4⟩)
    (c4 : PySem.W.codeIn K cd4 "look_tree" = true) (k4 : PySem.W.keepIn K (.ref f4) = true)
    (a5 : PySem.W.nsIn K mainGlobals "knots_in" = some (some (.ref f5))) (l5 : K.lookup f5 = some ⟨oc5, od5, .func (PySem.W.fnOf "knots_in" "knots_in" (defArgs sKnotsIn) (defBody sKnotsIn) (defScope sKnotsIn) .none kV5 dc5 pm5 an5 cd5 ct5), sl5⟩)
    (c5 : PySem.W.codeIn K cd5 "knots_in" = true) (k5 : PySem.W.keepIn K (.ref f5) = true)
    (a6 : PySem.W.nsIn K mainGlobals "density_in" = some (some (.ref f6))) (l6 : K.lookup f6 = some ⟨oc6, od6, .func (PySem.W.fnOf "density_in" "density_in" (defArgs sDensIn) (defBody sDensIn) (defScope sDensIn) .none kV6 dc6 pm6 an6 cd6 ct6), sl6⟩)
    (c6 : PySem.W.codeIn K cd6 "density_in" = true) (k6 : PySem.W.keepIn K (.ref f6) = true)
    (a7 : PySem.W.nsIn K mainGlobals "turns_in" = some (some (.ref f7))) (l7 : K.lookup f7 = some ⟨oc7, od7, .func (PySem.W.fnOf "turns_in" "turns_in" (defArgs sTurnsIn) (defBody sTurnsIn) (defScope sTurnsIn) .none kV7 dc7 pm7 an7 cd7 ct7), sl7⟩)
    (c7 : PySem.W.codeIn K cd7 "turns_in" = true) (k7 : PySem.W.keepIn K (.ref f7) = true)
    (a8 : PySem.W.nsIn K mainGlobals "tree_knots" = some (some (.ref f8))) (l8 : K.lookup f8 = some ⟨oc8, od8, .func (PySem.W.fnOf "tree_knots" "tree_knots" (defArgs sKnots) (defBody sKnots) (defScope sKnots) .none kV8 dc8 pm8 an8 cd8 ct8), sl8⟩)
    (c8 : PySem.W.codeIn K cd8 "tree_knots" = true) (k8 : PySem.W.keepIn K (.ref f8) = true)
    (a9 : PySem.W.nsIn K mainGlobals "tree_density" = some (some (.ref f9))) (l9 : K.lookup f9 = some ⟨oc9, od9, .func (PySem.W.fnOf "tree_density" "tree_density" (defArgs sDens) (defBody sDens) (defScope sDens) .none kV9 dc9 pm9 an9 cd9 ct9), sl9⟩)
    (c9 : PySem.W.codeIn K cd9 "tree_density" = true) (k9 : PySem.W.keepIn K (.ref f9) = true)
    (a10 : PySem.W.nsIn K mainGlobals "tree_turns" = some (some (.ref f10))) (l10 : K.lookup f10 = some ⟨oc10, od10, .func (PySem.W.fnOf "tree_turns" "tree_turns" (defArgs sTurns) (defBody sTurns) (defScope sTurns) .none kV10 dc10 pm10 an10 cd10 ct10), sl10⟩)
    (c10 : PySem.W.codeIn K cd10 "tree_turns" = true) (k10 : PySem.W.keepIn K (.ref f10) = true)
    (a11 : PySem.W.nsIn K mainGlobals "tree_ways" = some (some (.ref f11))) (l11 : K.lookup f11 = some ⟨oc11, od11, .func (PySem.W.fnOf "tree_ways" "tree_ways" (defArgs sWays) (defBody sWays) (defScope sWays) .none kV11 dc11 pm11 an11 cd11 ct11), sl11⟩)
    (c11 : PySem.W.codeIn K cd11 "tree_ways" = true) (k11 : PySem.W.keepIn K (.ref f11) = true)
    (a12 : PySem.W.nsIn K mainGlobals "boughs_of" = some (some (.ref f12))) (l12 : K.lookup f12 = some ⟨oc12, od12, .func (PySem.W.fnOf "boughs_of" "boughs_of" (defArgs sBoughs) (defBody sBoughs) (defScope sBoughs) .none kV12 dc12 pm12 an12 cd12 ct12), sl12⟩)
    (c12 : PySem.W.codeIn K cd12 "boughs_of" = true) (k12 : PySem.W.keepIn K (.ref f12) = true)
    (a13 : PySem.W.nsIn K mainGlobals "trees_of" = some (some (.ref f13))) (l13 : K.lookup f13 = some ⟨oc13, od13, .func (PySem.W.fnOf "trees_of" "trees_of" (defArgs sOf) (defBody sOf) (defScope sOf) .none kV13 dc13 pm13 an13 cd13 ct13), sl13⟩)
    (c13 : PySem.W.codeIn K cd13 "trees_of" = true) (k13 : PySem.W.keepIn K (.ref f13) = true)
    (a14 : PySem.W.nsIn K mainGlobals "trees_to" = some (some (.ref f14))) (l14 : K.lookup f14 = some ⟨oc14, od14, .func (PySem.W.fnOf "trees_to" "trees_to" (defArgs sTo) (defBody sTo) (defScope sTo) .none kV14 dc14 pm14 an14 cd14 ct14), sl14⟩)
    (c14 : PySem.W.codeIn K cd14 "trees_to" = true) (k14 : PySem.W.keepIn K (.ref f14) = true)
    (a15 : PySem.W.nsIn K mainGlobals "_law_cell_at" = some (some (.ref f15))) (l15 : K.lookup f15 = some ⟨oc15, od15, .func (PySem.W.fnOf "_law_cell_at" "_law_cell_at" (defArgs sCell) (defBody sCell) (defScope sCell) .none kV15 dc15 pm15 an15 cd15 ct15), sl15⟩)
    (c15 : PySem.W.codeIn K cd15 "_law_cell_at" = true) (k15 : PySem.W.keepIn K (.ref f15) = true)
    (a16 : PySem.W.nsIn K mainGlobals "_law_mixed" = some (some (.ref f16))) (l16 : K.lookup f16 = some ⟨oc16, od16, .func (PySem.W.fnOf "_law_mixed" "_law_mixed" (defArgs sMixed) (defBody sMixed) (defScope sMixed) .none kV16 dc16 pm16 an16 cd16 ct16), sl16⟩)
    (c16 : PySem.W.codeIn K cd16 "_law_mixed" = true) (k16 : PySem.W.keepIn K (.ref f16) = true)
    (a17 : PySem.W.nsIn K mainGlobals "_law_rest" = some (some (.ref f17))) (l17 : K.lookup f17 = some ⟨oc17, od17, .func (PySem.W.fnOf "_law_rest" "_law_rest" (defArgs sRest) (defBody sRest) (defScope sRest) .none kV17 dc17 pm17 an17 cd17 ct17), sl17⟩)
    (c17 : PySem.W.codeIn K cd17 "_law_rest" = true) (k17 : PySem.W.keepIn K (.ref f17) = true)
    (a18 : PySem.W.nsIn K mainGlobals "law" = some (some (.ref f18))) (l18 : K.lookup f18 = some ⟨oc18, od18, .func (PySem.W.fnOf "law" "law" (defArgs sLaw) (defBody sLaw) (defScope sLaw) .none kV18 dc18 pm18 an18 cd18 ct18), sl18⟩)
    (c18 : PySem.W.codeIn K cd18 "law" = true) (k18 : PySem.W.keepIn K (.ref f18) = true)
    (am : PySem.W.nsIn K mainGlobals "MOST_KNOTS" = some (some (.int 7 tk)))
    (z1 : PySem.W.nsIn K mainGlobals "isinstance" = some none) (z2 : PySem.W.nsIn K mainGlobals "int" = some none) (z3 : PySem.W.nsIn K mainGlobals "bool" = some none) (z4 : PySem.W.nsIn K mainGlobals "tuple" = some none) (z5 : PySem.W.nsIn K mainGlobals "sorted" = some none) (z6 : PySem.W.nsIn K mainGlobals "sum" = some none) (z7 : PySem.W.nsIn K mainGlobals "enumerate" = some none) (z8 : PySem.W.nsIn K mainGlobals "range" = some none) (z9 : PySem.W.nsIn K mainGlobals "list" = some none) (z10 : PySem.W.nsIn K mainGlobals "len" = some none) (z11 : PySem.W.nsIn K mainGlobals "set" = some none) (z12 : PySem.W.nsIn K mainGlobals "abs" = some none) :
    ∃ fd : FuncData, (∀ (s : Shared) (v : Value), BindsTo s fd ⟨[v], []⟩ [("_law_script", v)]) ∧ ∀ base : Heap, K.In base → base.Ns mainGlobals mg → FnOk l.prog w K mg base CX0 17 fa fd ["_law_script"] (spLaw K) := by
  have e := hfa.symm.trans (PySem.W.mg_of X G a18)
  cases e
  have F1 := fun_mk (st := sWhole) l1 c1 k1
  have b1 := F1.binds (ps := ["thing"]) fun _ _ _ _ _ _ us hl => match us, hl with | [_], _ => rfl
  have m1 := PySem.W.mg_of X G a1
  have F2 := fun_mk (st := sFalling) l2 c2 k2
  have b2 := F2.binds (ps := ["things"]) fun _ _ _ _ _ _ us hl => match us, hl with | [_], _ => rfl
  have m2 := PySem.W.mg_of X G a2
  have F3 := fun_mk (st := sIsTree) l3 c3 k3
  have b3 := F3.binds (ps := ["thing"]) fun _ _ _ _ _ _ us hl => match us, hl with | [_], _ => rfl
  have m3 := PySem.W.mg_of X G a3
  have F4 := fun_mk (st := sLook) l4 c4 k4
  have b4 := F4.binds (ps := ["tree"]) fun _ _ _ _ _ _ us hl => match us, hl with | [_], _ => rfl
  have m4 := PySem.W.mg_of X G a4
  have F5 := fun_mk (st := sKnotsIn) l5 c5 k5
  have b5 := F5.binds (ps := ["tree"]) fun _ _ _ _ _ _ us hl => match us, hl with | [_], _ => rfl
  have m5 := PySem.W.mg_of X G a5
  have F6 := fun_mk (st := sDensIn) l6 c6 k6
  have b6 := F6.binds (ps := ["tree"]) fun _ _ _ _ _ _ us hl => match us, hl with | [_], _ => rfl
  have m6 := PySem.W.mg_of X G a6
  have F7 := fun_mk (st := sTurnsIn) l7 c7 k7
  have b7 := F7.binds (ps := ["tree"]) fun _ _ _ _ _ _ us hl => match us, hl with | [_], _ => rfl
  have m7 := PySem.W.mg_of X G a7
  have F8 := fun_mk (st := sKnots) l8 c8 k8
  have b8 := F8.binds (ps := ["tree"]) fun _ _ _ _ _ _ us hl => match us, hl with | [_], _ => rfl
  have m8 := PySem.W.mg_of X G a8
  have F9 := fun_mk (st := sDens) l9 c9 k9
  have b9 := F9.binds (ps := ["tree"]) fun _ _ _ _ _ _ us hl => match us, hl with | [_], _ => rfl
  have m9 := PySem.W.mg_of X G a9
  have F10 := fun_mk (st := sTurns) l10 c10 k10
  have b10 := F10.binds (ps := ["tree"]) fun _ _ _ _ _ _ us hl => match us, hl with | [_], _ => rfl
  have m10 := PySem.W.mg_of X G a10
  have F11 := fun_mk (st := sWays) l11 c11 k11
  have b11 := F11.binds (ps := ["tree"]) fun _ _ _ _ _ _ us hl => match us, hl with | [_], _ => rfl
  have m11 := PySem.W.mg_of X G a11
  have F12 := fun_mk (st := sBoughs) l12 c12 k12
  have b12 := F12.binds (ps := ["many", "pool"]) fun _ _ _ _ _ _ us hl => match us, hl with | [_, _], _ => rfl
  have m12 := PySem.W.mg_of X G a12
  have F13 := fun_mk (st := sOf) l13 c13 k13
  have b13 := F13.binds (ps := ["many"]) fun _ _ _ _ _ _ us hl => match us, hl with | [_], _ => rfl
  have m13 := PySem.W.mg_of X G a13
  have F14 := fun_mk (st := sTo) l14 c14 k14
  have b14 := F14.binds (ps := ["most"]) fun _ _ _ _ _ _ us hl => match us, hl with | [_], _ => rfl
  have m14 := PySem.W.mg_of X G a14
  have F15 := fun_mk (st := sCell) l15 c15 k15
  have b15 := F15.binds (ps := ["_law_script", "_law_k"]) fun _ _ _ _ _ _ us hl => match us, hl with | [_, _], _ => rfl
  have m15 := PySem.W.mg_of X G a15
  have F16 := fun_mk (st := sMixed) l16 c16 k16
  have b16 := F16.binds (ps := ["_law_cell", "_law_k"]) fun _ _ _ _ _ _ us hl => match us, hl with | [_, _], _ => rfl
  have m16 := PySem.W.mg_of X G a16
  have F17 := fun_mk (st := sRest) l17 c17 k17
  have b17 := F17.binds (ps := ["_law_script", "_law_k"]) fun _ _ _ _ _ _ us hl => match us, hl with | [_, _], _ => rfl
  have m17 := PySem.W.mg_of X G a17
  have F18 := fun_mk (st := sLaw) l18 c18 k18
  have n1 := PySem.W.mg_none_of X G z1
  have n2 := PySem.W.mg_none_of X G z2
  have n3 := PySem.W.mg_none_of X G z3
  have n4 := PySem.W.mg_none_of X G z4
  have n5 := PySem.W.mg_none_of X G z5
  have n6 := PySem.W.mg_none_of X G z6
  have n7 := PySem.W.mg_none_of X G z7
  have n8 := PySem.W.mg_none_of X G z8
  have n9 := PySem.W.mg_none_of X G z9
  have n10 := PySem.W.mg_none_of X G z10
  have n11 := PySem.W.mg_none_of X G z11
  have n12 := PySem.W.mg_none_of X G z12
  have mN := PySem.W.mg_of X G am
  refine ⟨PySem.W.fnOf "law" "law" (defArgs sLaw) (defBody sLaw) (defScope sLaw) .none kV18 dc18 pm18 an18 cd18 ct18, fun s v => .of_eq rfl, fun base _ _ => ?_⟩
  have O1 := ok_whole (P := l.prog) (w := w) (base := base) F1 n1 n2 n3
  have O2 := ok_falling (P := l.prog) (w := w) (base := base) F2 n5 n4
  have O3 := ok_isTree (P := l.prog) (w := w) (base := base) F3 b3 m3 O2 b2 k2 (m2) n1 n4 7
  have O4 := ok_look F4 O3 b3 k3 (m3)
  have O5 := ok_knots (P := l.prog) (w := w) (base := base) F5 b5 m5 n6 7
  have O6 := ok_dens F6 b6 m6 O5 b5 k5 (m5) 7
  have O7 := ok_turns (P := l.prog) (w := w) (base := base) F7 b7 m7 n7 7
  have O8 := ok_knotsT F8 O4 b4 k4 (m4) O5 b5 k5 (m5)
  have O9 := ok_densT F9 O4 b4 k4 (m4) O6 b6 k6 (m6)
  have O10 := ok_turnsT F10 O4 b4 k4 (m4) O7 b7 k7 (m7)
  have O11 := ok_waysT F11 O4 b4 k4 (m4) O5 b5 k5 (m5) O6 b6 k6 (m6) O7 b7 k7 (m7) n8
  have O12 := ok_boughs F12 b12 m12 O5 b5 k5 (m5) n7 7
  have O14 := ok_to F14 O1 b1 k1 (m1) O12 b12 k12 (m12) O2 b2 k2 (m2) mN n8 n5 n9
  have O13 := ok_of F13 O1 b1 k1 (m1) O12 b12 k12 (m12) O2 b2 k2 (m2) O14 b14 k14 (m14) mN n5 n9
  have O15 := ok_cell (P := l.prog) (w := w) (base := base) F15 n10
  have O16 := ok_mixed (P := l.prog) (w := w) (base := base) (mg := mg) F16
  have O17 := ok_rest F17 O15 b15 k15 (m15) O16 b16 k16 (m16) n12
  exact ok_law F18 O17 b17 k17 (m17) O13 b13 k13 (m13) O10 b10 k10 (m10) O9 b9 k9 (m9) O11 b11 k11 (m11) O8 b8 k8 (m8) n8 n10 n11
end SG
open PySem PyProof.Rows PySem.W
set_option maxHeartbeats 0 in
theorem PySem.Challenge.cw_stepgrove_k09_whole_trees_counted_holds : PySem.Challenge.rw_stepgrove_k09_whole_trees_counted.Holds := by
  w_on; o_law; k_head; (case hw => w_witness2)
  k_fill
  refine L2.walk_of (l := PySem.Challenge.rw_stepgrove_k09_whole_trees_counted) (n := 63) (k := 17) (x := "_law_script") (CX := fun _ => L2.CX0) (sp := fun w => SG.spLaw _) rfl (by decide) rfl ⟨rfl, by decide, by decide⟩ (fun w h Y => PySem.W.kIn_of Y) ?F (fun _ _ a ns hl _ hS => ⟨a, ns, rfl, hS, hl, fun _ => rfl⟩) (fun _ _ _ _ _ h => h)
  case F =>
    intro w mg fa h KX G hmg
    refine' SG.all_mk KX G hmg ?a1 ?l1 ?c1 ?k1 ?a2 ?l2 ?c2 ?k2 ?a3 ?l3 ?c3 ?k3 ?a4 ?l4 ?c4 ?k4 ?a5 ?l5 ?c5 ?k5 ?a6 ?l6 ?c6 ?k6 ?a7 ?l7 ?c7 ?k7 ?a8 ?l8 ?c8 ?k8 ?a9 ?l9 ?c9 ?k9 ?a10 ?l10 ?c10 ?k10 ?a11 ?l11 ?c11 ?k11 ?a12 ?l12 ?c12 ?k12 ?a13 ?l13 ?c13 ?k13 ?a14 ?l14 ?c14 ?k14 ?a15 ?l15 ?c15 ?k15 ?a16 ?l16 ?c16 ?k16 ?a17 ?l17 ?c17 ?k17 ?a18 ?l18 ?c18 ?k18 ?am ?z1 ?z2 ?z3 ?z4 ?z5 ?z6 ?z7 ?z8 ?z9 ?z10 ?z11 ?z12
    (case a1 => k_is); (case l1 => k_is); (case c1 => k_is); (case k1 => k_is)
    (case a2 => k_is); (case l2 => k_is); (case c2 => k_is); (case k2 => k_is)
    (case a3 => k_is); (case l3 => k_is); (case c3 => k_is); (case k3 => k_is)
    (case a4 => k_is); (case l4 => k_is); (case c4 => k_is); (case k4 => k_is)
    (case a5 => k_is); (case l5 => k_is); (case c5 => k_is); (case k5 => k_is)
    (case a6 => k_is); (case l6 => k_is); (case c6 => k_is); (case k6 => k_is)
    (case a7 => k_is); (case l7 => k_is); (case c7 => k_is); (case k7 => k_is)
    (case a8 => k_is); (case l8 => k_is); (case c8 => k_is); (case k8 => k_is)
    (case a9 => k_is); (case l9 => k_is); (case c9 => k_is); (case k9 => k_is)
    (case a10 => k_is); (case l10 => k_is); (case c10 => k_is); (case k10 => k_is)
    (case a11 => k_is); (case l11 => k_is); (case c11 => k_is); (case k11 => k_is)
    (case a12 => k_is); (case l12 => k_is); (case c12 => k_is); (case k12 => k_is)
    (case a13 => k_is); (case l13 => k_is); (case c13 => k_is); (case k13 => k_is)
    (case a14 => k_is); (case l14 => k_is); (case c14 => k_is); (case k14 => k_is)
    (case a15 => k_is); (case l15 => k_is); (case c15 => k_is); (case k15 => k_is)
    (case a16 => k_is); (case l16 => k_is); (case c16 => k_is); (case k16 => k_is)
    (case a17 => k_is); (case l17 => k_is); (case c17 => k_is); (case k17 => k_is)
    (case a18 => k_is); (case l18 => k_is); (case c18 => k_is); (case k18 => k_is)
    (case am => k_is)
    (case z1 => k_is); (case z2 => k_is); (case z3 => k_is); (case z4 => k_is); (case z5 => k_is); (case z6 => k_is); (case z7 => k_is); (case z8 => k_is); (case z9 => k_is); (case z10 => k_is); (case z11 => k_is); (case z12 => k_is)
