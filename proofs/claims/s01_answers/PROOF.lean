import PyProof.Rows.All
import Wide.All
import OpenK.AllK
import Wide.FinOn
import PyProof.EqAt
import PyProof.EqKinds
import PyProof.TupleCall
import PyProof.NeKinds
import Open.SpecLaws
import KE.OsGo
import HandS.ForSpec
import HandS.ForMost
import HandS.More
import HandS.NoneIn
import HandS.Style
import HandS.SortRule
import HandS.WideBits
import HandS.ExcField
import HandS.Walk
import HandS.ExcInit
import PySem.Challenge.RW_paperrounds_s01_answers
set_option Elab.async false
set_option linter.all false
set_option maxRecDepth 100000
set_option maxHeartbeats 4000000
namespace PR
open Km353

/-! ### numbers in bytes -/
def numL (bs : List Nat) : Nat := bs.foldr (fun b v => b + 256 * v) 0
theorem num_eq (l : List Nat) (k w : Nat) : num l k w = numL ((l.drop k).take w) := rfl
theorem numL_rev (bs : List Nat) : bs.reverse.foldl (fun f b => f * 256 + b) 0 = numL bs := by
  rw [List.foldl_reverse]
  unfold numL
  congr 1
  funext b v
  omega
theorem le_len (w v : Nat) : (le w v).length = w := by simp [le]
theorem le_succ (w v : Nat) : le (w + 1) v = le w v ++ [v / 256 ^ w % 256] := by
  simp [le, List.range_succ]
theorem le_cons (w v : Nat) : le (w + 1) v = (v % 256) :: le w (v / 256) := by
  unfold le
  rw [List.range_succ_eq_map]
  simp only [List.map_cons, List.map_map]
  congr 1
  · simp
  · apply List.map_congr_left
    intro i _
    simp only [Function.comp, Nat.pow_succ, Nat.div_div_eq_div_mul]
    rw [Nat.mul_comm (256 ^ i) 256]
theorem numL_cons (b : Nat) (bs : List Nat) : numL (b :: bs) = b + 256 * numL bs := rfl
theorem numL_lt : ∀ {bs : List Nat}, (∀ b ∈ bs, b < 256) → numL bs < 256 ^ bs.length
  | [], _ => by simp [numL]
  | b :: bs, h => by
    have h1 := h b (by simp)
    have h2 := numL_lt (bs := bs) (fun c hc => h c (by simp [hc]))
    rw [numL_cons, List.length_cons, Nat.pow_succ]
    omega
theorem le_numL : ∀ {bs : List Nat}, (∀ b ∈ bs, b < 256) → le bs.length (numL bs) = bs
  | [], _ => rfl
  | b :: bs, h => by
    have h1 := h b (by simp)
    have h2 := le_numL (bs := bs) (fun c hc => h c (by simp [hc]))
    rw [List.length_cons, le_cons, numL_cons]
    have e1 : (b + 256 * numL bs) % 256 = b := by omega
    have e2 : (b + 256 * numL bs) / 256 = numL bs := by omega
    rw [e1, e2, h2]
theorem numL_le : ∀ (w v : Nat), v < 256 ^ w → numL (le w v) = v
  | 0, v, h => by
    have : v = 0 := by simpa using h
    subst this
    rfl
  | w + 1, v, h => by
    rw [le_cons, numL_cons, numL_le w (v / 256) (by rw [Nat.pow_succ] at h; omega)]
    omega
theorem le_num {l : List Nat} (hl : ∀ b ∈ l, b < 256) {k w : Nat} (h : k + w ≤ l.length) : le w (num l k w) = (l.drop k).take w := by
  have e : ((l.drop k).take w).length = w := by simp; omega
  have := le_numL (bs := (l.drop k).take w) (fun b hb => hl b (List.mem_of_mem_drop (List.mem_of_mem_take hb)))
  rw [e] at this
  rw [num_eq]
  exact this
theorem num_lt {l : List Nat} (hl : ∀ b ∈ l, b < 256) (k w : Nat) : num l k w < 256 ^ w := by
  have := numL_lt (bs := (l.drop k).take w) (fun b hb => hl b (List.mem_of_mem_drop (List.mem_of_mem_take hb)))
  rw [num_eq]
  refine Nat.lt_of_lt_of_le this (Nat.pow_le_pow_right (by decide) ?_)
  simp; omega
theorem num_one (l : List Nat) (k : Nat) (h : k < l.length) : num l k 1 = l[k] := by
  have e : (l.drop k).take 1 = [l[k]] := by
    rw [List.drop_eq_getElem_cons h]
    rfl
  rw [num_eq, e]
  rfl

/-! ### the check -/
theorem crcBit_lt {c : Nat} (h : c < 2 ^ 32) : crcBit c < 2 ^ 32 := by
  unfold crcBit
  split
  · exact Nat.xor_lt_two_pow (by omega) (by decide)
  · omega
theorem crcBits_lt : ∀ (k : Nat) {c : Nat}, c < 2 ^ 32 → (List.range k).foldl (fun x _ => crcBit x) c < 2 ^ 32
  | 0, c, h => by simpa using h
  | k + 1, c, h => by
    rw [List.range_succ, List.foldl_append]
    exact crcBit_lt (crcBits_lt k h)
theorem crcBits_succ (k c : Nat) : (List.range (k + 1)).foldl (fun x _ => crcBit x) c = crcBit ((List.range k).foldl (fun x _ => crcBit x) c) := by
  rw [List.range_succ, List.foldl_append]
  rfl
theorem crcByte_lt {c b : Nat} (h : c < 2 ^ 32) (hb : b < 256) : crcByte c b < 2 ^ 32 := by
  unfold crcByte
  exact crcBits_lt 8 (Nat.xor_lt_two_pow h (by omega))
theorem crcFold_lt : ∀ {l : List Nat} {c : Nat}, c < 2 ^ 32 → (∀ b ∈ l, b < 256) → l.foldl crcByte c < 2 ^ 32
  | [], c, h, _ => h
  | b :: l, c, h, hl => crcFold_lt (l := l) (crcByte_lt h (hl b (by simp))) (fun d hd => hl d (by simp [hd]))
theorem xor_ones {x : Nat} (h : x < 2 ^ 32) : x ^^^ 0xFFFFFFFF = 4294967295 - x := by
  have e : (BitVec.ofNat 32 x ^^^ BitVec.allOnes 32).toNat = (~~~ (BitVec.ofNat 32 x)).toNat := by
    congr 1
    exact BitVec.xor_allOnes
  rw [BitVec.toNat_xor, BitVec.toNat_not, BitVec.toNat_ofNat, BitVec.toNat_allOnes, Nat.mod_eq_of_lt h] at e
  simpa using e
theorem crc_eq {l : List Nat} (hl : ∀ b ∈ l, b < 256) : crc l = 4294967295 - l.foldl crcByte 0xFFFFFFFF := by
  unfold crc
  exact xor_ones (crcFold_lt (by decide) hl)
theorem crc_lt {l : List Nat} (hl : ∀ b ∈ l, b < 256) : crc l < 256 ^ 4 := by
  rw [crc_eq hl]
  have : (256 : Nat) ^ 4 = 4294967296 := by decide
  omega
end PR
namespace PR
open Km353

/-! ### messages -/
theorem cut_add (l : List Nat) (k a b : Nat) : (l.drop k).take (a + b) = (l.drop k).take a ++ (l.drop (k + a)).take b := by
  rw [List.take_add, List.drop_drop]
theorem cut_many (l : List Nat) (k w : Nat) : ∀ n, (l.drop k).take (w * n) = (List.range n).flatMap fun i => (l.drop (k + w * i)).take w
  | 0 => by simp
  | n + 1 => by
    rw [Nat.mul_succ, cut_add, cut_many l k w n, List.range_succ, List.flatMap_append]
    simp
theorem cut_len (l : List Nat) (k w : Nat) (h : k + w ≤ l.length) : ((l.drop k).take w).length = w := by
  simp; omega
theorem flat_cong {α β : Type} {l : List α} {f g : α → List β} (h : ∀ a ∈ l, f a = g a) : l.flatMap f = l.flatMap g := by
  induction l with
  | nil => rfl
  | cons a l ih =>
    rw [List.flatMap_cons, List.flatMap_cons, h a (by simp), ih fun b hb => h b (by simp [hb])]

def padOk (l : List Nat) (k : Nat) : Prop := (l.drop (k + 1)).take 3 = [0, 0, 0]
instance (l : List Nat) (k : Nat) : Decidable (padOk l k) := by unfold padOk; infer_instance

theorem counts_bytes {l : List Nat} (hl : ∀ b ∈ l, b < 256) {k : Nat} (h : k + 64 ≤ l.length) :
    ((List.range 16).map fun i => num l (k + 4 * i) 4).flatMap (le 4) = (l.drop k).take 64 := by
  have e := cut_many l k 4 16
  rw [show 4 * 16 = 64 from rfl] at e
  rw [e, List.flatMap_map]
  apply flat_cong
  intro i hi
  have : i < 16 := by simpa using hi
  exact le_num hl (by omega)
theorem one_cut {l : List Nat} {k : Nat} (h : k < l.length) : (l.drop k).take 1 = [num l k 1] := by
  rw [num_one l k h, List.drop_eq_getElem_cons h]
  rfl
theorem version_seg {l : List Nat} (hl : ∀ b ∈ l, b < 256) {k : Nat} (h : k + 76 ≤ l.length) :
    (l.drop k).take 76 = (versionAt l k).bytes ↔ padOk l k := by
  have e1 : (l.drop k).take 76 = [num l k 1] ++ ((l.drop (k + 1)).take 3 ++ ((l.drop (k + 4)).take 64 ++ (l.drop (k + 68)).take 8)) := by
    rw [show 76 = 1 + (3 + (64 + 8)) from rfl, cut_add, cut_add, cut_add, one_cut (by omega)]
  have e2 : (versionAt l k).bytes = [num l k 1] ++ ([0, 0, 0] ++ ((l.drop (k + 4)).take 64 ++ (l.drop (k + 68)).take 8)) := by
    show [num l k 1, 0, 0, 0] ++ (((List.range 16).map fun i => num l (k + 4 + 4 * i) 4).flatMap (le 4) ++ le 8 (num l (k + 68) 8)) = _
    rw [counts_bytes hl (by omega), le_num hl (by omega)]
    rfl
  rw [e1, e2]
  unfold padOk
  constructor
  · intro e
    exact (List.append_inj (List.append_cancel_left e) (by simp; omega)).1
  · intro e
    rw [e]
theorem version_len {v : Version} (h : v.counts.length = 16) : v.bytes.length = 76 := by
  have : ∀ (cs : List Nat), (cs.flatMap (le 4)).length = 4 * cs.length := by
    intro cs
    induction cs with
    | nil => rfl
    | cons c cs ih => rw [List.flatMap_cons, List.length_append, ih, le_len, List.length_cons]; omega
  show ([v.writer, 0, 0, 0] ++ (v.counts.flatMap (le 4) ++ le 8 v.value)).length = 76
  rw [List.length_append, List.length_append, this, le_len, h]
  rfl
theorem versionAt_len (l : List Nat) (k : Nat) : (versionAt l k).counts.length = 16 := by
  show ((List.range 16).map _).length = 16
  simp
theorem versions_len {l : List Nat} (k : Nat) : ∀ n, (((List.range n).map fun i => versionAt l (k + 76 * i)).flatMap Version.bytes).length = 76 * n
  | 0 => rfl
  | n + 1 => by
    rw [List.range_succ, List.map_append, List.flatMap_append, List.length_append, versions_len k n]
    simp [version_len (versionAt_len _ _)]
    omega
theorem versions_seg {l : List Nat} (hl : ∀ b ∈ l, b < 256) (k : Nat) : ∀ n, k + 76 * n ≤ l.length →
    ((l.drop k).take (76 * n) = ((List.range n).map fun i => versionAt l (k + 76 * i)).flatMap Version.bytes ↔ ∀ i, i < n → padOk l (k + 76 * i))
  | 0, _ => by simp
  | n + 1, h => by
    have ih := versions_seg hl k n (by omega)
    have sg := version_seg hl (k := k + 76 * n) (by omega)
    rw [Nat.mul_succ, cut_add, List.range_succ, List.map_append, List.flatMap_append]
    simp only [List.map_cons, List.map_nil, List.flatMap_cons, List.flatMap_nil, List.append_nil]
    constructor
    · intro e
      have e2 := List.append_inj e (by rw [versions_len, cut_len _ _ _ (by omega)])
      intro i hi
      by_cases c : i < n
      · exact ih.mp e2.1 i c
      · have : i = n := by omega
        subst this
        exact sg.mp e2.2
    · intro e
      rw [ih.mpr fun i hi => e i (by omega), sg.mpr (e n (by omega))]

def told (l : List Nat) : Message := ⟨num l 1 1, num l 2 1, (List.range (num l 3 1)).map fun i => versionAt l (4 + 76 * i)⟩
/-- what a message wants, as the program asks it -/
def Right (l : List Nat) : Prop := num l 308 4 = crc (l.take 308) ∧ (num l 0 1 = 1 ∧ num l 1 1 < 16 ∧ num l 2 1 < 64 ∧ num l 3 1 ≤ 4) ∧
  (∀ b ∈ (l.drop (4 + 76 * num l 3 1)).take (308 - (4 + 76 * num l 3 1)), b = 0) ∧ (∀ i, i < num l 3 1 → padOk l (4 + 76 * i)) ∧ okPaper (told l).versions = true
theorem zeros_iff (l : List Nat) (n : Nat) (h : l.length = n) : l = List.replicate n 0 ↔ ∀ b ∈ l, b = 0 := by
  constructor
  · intro e b hb
    rw [e] at hb
    exact (List.mem_replicate.mp hb).2
  · intro e
    rw [← h]
    exact List.eq_replicate_of_mem e
theorem bytes_iff {l : List Nat} (hn : l.length = 312) (hl : ∀ b ∈ l, b < 256) (h3 : num l 3 1 ≤ 4) :
    l = (told l).bytes ↔ num l 308 4 = crc (l.take 308) ∧ num l 0 1 = 1 ∧ (∀ b ∈ (l.drop (4 + 76 * num l 3 1)).take (308 - (4 + 76 * num l 3 1)), b = 0) ∧ ∀ i, i < num l 3 1 → padOk l (4 + 76 * i) := by
  have hv : (told l).versions.length = num l 3 1 := by simp [told]
  have e0 : (told l).bytes = checked ([1, num l 1 1, num l 2 1, num l 3 1] ++ (((List.range (num l 3 1)).map fun i => versionAt l (4 + 76 * i)).flatMap Version.bytes ++ List.replicate (76 * (4 - num l 3 1)) 0)) := by
    show checked ([1, (told l).from_, (told l).paper, (told l).versions.length] ++ ((told l).versions.flatMap Version.bytes ++ List.replicate (76 * (4 - (told l).versions.length)) 0)) = _
    rw [hv]
    rfl
  have t4 : l.take 4 = [num l 0 1, num l 1 1, num l 2 1, num l 3 1] := by
    have e := cut_many l 0 1 4
    rw [List.drop_zero] at e
    rw [show 1 * 4 = 4 from rfl] at e
    rw [e]
    show (l.drop (0 + 1 * 0)).take 1 ++ ((l.drop (0 + 1 * 1)).take 1 ++ ((l.drop (0 + 1 * 2)).take 1 ++ ((l.drop (0 + 1 * 3)).take 1 ++ []))) = _
    rw [one_cut (by omega), one_cut (by omega), one_cut (by omega), one_cut (by omega)]
    rfl
  have t308 : l.take 308 = l.take 4 ++ ((l.drop 4).take (76 * num l 3 1) ++ (l.drop (4 + 76 * num l 3 1)).take (308 - (4 + 76 * num l 3 1))) := by
    have a := cut_add l 0 4 304
    have b := cut_add l 4 (76 * num l 3 1) (308 - (4 + 76 * num l 3 1))
    rw [List.drop_zero] at a
    rw [show 76 * num l 3 1 + (308 - (4 + 76 * num l 3 1)) = 304 by omega] at b
    rw [show 4 + 304 = 308 from rfl, show 0 + 4 = 4 from rfl] at a
    rw [a, b]
  generalize hi : [1, num l 1 1, num l 2 1, num l 3 1] ++ (((List.range (num l 3 1)).map fun i => versionAt l (4 + 76 * i)).flatMap Version.bytes ++ List.replicate (76 * (4 - num l 3 1)) 0) = inner at e0
  have hin : inner.length = 308 := by
    rw [← hi, List.length_append, List.length_append, versions_len]
    simp
    omega
  have hk : l.take 308 = inner ↔ num l 0 1 = 1 ∧ (∀ b ∈ (l.drop (4 + 76 * num l 3 1)).take (308 - (4 + 76 * num l 3 1)), b = 0) ∧ ∀ i, i < num l 3 1 → padOk l (4 + 76 * i) := by
    rw [t308, ← hi, t4]
    have z := zeros_iff ((l.drop (4 + 76 * num l 3 1)).take (308 - (4 + 76 * num l 3 1))) (76 * (4 - num l 3 1)) (by rw [cut_len _ _ _ (by omega)]; omega)
    have s := versions_seg hl 4 (num l 3 1) (by omega)
    constructor
    · intro e
      obtain ⟨a, b⟩ := List.append_inj e rfl
      obtain ⟨c, d⟩ := List.append_inj b (by rw [versions_len, cut_len _ _ _ (by omega)])
      exact ⟨(List.cons.inj a).1, z.mp d, s.mp c⟩
    · rintro ⟨a, b, c⟩
      rw [a, s.mpr c, z.mpr b]
  have hd : l.drop 308 = le 4 (num l 308 4) := by
    rw [le_num hl (by omega)]
    rw [List.take_of_length_le (by simp; omega)]
  have hb : ∀ b ∈ l.take 308, b < 256 := fun b hb => hl b (List.mem_of_mem_take hb)
  rw [e0]
  unfold checked
  constructor
  · intro e
    have e1 : l.take 308 = inner := by
      rw [e, ← hin, List.take_left']
      rfl
    have e2 : l.drop 308 = le 4 (crc inner) := by
      rw [e]
      rw [← hin, List.drop_left']
      rfl
    refine ⟨?_, hk.mp e1⟩
    rw [num_eq, e2, ← e1, List.take_of_length_le (by rw [le_len]; exact Nat.le_refl _), numL_le _ _ (crc_lt hb)]
  · rintro ⟨a, b⟩
    have e1 := hk.mpr b
    rw [← e1, ← a, ← hd]
    exact (List.take_append_drop 308 l).symm
theorem messageOf_eq {l : List Nat} (hn : l.length = 312) (hl : ∀ b ∈ l, b < 256) [Decidable (Right l)] : messageOf l = if Right l then some (told l) else none := by
  have hv : (told l).versions.length = num l 3 1 := by simp [told]
  show (if (told l).from_ < 16 ∧ (told l).paper < 64 ∧ (told l).versions.length ≤ 4 ∧ okPaper (told l).versions = true ∧ l = (told l).bytes then some (told l) else none) = _
  have : ((told l).from_ < 16 ∧ (told l).paper < 64 ∧ (told l).versions.length ≤ 4 ∧ okPaper (told l).versions = true ∧ l = (told l).bytes) ↔ Right l := by
    rw [hv]
    constructor
    · rintro ⟨a, b, c, d, e⟩
      obtain ⟨e1, e2, e3, e4⟩ := (bytes_iff hn hl c).mp e
      exact ⟨e1, ⟨e2, a, b, c⟩, e3, e4, d⟩
    · rintro ⟨e1, ⟨e2, a, b, c⟩, e3, e4, d⟩
      exact ⟨a, b, c, d, (bytes_iff hn hl c).mpr ⟨e1, e2, e3, e4⟩⟩
  by_cases c : Right l
  · rw [if_pos c, if_pos (this.mpr c)]
  · rw [if_neg c, if_neg fun q => c (this.mp q)]
theorem messageOf_some {l : List Nat} (hn : l.length = 312) (hl : ∀ b ∈ l, b < 256) (r : Right l) : messageOf l = some (told l) := by
  have := Classical.propDecidable (Right l)
  rw [messageOf_eq hn hl, if_pos r]
theorem messageOf_none {l : List Nat} (hn : l.length = 312) (hl : ∀ b ∈ l, b < 256) (r : ¬ Right l) : messageOf l = none := by
  have := Classical.propDecidable (Right l)
  rw [messageOf_eq hn hl, if_neg r]
end PR
namespace PR
open Km353

/-! ### a row of versions as a message has it -/
theorem okPaper_iff : ∀ (vs : List Version), okPaper vs = true ↔ (∀ v ∈ vs, v.good = true) ∧ vs.Pairwise fun v w => v.writer < w.writer ∧ within v.counts w.counts = false ∧ within w.counts v.counts = false
  | [] => by simp [okPaper]
  | v :: l => by
    have ih := okPaper_iff l
    unfold okPaper
    rw [Bool.and_eq_true, Bool.and_eq_true, ih, List.all_eq_true, List.pairwise_cons]
    constructor
    · rintro ⟨a, b, c, d⟩
      refine ⟨fun w hw => ?_, fun w hw => ?_, d⟩
      · rcases List.mem_cons.mp hw with e | hw
        · rw [e]; exact a
        · exact c w hw
      · have := b w hw
        simpa using this
    · rintro ⟨a, b, c⟩
      refine ⟨a v (by simp), fun w hw => ?_, fun w hw => a w (by simp [hw]), c⟩
      have := b w hw
      simpa using this
def rowAt (vs : List Version) (i : Nat) (v : Version) : Prop := v.writer < 16 ∧ at_ v.counts v.writer ≠ 0 ∧ (∀ u, 0 < i → vs[i - 1]? = some u → u.writer < v.writer) ∧
  ∀ w ∈ vs.take i, within w.counts v.counts = false ∧ within v.counts w.counts = false
theorem right_iff {vs : List Version} (h : ∀ v ∈ vs, v.counts.length = 16 ∧ (∀ c ∈ v.counts, c < 2 ^ 32) ∧ v.value < 2 ^ 64) : (∀ i v, vs[i]? = some v → rowAt vs i v) ↔ okPaper vs = true := by
  rw [okPaper_iff]
  constructor
  · intro a
    constructor
    · intro v hv
      obtain ⟨i, hi⟩ := List.getElem?_of_mem hv
      obtain ⟨h1, h2, _, _⟩ := a i v hi
      obtain ⟨g1, g2, g3⟩ := h v hv
      unfold Version.good
      simp only [Bool.and_eq_true, decide_eq_true_eq, beq_iff_eq, List.all_eq_true]
      exact ⟨h1, g1, g2, by omega, g3⟩
    · have mono : ∀ (d i : Nat) (u v : Version), vs[i]? = some u → vs[i + 1 + d]? = some v → u.writer < v.writer := by
        intro d
        induction d with
        | zero =>
          intro i u v hu hv
          exact (a (i + 1 + 0) v hv).2.2.1 u (by omega) (by simpa using hu)
        | succ d ih =>
          intro i u v hu hv
          have hlt := (List.getElem?_eq_some_iff.mp hv).1
          have hw : vs[i + 1 + d]? = some vs[i + 1 + d] := List.getElem?_eq_getElem (by omega)
          have h1 := ih i u _ hu hw
          have h2 := (a (i + 1 + (d + 1)) v hv).2.2.1 _ (by omega) (by rw [show i + 1 + (d + 1) - 1 = i + 1 + d by omega]; exact hw)
          omega
      rw [List.pairwise_iff_getElem]
      intro i j hi hj hij
      have e1 : vs[i]? = some vs[i] := List.getElem?_eq_getElem hi
      have e2 : vs[j]? = some vs[j] := List.getElem?_eq_getElem hj
      refine ⟨mono (j - i - 1) i _ _ e1 (by rw [show i + 1 + (j - i - 1) = j by omega]; exact e2), ?_⟩
      have hm : vs[i] ∈ vs.take j := by
        rw [List.mem_take_iff_getElem]
        exact ⟨i, by omega, rfl⟩
      exact (a j _ e2).2.2.2 _ hm
  · rintro ⟨a, b⟩ i v hi
    have hlt := (List.getElem?_eq_some_iff.mp hi).1
    have ev := (List.getElem?_eq_some_iff.mp hi).2
    have hv : v ∈ vs := List.mem_of_getElem? hi
    have g := a v hv
    unfold Version.good at g
    simp only [Bool.and_eq_true, decide_eq_true_eq, beq_iff_eq, List.all_eq_true] at g
    obtain ⟨g1, g2, g3, g4, g5⟩ := g
    rw [List.pairwise_iff_getElem] at b
    refine ⟨g1, by omega, fun u hp hu => ?_, fun w hw => ?_⟩
    · obtain ⟨hu1, hu2⟩ := List.getElem?_eq_some_iff.mp hu
      have := (b (i - 1) i (by omega) hlt (by omega)).1
      rw [hu2, ev] at this
      exact this
    · rw [List.mem_take_iff_getElem] at hw
      obtain ⟨j, hj, e⟩ := hw
      have := (b j i (by omega) hlt (by omega)).2
      rw [e, ev] at this
      exact this
theorem versionAt_ok {l : List Nat} (hl : ∀ b ∈ l, b < 256) (k : Nat) : (versionAt l k).counts.length = 16 ∧ (∀ c ∈ (versionAt l k).counts, c < 2 ^ 32) ∧ (versionAt l k).value < 2 ^ 64 := by
  refine ⟨versionAt_len l k, ?_, ?_⟩
  · intro c hc
    obtain ⟨i, _, e⟩ := List.mem_map.mp (show c ∈ (List.range 16).map (fun i => num l (k + 4 + 4 * i) 4) from hc)
    have := num_lt hl (k + 4 + 4 * i) 4
    rw [← e]
    exact this
  · have := num_lt hl (k + 68) 8
    exact this

/-! ### sorting by insertion -/
section
variable {α β : Type}
def ins (f : α → Nat) (v : α) : List α → List α
  | [] => [v]
  | w :: l => if f v < f w then v :: w :: l else w :: ins f v l
def isort (f : α → Nat) (l : List α) : List α := l.foldl (fun s v => ins f v s) []
theorem ins_map (f : α → Nat) (g : β → α) (v : β) : ∀ l : List β, (ins (fun x => f (g x)) v l).map g = ins f (g v) (l.map g)
  | [] => rfl
  | w :: l => by
    simp only [ins, List.map_cons]
    split
    · rfl
    · rw [List.map_cons, ins_map f g v l]
theorem foldl_ins_map (f : α → Nat) (g : β → α) : ∀ (l acc : List β), (l.foldl (fun s v => ins (fun x => f (g x)) v s) acc).map g = (l.map g).foldl (fun s v => ins f v s) (acc.map g)
  | [], acc => rfl
  | v :: l, acc => by
    rw [List.foldl_cons, foldl_ins_map f g l, ins_map]
    rfl
theorem isort_map (f : α → Nat) (g : β → α) (l : List β) : (isort (fun x => f (g x)) l).map g = isort f (l.map g) := foldl_ins_map f g l []
theorem ins_perm (f : α → Nat) (v : α) : ∀ l : List α, (ins f v l).Perm (v :: l)
  | [] => List.Perm.refl _
  | w :: l => by
    simp only [ins]
    split
    · exact List.Perm.refl _
    · exact ((ins_perm f v l).cons w).trans (List.Perm.swap v w l)
theorem foldl_ins_perm (f : α → Nat) : ∀ (l acc : List α), (l.foldl (fun s v => ins f v s) acc).Perm (acc ++ l)
  | [], acc => by simp
  | v :: l, acc => by
    rw [List.foldl_cons]
    refine (foldl_ins_perm f l _).trans ?_
    refine ((ins_perm f v acc).append_right l).trans ?_
    exact List.perm_middle.symm
theorem isort_perm (f : α → Nat) (l : List α) : (isort f l).Perm l := foldl_ins_perm f l []
theorem ins_last (f : α → Nat) (v : α) : ∀ l : List α, (∀ w ∈ l, f w ≤ f v) → ins f v l = l ++ [v]
  | [], _ => rfl
  | w :: l, h => by
    simp only [ins]
    rw [if_neg (by have := h w (by simp); omega), ins_last f v l fun u hu => h u (by simp [hu])]
    rfl
theorem foldl_ins_sorted (f : α → Nat) : ∀ (l acc : List α), (acc ++ l).Pairwise (fun a b => f a ≤ f b) → l.foldl (fun s v => ins f v s) acc = acc ++ l
  | [], acc, _ => by simp
  | v :: l, acc, h => by
    rw [List.foldl_cons, ins_last f v acc, foldl_ins_sorted f l]
    · simp
    · simpa using h
    · intro w hw
      exact (List.pairwise_append.mp h).2.2 w hw v (by simp)
theorem isort_sorted (f : α → Nat) (l : List α) (h : l.Pairwise fun a b => f a ≤ f b) : isort f l = l := by
  have := foldl_ins_sorted f l [] (by simpa using h)
  simpa [isort] using this
theorem isort_append (f : α → Nat) (l m : List α) (h : l.Pairwise fun a b => f a ≤ f b) : isort f (l ++ m) = m.foldl (fun s v => ins f v s) l := by
  unfold isort
  rw [List.foldl_append]
  congr 1
  exact isort_sorted f l h
theorem ins_pairwise (f : α → Nat) (v : α) : ∀ l : List α, (l.Pairwise fun a b => f a ≤ f b) → (ins f v l).Pairwise fun a b => f a ≤ f b
  | [], _ => by simp [ins]
  | w :: l, h => by
    obtain ⟨h1, h2⟩ := List.pairwise_cons.mp h
    simp only [ins]
    split
    · rename_i c
      refine List.pairwise_cons.mpr ⟨fun u hu => ?_, h⟩
      rcases List.mem_cons.mp hu with e | hu
      · rw [e]; omega
      · have := h1 u hu; omega
    · refine List.pairwise_cons.mpr ⟨fun u hu => ?_, ins_pairwise f v l h2⟩
      rcases List.mem_cons.mp ((ins_perm f v l).mem_iff.mp hu) with e | hu
      · rw [e]; omega
      · exact h1 u hu
theorem foldl_ins_pairwise (f : α → Nat) : ∀ (l acc : List α), (acc.Pairwise fun a b => f a ≤ f b) → (l.foldl (fun s v => ins f v s) acc).Pairwise fun a b => f a ≤ f b
  | [], acc, h => h
  | v :: l, acc, h => foldl_ins_pairwise f l _ (ins_pairwise f v acc h)
/-- first by f, then by place -/
def lex (f : α → Nat) (a b : α × Nat) : Prop := f a.1 < f b.1 ∨ (f a.1 = f b.1 ∧ a.2 < b.2)
theorem ins_lex (f : α → Nat) (v : α × Nat) : ∀ l : List (α × Nat), l.Pairwise (lex f) → (∀ w ∈ l, w.2 < v.2) → (ins (fun x => f x.1) v l).Pairwise (lex f)
  | [], _, _ => by simp [ins]
  | w :: l, h, hv => by
    obtain ⟨h1, h2⟩ := List.pairwise_cons.mp h
    simp only [ins]
    split
    · rename_i c
      refine List.pairwise_cons.mpr ⟨fun u hu => ?_, h⟩
      rcases List.mem_cons.mp hu with e | hu
      · rw [e]; exact .inl c
      · have := h1 u hu
        unfold lex at this ⊢
        omega
    · rename_i c
      refine List.pairwise_cons.mpr ⟨fun u hu => ?_, ins_lex f v l h2 fun u hu => hv u (by simp [hu])⟩
      rcases List.mem_cons.mp ((ins_perm _ v l).mem_iff.mp hu) with e | hu
      · rw [e]
        have := hv w (by simp)
        unfold lex
        omega
      · exact h1 u hu
theorem foldl_ins_lex (f : α → Nat) : ∀ (l acc : List (α × Nat)), acc.Pairwise (lex f) → (l.Pairwise fun a b => a.2 < b.2) → (∀ a ∈ acc, ∀ b ∈ l, a.2 < b.2) → (l.foldl (fun s v => ins (fun x => f x.1) v s) acc).Pairwise (lex f)
  | [], acc, h, _, _ => h
  | v :: l, acc, h, hl, ha => by
    obtain ⟨h1, h2⟩ := List.pairwise_cons.mp hl
    rw [List.foldl_cons]
    refine foldl_ins_lex f l _ (ins_lex f v acc h fun w hw => ha w hw v (by simp)) h2 ?_
    intro a haa b hb
    rcases List.mem_cons.mp ((ins_perm _ v acc).mem_iff.mp haa) with e | haa
    · rw [e]; exact h1 b hb
    · exact ha a haa b (by simp [hb])
theorem isort_lex (f : α → Nat) (l : List (α × Nat)) (hl : l.Pairwise fun a b => a.2 < b.2) : (isort (fun x => f x.1) l).Pairwise (lex f) :=
  foldl_ins_lex f l [] List.Pairwise.nil hl (by simp)
end
theorem insert_eq (v : Version) : ∀ l : List Version, Km353.insert v l = ins Version.writer v l
  | [] => rfl
  | w :: l => by
    unfold Km353.insert
    simp only [ins]
    split
    · rfl
    · rw [insert_eq v l]
theorem merge_eq (p q : List Version) (h : p.Pairwise fun a b => a.writer ≤ b.writer) :
    merge p q = isort Version.writer ((p.filter fun v => !(covered (q.filter fun w => !(covered p w)) v)) ++ q.filter fun v => !(covered p v)) := by
  rw [isort_append _ _ _ (h.sublist List.filter_sublist)]
  unfold merge
  congr 1
  funext s v
  exact insert_eq v s
/-- a list of pairs (key, place) in order: the places tell the sort -/
theorem sorted_places {α : Type} (f : α → Nat) (ps : List α) (ys : List (Int × Int)) (hp : ys.Perm ((ps.zipIdx).map fun x => ((f x.1 : Int), (x.2 : Int))))
    (hs : ys.Pairwise fun a b => ¬ (b.1 < a.1 ∨ (b.1 = a.1 ∧ b.2 < a.2))) : ys = (isort (fun x : α × Nat => f x.1) ps.zipIdx).map fun x => ((f x.1 : Int), (x.2 : Int)) := by
  have hz : (ps.zipIdx).Pairwise fun a b => a.2 < b.2 := by
    rw [List.pairwise_iff_getElem]
    intro i j hi hj hij
    simp [List.getElem_zipIdx]
    exact hij
  have hl := isort_lex f ps.zipIdx hz
  have hperm : ys.Perm ((isort (fun x : α × Nat => f x.1) ps.zipIdx).map fun x => ((f x.1 : Int), (x.2 : Int))) := hp.trans ((isort_perm _ _).symm.map _)
  refine hperm.eq_of_pairwise (le := fun a b => ¬ (b.1 < a.1 ∨ (b.1 = a.1 ∧ b.2 < a.2))) ?_ hs ?_
  · intro a b _ _ h1 h2
    apply Prod.ext <;> omega
  · rw [List.pairwise_map]
    refine hl.imp ?_
    intro a b hab
    unfold lex at hab
    simp only
    omega
theorem isort_places {α : Type} (f : α → Nat) (ps : List α) : (isort (fun x : α × Nat => f x.1) ps.zipIdx).map Prod.fst = isort f ps := by
  rw [isort_map f Prod.fst, List.zipIdx_map_fst]

/-! ### what holds of a paper, of a machine -/
def VOk (v : Version) : Prop := v.writer < 16 ∧ v.counts.length = 16 ∧ ∀ c ∈ v.counts, c < 2 ^ 32
structure POk (p : List Version) : Prop where
  len : p.length ≤ 4
  ver : ∀ v ∈ p, VOk v
  srt : p.Pairwise fun a b => a.writer ≤ b.writer
structure MOk (m : Machine) : Prop where
  lo : 2 ≤ m.machines
  hi : m.machines ≤ 16
  me : m.me < m.machines
  len : m.papers.length = 64
  pap : ∀ p ∈ m.papers, POk p
theorem MOk.paper {m : Machine} (h : MOk m) {k : Nat} (hk : k < 64) : POk (m.paper k) := by
  have : m.paper k = m.papers[k]'(by rw [h.len]; exact hk) := by
    unfold Machine.paper
    rw [List.getD_eq_getElem?_getD, List.getElem?_eq_getElem (by rw [h.len]; exact hk)]
    rfl
  rw [this]
  exact h.pap _ (List.getElem_mem _)
theorem POk.nil : POk [] := ⟨by decide, by simp, List.Pairwise.nil⟩
theorem fresh_ok {me n : Nat} (h : okSize me n = true) : MOk (fresh me n) := by
  unfold okSize at h
  simp only [Bool.and_eq_true, decide_eq_true_eq] at h
  refine ⟨h.1, h.2.1, h.2.2, by simp [fresh, PAPERS], ?_⟩
  intro p hp
  have := (List.mem_replicate.mp (show p ∈ List.replicate 64 [] from hp)).2
  rw [this]
  exact POk.nil
theorem MOk.set {m : Machine} (h : MOk m) {k : Nat} {p : List Version} (hp : POk p) : MOk { m with papers := m.papers.set k p } := by
  refine ⟨h.lo, h.hi, h.me, by simp [h.len], ?_⟩
  intro q hq
  rcases List.mem_or_eq_of_mem_set hq with hq | e
  · exact h.pap q hq
  · rw [e]; exact hp
theorem good_ok {v : Version} (g : v.good = true) : VOk v := by
  unfold Version.good at g
  simp only [Bool.and_eq_true, decide_eq_true_eq, beq_iff_eq, List.all_eq_true] at g
  exact ⟨g.1, g.2.1, g.2.2.1⟩
theorem merge_mem {p q : List Version} {v : Version} (h : v ∈ merge p q) : v ∈ p ∨ v ∈ q := by
  unfold merge at h
  have e : ∀ (l acc : List Version), l.foldl (fun s v => Km353.insert v s) acc = l.foldl (fun s v => ins Version.writer v s) acc := by
    intro l
    induction l with
    | nil => intro acc; rfl
    | cons a l ih => intro acc; rw [List.foldl_cons, List.foldl_cons, insert_eq, ih]
  rw [e] at h
  have := (foldl_ins_perm Version.writer _ _).mem_iff.mp h
  rcases List.mem_append.mp this with a | a
  · exact .inl (List.mem_filter.mp a).1
  · exact .inr (List.mem_filter.mp a).1
theorem merge_ok {p q : List Version} (hp : POk p) (hq : ∀ v ∈ q, VOk v) (hl : (merge p q).length ≤ 4) : POk (merge p q) := by
  refine ⟨hl, fun v hv => ?_, ?_⟩
  · rcases merge_mem hv with a | a
    · exact hp.ver v a
    · exact hq v a
  · unfold merge
    have e : (fun (s : List Version) v => Km353.insert v s) = fun s v => ins Version.writer v s := by
      funext s v
      exact insert_eq v s
    rw [e]
    exact foldl_ins_pairwise _ _ _ (hp.srt.sublist List.filter_sublist)
theorem join_len (a b : List Nat) : (join a b).length = 16 := by
  unfold join
  simp [MACHINES]
theorem knownF_len : ∀ (p : List Version) (s : List Nat), s.length = 16 → (p.foldl (fun s v => join s v.counts) s).length = 16
  | [], s, h => h
  | v :: p, s, _ => knownF_len p _ (join_len _ _)
theorem known_len (p : List Version) : (known p).length = 16 := knownF_len p _ (by simp [zeros, MACHINES])
theorem at_lt {l : List Nat} {n : Nat} (h : ∀ c ∈ l, c < n) (h0 : 0 < n) (i : Nat) : at_ l i < n := by
  unfold at_
  rw [List.getD_eq_getElem?_getD]
  cases e : l[i]? with
  | none => exact h0
  | some c => exact h c (List.mem_of_getElem? e)
theorem join_lt {a b : List Nat} {n : Nat} (ha : ∀ c ∈ a, c < n) (hb : ∀ c ∈ b, c < n) (h0 : 0 < n) : ∀ c ∈ join a b, c < n := by
  intro c hc
  unfold join at hc
  obtain ⟨i, _, e⟩ := List.mem_map.mp hc
  have h1 := at_lt ha h0 i
  have h2 := at_lt hb h0 i
  rw [← e]
  omega
theorem knownF_lt {n : Nat} (h0 : 0 < n) : ∀ (p : List Version) (s : List Nat), (∀ c ∈ s, c < n) → (∀ v ∈ p, ∀ c ∈ v.counts, c < n) → ∀ c ∈ p.foldl (fun s v => join s v.counts) s, c < n
  | [], s, h, _ => h
  | v :: p, s, h, hv => knownF_lt h0 p _ (join_lt h (hv v (by simp)) h0) fun w hw => hv w (by simp [hw])
theorem known_lt {p : List Version} (hp : POk p) : ∀ c ∈ known p, c < 2 ^ 32 := by
  refine knownF_lt (by decide) p _ ?_ fun v hv => (hp.ver v hv).2.2
  intro c hc
  have := (List.mem_replicate.mp (show c ∈ List.replicate 16 0 from hc)).2
  rw [this]
  decide
theorem write_ok {p : List Version} (hp : POk p) {me x : Nat} (hm : me < 16) (h : at_ (known p) me + 1 < 2 ^ 32) : POk [Km353.write me x p] := by
  refine ⟨by simp, fun v hv => ?_, by simp⟩
  have e : v = Km353.write me x p := by simpa using hv
  rw [e]
  refine ⟨hm, ?_, ?_⟩
  · show ((known p).set me _).length = 16
    rw [List.length_set, known_len]
  · intro c hc
    rcases List.mem_or_eq_of_mem_set (show c ∈ (known p).set me _ from hc) with a | a
    · exact known_lt hp c a
    · rw [a]; exact h
theorem told_ok {l : List Nat} (r : Right l) : ∀ v ∈ (told l).versions, VOk v := fun v hv => good_ok (((okPaper_iff _).mp r.2.2.2.2).1 v hv)
end PR
namespace PR
open Km353

/-! ### calls as numbers -/
def cNums (k : Nat) : Km353.Call → List Nat
  | .start me n => [k, me, n]
  | .write p v => [k, p, v]
  | .read p => [k, p]
  | .say p => [k, p]
  | .heard _ => [k]
def cKind : Km353.Call → Nat
  | .start _ _ => 0
  | .write _ _ => 1
  | .read _ => 2
  | .say _ => 3
  | .heard _ => 4
def cRow : Km353.Call → List Nat
  | .heard l => l.length :: l
  | _ => []
def cEnc (k : Nat) (x : Km353.Call) : List Nat := cKind x :: (cNums k x ++ cRow x)
/-- what is asked of a call -/
def COk : Km353.Call → Prop
  | .heard l => l.length = 312 ∧ ∀ b ∈ l, b < 256
  | _ => True
theorem nonneg_cast {z : Int} (h : 0 ≤ z) : ((z.toNat : Nat) : Int) = z := Int.toNat_of_nonneg h
theorem decode {s : Km353Neutral.S} {f : Nat} {p : Int} {r : List Int} {cs : List (List (List Int))} (h : PyFlat.calls PyKm353.shape (f + 1) (p :: r) = some cs) (hb : PyInside.calls PyKm353.bound cs = true) :
    ∃ (c : List (List Int)) (cs' : List (List (List Int))) (t : List Int) (k : Nat) (x : Km353.Call), cs = c :: cs' ∧ PyFlat.calls PyKm353.shape f t = some cs' ∧ PyInside.calls PyKm353.bound cs' = true ∧ p :: r = (cEnc k x).map Int.ofNat ++ t ∧ k < 4 ∧ COk x ∧
      ∀ s, Km353Neutral.step s (PyKm353.whole c) = Km353Neutral.step0 s k x := by
  have h1 : ∃ (c : List (List Int)) (t : List Int) (cs' : List (List (List Int))), PyFlat.call PyKm353.shape (p :: r) = some (c, t) ∧ PyFlat.calls PyKm353.shape f t = some cs' ∧ cs = c :: cs' := by
    unfold PyFlat.calls at h
    cases e : PyFlat.call PyKm353.shape (p :: r) with
    | none =>
      rw [e] at h
      cases h
    | some ct =>
      obtain ⟨c, t⟩ := ct
      rw [e] at h
      simp only at h
      cases e2 : PyFlat.calls PyKm353.shape f t with
      | none =>
        rw [e2] at h
        cases h
      | some cs' =>
        rw [e2] at h
        exact ⟨c, t, cs', rfl, e2, (Option.some.inj h).symm⟩
  obtain ⟨c, t, cs', hc, ht, rfl⟩ := h1
  have hb' : PyInside.call PyKm353.bound c = true ∧ PyInside.calls PyKm353.bound cs' = true := by
    unfold PyInside.calls at hb
    rw [List.all_cons, Bool.and_eq_true] at hb
    exact hb
  obtain ⟨hb1, hb2⟩ := hb'
  replace hc : (match PyKm353.shape p with | none => none | some (n, k) => if r.length < n then none else match PyFlat.rows k (r.drop n) with | none => none | some (xs, t) => some ((p :: r.take n) :: xs, t)) = some (c, t) := hc
  suffices hsuf : ∃ (k : Nat) (x : Km353.Call), p :: r = (cEnc k x).map Int.ofNat ++ t ∧ k < 4 ∧ COk x ∧ ∀ s, Km353Neutral.step s (PyKm353.whole c) = Km353Neutral.step0 s k x by
    obtain ⟨k, x, a1, a2, a3, a4⟩ := hsuf
    exact ⟨c, cs', t, k, x, rfl, ht, hb2, a1, a2, a3, a4⟩
  by_cases p0 : p = 0
  · subst p0
    have hs : PyKm353.shape 0 = some (3, 0) := rfl
    rw [hs] at hc
    match r, hc with
    | a :: b :: d :: r', hc =>
      have hc' : some ([[0, a, b, d]], r') = some (c, t) := hc
      obtain ⟨e1, e2⟩ := Prod.mk.inj (Option.some.inj hc')
      subst e1 e2
      simp [PyInside.call, PyInside.each, PyInside.lists, PyKm353.bound, PyInside.within] at hb1
      obtain ⟨⟨a0, a3⟩, ⟨b0, b3⟩, d0, d3⟩ := hb1
      refine ⟨a.toNat, .start b.toNat d.toNat, ?_, by omega, trivial, fun s => rfl⟩
      show 0 :: a :: b :: d :: r' = [((0 : Nat) : Int), ((a.toNat : Nat) : Int), ((b.toNat : Nat) : Int), ((d.toNat : Nat) : Int)] ++ r'
      rw [nonneg_cast a0, nonneg_cast b0, nonneg_cast d0]
      rfl
    | [], hc => cases hc
    | [_], hc => cases hc
    | [_, _], hc => cases hc
  by_cases p1 : p = 1
  · subst p1
    have hs : PyKm353.shape 1 = some (3, 0) := rfl
    rw [hs] at hc
    match r, hc with
    | a :: b :: d :: r', hc =>
      have hc' : some ([[1, a, b, d]], r') = some (c, t) := hc
      obtain ⟨e1, e2⟩ := Prod.mk.inj (Option.some.inj hc')
      subst e1 e2
      simp [PyInside.call, PyInside.each, PyInside.lists, PyKm353.bound, PyInside.within] at hb1
      obtain ⟨⟨a0, a3⟩, ⟨b0, b3⟩, d0, d3⟩ := hb1
      refine ⟨a.toNat, .write b.toNat d.toNat, ?_, by omega, trivial, fun s => rfl⟩
      show 1 :: a :: b :: d :: r' = [((1 : Nat) : Int), ((a.toNat : Nat) : Int), ((b.toNat : Nat) : Int), ((d.toNat : Nat) : Int)] ++ r'
      rw [nonneg_cast a0, nonneg_cast b0, nonneg_cast d0]
      rfl
    | [], hc => cases hc
    | [_], hc => cases hc
    | [_, _], hc => cases hc
  by_cases p2 : p = 2
  · subst p2
    have hs : PyKm353.shape 2 = some (2, 0) := rfl
    rw [hs] at hc
    match r, hc with
    | a :: b :: r', hc =>
      have hc' : some ([[2, a, b]], r') = some (c, t) := hc
      obtain ⟨e1, e2⟩ := Prod.mk.inj (Option.some.inj hc')
      subst e1 e2
      simp [PyInside.call, PyInside.each, PyInside.lists, PyKm353.bound, PyInside.within] at hb1
      obtain ⟨⟨a0, a3⟩, b0, b3⟩ := hb1
      refine ⟨a.toNat, .read b.toNat, ?_, by omega, trivial, fun s => rfl⟩
      show 2 :: a :: b :: r' = [((2 : Nat) : Int), ((a.toNat : Nat) : Int), ((b.toNat : Nat) : Int)] ++ r'
      rw [nonneg_cast a0, nonneg_cast b0]
      rfl
    | [], hc => cases hc
    | [_], hc => cases hc
  by_cases p3 : p = 3
  · subst p3
    have hs : PyKm353.shape 3 = some (2, 0) := rfl
    rw [hs] at hc
    match r, hc with
    | a :: b :: r', hc =>
      have hc' : some ([[3, a, b]], r') = some (c, t) := hc
      obtain ⟨e1, e2⟩ := Prod.mk.inj (Option.some.inj hc')
      subst e1 e2
      simp [PyInside.call, PyInside.each, PyInside.lists, PyKm353.bound, PyInside.within] at hb1
      obtain ⟨⟨a0, a3⟩, b0, b3⟩ := hb1
      refine ⟨a.toNat, .say b.toNat, ?_, by omega, trivial, fun s => rfl⟩
      show 3 :: a :: b :: r' = [((3 : Nat) : Int), ((a.toNat : Nat) : Int), ((b.toNat : Nat) : Int)] ++ r'
      rw [nonneg_cast a0, nonneg_cast b0]
      rfl
    | [], hc => cases hc
    | [_], hc => cases hc
  by_cases p4 : p = 4
  · subst p4
    have hs : PyKm353.shape 4 = some (1, 1) := rfl
    rw [hs] at hc
    match r, hc with
    | a :: n :: r', hc =>
      have hc' : (match PyFlat.rows 1 (n :: r') with | none => none | some (xs, t) => some ([4, a] :: xs, t)) = some (c, t) := hc
      by_cases q : 0 ≤ n ∧ n.toNat ≤ r'.length
      · have e : PyFlat.row (n :: r') = some (r'.take n.toNat, r'.drop n.toNat) := if_pos q
        have e0 : PyFlat.rows 1 (n :: r') = some ([r'.take n.toNat], r'.drop n.toNat) := by
          unfold PyFlat.rows
          rw [e]
          rfl
        rw [e0] at hc'
        have hc2 : some ([[4, a], r'.take n.toNat], r'.drop n.toNat) = some (c, t) := hc'
        obtain ⟨e1, e2⟩ := Prod.mk.inj (Option.some.inj hc2)
        subst e1 e2
        simp [PyInside.call, PyInside.each, PyInside.lists, PyKm353.bound, PyInside.within] at hb1
        obtain ⟨⟨a0, a3⟩, ⟨l1, l2⟩, hz⟩ := hb1
        have hlen : (r'.take n.toNat).length = 312 := by
          rw [List.length_take]
          omega
        have hnn : n.toNat = 312 := by
          rw [List.length_take] at hlen
          omega
        refine ⟨a.toNat, .heard (Km353Neutral.nats (r'.take n.toNat)), ?_, by omega, ⟨?_, ?_⟩, fun s => rfl⟩
        · show 4 :: a :: n :: r' = ((4 : Nat) : Int) :: ((a.toNat : Nat) : Int) :: (((Km353Neutral.nats (r'.take n.toNat)).length : Nat) : Int) :: ((Km353Neutral.nats (r'.take n.toNat)).map Int.ofNat ++ r'.drop n.toNat)
          have e1 : (Km353Neutral.nats (r'.take n.toNat)).map Int.ofNat = r'.take n.toNat := by
            unfold Km353Neutral.nats
            rw [List.map_map]
            have : ∀ (l : List Int), (∀ z ∈ l, 0 ≤ z) → l.map (Int.ofNat ∘ Int.toNat) = l := by
              intro l hl
              induction l with
              | nil => rfl
              | cons z l ih =>
                rw [List.map_cons, ih fun y hy => hl y (by simp [hy])]
                congr 1
                exact Int.toNat_of_nonneg (hl z (by simp))
            exact this _ fun z hz' => (hz z hz').1
          have e2 : (Km353Neutral.nats (r'.take n.toNat)).length = n.toNat := by
            unfold Km353Neutral.nats
            rw [List.length_map, hlen, hnn]
          rw [e1, e2, List.take_append_drop, nonneg_cast a0, nonneg_cast q.1]
          rfl
        · unfold Km353Neutral.nats
          rw [List.length_map, hlen]
        · intro b hb'
          unfold Km353Neutral.nats at hb'
          obtain ⟨z, hz', rfl⟩ := List.mem_map.mp hb'
          have := hz z hz'
          omega
      · have e : PyFlat.row (n :: r') = none := if_neg q
        have e0 : PyFlat.rows 1 (n :: r') = none := by
          unfold PyFlat.rows
          rw [e]
        rw [e0] at hc'
        cases hc'
    | [], hc => cases hc
    | [a], hc =>
      cases hc
  · have hs : PyKm353.shape p = none := by
      unfold PyKm353.shape
      rw [if_neg p0, if_neg p1, if_neg p2, if_neg p3, if_neg p4]
    rw [hs] at hc
    cases hc

/-! ### one call -/
theorem set_same {α : Type} {l : List α} {k : Nat} {x : α} (h : l[k]? = some x) : l.set k x = l := by
  apply List.ext_getElem?
  intro i
  rw [List.getElem?_set]
  by_cases e : k = i
  · rw [if_pos e, ← e, if_pos (List.getElem?_eq_some_iff.mp h).1, h]
  · rw [if_neg e]
theorem getD_of {α : Type} {l : List (Option α)} {k : Nat} {x : Option α} (h : l[k]? = some x) : l.getD k none = x := by
  rw [List.getD_eq_getElem?_getD, h]
  rfl
theorem step_none {s : Km353Neutral.S} {k : Nat} {x : Km353.Call} (h : s[k]? = some none) (hx : Km353.isStart x = false) : (Km353Neutral.step0 s k x).2 = [] := by
  unfold Km353Neutral.step0
  by_cases c : 4 ≤ k
  · rw [if_pos c]
  · rw [if_neg c, getD_of h]
    simp only [hx]
    rfl
theorem step_some {s : Km353Neutral.S} {k : Nat} {m : Machine} (x : Km353.Call) (hk : k < 4) (h : s[k]? = some (some m)) : Km353Neutral.step0 s k x = (s.set k (some (act m x).1), Km353Neutral.told (act m x).2) := by
  unfold Km353Neutral.step0
  rw [if_neg (by omega), getD_of h]
theorem step_start_ok {s : Km353Neutral.S} {k me n : Nat} {o : Option Machine} (hk : k < 4) (h : s[k]? = some o) (ok : okSize me n = true) : Km353Neutral.step0 s k (.start me n) = (s.set k (some (fresh me n)), [0]) := by
  have e : ∀ m : Machine, act m (.start me n) = (fresh me n, only 0) := fun m => if_neg (by rw [ok]; decide)
  cases o with
  | some m =>
    rw [step_some _ hk h, e]
    rfl
  | none =>
    unfold Km353Neutral.step0
    rw [if_neg (by omega), getD_of h]
    simp only [isStart, if_true]
    rw [e]
    rfl
theorem step_start_bad {s : Km353Neutral.S} {k me n : Nat} {o : Option Machine} (hk : k < 4) (h : s[k]? = some o) (ok : okSize me n = false) : Km353Neutral.step0 s k (.start me n) = (s, [-22]) := by
  have e : ∀ m : Machine, act m (.start me n) = (m, only (-22)) := fun m => if_pos ok
  cases o with
  | some m =>
    rw [step_some _ hk h, e]
    show (s.set k (some m), [(-22 : Int)]) = _
    rw [set_same h]
  | none =>
    unfold Km353Neutral.step0
    rw [if_neg (by omega), getD_of h]
    simp only [isStart, if_true]
    rw [e]
    rfl
theorem act_ok {m : Machine} (h : MOk m) {c : Km353.Call} (hc : COk c) : MOk (act m c).1 := by
  cases c with
  | start me n =>
    show MOk (if okSize me n = false then (m, only (-22)) else (fresh me n, only 0)).1
    by_cases e : okSize me n = false
    · rw [if_pos e]; exact h
    · rw [if_neg e]; exact fresh_ok (by simpa using e)
  | write k x =>
    show MOk (if PAPERS ≤ k then (m, only (-22)) else if COUNT ≤ at_ (known (m.paper k)) m.me + 1 then (m, only (-28)) else ({ m with papers := m.papers.set k [Km353.write m.me x (m.paper k)] }, only 0)).1
    by_cases e : PAPERS ≤ k
    · rw [if_pos e]; exact h
    · rw [if_neg e]
      by_cases e2 : COUNT ≤ at_ (known (m.paper k)) m.me + 1
      · rw [if_pos e2]; exact h
      · rw [if_neg e2]
        refine h.set (write_ok (h.paper (by unfold PAPERS at e; omega)) (Nat.lt_of_lt_of_le h.me h.hi) ?_)
        unfold COUNT at e2
        omega
  | read k => exact h
  | say k => exact h
  | heard l =>
    obtain ⟨hl, hb⟩ := hc
    show MOk (match messageOf l with | none => _ | some x => _ : Machine × Ans).1
    by_cases r : Right l
    · rw [messageOf_some hl hb r]
      simp only
      split
      · exact h
      · split
        · exact h
        · split
          · exact h
          · rename_i z
            refine h.set (merge_ok (h.paper r.2.1.2.2.1) (told_ok r) ?_)
            unfold APART at z
            omega
    · rw [messageOf_none hl hb r]
      exact h
/-- a refusal leaves the machine as it was -/
theorem act_neg {m : Machine} {c : Km353.Call} (h : (act m c).2.value < 0) : act m c = (m, only (act m c).2.value) := by
  cases c with
  | start me n =>
    have e0 : act m (.start me n) = if okSize me n = false then (m, only (-22)) else (fresh me n, only 0) := rfl
    by_cases e : okSize me n = false
    · rw [e0, if_pos e]; rfl
    · rw [e0, if_neg e] at h; exact absurd h (by show ¬ ((0 : Int) < 0); decide)
  | write k x =>
    have e0 : act m (.write k x) = if PAPERS ≤ k then (m, only (-22)) else if COUNT ≤ at_ (known (m.paper k)) m.me + 1 then (m, only (-28)) else ({ m with papers := m.papers.set k [Km353.write m.me x (m.paper k)] }, only 0) := rfl
    by_cases e : PAPERS ≤ k
    · rw [e0, if_pos e]; rfl
    · by_cases e2 : COUNT ≤ at_ (known (m.paper k)) m.me + 1
      · rw [e0, if_neg e, if_pos e2]; rfl
      · rw [e0, if_neg e, if_neg e2] at h; exact absurd h (by show ¬ ((0 : Int) < 0); decide)
  | read k =>
    have e0 : act m (.read k) = (m, if PAPERS ≤ k then only (-22) else { value := ((m.paper k).length : Int), out := ((m.paper k).map Version.value ++ List.replicate APART 0).take APART }) := rfl
    by_cases e : PAPERS ≤ k
    · rw [e0, if_pos e]; rfl
    · rw [e0, if_neg e] at h
      have : ((m.paper k).length : Int) < 0 := h
      omega
  | say k =>
    have e0 : act m (.say k) = (m, if PAPERS ≤ k then only (-22) else { value := 0, out := (⟨m.me, k, m.paper k⟩ : Message).bytes }) := rfl
    by_cases e : PAPERS ≤ k
    · rw [e0, if_pos e]; rfl
    · rw [e0, if_neg e] at h; exact absurd h (by show ¬ ((0 : Int) < 0); decide)
  | heard l =>
    have e0 : act m (.heard l) = (match messageOf l with | none => (m, only (-71)) | some x => if m.machines ≤ x.from_ ∨ (x.versions.any fun v => decide (m.machines ≤ v.writer)) = true ∨ clash (m.paper x.paper) x.versions = true then (m, only (-71)) else if merge (m.paper x.paper) x.versions = m.paper x.paper then (m, only 0) else if APART < (merge (m.paper x.paper) x.versions).length then (m, only (-28)) else ({ m with papers := m.papers.set x.paper (merge (m.paper x.paper) x.versions) }, only 1)) := rfl
    rw [e0] at h ⊢
    cases e : messageOf l with
    | none => rfl
    | some x =>
      rw [e] at h
      simp only at h ⊢
      split
      · rfl
      · rename_i c1
        rw [if_neg c1] at h
        split
        · rename_i c2
          rw [if_pos c2] at h
          exact absurd h (by show ¬ ((0 : Int) < 0); decide)
        · rename_i c2
          rw [if_neg c2] at h
          split
          · rfl
          · rename_i c3
            rw [if_neg c3] at h
            exact absurd h (by show ¬ ((1 : Int) < 0); decide)
end PR
namespace L2
open PySem PySem.Spec PyProof.Rows
section
variable {X : Cx}
/-- xs != [], xs == [], whatever stands in xs -/
def rNeE (K : PySem.W.Frag) : R2 := fun x y H Q => ∃ a b xs, x = .ref a ∧ y = .ref b ∧ SqL K H a xs ∧ SqL K H b [] ∧ Q (.bl (!xs.isEmpty)) H
def rEqE (K : PySem.W.Frag) : R2 := fun x y H Q => ∃ a b xs, x = .ref a ∧ y = .ref b ∧ SqL K H a xs ∧ SqL K H b [] ∧ Q (.bl xs.isEmpty) H
theorem op_neE (hu : X.A.units + 64 < cLine) : OpR X (compareOp .NotEq) (rNeE X.K) := by
  intro pins s σ H x y v u Q I rx ry h
  obtain ⟨a, b, xs, rfl, rfl, ha, hb, q⟩ := h
  cases rx
  cases ry
  obtain ⟨its, r, pl, hz⟩ := I.list ha
  obtain ⟨its2, r2, pl2, hz2⟩ := I.list hb
  cases r2
  have hu1 : X.A.units < cLine := by omega
  cases xs with
  | nil =>
    cases r
    have z := SeqAt.RcNeAt.lists (A := X.A) (s := s) (e := fun _ => true) pl.isList pl2.isList rfl hu1 (fun j h1 _ => absurd h1 (by simp))
    exact z X.prog X.w X.xe _ ⟨.bl false, H, I, rfl, q⟩
  | cons x xs =>
    have hl := r.length
    have z := SeqAt.RcNeAt.lists_lengths (A := X.A) (s := s) pl.isList pl2.isList (by simp at hl ⊢; intro e; rw [e] at hl; simp at hl) hu1
    exact z X.prog X.w X.xe _ ⟨.bl true, H, I, rfl, q⟩
theorem op_eqE (hu : X.A.units + 64 < cLine) : OpR X (compareOp .Eq) (rEqE X.K) := by
  intro pins s σ H x y v u Q I rx ry h
  obtain ⟨a, b, xs, rfl, rfl, ha, hb, q⟩ := h
  cases rx
  cases ry
  obtain ⟨its, r, pl, hz⟩ := I.list ha
  obtain ⟨its2, r2, pl2, hz2⟩ := I.list hb
  cases r2
  have hu1 : X.A.units < cLine := by omega
  cases xs with
  | nil =>
    cases r
    have z := SeqAt.RcAt.lists (A := X.A) (s := s) (e := fun _ => true) pl.isList pl2.isList rfl hu1 (fun j h1 _ => absurd h1 (by simp))
    exact z X.prog X.w X.xe _ ⟨.bl true, H, I, rfl, q⟩
  | cons x xs =>
    have hl := r.length
    have z := SeqAt.RcAt.lists_lengths (A := X.A) (s := s) pl.isList pl2.isList (by simp at hl ⊢; intro e; rw [e] at hl; simp at hl) hu1
    exact z X.prog X.w X.xe _ ⟨.bl false, H, I, rfl, q⟩
/-- two lists of whole numbers, ==, != -/
def rEqI (K : PySem.W.Frag) : R2 := fun x y H Q => ∃ (a b : Addr) (ns ms : List Int), x = .ref a ∧ y = .ref b ∧ SqL K H a (ns.map V.int) ∧ SqL K H b (ms.map V.int) ∧ Q (.bl (decide (ns = ms))) H
def rNeI (K : PySem.W.Frag) : R2 := fun x y H Q => ∃ (a b : Addr) (ns ms : List Int), x = .ref a ∧ y = .ref b ∧ SqL K H a (ns.map V.int) ∧ SqL K H b (ms.map V.int) ∧ Q (.bl (!decide (ns = ms))) H
theorem op_eqI (hu : X.A.units + 64 < cLine) : OpR X (compareOp .Eq) (rEqI X.K) := by
  intro pins s σ H x y v u Q I rx ry h
  obtain ⟨a, b, ns, ms, rfl, rfl, ha, hb, q⟩ := h
  cases rx
  cases ry
  obtain ⟨its, r, pl, hz⟩ := I.list ha
  obtain ⟨its2, r2, pl2, hz2⟩ := I.list hb
  exact PySem.W.ke_eq_ints pl.isList pl2.isList r.ints r2.ints hu ⟨.bl _, H, I, rfl, q⟩
theorem op_neI (hu : X.A.units + 64 < cLine) : OpR X (compareOp .NotEq) (rNeI X.K) := by
  intro pins s σ H x y v u Q I rx ry h
  obtain ⟨a, b, ns, ms, rfl, rfl, ha, hb, q⟩ := h
  cases rx
  cases ry
  obtain ⟨its, r, pl, hz⟩ := I.list ha
  obtain ⟨its2, r2, pl2, hz2⟩ := I.list hb
  exact PySem.W.ke_ne_ints pl.isList pl2.isList r.ints r2.ints hu ⟨.bl _, H, I, rfl, q⟩
/-- xs[i] ahead of xs[i] += e -/
def rGetL (K : PySem.W.Frag) : V → V → Hp → VK → Prop := fun x y H Q => ∃ p xs v, ∃ j : Nat, x = .ref p ∧ y = .int (j : Int) ∧ SqL K H p xs ∧ xs[j]? = some v ∧ Q v H
theorem pget_list : PGet X (rGetL X.K) := by
  intro pins s σ H x y v u Q I rx ry h
  obtain ⟨p, xs, z, j, rfl, rfl, hq, he, q⟩ := h
  cases rx
  obtain ⟨t, rfl⟩ := ry
  obtain ⟨its, r, pl, hz⟩ := I.list hq
  obtain ⟨w, ew, rw'⟩ := r.get he
  have hl := r.length
  have hn := line63
  have hj := (List.getElem?_eq_some_iff.mp he).1
  exact wpAny_getItem_list pl.isList (by omega) (by omega) (by simpa using ew) ⟨z, H, I, rw', q⟩
end
end L2
namespace PR
open PySem PySem.Spec PyProof.Rows L2
def top (i : Nat) : Stmt := PySem.Challenge.pw_paperrounds_s01_answers.main.body.getD i (.Pass ⟨0, 0, 0, 0⟩)

/-! ### defs and classes by their names -/
section
variable (P : Program) (w : World) (K : PySem.W.Frag) (mg : Str → Option Value) (base : Heap)
/-- a def that raises nothing -/
def Df (k : Nat) (x : Str) (ps : List Str) (sp : Sp) : Prop := ∃ (f : Addr) (fd : FuncData), mg x = some (.ref f) ∧ PySem.W.keepIn K (.ref f) = true ∧ Binds K fd ps [] ∧ FnOk P w K mg base CX0 k f fd ps sp
/-- a def that may raise -/
def DfX (k : Nat) (x : Str) (ps : List Str) (sp : Sp) : Prop := ∃ (f : Addr) (fd : FuncData), mg x = some (.ref f) ∧ PySem.W.keepIn K (.ref f) = true ∧ Binds K fd ps [] ∧ FnOk P w K mg base (L2.CX P w) k f fd ps sp
/-- a class and its __init__ -/
def Mkr (k : Nat) (x : Str) (C : Addr) (ps : List Str) (sp : Sp) : Prop := ∃ (f : Addr) (fd : FuncData), mg x = some (.ref C) ∧ Mk K C f ∧ Binds K fd ps [] ∧ FnOk P w K mg base CX0 k f fd ps sp
/-- where a def of the text stands -/
def Here (x : Str) (st : Stmt) (ps : List Str) : Prop := ∃ (f : Addr) (fd : FuncData), mg x = some (.ref f) ∧ Fun K x x st f fd ∧ Binds K fd ps []
def HereI (x q : Str) (C : Addr) (st : Stmt) (ps : List Str) : Prop := ∃ (f : Addr) (fd : FuncData), mg x = some (.ref C) ∧ Mk K C f ∧ Fun K "__init__" q st f fd ∧ Binds K fd ps []
end
section
variable {P : Program} {w : World} {K : PySem.W.Frag} {mg : Str → Option Value} {base : Heap}
theorem Here.df {x : Str} {st : Stmt} {N ps : List Str} {k : Nat} {sp : Sp} (h : Here K mg x st ps) (S : FnScope N ps (defScope st)) (len : ∀ vs H Q E, sp vs H Q E → vs.length = ps.length)
    (hbody : ∀ (cdv : Value) (A : Around) (outer : List Env) (s : Shared) (H : Hp) (vs : List V) (Q : VK) (E : XK) (f : Addr), Room k (A.deeper (envOfC x (defScope st) s.heap.objs.size f cdv)) → sp vs H Q E →
      ∃ t, PSs (cxOf CX0 P w K mg base N x (defScope st) f cdv A outer s H E).nox (defBody st) t ∧ t { nx := fun _ H' => Q .non H', rt := Q } (start N vs) H) : Df P w K mg base (k + 1) x ps sp := by
  obtain ⟨f, fd, hm, F, b⟩ := h
  exact ⟨f, fd, hm, F.kp, b, F.ok S len fun cdv A outer s H vs Q E => hbody cdv A outer s H vs Q E f⟩
theorem Here.dfX {x : Str} {st : Stmt} {N ps : List Str} {k : Nat} {sp : Sp} (h : Here K mg x st ps) (S : FnScope N ps (defScope st)) (len : ∀ vs H Q E, sp vs H Q E → vs.length = ps.length)
    (hbody : ∀ (cdv : Value) (A : Around) (outer : List Env) (s : Shared) (H : Hp) (vs : List V) (Q : VK) (E : XK) (f : Addr), Room k (A.deeper (envOfC x (defScope st) s.heap.objs.size f cdv)) → sp vs H Q E →
      ∃ t, PSs (cxOf (L2.CX P w) P w K mg base N x (defScope st) f cdv A outer s H E) (defBody st) t ∧ t { nx := fun _ H' => Q .non H', rt := Q } (start N vs) H) : DfX P w K mg base (k + 1) x ps sp := by
  obtain ⟨f, fd, hm, F, b⟩ := h
  exact ⟨f, fd, hm, F.kp, b, F.okX S len fun cdv A outer s H vs Q E => hbody cdv A outer s H vs Q E f⟩
theorem HereI.mkr {x q : Str} {C : Addr} {st : Stmt} {N ps : List Str} {k : Nat} {sp : Sp} (h : HereI K mg x q C st ps) (S : FnScope N ps (defScope st)) (len : ∀ vs H Q E, sp vs H Q E → vs.length = ps.length)
    (hbody : ∀ (cdv : Value) (A : Around) (outer : List Env) (s : Shared) (H : Hp) (vs : List V) (Q : VK) (E : XK) (f : Addr), Room k (A.deeper (envOfC q (defScope st) s.heap.objs.size f cdv)) → sp vs H Q E →
      ∃ t, PSs (cxOf CX0 P w K mg base N q (defScope st) f cdv A outer s H E).nox (defBody st) t ∧ t { nx := fun _ H' => Q .non H', rt := Q } (start N vs) H) : Mkr P w K mg base (k + 1) x C ps sp := by
  obtain ⟨f, fd, hm, M, F, b⟩ := h
  exact ⟨f, fd, hm, M, b, F.ok S len fun cdv A outer s H vs Q E => hbody cdv A outer s H vs Q E f⟩
end
section
variable {X : Cx} {k j : Nat} {C : Addr} {x : Str} {ps : List Str} {sp : Sp} {p pos : Pos} {e : Expr} {es : List Expr} {t : TA} {E : XK}
def tCl (sp : Sp) (E : XK) (t : TA) : TE := fun σ H Q => t σ H fun vs H1 => sp vs H1 Q E
def tMk (C : Addr) (sp : Sp) (t : TA) : TE := fun σ H Q => t σ H fun vs H1 => ∀ x dx, H1 x = none → H1 dx = none → dx ≠ x →
  sp (.ref x :: vs) (upd (upd H1 dx (.own x)) x (.ins C dx [])) (fun v H2 => v = .non ∧ Q (.ref x) H2) E0
theorem cl_of {t : TA} {vs : List V} : vs ++ [] = vs := List.append_nil vs
theorem pe_df (c : Df X.prog X.w X.K X.mg X.base k x ps sp) (hr : Room j X.A) (hk : k ≤ j) (hg : Gl X x) (ha : PA X (e :: es) t)
    (hdb : (x == ("__debug__" : Str)) = false := by decide) (he : starEach (e :: es) X.env = (false, eval e X.env) :: starEach es X.env := by rfl) (hpl : (backTo pos (starEach es X.env)).any (·.1) = false := by rfl) :
    PE X (.Call (.Name x p) (e :: es) [] pos) (tCl sp E0 t) := by
  obtain ⟨f, fd, hm, kp, b, F⟩ := c
  have z := pe_call (E := E0) F (hr.mono hk) hg hm kp b .nil pass0 ha (p := p) (pos := pos) hdb he hpl
  have e0 : tCall sp [] E0 t = tCl sp E0 t := by
    funext σ H Q
    show (t σ H fun vs H1 => sp (vs ++ []) H1 Q E0) = t σ H fun vs H1 => sp vs H1 Q E0
    simp only [List.append_nil]
  rw [← e0]
  exact z
/-- a def that may raise, called in one that lets it out -/
theorem pe_dfX (c : DfX X.prog X.w X.K X.mg X.base k x ps sp) (hr : Room j X.A) (hk : k ≤ j) (hg : Gl X x) (hp : Passes (L2.CX X.prog X.w) X E) (ha : PA X (e :: es) t)
    (hdb : (x == ("__debug__" : Str)) = false := by decide) (he : starEach (e :: es) X.env = (false, eval e X.env) :: starEach es X.env := by rfl) (hpl : (backTo pos (starEach es X.env)).any (·.1) = false := by rfl) :
    PE X (.Call (.Name x p) (e :: es) [] pos) (tCl sp E t) := by
  obtain ⟨f, fd, hm, kp, b, F⟩ := c
  have z := pe_call (E := E) F (hr.mono hk) hg hm kp b .nil hp ha (p := p) (pos := pos) hdb he hpl
  have e0 : tCall sp [] E t = tCl sp E t := by
    funext σ H Q
    show (t σ H fun vs H1 => sp (vs ++ []) H1 Q E) = t σ H fun vs H1 => sp vs H1 Q E
    simp only [List.append_nil]
  rw [← e0]
  exact z
theorem pe_mkr (c : Mkr X.prog X.w X.K X.mg X.base k x C ps sp) (hr : Room j X.A) (hk : k + 1 ≤ j) (hg : Gl X x) (ha : PA X (e :: es) t)
    (hdb : (x == ("__debug__" : Str)) = false := by decide) (he : starEach (e :: es) X.env = (false, eval e X.env) :: starEach es X.env := by rfl) (hpl : (backTo pos (starEach es X.env)).any (·.1) = false := by rfl) :
    PE X (.Call (.Name x p) (e :: es) [] pos) (tMk C sp t) := by
  obtain ⟨f, fd, hm, M, b, F⟩ := c
  have z := pe_make (E := E0) M F (hr.mono hk) hg hm b .nil pass0 ha (p := p) (pos := pos) hdb he hpl
  have e0 : tMake C sp [] E0 t = tMk C sp t := by
    funext σ H Q
    show (t σ H fun vs H1 => ∀ x dx, H1 x = none → H1 dx = none → dx ≠ x → sp (.ref x :: (vs ++ [])) (upd (upd H1 dx (.own x)) x (.ins C dx [])) (fun v H2 => v = .non ∧ Q (.ref x) H2) E0) = _
    simp only [List.append_nil]
    rfl
  rw [← e0]
  exact z
/-- a constant of the module -/
def Gc (mg : Str → Option Value) (x : Str) (v : V) : Prop := ∃ u, mg x = some u ∧ RelV v u
theorem pe_gc {v : V} (h : Gc X.mg x v) (hg : Gl X x := by rfl) (hd : (x == ("__debug__" : Str)) = false := by decide) : PE X (.Name x pos) (tC v) := by
  obtain ⟨u, hm, r⟩ := h
  exact pe_glob hg hm r hd
end

/-! ### heaps -/
theorem same_upd {H : Hp} {p : Addr} {o : HO} (h : H p = none) : Same H (upd H p o) := fun b u e => by
  rw [upd_ne (ne_of_none e h)]
  exact e
theorem same_made {H : Hp} {x dx : Addr} {o : HO} (hx : H x = none) (hd : H dx = none) : Same H (upd (upd H dx (.own x)) x o) := fun b u e => by
  rw [upd_ne (ne_of_none e hx), upd_ne (ne_of_none e hd)]
  exact e
theorem lkh {k : Str} {v : V} {r : List (Str × V)} : List.lookup k ((k, v) :: r) = some v := by
  have e : (k == k) = true := beq_self_eq_true k
  simp only [List.lookup, e]
theorem lkp {k g : Str} {v : V} {r : List (Str × V)} (h : (k == g) = false) : List.lookup k ((g, v) :: r) = List.lookup k r := by
  simp only [List.lookup, h]
theorem lk2 {a b : Str} {x y : V} {r : List (Str × V)} (h : (b == a) = false) : List.lookup b ((a, x) :: (b, y) :: r) = some y := (lkp h).trans lkh
theorem lk3 {a b c : Str} {x y z : V} {r : List (Str × V)} (h : (c == a) = false) (h' : (c == b) = false) : List.lookup c ((a, x) :: (b, y) :: (c, z) :: r) = some z := (lkp h).trans (lk2 h')
/-- whole numbers as values -/
def nV (ns : List Nat) : List V := ns.map fun (n : Nat) => V.int (n : Int)
theorem nV_eq (ns : List Nat) : nV ns = (ns.map Int.ofNat).map V.int := by
  unfold nV
  rw [List.map_map]
  rfl
theorem nV_get {ns : List Nat} {i : Nat} {x : V} (h : (nV ns)[i]? = some x) : ∃ n, ns[i]? = some n ∧ x = V.int (n : Int) := by
  unfold nV at h
  rw [List.getElem?_map] at h
  cases e : ns[i]? with
  | none => rw [e] at h; cases h
  | some n =>
    rw [e] at h
    exact ⟨n, rfl, (Option.some.inj h).symm⟩
theorem nV_at {ns : List Nat} {i n : Nat} (h : ns[i]? = some n) : (nV ns)[i]? = some (V.int (n : Int)) := by
  unfold nV
  rw [List.getElem?_map, h]
  rfl
theorem nV_len (ns : List Nat) : (nV ns).length = ns.length := List.length_map _
theorem nV_app (a b : List Nat) : nV (a ++ b) = nV a ++ nV b := List.map_append
theorem intNat_inj {a b : List Nat} : (a.map Int.ofNat = b.map Int.ofNat) ↔ a = b := by
  constructor
  · intro h
    exact List.map_inj_right (fun x y e => Int.ofNat.inj e) |>.mp h
  · intro h; rw [h]
theorem at_get {l : List Nat} {i : Nat} (h : i < l.length) : l[i]? = some (Km353.at_ l i) := by
  unfold Km353.at_
  rw [List.getD_eq_getElem?_getD, List.getElem?_eq_getElem h]
  rfl
/-- a version: its object, its counts -/
def vF (v : Km353.Version) (c : Addr) : List (Str × V) := [("writer", .int (v.writer : Int)), ("counts", .ref c), ("number", .int (v.value : Int))]
theorem vF_w (v : Km353.Version) (c : Addr) : (vF v c).lookup ("writer" : Str) = some (.int (v.writer : Int)) := lkh
theorem vF_c (v : Km353.Version) (c : Addr) : (vF v c).lookup ("counts" : Str) = some (.ref c) := lk2 (by decide +kernel)
theorem vF_n (v : Km353.Version) (c : Addr) : (vF v c).lookup ("number" : Str) = some (.int (v.value : Int)) := lk3 (by decide +kernel) (by decide +kernel)
structure VerAt (C : Addr) (H : Hp) (a : Addr) (v : Km353.Version) : Prop where
  ex : ∃ dx c, H a = some (.ins C dx (vF v c)) ∧ H c = some (.lst (nV v.counts))
  len : v.counts.length = 16
theorem VerAt.mono {C : Addr} {H H' : Hp} {a : Addr} {v : Km353.Version} (h : VerAt C H a v) (s : Same H H') : VerAt C H' a v := by
  obtain ⟨⟨dx, c, h1, h2⟩, h3⟩ := h
  exact ⟨⟨dx, c, s _ _ h1, s _ _ h2⟩, h3⟩
/-- versions by their addresses -/
abbrev Vs := List (Addr × Km353.Version)
def rf (ps : Vs) : List V := ps.map fun p => V.ref p.1
def ver (ps : Vs) : List Km353.Version := ps.map (·.2)
def VsAt (C : Addr) (H : Hp) (ps : Vs) : Prop := ∀ p ∈ ps, VerAt C H p.1 p.2
theorem VsAt.mono {C : Addr} {H H' : Hp} {ps : Vs} (h : VsAt C H ps) (s : Same H H') : VsAt C H' ps := fun p hp => (h p hp).mono s
theorem rf_get {ps : Vs} {i : Nat} {x : V} (h : (rf ps)[i]? = some x) : ∃ p, ps[i]? = some p ∧ x = V.ref p.1 := by
  unfold rf at h
  rw [List.getElem?_map] at h
  cases e : ps[i]? with
  | none => rw [e] at h; cases h
  | some n =>
    rw [e] at h
    exact ⟨n, rfl, (Option.some.inj h).symm⟩
theorem rf_at {ps : Vs} {i : Nat} {p : Addr × Km353.Version} (h : ps[i]? = some p) : (rf ps)[i]? = some (V.ref p.1) := by
  unfold rf
  rw [List.getElem?_map, h]
  rfl
theorem rf_len (ps : Vs) : (rf ps).length = ps.length := List.length_map _
theorem ver_len (ps : Vs) : (ver ps).length = ps.length := List.length_map _
theorem VsAt.get {C : Addr} {H : Hp} {ps : Vs} (h : VsAt C H ps) {i : Nat} {p : Addr × Km353.Version} (e : ps[i]? = some p) : VerAt C H p.1 p.2 := h p (List.mem_of_getElem? e)
theorem take_more {α : Type} {l : List α} {i : Nat} {x : α} (h : l[i]? = some x) : l.take (i + 1) = l.take i ++ [x] := by
  rw [List.take_succ, h]
  rfl
theorem sz {n : Nat} (h : n ≤ 1000000) : n < sizeLine := by
  rw [sizeLine_eq]
  omega
theorem sz' {n : Nat} (h : n ≤ 1000000) : n ≤ sizeLine := Nat.le_of_lt (sz h)
theorem ite_t {c : Bool} {A B : Prop} (hc : c = true) (h : A) : if c = true then A else B := by
  rw [if_pos hc]
  exact h
theorem ite_f {c : Bool} {A B : Prop} (hc : c = false) (h : B) : if c = true then A else B := by
  rw [hc, if_neg Bool.false_ne_true]
  exact h

/-! ### what the top has written -/
/-- a class, its attributes -/
structure Cl (K : PySem.W.Frag) (C : Addr) (fs : List Str) : Prop where
  cl : Cls K C
  na : ∀ f ∈ fs, NoAttr K C f
structure Cst (mg : Str → Option Value) : Prop where
  range : mg "range" = none
  len : mg "len" = none
  max : mg "max" = none
  sorted : mg "sorted" = none
  enumerate : mg "enumerate" = none
  MACHINES : Gc mg "MACHINES" (.int 16)
  MOST : Gc mg "MOST_VERSIONS" (.int 4)
  CEND : Gc mg "COUNTS_END" (.int 4294967296)
  HEAD : Gc mg "HEAD" (.int 4)
  PLACE : Gc mg "PLACE" (.int 76)
  CHECK : Gc mg "CHECK" (.int 308)
  FIRST : Gc mg "FIRST" (.int 1)
  PAPERS : Gc mg "PAPERS" (.int 64)
  POLY : Gc mg "POLYNOMIAL" (.int 2197175160)
  ONES : Gc mg "ONES" (.int 4294967295)
  OUT : Gc mg "OUT_OF_RANGE" (.int (-22))
  ROOM : Gc mg "NO_ROOM" (.int (-28))
  RIGHT : Gc mg "NOT_RIGHT" (.int (-71))
  LEAST : Gc mg "LEAST_MACHINES" (.int 2)
  START : Gc mg "START" (.int 0)
  WRITE : Gc mg "WRITE" (.int 1)
  READ : Gc mg "READ" (.int 2)
  SAY : Gc mg "SAY" (.int 3)
  OBJECTS : Gc mg "OBJECTS" (.int 4)
def fV : List Str := ["writer", "counts", "number"]
end PR
namespace PR
open PySem PySem.Spec PyProof.Rows L2
theorem filt_more {α : Type} {l : List α} {i : Nat} {x : α} {f : α → Bool} (h : l[i]? = some x) : (l.take (i + 1)).filter f = if f x = true then (l.take i).filter f ++ [x] else (l.take i).filter f := by
  rw [take_more h, List.filter_append]
  by_cases c : f x = true
  · rw [if_pos c, List.filter_cons_of_pos c]
    rfl
  · rw [if_neg c, List.filter_cons_of_neg c]
    simp
theorem filt_t {α : Type} {l : List α} {i : Nat} {x : α} {f : α → Bool} (h : l[i]? = some x) (c : f x = true) : (l.take (i + 1)).filter f = (l.take i).filter f ++ [x] := by
  rw [filt_more h, if_pos c]
theorem filt_f {α : Type} {l : List α} {i : Nat} {x : α} {f : α → Bool} (h : l[i]? = some x) (c : f x = false) : (l.take (i + 1)).filter f = (l.take i).filter f := by
  rw [filt_more h, if_neg (by rw [c]; decide)]
theorem filt_le {α : Type} (l : List α) (i : Nat) (f : α → Bool) : ((l.take i).filter f).length ≤ l.length := Nat.le_trans (List.length_filter_le _ _) (by rw [List.length_take]; exact Nat.min_le_right _ _)
theorem rf_app (a b : Vs) : rf (a ++ b) = rf a ++ rf b := List.map_append
theorem ver_filter (ps : Vs) (f : Km353.Version → Bool) : ver (ps.filter fun p => f p.2) = (ver ps).filter f := by
  unfold ver
  rw [List.filter_map]
  rfl
theorem VsAt.filter {C : Addr} {H : Hp} {ps : Vs} (h : VsAt C H ps) (f : Addr × Km353.Version → Bool) : VsAt C H (ps.filter f) := fun p hp => h p (List.mem_filter.mp hp).1
end PR
namespace PR
open PySem PySem.Spec PyProof.Rows L2
/-- what is new in a heap -/
def nw (H H' : Hp) : Hp := fun a => match H a with
  | none => H' a
  | some _ => none
theorem nw_of {H H' : Hp} {a : Addr} {o : HO} (h : H a = none) (e : H' a = some o) : nw H H' a = some o := by
  unfold nw
  rw [h]
  exact e
theorem nw_get {H H' : Hp} {a : Addr} {o : HO} (h : nw H H' a = some o) : H a = none ∧ H' a = some o := by
  unfold nw at h
  cases e : H a with
  | none =>
    rw [e] at h
    exact ⟨rfl, h⟩
  | some u =>
    rw [e] at h
    cases h
theorem nw_same {H H' : Hp} : Same (nw H H') H' := fun _ _ e => (nw_get e).2
theorem nw_mono {H H1 H2 : Hp} (s : Same H1 H2) : Same (nw H H1) (nw H H2) := fun b o e => nw_of (nw_get e).1 (s _ _ (nw_get e).2)
theorem nw_back {H0 H H1 : Hp} (s : Same H0 H) : Same (nw H H1) (nw H0 H1) := fun b o e => nw_of (s.free (nw_get e).1) (nw_get e).2
theorem VerAt.fields {C : Addr} {H : Hp} {a : Addr} {v : Km353.Version} (h : VerAt C H a v) : ∃ dx c, H a = some (.ins C dx (vF v c)) ∧ H c = some (.lst (nV v.counts)) := h.ex
end PR
namespace PR
open PySem PySem.Spec PyProof.Rows L2
/-- a comprehension without a test -/
theorem tyes {σ : L2.St} {H : Hp} {A B : Hp → Prop} (h : A H) : tYes σ H fun b H3 => if b = true then A H3 else B H3 := by
  show ite (true = true) (A H) (B H)
  rw [if_pos rfl]
  exact h
end PR
namespace PR
open PySem PySem.Spec PyProof.Rows L2
section
variable {P : Program} {w : World} {K : PySem.W.Frag} {mg : Str → Option Value} {base : Heap}
theorem put_here {f : Str} {v x : V} {r : List (Str × V)} : putF f v ((f, x) :: r) = (f, v) :: r := if_pos rfl
theorem put_past {f g : Str} {v x : V} {r : List (Str × V)} (h : ¬ g = f) : putF f v ((g, x) :: r) = (g, x) :: putF f v r := if_neg h
theorem put3 {f g h : Str} {x y z : V} (h1 : ¬ f = g) (h2 : ¬ f = h) (h3 : ¬ g = h) : putF h z (putF g y (putF f x [])) = [(f, x), (g, y), (h, z)] := by
  have e1 : putF f x [] = [(f, x)] := rfl
  have e2 : putF g y [(f, x)] = [(f, x), (g, y)] := (put_past h1).trans rfl
  rw [e1, e2, put_past h2, put_past h3]
  rfl

/-! ### Version(writer, counts, number) -/
abbrev sIV : Stmt := inClass (top 4) 0
def spIV (C : Addr) : Sp := fun vs H Q _ => ∃ (p dx : Addr) (a b c : V), vs = [.ref p, a, b, c] ∧ H p = some (.ins C dx []) ∧ Q .non (upd H p (.ins C dx [("writer", a), ("counts", b), ("number", c)]))
theorem scIV : FnScope ["self", "writer", "counts", "number"] ["self", "writer", "counts", "number"] (defScope sIV) := ⟨rfl, rfl, rfl, by decide +kernel, rfl, by decide +kernel, by decide +kernel⟩
theorem ok_iv {C : Addr} (F : HereI K mg "Version" "Version.__init__" C sIV ["self", "writer", "counts", "number"]) (T : Cl K C fV) : Mkr P w K mg base 1 "Version" C ["self", "writer", "counts", "number"] (spIV C) := by
  refine F.mkr scIV (fun vs H Q E h => ?_) (fun cdv A outer s H vs Q E f hr h => ?_)
  · obtain ⟨p, dx, a, b, c, rfl, _⟩ := h
    rfl
  · obtain ⟨p, dx, a, b, c, rfl, hp, k⟩ := h
    refine ⟨_, pss_cons (ps_fld (pv 0) (pv 1) rfl) (pss_cons (ps_fld (pv 0) (pv 2) rfl) (pss_one (ps_fld (pv 0) (pv 3) rfl))), ?_⟩
    refine ⟨_, rfl, _, rfl, p, C, dx, [], rfl, hp, T.cl, T.na _ (by decide +kernel), (by decide), ?_⟩
    refine ⟨_, rfl, _, rfl, p, C, dx, _, rfl, upd_same, T.cl, T.na _ (by decide +kernel), (by show 1 < 1000; decide), ?_⟩
    refine ⟨_, rfl, _, rfl, p, C, dx, _, rfl, upd_same, T.cl, T.na _ (by decide +kernel), (by show 2 < 1000; decide), ?_⟩
    have e : putF ("number" : Str) c (putF ("counts" : Str) b (putF ("writer" : Str) a [])) = [(("writer" : Str), a), (("counts" : Str), b), (("number" : Str), c)] := put3 (by decide +kernel) (by decide +kernel) (by decide +kernel)
    rw [e, upd_upd, upd_upd]
    exact k

/-! ### goes_by_all -/
abbrev sGo : Stmt := top 5
def spGo (C : Addr) : Sp := fun vs H Q _ => ∃ (a b : Addr) (v w : Km353.Version), vs = [.ref a, .ref b] ∧ VerAt C H a v ∧ VerAt C H b w ∧ Q (.bl (Km353.within w.counts v.counts)) H
theorem scGo : FnScope ["one", "other", "at"] ["one", "other"] (defScope sGo) := ⟨rfl, rfl, rfl, by decide +kernel, rfl, by decide +kernel, by decide +kernel⟩
theorem within_true {a b : List Nat} (h : ∀ j, j < 16 → Km353.at_ a j ≤ Km353.at_ b j) : Km353.within a b = true := by
  unfold Km353.within
  rw [List.all_eq_true]
  intro j hj
  exact decide_eq_true (h j (by simpa [Km353.MACHINES] using hj))
theorem within_false {a b : List Nat} {j : Nat} (hj : j < 16) (h : Km353.at_ b j < Km353.at_ a j) : Km353.within a b = false := by
  unfold Km353.within
  rw [List.all_eq_false]
  exact ⟨j, by simpa [Km353.MACHINES] using hj, by simp; exact h⟩
theorem ok_go {C : Addr} (F : Here K mg "goes_by_all" sGo ["one", "other"]) (c : Cst mg) (T : Cl K C fV) : Df P w K mg base 1 "goes_by_all" ["one", "other"] (spGo C) := by
  refine F.df scGo (fun vs H Q E h => ?_) (fun cdv A outer s H vs Q E f hr h => ?_)
  · obtain ⟨a, b, v, w, rfl, _⟩ := h
    rfl
  · obtain ⟨a, b, v, w, rfl, ⟨⟨da, ca, ha, hca⟩, la⟩, ⟨⟨db, cb, hb, hcb⟩, lb⟩, k⟩ := h
    refine ⟨_, pss_cons (ps_for PassesOwn.never rfl (pi_range1 rfl c.range (pa_cons (pe_gc c.MACHINES) pa_nil)) (pg_name (i := 2) scGo.nd rfl (Or.inl rfl))
      (pss_one (ps_if (pt_cmpR op_lt (pe_ix ix_list (pe_fld (pv 0) rfl) (pv 2) (fun _ _ => rfl)) (pe_ix ix_list (pe_fld (pv 1) rfl) (pv 2) (fun _ _ => rfl)) (nomark _)) (pss_one (ps_ret pe_bl)) pss_nil)))
      (pss_one (ps_ret pe_bl)), ?_⟩
    refine ⟨16, rfl, by decide, by decide, for_range (n := 16) (fun i σ H' => H' = H ∧ (∃ x, σ = [some (.ref a), some (.ref b), x]) ∧ ∀ j, j < i → Km353.at_ w.counts j ≤ Km353.at_ v.counts j) ⟨rfl, ⟨_, rfl⟩, fun j hj => absurd hj (Nat.not_lt_zero j)⟩ ?_ ?_⟩
    · rintro i σ H' hi ⟨rfl, ⟨x, rfl⟩, hj⟩
      refine ⟨_, rfl, a, C, da, _, _, rfl, ha, T.cl, T.na _ (by decide +kernel), vF_c _ _, _, rfl, ca, _, _, _, rfl, rfl, SqL.of hca, at_of (j := i) (by omega) (nV_at (at_get (by omega))),
        _, rfl, b, C, db, _, _, rfl, hb, T.cl, T.na _ (by decide +kernel), vF_c _ _, _, rfl, cb, _, _, _, rfl, rfl, SqL.of hcb, at_of (j := i) (by omega) (nV_at (at_get (by omega))), _, _, rfl, rfl, _, rfl, ?_⟩
      by_cases q : Km353.at_ v.counts i < Km353.at_ w.counts i
      · refine ite_t (decide_eq_true (by omega)) ?_
        rw [within_false hi q] at k
        exact k
      · refine ite_f (decide_eq_false (by omega)) ?_
        refine ⟨rfl, ⟨_, rfl⟩, fun j hj' => ?_⟩
        by_cases e : j = i
        · rw [e]; omega
        · exact hj j (by omega)
    · rintro σ H' ⟨rfl, ⟨x, rfl⟩, hj⟩
      rw [within_true hj] at k
      exact k
end
end PR
namespace PR
open PySem PySem.Spec PyProof.Rows L2
section
variable {P : Program} {w : World} {K : PySem.W.Frag} {mg : Str → Option Value} {base : Heap}
/-! ### is_gone_by -/
abbrev sGb : Stmt := top 6
def spGb (C : Addr) : Sp := fun vs H Q _ => ∃ (l b : Addr) (ps : Vs) (v : Km353.Version), vs = [.ref l, .ref b] ∧ H l = some (.lst (rf ps)) ∧ VsAt C H ps ∧ ps.length ≤ 1000 ∧ VerAt C H b v ∧
  ∀ H', Same H H' → Q (.bl (Km353.covered (ver ps) v)) H'
theorem scGb : FnScope ["versions", "other", "one"] ["versions", "other"] (defScope sGb) := ⟨rfl, rfl, rfl, by decide +kernel, rfl, by decide +kernel, by decide +kernel⟩
theorem covered_eq (ps : Vs) (v : Km353.Version) : Km353.covered (ver ps) v = !(rf (ps.filter fun p => Km353.within v.counts p.2.counts)).isEmpty := by
  unfold Km353.covered ver rf
  rw [List.any_map]
  induction ps with
  | nil => rfl
  | cons p ps ih =>
    rw [List.any_cons]
    by_cases c : Km353.within v.counts p.2.counts = true
    · simp [c]
    · rw [ih]
      simp [c]
theorem ok_gb {C : Addr} (F : Here K mg "is_gone_by" sGb ["versions", "other"]) (Go : Df P w K mg base 1 "goes_by_all" ["one", "other"] (spGo C)) : Df P w K mg base 2 "is_gone_by" ["versions", "other"] (spGb C) := by
  refine F.df scGb (fun vs H Q E h => ?_) (fun cdv A outer s H vs Q E f hr h => ?_)
  · obtain ⟨l, b, ps, v, rfl, _⟩ := h
    rfl
  · obtain ⟨l, b, ps, v, rfl, hl, hps, hn, hb, k⟩ := h
    refine ⟨_, pss_one (ps_ret (pe_cmpR (op_neE hr.units) (pe_lc (own := [("one", 2)]) (g := gName 2) rfl scGb.nd (pi_list (pv 0)) (blkOk_by (own := [("one", 2)]) (N := ["versions", "other", "one"]) (sc := defScope sGb) (by decide +kernel))
      (fun _ _ _ _ _ => pg_name (i := 2) scGb.nd rfl (Or.inl rfl)) (fun _ _ _ _ _ => pts_one (pt_val (pe_df Go hr (by decide) rfl (pa_cons (pv 2) (pa_cons (pv 1) pa_nil))))) (fun _ _ _ _ _ => pv 2)) (pe_lst pa_nil) (nomark _))), ?_⟩
    refine ⟨_, rfl, l, rfl, ⟨_, SqL.of hl⟩, fun D hD => lc_list (K := K) (a := l) (xs := rf ps) (fun i H' => Same H H' ∧ H' D = some (.lst (rf ((ps.take i).filter fun p => Km353.within v.counts p.2.counts)))) ?_ ?_ ?_ ?_⟩
    · exact ⟨same_upd hD, upd_same⟩
    · rintro i H' _ ⟨s1, _⟩
      exact SqL.of (s1 _ _ hl)
    · rintro i x H' hx ⟨s1, hD'⟩
      obtain ⟨p, hp, rfl⟩ := rf_get hx
      refine ⟨rfl, _, rfl, _, rfl, p.1, b, p.2, v, rfl, (hps.get hp).mono s1, hb.mono s1, _, rfl, ?_⟩
      refine ite2 (fun q => ?_) (fun q => ?_)
      · refine ⟨_, rfl, _, hD', ?_, fun b' o e => ?_, ?_⟩
        · rw [rf_len]
          exact sz (Nat.le_trans (filt_le _ _ _) (by omega))
        · rw [upd_ne (ne_of_none e hD)]
          exact s1 _ _ e
        · rw [upd_same, filt_t hp q, rf_app]
          rfl
      · refine ⟨s1, ?_⟩
        rw [filt_f hp (by simpa using q)]
        exact hD'
    · rintro H' ⟨s1, hD'⟩
      rw [rf_len, List.take_length] at hD'
      refine ⟨Nat.zero_le _, fun p hp => ⟨D, p, _, rfl, rfl, SqL.of ((same_upd hp) _ _ hD'), SqL.of upd_same, ?_⟩⟩
      rw [covered_eq] at k
      exact k _ (s1.trans (same_upd hp))

/-! ### are_alike -/
abbrev sAl : Stmt := top 7
def spAl (C : Addr) : Sp := fun vs H Q _ => ∃ (a b : Addr) (v w : Km353.Version), vs = [.ref a, .ref b] ∧ VerAt C H a v ∧ VerAt C H b w ∧ Q (.bl (decide (v = w))) H
theorem scAl : FnScope ["one", "other"] ["one", "other"] (defScope sAl) := ⟨rfl, rfl, rfl, by decide +kernel, rfl, by decide +kernel, by decide +kernel⟩
theorem int_eq {a b : Nat} : (V.int (a : Int) = V.int (b : Int)) ↔ a = b := by
  constructor
  · intro h
    exact Int.ofNat.inj (V.int.inj h)
  · intro h
    rw [h]
theorem ok_al {C : Addr} (F : Here K mg "are_alike" sAl ["one", "other"]) (T : Cl K C fV) : Df P w K mg base 1 "are_alike" ["one", "other"] (spAl C) := by
  refine F.df scAl (fun vs H Q E h => ?_) (fun cdv A outer s H vs Q E f hr h => ?_)
  · obtain ⟨a, b, v, w, rfl, _⟩ := h
    rfl
  · obtain ⟨a, b, v, w, rfl, ⟨⟨da, ca, ha, hca⟩, la⟩, ⟨⟨db, cb, hb, hcb⟩, lb⟩, k⟩ := h
    refine ⟨_, pss_one (ps_ret (pe_and (pe_cmpR op_eq (pe_fld (pv 0) rfl) (pe_fld (pv 1) rfl) (nomark _)) (pe_and (pe_cmpR (op_eqI hr.units) (pe_fld (pv 0) rfl) (pe_fld (pv 1) rfl) (nomark _)) (pe_one (pe_cmpR op_eq (pe_fld (pv 0) rfl) (pe_fld (pv 1) rfl) (nomark _)))))), ?_⟩
    refine ⟨_, rfl, a, C, da, _, _, rfl, ha, T.cl, T.na _ (by decide +kernel), vF_w _ _, _, rfl, b, C, db, _, _, rfl, hb, T.cl, T.na _ (by decide +kernel), vF_w _ _, rfl, _, rfl, ?_⟩
    by_cases e1 : v.writer = w.writer
    · refine ite_t (decide_eq_true (int_eq.mpr e1)) ?_
      refine ⟨_, rfl, a, C, da, _, _, rfl, ha, T.cl, T.na _ (by decide +kernel), vF_c _ _, _, rfl, b, C, db, _, _, rfl, hb, T.cl, T.na _ (by decide +kernel), vF_c _ _, ca, cb, v.counts.map Int.ofNat, w.counts.map Int.ofNat, rfl, rfl, by rw [← nV_eq]; exact SqL.of hca, by rw [← nV_eq]; exact SqL.of hcb, _, rfl, ?_⟩
      by_cases e2 : v.counts = w.counts
      · refine ite_t (decide_eq_true (intNat_inj.mpr e2)) ?_
        refine ⟨_, rfl, a, C, da, _, _, rfl, ha, T.cl, T.na _ (by decide +kernel), vF_n _ _, _, rfl, b, C, db, _, _, rfl, hb, T.cl, T.na _ (by decide +kernel), vF_n _ _, rfl, ?_⟩
        have e : decide (v = w) = decide (V.int (v.value : Int) = V.int (w.value : Int)) := by
          refine decide_eq_decide.mpr ?_
          rw [int_eq]
          constructor
          · intro h
            rw [h]
          · intro h
            cases v
            cases w
            simp_all
        rw [e] at k
        exact k
      · refine ite_f (decide_eq_false fun z => e2 (intNat_inj.mp z)) ?_
        rw [decide_eq_false (fun z => e2 (by rw [z]))] at k
        exact k
    · refine ite_f (decide_eq_false fun z => e1 (int_eq.mp z)) ?_
      rw [decide_eq_false (fun z => e1 (by rw [z]))] at k
      exact k

/-! ### clash -/
abbrev sCh : Stmt := top 12
def spCh (C : Addr) : Sp := fun vs H Q _ => ∃ (a b : Addr) (ps qs : Vs), vs = [.ref a, .ref b] ∧ H a = some (.lst (rf ps)) ∧ H b = some (.lst (rf qs)) ∧ VsAt C H ps ∧ VsAt C H qs ∧ Q (.bl (Km353.clash (ver ps) (ver qs))) H
theorem scCh : FnScope ["there", "told", "one", "other"] ["there", "told"] (defScope sCh) := ⟨rfl, rfl, rfl, by decide +kernel, rfl, by decide +kernel, by decide +kernel⟩
def cl1 (v w : Km353.Version) : Bool := v.writer == w.writer && (!(Km353.within v.counts w.counts) && !(Km353.within w.counts v.counts))
theorem clash_true {ps qs : Vs} {i j : Nat} {p q : Addr × Km353.Version} (hp : ps[i]? = some p) (hq : qs[j]? = some q) (h : cl1 p.2 q.2 = true) : Km353.clash (ver ps) (ver qs) = true := by
  unfold Km353.clash
  rw [List.any_eq_true]
  refine ⟨p.2, List.mem_map.mpr ⟨p, List.mem_of_getElem? hp, rfl⟩, ?_⟩
  rw [List.any_eq_true]
  exact ⟨q.2, List.mem_map.mpr ⟨q, List.mem_of_getElem? hq, rfl⟩, h⟩
theorem clash_false {ps qs : Vs} (h : ∀ (i j : Nat) (p q : Addr × Km353.Version), ps[i]? = some p → qs[j]? = some q → cl1 p.2 q.2 = false) : Km353.clash (ver ps) (ver qs) = false := by
  unfold Km353.clash
  rw [List.any_eq_false]
  intro v hv
  obtain ⟨p, hp, rfl⟩ := List.mem_map.mp hv
  obtain ⟨i, hi⟩ := List.getElem?_of_mem hp
  rw [Bool.not_eq_true, List.any_eq_false]
  intro u hu
  obtain ⟨q, hq, rfl⟩ := List.mem_map.mp hu
  obtain ⟨j, hj⟩ := List.getElem?_of_mem hq
  rw [Bool.not_eq_true]
  exact h i j p q hi hj
theorem ok_ch {C : Addr} (F : Here K mg "clash" sCh ["there", "told"]) (T : Cl K C fV) (Go : Df P w K mg base 1 "goes_by_all" ["one", "other"] (spGo C)) : Df P w K mg base 2 "clash" ["there", "told"] (spCh C) := by
  refine F.df scCh (fun vs H Q E h => ?_) (fun cdv A outer s H vs Q E f hr h => ?_)
  · obtain ⟨a, b, ps, qs, rfl, _⟩ := h
    rfl
  · obtain ⟨a, b, ps, qs, rfl, ha, hb, hps, hqs, k⟩ := h
    refine ⟨_, pss_cons (ps_for PassesOwn.never rfl (pi_list (pv 0)) (pg_name (i := 2) scCh.nd rfl (Or.inl rfl))
      (pss_one (ps_for PassesOwn.never rfl (pi_list (pv 1)) (pg_name (i := 3) scCh.nd rfl (Or.inl rfl))
        (pss_one (ps_if (PW.pt (pw_and (pt_cmpR op_eq (pe_fld (pv 2) rfl) (pe_fld (pv 3) rfl) (nomark _)) (pw_and (pt_not (pt_val (pe_df Go hr (by decide) rfl (pa_cons (pv 2) (pa_cons (pv 3) pa_nil))))) (pw_and1 (pt_not (pt_val (pe_df Go hr (by decide) rfl (pa_cons (pv 3) (pa_cons (pv 2) pa_nil)))))))))
          (pss_one (ps_ret pe_bl)) pss_nil))))) (pss_one (ps_ret pe_bl)), ?_⟩
    refine ⟨_, rfl, a, rfl, ⟨_, SqL.of ha⟩, for_list (K := K) (a := a) (xs := rf ps) (fun i σ H' => H' = H ∧ (∃ x y, σ = [some (.ref a), some (.ref b), x, y]) ∧ ∀ (i' j : Nat) (p q : Addr × Km353.Version), i' < i → ps[i']? = some p → qs[j]? = some q → cl1 p.2 q.2 = false)
      ⟨rfl, ⟨_, _, rfl⟩, fun i' j p q h => absurd h (Nat.not_lt_zero _)⟩ (fun i σ H' _ ⟨e, _⟩ => by rw [e]; exact SqL.of ha) ?_ ?_⟩
    · rintro i x σ H' hx ⟨rfl, ⟨x2, x3, rfl⟩, hi⟩
      obtain ⟨p, hp, rfl⟩ := rf_get hx
      obtain ⟨⟨dp, cp, hpa, hpc⟩, lp⟩ := hps.get hp
      refine ⟨_, rfl, b, rfl, ⟨_, SqL.of hb⟩, for_list (K := K) (a := b) (xs := rf qs) (fun j σ H' => H' = _ ∧ (∃ y, σ = [some (.ref a), some (.ref b), some (.ref p.1), y]) ∧ ∀ (j' : Nat) (q : Addr × Km353.Version), j' < j → qs[j']? = some q → cl1 p.2 q.2 = false)
        ⟨rfl, ⟨_, rfl⟩, fun j' q h => absurd h (Nat.not_lt_zero _)⟩ (fun i σ H' _ ⟨e, _⟩ => by rw [e]; exact SqL.of hb) ?_ ?_⟩
      · rintro j y σ H' hy ⟨rfl, ⟨x3, rfl⟩, hj⟩
        obtain ⟨q, hq, rfl⟩ := rf_get hy
        obtain ⟨⟨dq, cq, hqa, hqc⟩, lq⟩ := hqs.get hq
        have next : cl1 p.2 q.2 = false → ∀ (j' : Nat) (q' : Addr × Km353.Version), j' < j + 1 → qs[j']? = some q' → cl1 p.2 q'.2 = false := fun z j' q' h1 h2 => by
          by_cases e : j' = j
          · rw [e, hq] at h2
            cases h2
            exact z
          · exact hj j' q' (by omega) h2
        refine ⟨_, rfl, p.1, C, dp, _, _, rfl, hpa, T.cl, T.na _ (by decide +kernel), vF_w _ _, _, rfl, q.1, C, dq, _, _, rfl, hqa, T.cl, T.na _ (by decide +kernel), vF_w _ _, rfl, _, rfl, ?_⟩
        by_cases e1 : p.2.writer = q.2.writer
        · refine ite_t (decide_eq_true (int_eq.mpr e1)) ?_
          refine ⟨_, rfl, _, rfl, p.1, q.1, p.2, q.2, rfl, hps.get hp, hqs.get hq, _, rfl, ?_⟩
          by_cases e2 : Km353.within q.2.counts p.2.counts = true
          · refine ite_f (by rw [e2]; rfl) ?_
            refine ite_f rfl ?_
            refine ⟨rfl, ⟨_, rfl⟩, next ?_⟩
            unfold cl1
            rw [e2]
            simp
          · refine ite_t (by simpa using e2) ?_
            refine ⟨_, rfl, _, rfl, q.1, p.1, q.2, p.2, rfl, hqs.get hq, hps.get hp, _, rfl, ?_⟩
            by_cases e3 : Km353.within p.2.counts q.2.counts = true
            · refine ite_f (by rw [e3]; rfl) ?_
              refine ⟨rfl, ⟨_, rfl⟩, next ?_⟩
              unfold cl1
              rw [e3]
              simp
            · refine ite_t (by simpa using e3) ?_
              rw [clash_true hp hq (by unfold cl1; simp [e1, e2, e3])] at k
              exact k
        · refine ite_f (decide_eq_false fun z => e1 (int_eq.mp z)) ?_
          refine ite_f rfl ?_
          refine ⟨rfl, ⟨_, rfl⟩, next ?_⟩
          unfold cl1
          simp [e1]
      · rintro σ H' ⟨rfl, ⟨x3, rfl⟩, hj⟩
        refine ⟨rfl, ⟨_, _, rfl⟩, fun i' j p' q h1 h2 h3 => ?_⟩
        by_cases e : i' = i
        · rw [e, hp] at h2
          cases h2
          exact hj j q (by rw [rf_len]; exact (List.getElem?_eq_some_iff.mp h3).1) h3
        · exact hi i' j p' q (by omega) h2 h3
    · rintro σ H' ⟨rfl, ⟨x2, x3, rfl⟩, hi⟩
      rw [clash_false fun i j p q h1 h2 => hi i j p q (by rw [rf_len]; exact (List.getElem?_eq_some_iff.mp h1).1) h1 h2] at k
      exact k
end
end PR
namespace PR
open PySem PySem.Spec PyProof.Rows L2
section
variable {P : Program} {w : World} {K : PySem.W.Frag} {mg : Str → Option Value} {base : Heap}
/-! ### are_same -/
abbrev sAs : Stmt := top 11
def spAs (C : Addr) : Sp := fun vs H Q _ => ∃ (a b : Addr) (ps qs : Vs), vs = [.ref a, .ref b] ∧ H a = some (.lst (rf ps)) ∧ H b = some (.lst (rf qs)) ∧ VsAt C H ps ∧ VsAt C H qs ∧ ps.length ≤ 1000 ∧
  ∀ H', Same H H' → Q (.bl (decide (ver ps = ver qs))) H'
theorem scAs : FnScope ["some", "others", "at"] ["some", "others"] (defScope sAs) := ⟨rfl, rfl, rfl, by decide +kernel, rfl, by decide +kernel, by decide +kernel⟩
/-- the places where two rows differ -/
def diffs (ps qs : Vs) (n : Nat) : List Nat := (List.range n).filter fun i => !decide ((ver ps)[i]? = (ver qs)[i]?)
theorem diffs_t {ps qs : Vs} {i : Nat} {p q : Addr × Km353.Version} (hp : ps[i]? = some p) (hq : qs[i]? = some q) (h : ¬ p.2 = q.2) : diffs ps qs (i + 1) = diffs ps qs i ++ [i] := by
  unfold diffs
  have e1 : (ver ps)[i]? = some p.2 := by unfold ver; rw [List.getElem?_map, hp]; rfl
  have e2 : (ver qs)[i]? = some q.2 := by unfold ver; rw [List.getElem?_map, hq]; rfl
  rw [List.range_succ, List.filter_append, List.filter_cons_of_pos (by simp [e1, e2, h])]
  rfl
theorem diffs_f {ps qs : Vs} {i : Nat} {p q : Addr × Km353.Version} (hp : ps[i]? = some p) (hq : qs[i]? = some q) (h : p.2 = q.2) : diffs ps qs (i + 1) = diffs ps qs i := by
  unfold diffs
  have e1 : (ver ps)[i]? = some p.2 := by unfold ver; rw [List.getElem?_map, hp]; rfl
  have e2 : (ver qs)[i]? = some q.2 := by unfold ver; rw [List.getElem?_map, hq]; rfl
  rw [List.range_succ, List.filter_append, List.filter_cons_of_neg (by simp [e1, e2, h])]
  simp
theorem diffs_le (ps qs : Vs) (n : Nat) : (diffs ps qs n).length ≤ n := Nat.le_trans (List.length_filter_le _ _) (by simp)
theorem diffs_nil {ps qs : Vs} (h : ps.length = qs.length) : (diffs ps qs ps.length).isEmpty = decide (ver ps = ver qs) := by
  by_cases c : ver ps = ver qs
  · rw [decide_eq_true c]
    unfold diffs
    rw [List.isEmpty_iff, List.filter_eq_nil_iff]
    intro i _
    rw [c]
    simp
  · rw [decide_eq_false c]
    cases e : (diffs ps qs ps.length).isEmpty with
    | false => rfl
    | true =>
      refine absurd (List.ext_getElem? fun i => ?_) c
      unfold diffs at e
      rw [List.isEmpty_iff, List.filter_eq_nil_iff] at e
      by_cases hi : i < ps.length
      · have := e i (by simpa using hi)
        simpa using this
      · rw [List.getElem?_eq_none (by rw [ver_len]; omega), List.getElem?_eq_none (by rw [ver_len]; omega)]
theorem ok_as {C : Addr} (F : Here K mg "are_same" sAs ["some", "others"]) (c : Cst mg) (Al : Df P w K mg base 1 "are_alike" ["one", "other"] (spAl C)) : Df P w K mg base 2 "are_same" ["some", "others"] (spAs C) := by
  refine F.df scAs (fun vs H Q E h => ?_) (fun cdv A outer s H vs Q E f hr h => ?_)
  · obtain ⟨a, b, ps, qs, rfl, _⟩ := h
    rfl
  · obtain ⟨a, b, ps, qs, rfl, ha, hb, hps, hqs, hn, k⟩ := h
    refine ⟨_, pss_cons (ps_if (pt_cmpR op_ne (pe_callB call_len_seq (by rfl) c.len PySem.boot_len (pa_cons (pv 0) pa_nil)) (pe_callB call_len_seq (by rfl) c.len PySem.boot_len (pa_cons (pv 1) pa_nil)) (nomark _)) (pss_one (ps_ret pe_bl)) pss_nil)
      (pss_one (ps_ret (pe_cmpR (op_eqE hr.units) (pe_lc (own := [("at", 2)]) (g := gName 2) (tt := tNot (tB (tCl (spAl C) E0 (tCons (tOp (rIxL K) (tVar 0) (tVar 2)) (tCons (tOp (rIxL K) (tVar 1) (tVar 2)) tNil))))) (te := tVar 2) rfl scAs.nd (pi_range1 rfl c.range (pa_cons (pe_callB call_len_seq (by rfl) c.len PySem.boot_len (pa_cons (pv 0) pa_nil)) pa_nil)) (blkOk_by (own := [("at", 2)]) (N := ["some", "others", "at"]) (sc := defScope sAs) (by decide +kernel))
      (fun _ _ _ _ _ => pg_name (i := 2) scAs.nd rfl (Or.inl rfl)) (fun _ _ _ _ _ => pts_one (pt_not (pt_val (pe_df Al hr (by decide) rfl (pa_cons (pe_ix ix_list (pv 0) (pv 2) (fun _ _ => rfl)) (pa_cons (pe_ix ix_list (pv 1) (pv 2) (fun _ _ => rfl)) pa_nil)))))) (fun _ _ _ _ _ => pv 2)) (pe_lst pa_nil) (nomark _)))), ?_⟩
    refine ⟨_, rfl, a, _, rfl, .inl (SqL.of ha), _, rfl, b, _, rfl, .inl (SqL.of hb), rfl, _, rfl, ?_⟩
    by_cases e : ps.length = qs.length
    · refine ite_f (by rw [rf_len, rf_len, e]; simp) ?_
      refine ⟨_, rfl, a, _, rfl, .inl (SqL.of ha), _, rfl, (by rw [rf_len]; omega), (by rw [rf_len]; omega), fun D hD => lc_range (lo := 0) (fun i H' => Same H H' ∧ H' D = some (.lst (nV (diffs ps qs i)))) ?_ ?_ ?_⟩
      · exact ⟨same_upd hD, upd_same⟩
      · rintro i H' hi ⟨s1, hD'⟩
        rw [rf_len] at hi
        have hi' : i < ps.length := by omega
        have hp : ps[i]? = some ps[i] := List.getElem?_eq_getElem hi'
        have hq : qs[i]? = some (qs[i]'(by omega)) := List.getElem?_eq_getElem (by omega)
        refine ⟨rfl, _, rfl, _, rfl, a, _, _, _, rfl, rfl, SqL.of (s1 _ _ ha), at_of (j := i) (by omega) (rf_at hp), _, rfl, _, rfl, b, _, _, _, rfl, rfl, SqL.of (s1 _ _ hb), at_of (j := i) (by omega) (rf_at hq),
          _, _, _, _, rfl, (hps.get hp).mono s1, (hqs.get hq).mono s1, _, rfl, ?_⟩
        by_cases z : (ps[i]).2 = (qs[i]'(by omega)).2
        · refine ite_f (by rw [decide_eq_true z]; rfl) ⟨s1, ?_⟩
          rw [diffs_f hp hq z]
          exact hD'
        · refine ite_t (by rw [decide_eq_false z]; rfl) ⟨_, rfl, _, hD', ?_, fun b' o e' => ?_, ?_⟩
          · rw [nV_len]
            exact sz (Nat.le_trans (diffs_le _ _ _) (by omega))
          · rw [upd_ne (ne_of_none e' hD)]
            exact s1 _ _ e'
          · rw [upd_same, diffs_t hp hq z, nV_app]
            have z : (0 : Int) + (i : Int) = (i : Int) := by omega
            rw [z]
            rfl
      · rintro H' ⟨s1, hD'⟩
        refine ⟨Nat.zero_le _, fun p hp => ⟨D, p, _, rfl, rfl, SqL.of ((same_upd hp) _ _ hD'), SqL.of upd_same, ?_⟩⟩
        have z := k _ (s1.trans (same_upd (o := .lst []) hp))
        rw [← diffs_nil e] at z
        have e2 : (nV (diffs ps qs (Int.toNat ↑(rf ps).length))).isEmpty = (diffs ps qs ps.length).isEmpty := by
          rw [rf_len]
          unfold nV
          simp
        rw [e2]
        exact z
    · refine ite_t (by rw [rf_len, rf_len]; simp; omega) ?_
      rw [decide_eq_false (fun z => e (by rw [← ver_len, ← ver_len, z]))] at k
      exact k _ (Same.refl H)

/-! ### in_order -/
abbrev sIo : Stmt := top 8
def wr (p : Addr × Km353.Version) : Nat := p.2.writer
def spIo (C : Addr) : Sp := fun vs H Q _ => ∃ (l : Addr) (ps : Vs), vs = [.ref l] ∧ H l = some (.lst (rf ps)) ∧ VsAt C H ps ∧ ps.length ≤ 1000 ∧
  ∀ H' p, Same H H' → H p = none → H' p = some (.lst (rf (isort wr ps))) → Q (.ref p) H'
theorem scIo : FnScope ["versions", "pairs", "at", "version", "writer"] ["versions"] (defScope sIo) := ⟨rfl, rfl, rfl, by decide +kernel, rfl, by decide +kernel, by decide +kernel⟩
/-- the two numbers of a pair -/
def pairK (H : Hp) (x : V) : Int × Int := match x with
  | .ref t => match H t with
    | some (.tup [.int a, .int b]) => (a, b)
    | _ => (0, 0)
  | _ => (0, 0)
theorem pairK_of {H : Hp} {t : Addr} {a b : Int} (h : H t = some (.tup [.int a, .int b])) : pairK H (.ref t) = (a, b) := by
  unfold pairK
  simp only [h]
/-- pairs (writer, place), behind one another -/
structure Prs (H : Hp) (ps : Vs) (ts : List Addr) : Prop where
  at_ : ∀ (j : Nat) (t : Addr), ts[j]? = some t → ∃ p, ps[j]? = some p ∧ H t = some (.tup [.int (wr p : Int), .int (j : Int)])
theorem Prs.keys {H : Hp} {ps : Vs} {ts : List Addr} (h : Prs H ps ts) (hl : ts.length = ps.length) : (ts.map V.ref).map (pairK H) = ps.zipIdx.map fun x => ((wr x.1 : Int), (x.2 : Int)) := by
  apply List.ext_getElem?
  intro j
  rw [List.getElem?_map, List.getElem?_map, List.getElem?_map, List.getElem?_zipIdx]
  cases e : ts[j]? with
  | none =>
    have : ps[j]? = none := by
      rw [List.getElem?_eq_none_iff] at e ⊢
      omega
    rw [this]
    rfl
  | some t =>
    obtain ⟨p, hp, ht⟩ := h.at_ j t e
    rw [hp]
    show some (pairK H (V.ref t)) = some ((wr p : Int), ((0 + j : Nat) : Int))
    rw [pairK_of ht, Nat.zero_add]
theorem ok_io {C : Addr} (F : Here K mg "in_order" sIo ["versions"]) (c : Cst mg) (T : Cl K C fV) : Df P w K mg base 1 "in_order" ["versions"] (spIo C) := by
  refine F.df scIo (fun vs H Q E h => ?_) (fun cdv A outer s H vs Q E f hr h => ?_)
  · obtain ⟨l, ps, rfl, _⟩ := h
    rfl
  · obtain ⟨l, ps, rfl, hl, hps, hn, k⟩ := h
    refine ⟨_, pss_cons (ps_set (i := 1) scIo.nd rfl (Or.inl rfl) (pe_callB cr_sortedPO (by rfl) c.sorted (by decide +kernel) (pa_cons (pe_lc (own := [("at", 2), ("version", 3)]) (g := gTup K 2 (gCons (gName 2) (gCons (gName 3) gNil))) (tt := tYes) (te := tTup (tCons (tFld K (tVar 3) "writer") (tCons (tVar 2) tNil))) rfl scIo.nd (pi_enum (by rfl) c.enumerate (pa_cons (pv 0) pa_nil))
        (blkOk_by (own := [("at", 2), ("version", 3)]) (N := ["versions", "pairs", "at", "version", "writer"]) (sc := defScope sIo) (by decide +kernel))
        (fun _ _ _ _ _ => pg_tup rfl (pgs_cons (pg_name (i := 2) scIo.nd rfl (Or.inl rfl)) (pgs_cons (pg_name (i := 3) scIo.nd rfl (Or.inl rfl)) pgs_nil))) (fun _ _ _ _ _ => pts_nil) (fun _ _ _ _ _ => pe_tup (pa_cons (pe_fld (pv 3) rfl) (pa_cons (pv 2) pa_nil)))) pa_nil)))
      (pss_one (ps_ret (pe_lc (own := [("writer", 4), ("at", 2)]) (g := gTup K 2 (gCons (gName 4) (gCons (gName 2) gNil))) (tt := tYes) (te := tOp (rIxL K) (tVar 0) (tVar 2)) rfl scIo.nd (pi_list (pv 1))
        (blkOk_by (own := [("writer", 4), ("at", 2)]) (N := ["versions", "pairs", "at", "version", "writer"]) (sc := defScope sIo) (by decide +kernel))
        (fun _ _ _ _ _ => pg_tup rfl (pgs_cons (pg_name (i := 4) scIo.nd rfl (Or.inl rfl)) (pgs_cons (pg_name (i := 2) scIo.nd rfl (Or.inl rfl)) pgs_nil))) (fun _ _ _ _ _ => pts_nil) (fun _ _ _ _ _ => pe_ix ix_list (pv 0) (pv 2) (fun _ _ => rfl))))), ?_⟩
    refine ⟨_, rfl, l, _, rfl, SqL.of hl, fun D hD => lc_it (walk_enum (K := K) (a := l) (xs := rf ps)) (fun i H' => Same H H' ∧ ∃ ts : List Addr, ts.length = i ∧ H' D = some (.lst (ts.map V.ref)) ∧ Prs H' ps ts) ?_ ?_ ?_ ?_⟩
    · exact ⟨same_upd hD, [], rfl, upd_same, ⟨fun j t h => by simp at h⟩⟩
    · rintro i H' _ ⟨s1, _⟩
      exact SqL.of (s1 _ _ hl)
    · rintro i x H' H2 hi ⟨s1, ts, hts, hD', hP⟩ ⟨U, x1, y1, rfl, hU, rfl, e1, e2⟩
      cases e1
      obtain ⟨p, hp, rfl⟩ := rf_get e2
      obtain ⟨⟨dp, cp, hpa, hpc⟩, lp⟩ := (hps.get hp).mono s1
      have sU : Same H' (upd H' U (.tup [.int (i : Nat), .ref p.1])) := same_upd hU
      refine ⟨U, _, rfl, SqT.of upd_same, rfl, _, _, rfl, _, _, rfl, rfl, rfl, ?_⟩
      refine tyes ?_
      refine ⟨_, rfl, p.1, C, dp, _, _, rfl, sU _ _ hpa, T.cl, T.na _ (by decide +kernel), vF_w _ _, _, rfl, (by show 2 ≤ sizeLine; decide), fun t ht => ?_⟩
      have st := sU.trans (same_upd (o := .tup [.int (p.2.writer : Int), .int (i : Int)]) ht)
      have nD : D ≠ t := ne_of_none (sU _ _ hD') ht
      refine ⟨_, st _ _ hD', ?_, fun b o e => ?_, ts ++ [t], by rw [List.length_append, hts]; rfl, ?_, ⟨fun j t' ht' => ?_⟩⟩
      · rw [List.length_map, hts]
        rw [rf_len] at hi
        exact sz (by omega)
      · rw [upd_ne (ne_of_none e hD)]
        exact st _ _ (s1 _ _ e)
      · rw [upd_same, List.map_append]
        rfl
      · by_cases hj : j < ts.length
        · rw [List.getElem?_append_left hj] at ht'
          obtain ⟨p', hp', hh⟩ := hP.at_ j t' ht'
          refine ⟨p', hp', ?_⟩
          rw [upd_ne (ne_of hh hD' (by intro z; cases z))]
          exact st _ _ hh
        · have ej : j = ts.length := by
            have := (List.getElem?_eq_some_iff.mp ht').1
            rw [List.length_append] at this
            simp at this
            omega
          subst ej
          rw [List.getElem?_append_right (Nat.le_refl _), Nat.sub_self] at ht'
          have et : t = t' := Option.some.inj ht'
          subst et
          rw [hts]
          refine ⟨p, hp, ?_⟩
          rw [upd_ne nD.symm]
          exact upd_same
    · rintro H1 ⟨s1, ts, hts, hD', hP⟩
      rw [rf_len] at hts
      refine ⟨D, _, pairK H1, rfl, SqL.of hD', fun x hx => ?_, fun ys q hs hb hq => ?_⟩
      · obtain ⟨t, ht, rfl⟩ := List.mem_map.mp hx
        obtain ⟨j, hj⟩ := List.getElem?_of_mem ht
        obtain ⟨p, _, hh⟩ := hP.at_ j t hj
        exact ⟨t, rfl, by rw [pairK_of hh]; exact hh⟩
      · have hk : ys.map (pairK H1) = (isort (fun x : (Addr × Km353.Version) × Nat => wr x.1) ps.zipIdx).map fun x => ((wr x.1 : Int), (x.2 : Int)) := by
          refine sorted_places wr ps _ ?_ ?_
          · rw [← hP.keys hts]
            exact hb.perm.map _
          · rw [List.pairwise_map]
            exact hs.imp fun {x y} z => SrtO.lexB_no.mp z
        have hys : ∀ (i : Nat) (y : V), ys[i]? = some y → ∃ (t : Addr) (x : (Addr × Km353.Version) × Nat), y = V.ref t ∧ (isort (fun x : (Addr × Km353.Version) × Nat => wr x.1) ps.zipIdx)[i]? = some x ∧ ps[x.2]? = some x.1 ∧ H1 t = some (.tup [.int (wr x.1 : Int), .int (x.2 : Int)]) := by
          intro i y hy
          have hm : y ∈ ts.map V.ref := hb.perm.mem_iff.mp (List.mem_of_getElem? hy)
          obtain ⟨t, ht, rfl⟩ := List.mem_map.mp hm
          obtain ⟨j, hj⟩ := List.getElem?_of_mem ht
          obtain ⟨p, hp, hh⟩ := hP.at_ j t hj
          have e := congrArg (fun l => l[i]?) hk
          simp only [List.getElem?_map, hy] at e
          cases ex : (isort (fun x : (Addr × Km353.Version) × Nat => wr x.1) ps.zipIdx)[i]? with
          | none => rw [ex] at e; cases e
          | some x =>
            rw [ex] at e
            have e' : pairK H1 (V.ref t) = ((wr x.1 : Int), (x.2 : Int)) := Option.some.inj e
            rw [pairK_of hh] at e'
            have hx : x ∈ ps.zipIdx := (isort_perm _ _).mem_iff.mp (List.mem_of_getElem? ex)
            have hx2 := List.mem_zipIdx' hx
            have g : ps[x.2]? = some x.1 := by
              rw [List.getElem?_eq_getElem hx2.1]
              exact congrArg some hx2.2.symm
            refine ⟨t, x, rfl, rfl, g, ?_⟩
            rw [hh]
            have a1 := (Prod.mk.inj e').1
            have a2 := (Prod.mk.inj e').2
            rw [a1, a2]
        have hlen : (isort (fun x : (Addr × Km353.Version) × Nat => wr x.1) ps.zipIdx).length = ys.length := by
          have := congrArg List.length hk
          simpa using this.symm
        have hlen2 : ys.length = ps.length := by
          have := (isort_perm (fun x : (Addr × Km353.Version) × Nat => wr x.1) ps.zipIdx).length_eq
          rw [hlen] at this
          simpa using this
        have s2 := s1.trans (same_upd (o := .lst ys) hq)
        have s3 : Same H1 (upd H1 q (.lst ys)) := same_upd hq
        refine ⟨_, rfl, q, rfl, ⟨_, SqL.of upd_same⟩, fun D2 hD2 => lc_list (K := K) (a := q) (xs := ys) (fun i H' => Same (upd H1 q (.lst ys)) H' ∧ H' D2 = some (.lst (rf (((isort (fun x : (Addr × Km353.Version) × Nat => wr x.1) ps.zipIdx).take i).map Prod.fst)))) ?_ ?_ ?_ ?_⟩
        · exact ⟨same_upd hD2, upd_same⟩
        · rintro i H' _ ⟨s4, _⟩
          exact SqL.of (s4 _ _ upd_same)
        · rintro i y H' hy ⟨s4, hD2'⟩
          obtain ⟨t, x, rfl, hx, hp, ht⟩ := hys i y hy
          refine ⟨t, _, rfl, SqT.of (s4 _ _ (s3 _ _ ht)), rfl, _, _, rfl, _, _, rfl, rfl, rfl, ?_⟩
          refine tyes ?_
          refine ⟨_, rfl, _, rfl, l, _, _, _, rfl, rfl, SqL.of (s4 _ _ (s2 _ _ hl)), atI_nat (rf_at hp), _, hD2', ?_, fun b o e => ?_, ?_⟩
          · rw [rf_len, List.length_map, List.length_take]
            exact sz (by omega)
          · rw [upd_ne (ne_of_none e hD2)]
            exact s4 _ _ e
          · rw [upd_same, take_more hx, List.map_append, rf_app]
            rfl
        · rintro H' ⟨s4, hD2'⟩
          refine k H' D2 (s2.trans s4) (s2.free hD2) ?_
          rw [hD2', ← hlen, List.take_length, isort_places wr ps]
end
end PR
namespace PR
open PySem PySem.Spec PyProof.Rows L2
section
variable {P : Program} {w : World} {K : PySem.W.Frag} {mg : Str → Option Value} {base : Heap}
/-! ### put_together -/
abbrev sPt : Stmt := top 10
def spPt (C : Addr) : Sp := fun vs H Q _ => ∃ (a b : Addr) (ps qs : Vs), vs = [.ref a, .ref b] ∧ H a = some (.lst (rf ps)) ∧ H b = some (.lst (rf qs)) ∧ VsAt C H ps ∧ VsAt C H qs ∧ ps.length ≤ 100 ∧ qs.length ≤ 100 ∧
  ((ver ps).Pairwise fun a b => a.writer ≤ b.writer) ∧
  ∀ (H' : Hp) (p : Addr) (rs : Vs), Same H H' → H p = none → H' p = some (.lst (rf rs)) → (∀ r ∈ rs, r ∈ ps ∨ r ∈ qs) → ver rs = Km353.merge (ver ps) (ver qs) → rs.length ≤ 200 → Q (.ref p) H'
theorem scPt : FnScope ["there", "told", "new", "left", "version"] ["there", "told"] (defScope sPt) := ⟨rfl, rfl, rfl, by decide +kernel, rfl, by decide +kernel, by decide +kernel⟩
def newOf (ps qs : Vs) : Vs := qs.filter fun q => !(Km353.covered (ver ps) q.2)
def leftOf (ps qs : Vs) : Vs := ps.filter fun p => !(Km353.covered (ver (newOf ps qs)) p.2)
theorem ver_app (a b : Vs) : ver (a ++ b) = ver a ++ ver b := List.map_append
theorem put_is {ps qs : Vs} (h : (ver ps).Pairwise fun a b => a.writer ≤ b.writer) : ver (isort wr (leftOf ps qs ++ newOf ps qs)) = Km353.merge (ver ps) (ver qs) := by
  rw [merge_eq _ _ h]
  unfold ver
  rw [show isort wr (leftOf ps qs ++ newOf ps qs) = isort (fun p : Addr × Km353.Version => p.2.writer) (leftOf ps qs ++ newOf ps qs) from rfl, isort_map Km353.Version.writer Prod.snd, List.map_append]
  have e1 : (newOf ps qs).map Prod.snd = (ver qs).filter fun v => !(Km353.covered (ver ps) v) := ver_filter qs fun v => !(Km353.covered (ver ps) v)
  have e2 : (leftOf ps qs).map Prod.snd = (ver ps).filter fun v => !(Km353.covered ((ver qs).filter fun v => !(Km353.covered (ver ps) v)) v) := by
    rw [← e1]
    exact ver_filter ps fun v => !(Km353.covered (ver (newOf ps qs)) v)
  rw [e1, e2]
  rfl
theorem ok_pt {C : Addr} (F : Here K mg "put_together" sPt ["there", "told"]) (Gb : Df P w K mg base 2 "is_gone_by" ["versions", "other"] (spGb C)) (Io : Df P w K mg base 1 "in_order" ["versions"] (spIo C)) :
    Df P w K mg base 3 "put_together" ["there", "told"] (spPt C) := by
  refine F.df scPt (fun vs H Q E h => ?_) (fun cdv A outer s H vs Q E f hr h => ?_)
  · obtain ⟨a, b, ps, qs, rfl, _⟩ := h
    rfl
  · obtain ⟨a, b, ps, qs, rfl, ha, hb, hps, hqs, hn, hm, hw, k⟩ := h
    refine ⟨_, pss_cons (ps_set (i := 2) scPt.nd rfl (Or.inr rfl) (pe_lc (own := [("version", 4)]) (g := gName 4) (tt := tNot (tB (tCl (spGb C) E0 (tCons (tVar 0) (tCons (tVar 4) tNil))))) (te := tVar 4) rfl scPt.nd (pi_list (pv 1))
        (blkOk_by (own := [("version", 4)]) (N := ["there", "told", "new", "left", "version"]) (sc := defScope sPt) (by decide +kernel))
        (fun _ _ _ _ _ => pg_name (i := 4) scPt.nd rfl (Or.inl rfl)) (fun _ _ _ _ _ => pts_one (pt_not (pt_val (pe_df Gb hr (by decide) rfl (pa_cons (pv 0) (pa_cons (pv 4) pa_nil)))))) (fun _ _ _ _ _ => pv 4)))
      (pss_cons (ps_setLc (i := 3) (own := [("version", 4)]) (g := gName 4) (tt := tNot (tB (tCl (spGb C) E0 (tCons (tVar 2) (tCons (tVar 4) tNil))))) (te := tVar 4) rfl scPt.nd rfl rfl (sw_true rfl rfl rfl (by decide +kernel)) (pi_list (pv 0))
        (blkOk_by (own := [("version", 4)]) (N := ["there", "told", "new", "left", "version"]) (sc := defScope sPt) (by decide +kernel))
        (fun _ _ _ _ _ => pg_name (i := 4) scPt.nd rfl (Or.inl rfl)) (fun _ _ _ _ _ => pts_one (pt_not (pt_val (pe_df Gb hr (by decide) rfl (pa_cons (pv 2) (pa_cons (pv 4) pa_nil)))))) (fun _ _ _ _ _ => pv 4))
      (pss_one (ps_ret (pe_df Io hr (by decide) rfl (pa_cons (pe_op op_cat (pv 3) (pv 2)) pa_nil))))), ?_⟩
    refine ⟨_, rfl, b, rfl, ⟨_, SqL.of hb⟩, fun D hD => lc_list (K := K) (a := b) (xs := rf qs) (fun i H' => Same H H' ∧ H' D = some (.lst (rf ((qs.take i).filter fun q => !(Km353.covered (ver ps) q.2))))) ⟨same_upd hD, upd_same⟩ (fun i H' _ z => SqL.of (z.1 _ _ hb)) ?_ ?_⟩
    · rintro i x H' hx ⟨s1, hD'⟩
      obtain ⟨q, hq, rfl⟩ := rf_get hx
      refine ⟨rfl, _, rfl, _, rfl, a, q.1, ps, q.2, rfl, s1 _ _ ha, hps.mono s1, by omega, (hqs.get hq).mono s1, fun H2 s2 => ⟨_, rfl, ?_⟩⟩
      refine ite2 (fun z => ?_) (fun z => ?_)
      · refine ⟨_, rfl, _, s2 _ _ hD', ?_, fun b' o e => ?_, ?_⟩
        · rw [rf_len]
          exact sz (Nat.le_trans (filt_le _ _ _) (by omega))
        · rw [upd_ne (ne_of_none e hD)]
          exact s2 _ _ (s1 _ _ e)
        · rw [upd_same, filt_t (f := fun q : Addr × Km353.Version => !(Km353.covered (ver ps) q.2)) hq z, rf_app]
          rfl
      · refine ⟨s1.trans s2, ?_⟩
        rw [filt_f (f := fun q : Addr × Km353.Version => !(Km353.covered (ver ps) q.2)) hq (by simpa using z)]
        exact s2 _ _ hD'
    · rintro H1 ⟨s1, hD1⟩
      rw [rf_len, List.take_length] at hD1
      have hD1 : H1 D = some (.lst (rf (newOf ps qs))) := hD1
      have hnew : VsAt C H (newOf ps qs) := hqs.filter _
      have lnew : (newOf ps qs).length ≤ 100 := Nat.le_trans (List.length_filter_le _ _) hm
      refine ⟨_, rfl, a, rfl, ⟨_, SqL.of (s1 _ _ ha)⟩, fun G hG => lc_list (K := K) (a := a) (xs := rf ps) (fun i H' => Same H1 H' ∧ H' G = some (.lst (rf ((ps.take i).filter fun p => !(Km353.covered (ver (newOf ps qs)) p.2))))) ⟨same_upd hG, upd_same⟩ (fun i H' _ z => SqL.of (z.1 _ _ (s1 _ _ ha))) ?_ ?_⟩
      · rintro i x H' hx ⟨s2, hG'⟩
        obtain ⟨q, hq, rfl⟩ := rf_get hx
        refine ⟨rfl, _, rfl, _, rfl, D, q.1, newOf ps qs, q.2, rfl, s2 _ _ hD1, hnew.mono (s1.trans s2), by omega, (hps.get hq).mono (s1.trans s2), fun H2 s3 => ⟨_, rfl, ?_⟩⟩
        refine ite2 (fun z => ?_) (fun z => ?_)
        · refine ⟨_, rfl, _, s3 _ _ hG', ?_, fun b' o e => ?_, ?_⟩
          · rw [rf_len]
            exact sz (Nat.le_trans (filt_le _ _ _) (by omega))
          · rw [upd_ne (ne_of_none e hG)]
            exact s3 _ _ (s2 _ _ e)
          · rw [upd_same, filt_t (f := fun p : Addr × Km353.Version => !(Km353.covered (ver (newOf ps qs)) p.2)) hq z, rf_app]
            rfl
        · refine ⟨s2.trans s3, ?_⟩
          rw [filt_f (f := fun p : Addr × Km353.Version => !(Km353.covered (ver (newOf ps qs)) p.2)) hq (by simpa using z)]
          exact s3 _ _ hG'
      · rintro H2 ⟨s2, hG2⟩
        rw [rf_len, List.take_length] at hG2
        have hG2 : H2 G = some (.lst (rf (leftOf ps qs))) := hG2
        have lleft : (leftOf ps qs).length ≤ 100 := Nat.le_trans (List.length_filter_le _ _) hn
        have s12 := s1.trans s2
        have hleft : VsAt C H (leftOf ps qs) := hps.filter _
        refine ⟨_, rfl, _, rfl, G, D, _, _, rfl, rfl, hG2, s2 _ _ hD1, by rw [rf_len, rf_len]; exact sz' (by omega), fun p hp => ?_⟩
        have s3 := s12.trans (same_upd (o := .lst (rf (leftOf ps qs) ++ rf (newOf ps qs))) hp)
        refine ⟨p, leftOf ps qs ++ newOf ps qs, rfl, by rw [upd_same, rf_app], fun q hq => ?_, by rw [List.length_append]; omega, fun H' p' s4 hp' e => ?_⟩
        · rcases List.mem_append.mp hq with z | z
          · exact (hleft q z).mono s3
          · exact (hnew q z).mono s3
        · refine k H' p' _ (s3.trans s4) (s3.free hp') e (fun r hr => ?_) (put_is hw) ?_
          · rcases List.mem_append.mp ((isort_perm _ _).mem_iff.mp hr) with z | z
            · exact .inl (List.mem_filter.mp z).1
            · exact .inr (List.mem_filter.mp z).1
          · rw [(isort_perm _ _).length_eq, List.length_append]
            omega

/-! ### written_on -/
abbrev sWo : Stmt := top 9
def spWo (C : Addr) : Sp := fun vs H Q _ => ∃ (l : Addr) (ps : Vs) (me num : Nat), vs = [.ref l, .int (me : Int), .int (num : Int)] ∧ H l = some (.lst (rf ps)) ∧ VsAt C H ps ∧ me < 16 ∧
  ∀ (H' : Hp) (x : Addr), Same H H' → VerAt C (nw H H') x (Km353.write me num (ver ps)) → Q (.ref x) H'
theorem scWo : FnScope ["versions", "me", "number", "counts", "version", "at"] ["versions", "me", "number"] (defScope sWo) := ⟨rfl, rfl, rfl, by decide +kernel, rfl, by decide +kernel, by decide +kernel⟩
def kn (ps : Vs) (i : Nat) : List Nat := Km353.known (ver (ps.take i))
theorem kn_more {ps : Vs} {i : Nat} {p : Addr × Km353.Version} (h : ps[i]? = some p) : kn ps (i + 1) = Km353.join (kn ps i) p.2.counts := by
  unfold kn Km353.known
  rw [take_more h, ver_app, List.foldl_append]
  rfl
theorem kn_len (ps : Vs) (i : Nat) : (kn ps i).length = 16 := known_len _
theorem join_more (a b : List Nat) (i : Nat) (h : i < 16) : (Km353.join a b).take (i + 1) = (Km353.join a b).take i ++ [max (Km353.at_ a i) (Km353.at_ b i)] := by
  refine take_more ?_
  unfold Km353.join
  rw [List.getElem?_map, List.getElem?_range (by simpa [Km353.MACHINES] using h)]
  rfl
theorem max_int (a b : Nat) : (if (b : Int) > (a : Int) then (b : Int) else (a : Int)) = ((max a b : Nat) : Int) := by
  by_cases h : b > a
  · rw [if_pos (by omega)]
    omega
  · rw [if_neg (by omega)]
    omega
theorem ok_wo {C : Addr} (F : Here K mg "written_on" sWo ["versions", "me", "number"]) (c : Cst mg) (T : Cl K C fV) (Ve : Mkr P w K mg base 1 "Version" C ["self", "writer", "counts", "number"] (spIV C)) :
    Df P w K mg base 3 "written_on" ["versions", "me", "number"] (spWo C) := by
  refine F.df scWo (fun vs H Q E h => ?_) (fun cdv A outer s H vs Q E f hr h => ?_)
  · obtain ⟨l, ps, me, num, rfl, _⟩ := h
    rfl
  · obtain ⟨l, ps, me, num, rfl, hl, hps, hme, k⟩ := h
    refine ⟨_, pss_cons (ps_set (i := 3) scWo.nd rfl (Or.inr rfl) (pe_op op_rep (pe_lst (pa_cons pe_int pa_nil)) (pe_gc c.MACHINES)))
      (pss_cons (ps_for PassesOwn.never rfl (pi_list (pv 0)) (pg_name (i := 4) scWo.nd rfl (Or.inr rfl))
        (pss_one (ps_set (i := 3) scWo.nd rfl (Or.inr rfl) (pe_lc (own := [("at", 5)]) (g := gName 5) (tt := tYes)
          (te := tCB (fun xs H Q => ∃ i j, xs = [V.int i, V.int j] ∧ Q (V.int (if j > i then j else i)) H) (tCons (tOp (rIxL K) (tVar 3) (tVar 5)) (tCons (tOp (rIxL K) (tFld K (tVar 4) "counts") (tVar 5)) tNil))) rfl scWo.nd (pi_range1 rfl c.range (pa_cons (pe_gc c.MACHINES) pa_nil))
          (blkOk_by (own := [("at", 5)]) (N := ["versions", "me", "number", "counts", "version", "at"]) (sc := defScope sWo) (by decide +kernel))
          (fun _ _ _ _ _ => pg_name (i := 5) scWo.nd rfl (Or.inl rfl)) (fun _ _ _ _ _ => pts_nil)
          (fun _ _ _ _ _ => pe_callB (call_max2 rfl) (by rfl) c.max boot_max (pa_cons (pe_ix ix_list (pv 3) (pv 5) (fun _ _ => rfl)) (pa_cons (pe_ix ix_list (pe_fld (pv 4) rfl) (pv 5) (fun _ _ => rfl)) pa_nil)))))))
      (pss_cons (ps_augS (pv 3) (pv 1) pget_list pe_int ip_add set_list)
      (pss_one (ps_ret (pe_mkr Ve hr (by decide) rfl (pa_cons (pv 1) (pa_cons (pv 3) (pa_cons (pv 2) pa_nil)))))))), ?_⟩
    refine ⟨(by show 1 ≤ sizeLine; decide), fun p0 hp0 => ⟨p0, 16, _, rfl, rfl, upd_same, by decide, by decide, (by show 1 * 16 ≤ sizeLine; decide), fun z0 hz0 => ?_⟩⟩
    have s0 : Same H (upd (upd H p0 (.lst [.int 0])) z0 (.lst (List.replicate (Int.toNat 16) [V.int 0]).flatten)) := (same_upd hp0).trans (same_upd hz0)
    refine ⟨_, rfl, l, rfl, ⟨_, SqL.of (s0 _ _ hl)⟩, for_list (K := K) (a := l) (xs := rf ps) (fun i σ H' => Same H H' ∧ ∃ (z : Addr) (x : Option V), σ = [some (.ref l), some (.int (me : Int)), some (.int (num : Int)), some (.ref z), x, none] ∧ H z = none ∧ H' z = some (.lst (nV (kn ps i))))
      ⟨s0, z0, none, rfl, (same_upd hp0).free hz0, upd_same⟩ (fun i σ H' _ z => SqL.of (z.1 _ _ hl)) ?_ ?_⟩
    · rintro i x σ H' hx ⟨s1, z, x4, rfl, hz, hz'⟩
      obtain ⟨p, hp, rfl⟩ := rf_get hx
      obtain ⟨⟨dp, cp, hpa, hpc⟩, lp⟩ := (hps.get hp).mono s1
      refine ⟨16, rfl, by decide, by decide, fun D hD => lc_range (lo := 0) (n := 16) (fun j H2 => Same H' H2 ∧ H2 D = some (.lst (nV ((Km353.join (kn ps i) p.2.counts).take j)))) ⟨same_upd hD, upd_same⟩ ?_ ?_⟩
      · rintro j H2 hj ⟨s2, hD'⟩
        refine ⟨rfl, tyes ?_⟩
        refine ⟨_, rfl, _, rfl, z, _, _, _, rfl, rfl, SqL.of (s2 _ _ hz'), at_of (j := j) (by omega) (nV_at (at_get (by rw [kn_len]; exact hj))), _, rfl, p.1, C, dp, _, _, rfl, s2 _ _ hpa, T.cl, T.na _ (by decide +kernel), vF_c _ _, _, rfl, cp, _, _, _, rfl, rfl, SqL.of (s2 _ _ hpc), at_of (j := j) (by omega) (nV_at (at_get (by omega))), _, _, rfl, _, hD', ?_, fun b o e => ?_, ?_⟩
        · rw [nV_len, List.length_take]
          exact sz (by omega)
        · rw [upd_ne (ne_of_none e hD)]
          exact s2 _ _ e
        · rw [upd_same, join_more _ _ _ hj, nV_app, max_int]
          rfl
      · rintro H2 ⟨s2, hD'⟩
        refine ⟨s1.trans s2, D, some (.ref p.1), rfl, s1.free hD, ?_⟩
        rw [kn_more hp, hD', List.take_of_length_le (by rw [join_len]; exact Nat.le_refl _)]
    · rintro σ H1 ⟨s1, z, x4, rfl, hz, hz'⟩
      rw [rf_len] at hz'
      have ek : kn ps ps.length = Km353.known (ver ps) := by
        unfold kn
        rw [List.take_length]
      rw [ek] at hz'
      have hget : (nV (Km353.known (ver ps)))[me]? = some (V.int (Km353.at_ (Km353.known (ver ps)) me : Int)) := nV_at (at_get (by rw [known_len]; exact hme))
      refine ⟨_, rfl, _, rfl, z, _, _, me, rfl, rfl, SqL.of hz', hget, _, _, rfl, rfl, z, _, _, me, rfl, rfl, hz', ?_, ?_⟩
      · unfold ixN
        rw [if_pos (by omega), if_pos (by rw [nV_len, known_len]; omega)]
        simp
      · have e : (nV (Km353.known (ver ps))).set me (V.int ((Km353.at_ (Km353.known (ver ps)) me : Int) + 1)) = nV (Km353.write me num (ver ps)).counts := by
          show (nV (Km353.known (ver ps))).set me _ = nV ((Km353.known (ver ps)).set me (Km353.at_ (Km353.known (ver ps)) me + 1))
          unfold nV
          rw [List.map_set]
          rfl
        have s2 : Same H (upd H1 z (.lst (nV (Km353.write me num (ver ps)).counts))) := fun b o q => by
          rw [upd_ne (ne_of_none q hz)]
          exact s1 _ _ q
        rw [e]
        refine ⟨_, rfl, _, rfl, _, rfl, fun x dx hx hdx hne => ⟨x, dx, _, _, _, rfl, upd_same, rfl, ?_⟩⟩
        rw [upd_upd]
        have s3 := same_made (o := .ins C dx [("writer", V.int (me : Int)), ("counts", V.ref z), ("number", V.int (num : Int))]) hx hdx
        refine k _ x (s2.trans s3) ⟨⟨dx, z, nw_of (s2.free hx) upd_same, nw_of hz (s3 _ _ upd_same)⟩, ?_⟩
        show ((Km353.known (ver ps)).set me _).length = 16
        rw [List.length_set, known_len]
end
end PR
namespace PR
open PySem PySem.Spec PyProof.Rows L2
section
variable {P : Program} {w : World} {K : PySem.W.Frag} {mg : Str → Option Value} {base : Heap}
theorem xor_nat (a b : Nat) : Builtin.bitXor (a : Int) (b : Int) = ((a ^^^ b : Nat) : Int) := by
  have z := Bits.bitXor_pp (x := (a : Int)) (y := (b : Int)) (by omega) (by omega)
  simpa using z
theorem op_xorN {X : Cx} : OpR X (binaryOp .BitXor) (fun x y H Q => ∃ n m : Nat, x = .int (n : Int) ∧ y = .int (m : Int) ∧ Q (.int ((n ^^^ m : Nat) : Int)) H) := by
  intro pins s σ H x y v u Q I rx ry h
  obtain ⟨n, m, e1, e2, q⟩ := h
  refine op_xor pins s σ H x y v u Q I rx ry ⟨_, _, e1, e2, ?_⟩
  show Q (V.int (Builtin.bitXor (n : Int) (m : Int))) H
  rw [xor_nat]
  exact q
theorem cut_nV {bs : List Nat} {i j : Nat} (hi : i ≤ bs.length) (hj : j ≤ bs.length) : cutV (nV bs) (some (i : Int)) (some (j : Int)) = nV ((bs.drop i).take (j - i)) := by
  unfold cutV
  rw [HT.sIx_nat, HT.sIx_nat, nV_len, Nat.min_eq_left hi, Nat.min_eq_left hj]
  unfold nV
  rw [← List.map_drop, ← List.map_take]
theorem cut_to {bs : List Nat} {j : Nat} (hj : j ≤ bs.length) : cutV (nV bs) none (some (j : Int)) = nV (bs.take j) := by
  unfold cutV
  rw [HT.sIx_nat, HT.sIx_none, nV_len, Nat.min_eq_left hj, List.drop_zero, Nat.sub_zero]
  unfold nV
  rw [← List.map_take]
theorem cut_from {bs : List Nat} {i : Nat} (hi : i ≤ bs.length) : cutV (nV bs) (some (i : Int)) none = nV (bs.drop i) := by
  unfold cutV
  rw [HT.sIx_nat, HT.sIx_none, nV_len, Nat.min_eq_left hi]
  unfold nV
  rw [← List.map_drop, List.take_of_length_le (by simp)]

/-! ### check_of -/
abbrev sCk : Stmt := top 22
def spCk : Sp := fun vs H Q _ => ∃ (l : Addr) (bs : List Nat), vs = [.ref l] ∧ H l = some (.lst (nV bs)) ∧ (∀ b ∈ bs, b < 256) ∧ Q (.int (Km353.crc bs : Int)) H
theorem scCk : FnScope ["some", "rest", "byte", "turn"] ["some"] (defScope sCk) := ⟨rfl, rfl, rfl, by decide +kernel, rfl, by decide +kernel, by decide +kernel⟩
def crcTo (bs : List Nat) (i : Nat) : Nat := (bs.take i).foldl Km353.crcByte 4294967295
theorem crcTo_more {bs : List Nat} {i b : Nat} (h : bs[i]? = some b) : crcTo bs (i + 1) = (List.range 8).foldl (fun x _ => Km353.crcBit x) (crcTo bs i ^^^ b) := by
  unfold crcTo
  rw [take_more h, List.foldl_append]
  rfl
theorem ok_ck (F : Here K mg "check_of" sCk ["some"]) (c : Cst mg) : Df P w K mg base 1 "check_of" ["some"] spCk := by
  refine F.df scCk (fun vs H Q E h => ?_) (fun cdv A outer s H vs Q E f hr h => ?_)
  · obtain ⟨l, bs, rfl, _⟩ := h
    rfl
  · obtain ⟨l, bs, rfl, hl, hb, k⟩ := h
    refine ⟨_, pss_cons (ps_set (i := 1) scCk.nd rfl (Or.inl rfl) (pe_gc c.ONES))
      (pss_cons (ps_for PassesOwn.never rfl (pi_list (pv 0)) (pg_name (i := 2) scCk.nd rfl (Or.inl rfl))
        (pss_cons (ps_set (i := 1) scCk.nd rfl (Or.inl rfl) (pe_op op_xorN (pv 1) (pv 2)))
        (pss_one (ps_for PassesOwn.never rfl (pi_range1 rfl c.range (pa_cons pe_int pa_nil)) (pg_name (i := 3) scCk.nd rfl (Or.inl rfl))
          (pss_one (ps_if (pt_cmpR op_eq (pe_op op_odd (pv 1) pe_int) pe_int (nomark _))
            (pss_one (ps_set (i := 1) scCk.nd rfl (Or.inl rfl) (pe_op op_xorN (pe_op op_halfN (pv 1) pe_int) (pe_gc c.POLY))))
            (pss_one (ps_set (i := 1) scCk.nd rfl (Or.inl rfl) (pe_op op_halfN (pv 1) pe_int)))))))))
      (pss_one (ps_ret (pe_op op_sub (pe_gc c.ONES) (pv 1))))), ?_⟩
    refine ⟨_, rfl, l, rfl, ⟨_, SqL.of hl⟩, for_list (K := K) (a := l) (xs := nV bs) (fun i σ H' => H' = H ∧ ∃ x y, σ = [some (.ref l), some (.int (crcTo bs i : Int)), x, y]) ⟨rfl, _, _, rfl⟩ (fun i σ H' _ z => by rw [z.1]; exact SqL.of hl) ?_ ?_⟩
    · rintro i x σ H' hx ⟨rfl, x2, x3, rfl⟩
      obtain ⟨b, hb', rfl⟩ := nV_get hx
      refine ⟨_, rfl, _, rfl, _, b, rfl, rfl, ?_⟩
      refine ⟨8, rfl, by decide, by decide, for_range (n := 8) (fun j σ H' => H' = _ ∧ ∃ y, σ = [some (.ref l), some (.int (((List.range j).foldl (fun x _ => Km353.crcBit x) (crcTo bs i ^^^ b) : Nat) : Int)), some (.int (b : Int)), y]) ⟨rfl, _, rfl⟩ ?_ ?_⟩
      · rintro j σ H' hj ⟨rfl, y, rfl⟩
        refine ⟨_, rfl, _, rfl, rfl, rfl, _, rfl, ?_⟩
        by_cases o : (List.range j).foldl (fun x _ => Km353.crcBit x) (crcTo bs i ^^^ b) % 2 = 1
        · refine ite_t (decide_eq_true (by rw [o]; rfl)) ?_
          refine ⟨_, rfl, _, rfl, rfl, _, 2197175160, rfl, rfl, ?_⟩
          refine ⟨rfl, some (.int (0 + (j : Int))), ?_⟩
          rw [crcBits_succ]
          show _ = [some (V.ref l), some (V.int ((if _ then _ else _ : Nat) : Int)), some (V.int (b : Int)), _]
          rw [if_pos o]
          rfl
        · refine ite_f (decide_eq_false (fun z => o (Int.ofNat.inj (V.int.inj z)))) ?_
          refine ⟨_, rfl, _, rfl, rfl, rfl, some (.int (0 + (j : Int))), ?_⟩
          rw [crcBits_succ]
          show _ = [some (V.ref l), some (V.int ((if _ then _ else _ : Nat) : Int)), some (V.int (b : Int)), _]
          rw [if_neg o]
          rfl
      · rintro σ H' ⟨rfl, y, rfl⟩
        refine ⟨rfl, some (.int (b : Int)), y, ?_⟩
        rw [crcTo_more hb']
    · rintro σ H' ⟨rfl, x, y, rfl⟩
      refine ⟨_, rfl, _, _, rfl, rfl, ?_⟩
      have e : (4294967295 : Int) - (crcTo bs (nV bs).length : Int) = (Km353.crc bs : Int) := by
        rw [crc_eq hb, nV_len]
        have lt := crcFold_lt (c := 4294967295) (by decide) hb
        unfold crcTo
        rw [List.take_length]
        omega
      show Q (V.int ((4294967295 : Int) - (crcTo bs (nV bs).length : Int))) H'
      rw [e]
      exact k

/-! ### low_first -/
abbrev sLf : Stmt := top 23
def spLf : Sp := fun vs H Q _ => ∃ (v n : Nat), vs = [.int (v : Int), .int (n : Int)] ∧ n ≤ 1000 ∧ ∀ (H' : Hp) (p : Addr), Same H H' → H p = none → H' p = some (.lst (nV (Km353.le n v))) → Q (.ref p) H'
theorem scLf : FnScope ["number", "many", "found", "turn"] ["number", "many"] (defScope sLf) := ⟨rfl, rfl, rfl, by decide +kernel, rfl, by decide +kernel, by decide +kernel⟩
theorem ok_lf (F : Here K mg "low_first" sLf ["number", "many"]) (c : Cst mg) : Df P w K mg base 1 "low_first" ["number", "many"] spLf := by
  refine F.df scLf (fun vs H Q E h => ?_) (fun cdv A outer s H vs Q E f hr h => ?_)
  · obtain ⟨v, n, rfl, _⟩ := h
    rfl
  · obtain ⟨v, n, rfl, hn, k⟩ := h
    refine ⟨_, pss_cons (ps_set (i := 2) scLf.nd rfl (Or.inl rfl) (pe_lst pa_nil))
      (pss_cons (ps_for PassesOwn.never rfl (pi_range1 rfl c.range (pa_cons (pv 1) pa_nil)) (pg_name (i := 3) scLf.nd rfl (Or.inl rfl))
        (pss_cons (ps_expr (pe_bm PySem.F.plainAttrs_list PySem.F.slot_list_append PySem.F.type_list_append mt_append (pv 2) (pa_cons (pe_op op_mod (pv 0) pe_int) pa_nil)))
        (pss_one (ps_set (i := 0) scLf.nd rfl (Or.inl rfl) (pe_op op_fdivNN (pv 0) pe_int)))))
      (pss_one (ps_ret (pv 2)))), ?_⟩
    refine ⟨Nat.zero_le _, fun p hp => ?_⟩
    refine ⟨_, rfl, (n : Int), rfl, by omega, by omega, for_range (n := (n : Int).toNat) (fun i σ H' => Same H H' ∧ H' p = some (.lst (nV (Km353.le i v))) ∧ ∃ x, σ = [some (.int ((v / 256 ^ i : Nat) : Int)), some (.int (n : Int)), some (.ref p), x]) ?_ ?_ ?_⟩
    · refine ⟨same_upd hp, upd_same, none, ?_⟩
      rw [Nat.pow_zero, Nat.div_one]
      rfl
    · rintro i σ H' hi ⟨s1, hp', x, rfl⟩
      have hi' : i < n := by simpa using hi
      refine ⟨_, rfl, .inl ⟨rfl, _, SqL.of hp'⟩, _, rfl, _, _, rfl, rfl, (by show (0 : Int) < 256; decide), p, _, _, rfl, rfl, hp', ?_, ?_⟩
      · rw [nV_len, le_len]
        exact sz (by omega)
      · refine ⟨_, rfl, v / 256 ^ i, 256, rfl, rfl, ⟨by decide, by decide⟩, fun b o e => ?_, ?_, some (.int (0 + (i : Int))), ?_⟩
        · rw [upd_ne (ne_of_none e hp)]
          exact s1 _ _ e
        · rw [upd_same, le_succ, nV_app]
          have e : ((v / 256 ^ i : Nat) : Int) % 256 = ((v / 256 ^ i % 256 : Nat) : Int) := by omega
          show some (HO.lst (nV (Km353.le i v) ++ [V.int (((v / 256 ^ i : Nat) : Int) % 256)])) = _
          rw [e]
          rfl
        · rw [Nat.pow_succ, ← Nat.div_div_eq_div_mul]
          rfl
    · rintro σ H' ⟨s1, hp', x, rfl⟩
      refine ⟨_, rfl, k H' p s1 hp ?_⟩
      rw [hp']
      simp

/-! ### number_in -/
abbrev sNi : Stmt := top 24
def spNi : Sp := fun vs H Q _ => ∃ (l : Addr) (bs : List Nat), vs = [.ref l] ∧ H l = some (.lst (nV bs)) ∧ ∀ H', Same H H' → Q (.int (numL bs : Int)) H'
theorem scNi : FnScope ["some", "found", "byte"] ["some"] (defScope sNi) := ⟨rfl, rfl, rfl, by decide +kernel, rfl, by decide +kernel, by decide +kernel⟩
theorem ok_ni (F : Here K mg "number_in" sNi ["some"]) : Df P w K mg base 1 "number_in" ["some"] spNi := by
  refine F.df scNi (fun vs H Q E h => ?_) (fun cdv A outer s H vs Q E f hr h => ?_)
  · obtain ⟨l, bs, rfl, _⟩ := h
    rfl
  · obtain ⟨l, bs, rfl, hl, k⟩ := h
    refine ⟨_, pss_cons (ps_set (i := 1) scNi.nd rfl (Or.inl rfl) pe_int)
      (pss_cons (ps_for PassesOwn.never rfl (pi_list (pe_revL (pv 0))) (pg_name (i := 2) scNi.nd rfl (Or.inl rfl))
        (pss_one (ps_set (i := 1) scNi.nd rfl (Or.inl rfl) (pe_op op_add (pe_op op_mul (pv 1) pe_int) (pv 2)))))
      (pss_one (ps_ret (pv 1)))), ?_⟩
    refine ⟨_, rfl, l, _, rfl, SqL.of hl, fun p hp => ?_⟩
    have e : (nV bs).reverse = nV bs.reverse := by
      unfold nV
      rw [List.map_reverse]
    rw [e]
    refine ⟨p, rfl, ⟨_, SqL.of upd_same⟩, for_list (K := K) (a := p) (xs := nV bs.reverse) (fun i σ H' => H' = upd H p (.lst (nV bs.reverse)) ∧ ∃ x, σ = [some (.ref l), some (.int (((bs.reverse.take i).foldl (fun f b => f * 256 + b) 0 : Nat) : Int)), x]) ⟨rfl, _, rfl⟩ (fun i σ H' _ z => by rw [z.1]; exact SqL.of upd_same) ?_ ?_⟩
    · rintro i x σ H' hx ⟨rfl, x2, rfl⟩
      obtain ⟨b, hb, rfl⟩ := nV_get hx
      refine ⟨_, rfl, _, _, rfl, rfl, .inr (by constructor <;> decide), _, rfl, _, _, rfl, rfl, rfl, some (.int (b : Int)), ?_⟩
      rw [take_more hb, List.foldl_append]
      show _ = [some (V.ref l), some (V.int (((bs.reverse.take i).foldl (fun f b => f * 256 + b) 0 * 256 + b : Nat) : Int)), _]
      rw [Int.natCast_add, Int.natCast_mul]
      rfl
    · rintro σ H' ⟨rfl, x2, rfl⟩
      refine ⟨_, rfl, ?_⟩
      rw [nV_len, List.take_length, numL_rev]
      exact k _ (same_upd hp)

/-! ### version_bytes -/
abbrev sVb : Stmt := top 25
def spVb (C : Addr) : Sp := fun vs H Q _ => ∃ (a : Addr) (v : Km353.Version), vs = [.ref a] ∧ VerAt C H a v ∧ ∀ (H' : Hp) (p : Addr), Same H H' → H p = none → H' p = some (.lst (nV v.bytes)) → Q (.ref p) H'
theorem scVb : FnScope ["version", "found", "count"] ["version"] (defScope sVb) := ⟨rfl, rfl, rfl, by decide +kernel, rfl, by decide +kernel, by decide +kernel⟩
theorem flat_len : ∀ cs : List Nat, (cs.flatMap (Km353.le 4)).length = 4 * cs.length
  | [] => rfl
  | c :: cs => by
    rw [List.flatMap_cons, List.length_append, flat_len cs, le_len, List.length_cons]
    omega
theorem ok_vb {C : Addr} (F : Here K mg "version_bytes" sVb ["version"]) (T : Cl K C fV) (Lf : Df P w K mg base 1 "low_first" ["number", "many"] spLf) : Df P w K mg base 2 "version_bytes" ["version"] (spVb C) := by
  refine F.df scVb (fun vs H Q E h => ?_) (fun cdv A outer s H vs Q E f hr h => ?_)
  · obtain ⟨a, v, rfl, _⟩ := h
    rfl
  · obtain ⟨a, v, rfl, ⟨⟨da, ca, ha, hca⟩, la⟩, k⟩ := h
    refine ⟨_, pss_cons (ps_set (i := 1) scVb.nd rfl (Or.inl rfl) (pe_lst (pa_cons (pe_fld (pv 0) rfl) (pa_cons pe_int (pa_cons pe_int (pa_cons pe_int pa_nil))))))
      (pss_cons (ps_for PassesOwn.never rfl (pi_list (pe_fld (pv 0) rfl)) (pg_name (i := 2) scVb.nd rfl (Or.inl rfl))
        (pss_one (ps_expr (pe_bm PySem.F.plainAttrs_list PySem.F.slot_list_extend PySem.F.type_list_extend mt_extend (pv 1) (pa_cons (pe_df Lf hr (by decide) rfl (pa_cons (pv 2) (pa_cons pe_int pa_nil))) pa_nil)))))
      (pss_one (ps_ret (pe_op op_cat (pv 1) (pe_df Lf hr (by decide) rfl (pa_cons (pe_fld (pv 0) rfl) (pa_cons pe_int pa_nil))))))), ?_⟩
    refine ⟨_, rfl, a, C, da, _, _, rfl, ha, T.cl, T.na _ (by decide +kernel), vF_w _ _, (by show 4 ≤ sizeLine; decide), fun p hp => ?_⟩
    have s0 : Same H (upd H p (.lst [.int (v.writer : Int), .int 0, .int 0, .int 0])) := same_upd hp
    refine ⟨_, rfl, a, C, da, _, _, rfl, s0 _ _ ha, T.cl, T.na _ (by decide +kernel), vF_c _ _, ca, rfl, ⟨_, SqL.of (s0 _ _ hca)⟩, for_list (K := K) (a := ca) (xs := nV v.counts) (fun i σ H' => Same H H' ∧ H' p = some (.lst (nV ([v.writer, 0, 0, 0] ++ (v.counts.take i).flatMap (Km353.le 4)))) ∧ ∃ x, σ = [some (.ref a), some (.ref p), x])
      ⟨s0, upd_same, _, rfl⟩ (fun i σ H' _ z => SqL.of (z.1 _ _ hca)) ?_ ?_⟩
    · rintro i x σ H' hx ⟨s1, hp', x2, rfl⟩
      obtain ⟨n, hn, rfl⟩ := nV_get hx
      refine ⟨_, rfl, .inl ⟨rfl, _, SqL.of hp'⟩, _, rfl, n, 4, rfl, by decide, fun H2 q s2 hq hq' => ?_⟩
      refine ⟨p, q, _, _, rfl, rfl, s2 _ _ hp', hq', ?_, fun b o e => ?_, ?_, _, rfl⟩
      · rw [nV_len, nV_len, List.length_append, flat_len, le_len, List.length_take]
        exact sz' (by simp; omega)
      · rw [upd_ne (ne_of_none e hp)]
        exact s2 _ _ (s1 _ _ e)
      · rw [upd_same, take_more hn, List.flatMap_append, ← List.append_assoc, nV_app _ (List.flatMap _ [n])]
        simp
    · rintro σ H1 ⟨s1, hp', x2, rfl⟩
      rw [nV_len, List.take_length] at hp'
      refine ⟨_, rfl, _, rfl, a, C, da, _, _, rfl, s1 _ _ ha, T.cl, T.na _ (by decide +kernel), vF_n _ _, v.value, 8, rfl, by decide, fun H2 q s2 hq hq' => ?_⟩
      refine ⟨p, q, _, _, rfl, rfl, s2 _ _ hp', hq', ?_, fun r hr' => ?_⟩
      · rw [nV_len, nV_len, List.length_append, flat_len, le_len]
        exact sz' (by simp; omega)
      · refine k _ r ((s1.trans s2).trans (same_upd hr')) ((s1.trans s2).free hr') ?_
        rw [upd_same, ← nV_app, List.append_assoc]
        rfl

/-! ### message_of -/
abbrev sMo : Stmt := top 26
def spMo (C : Addr) : Sp := fun vs H Q _ => ∃ (who paper : Nat) (l : Addr) (ps : Vs), vs = [.int (who : Int), .int (paper : Int), .ref l] ∧ H l = some (.lst (rf ps)) ∧ VsAt C H ps ∧ ps.length ≤ 4 ∧ who < 256 ∧ paper < 256 ∧ (∀ p ∈ ps, p.2.writer < 256) ∧
  ∀ (H' : Hp) (p : Addr), Same H H' → H p = none → H' p = some (.lst (nV (⟨who, paper, ver ps⟩ : Km353.Message).bytes)) → Q (.ref p) H'
theorem scMo : FnScope ["who", "paper", "versions", "found", "version"] ["who", "paper", "versions"] (defScope sMo) := ⟨rfl, rfl, rfl, by decide +kernel, rfl, by decide +kernel, by decide +kernel⟩
theorem le_lt {n v b : Nat} (h : b ∈ Km353.le n v) : b < 256 := by
  unfold Km353.le at h
  obtain ⟨i, _, rfl⟩ := List.mem_map.mp h
  exact Nat.mod_lt _ (by decide)
theorem bytes_lt {v : Km353.Version} (h : v.writer < 256) : ∀ b ∈ v.bytes, b < 256 := by
  intro b hb
  rcases List.mem_append.mp (show b ∈ [v.writer, 0, 0, 0] ++ (v.counts.flatMap (Km353.le 4) ++ Km353.le 8 v.value) from hb) with z | z
  · simp at z
    omega
  · rcases List.mem_append.mp z with z | z
    · obtain ⟨c, _, hc⟩ := List.mem_flatMap.mp z
      exact le_lt hc
    · exact le_lt z
theorem vers_len {C : Addr} {H : Hp} : ∀ {ps : Vs}, VsAt C H ps → ((ver ps).flatMap Km353.Version.bytes).length = 76 * ps.length
  | [], _ => rfl
  | p :: ps, h => by
    show (p.2.bytes ++ (ver ps).flatMap Km353.Version.bytes).length = 76 * (ps.length + 1)
    rw [List.length_append, version_len (h p (List.mem_cons_self ..)).len, vers_len fun q hq => h q (List.mem_cons_of_mem _ hq)]
    omega
theorem rep_nV (n : Nat) : (List.replicate n [V.int 0]).flatten = nV (List.replicate n 0) := by
  unfold nV
  rw [List.map_replicate]
  induction n with
  | zero => rfl
  | succ n ih =>
    rw [List.replicate_succ, List.flatten_cons, ih, List.replicate_succ]
    rfl
theorem ok_mo {C : Addr} (F : Here K mg "message_of" sMo ["who", "paper", "versions"]) (c : Cst mg) (Vb : Df P w K mg base 2 "version_bytes" ["version"] (spVb C)) (Lf : Df P w K mg base 1 "low_first" ["number", "many"] spLf) (Ck : Df P w K mg base 1 "check_of" ["some"] spCk) :
    Df P w K mg base 3 "message_of" ["who", "paper", "versions"] (spMo C) := by
  refine F.df scMo (fun vs H Q E h => ?_) (fun cdv A outer s H vs Q E f hr h => ?_)
  · obtain ⟨who, paper, l, ps, rfl, _⟩ := h
    rfl
  · obtain ⟨who, paper, l, ps, rfl, hl, hps, hn, hw, hp, hv, k⟩ := h
    refine ⟨_, pss_cons (ps_set (i := 3) scMo.nd rfl (Or.inl rfl) (pe_lst (pa_cons (pe_gc c.FIRST) (pa_cons (pv 0) (pa_cons (pv 1) (pa_cons (pe_callB call_len_seq (by rfl) c.len PySem.boot_len (pa_cons (pv 2) pa_nil)) pa_nil))))))
      (pss_cons (ps_for PassesOwn.never rfl (pi_list (pv 2)) (pg_name (i := 4) scMo.nd rfl (Or.inl rfl))
        (pss_one (ps_expr (pe_bm PySem.F.plainAttrs_list PySem.F.slot_list_extend PySem.F.type_list_extend mt_extend (pv 3) (pa_cons (pe_df Vb hr (by decide) rfl (pa_cons (pv 4) pa_nil)) pa_nil)))))
      (pss_cons (ps_expr (pe_bm PySem.F.plainAttrs_list PySem.F.slot_list_extend PySem.F.type_list_extend mt_extend (pv 3) (pa_cons (pe_op op_rep (pe_lst (pa_cons pe_int pa_nil)) (pe_op op_sub (pe_gc c.CHECK) (pe_callB call_len_seq (by rfl) c.len PySem.boot_len (pa_cons (pv 3) pa_nil)))) pa_nil)))
      (pss_one (ps_ret (pe_op op_cat (pv 3) (pe_df Lf hr (by decide) rfl (pa_cons (pe_df Ck hr (by decide) rfl (pa_cons (pv 3) pa_nil)) (pa_cons pe_int pa_nil)))))))), ?_⟩
    refine ⟨_, rfl, _, rfl, _, rfl, l, _, rfl, .inl (SqL.of hl), (by show 4 ≤ sizeLine; decide), fun p hp0 => ?_⟩
    have s0 : Same H (upd H p (.lst [.int 1, .int (who : Int), .int (paper : Int), .int ((rf ps).length : Int)])) := same_upd hp0
    have e0 : [V.int 1, V.int (who : Int), V.int (paper : Int), V.int ((rf ps).length : Int)] = nV [1, who, paper, ps.length] := by
      rw [rf_len]
      rfl
    refine ⟨_, rfl, l, rfl, ⟨_, SqL.of (s0 _ _ hl)⟩, for_list (K := K) (a := l) (xs := rf ps) (fun i σ H' => Same H H' ∧ H' p = some (.lst (nV ([1, who, paper, ps.length] ++ (ver (ps.take i)).flatMap Km353.Version.bytes))) ∧ ∃ x, σ = [some (.int (who : Int)), some (.int (paper : Int)), some (.ref l), some (.ref p), x])
      ⟨s0, by rw [upd_same, e0]; rfl, _, rfl⟩ (fun i σ H' _ z => SqL.of (z.1 _ _ hl)) ?_ ?_⟩
    · rintro i x σ H' hx ⟨s1, hp', x2, rfl⟩
      obtain ⟨q, hq, rfl⟩ := rf_get hx
      have hi := (List.getElem?_eq_some_iff.mp hq).1
      refine ⟨_, rfl, .inl ⟨rfl, _, SqL.of hp'⟩, _, rfl, q.1, q.2, rfl, (hps.get hq).mono s1, fun H2 r s2 hr' er => ?_⟩
      refine ⟨p, r, _, _, rfl, rfl, s2 _ _ hp', er, ?_, fun b o e => ?_, ?_, _, rfl⟩
      · rw [nV_len, nV_len, List.length_append, vers_len (H := H) (C := C) fun q hq => hps q (List.mem_of_mem_take hq), version_len (hps.get hq).len, List.length_take]
        exact sz' (by simp; omega)
      · rw [upd_ne (ne_of_none e hp0)]
        exact s2 _ _ (s1 _ _ e)
      · rw [upd_same, take_more hq, ver_app, List.flatMap_append, ← List.append_assoc, nV_app _ (List.flatMap _ (ver [q]))]
        simp [ver]
    · rintro σ H1 ⟨s1, hp', x2, rfl⟩
      rw [rf_len, List.take_length] at hp'
      have hlen : ([1, who, paper, ps.length] ++ (ver ps).flatMap Km353.Version.bytes).length = 4 + 76 * ps.length := by
        rw [List.length_append, vers_len hps]
        rfl
      refine ⟨_, rfl, .inl ⟨rfl, _, SqL.of hp'⟩, (by show 1 ≤ sizeLine; decide), fun z hz => ?_⟩
      have s2 : Same H1 (upd H1 z (.lst [.int 0])) := same_upd hz
      refine ⟨_, rfl, p, _, rfl, .inl (SqL.of (s2 _ _ hp')), _, _, rfl, rfl, z, _, _, rfl, rfl, upd_same, ?_, ?_, ?_, fun y hy => ?_⟩
      · rw [nV_len, hlen]
        omega
      · rw [nV_len, hlen]
        omega
      · rw [nV_len, hlen]
        exact sz' (by simp; omega)
      · have ey : (308 - ((nV ([1, who, paper, ps.length] ++ (ver ps).flatMap Km353.Version.bytes)).length : Int)).toNat = 76 * (4 - (ver ps).length) := by
          rw [nV_len, hlen, ver_len]
          omega
        rw [ey, rep_nV]
        have s3 := s2.trans (same_upd (o := .lst (nV (List.replicate (76 * (4 - (ver ps).length)) 0))) hy)
        refine ⟨p, y, _, _, rfl, rfl, s3 _ _ hp', upd_same, ?_, ?_⟩
        · rw [nV_len, nV_len, hlen, List.length_replicate]
          exact sz' (by omega)
        · rw [← nV_app]
          have ein : [1, who, paper, ps.length] ++ (ver ps).flatMap Km353.Version.bytes ++ List.replicate (76 * (4 - (ver ps).length)) 0 = [1, who, paper, (ver ps).length] ++ ((ver ps).flatMap Km353.Version.bytes ++ List.replicate (76 * (Km353.APART - (ver ps).length)) 0) := by
            rw [List.append_assoc, ver_len]
            rfl
          rw [ein]
          generalize hin : [1, who, paper, (ver ps).length] ++ ((ver ps).flatMap Km353.Version.bytes ++ List.replicate (76 * (Km353.APART - (ver ps).length)) 0) = inner
          have hil : inner.length = 308 := by
            rw [← hin, ← ein, List.length_append, hlen, List.length_replicate, ver_len]
            omega
          have hib : ∀ b ∈ inner, b < 256 := by
            intro b hb
            rw [← hin] at hb
            rcases List.mem_append.mp hb with q | q
            · have : (ver ps).length < 256 := by rw [ver_len]; omega
              simp at q
              omega
            · rcases List.mem_append.mp q with q | q
              · obtain ⟨u, hu, hbu⟩ := List.mem_flatMap.mp q
                obtain ⟨r, hr', rfl⟩ := List.mem_map.mp hu
                exact bytes_lt (hv r hr') b hbu
              · rw [(List.mem_replicate.mp q).2]
                decide
          have s4 : ∀ b o, H b = some o → upd (upd (upd H1 z (.lst [.int 0])) y (.lst (nV (List.replicate (76 * (4 - (ver ps).length)) 0)))) p (.lst (nV inner)) b = some o := fun b o e => by
            rw [upd_ne (ne_of_none e hp0)]
            exact s3 _ _ (s1 _ _ e)
          generalize hH4 : upd (upd (upd H1 z (.lst [.int 0])) y (.lst (nV (List.replicate (76 * (4 - (ver ps).length)) 0)))) p (.lst (nV inner)) = H4 at s4
          have h4 : H4 p = some (.lst (nV inner)) := by
            rw [← hH4]
            exact upd_same
          refine ⟨_, rfl, _, rfl, p, inner, rfl, h4, hib, Km353.crc inner, 4, rfl, by decide, fun H5 q s5 hq hq' => ?_⟩
          refine ⟨p, q, _, _, rfl, rfl, s5 _ _ h4, hq', ?_, fun r hr' => ?_⟩
          · rw [nV_len, nV_len, hil, le_len]
            exact sz' (by decide)
          · have s45 : Same H H5 := Same.trans s4 s5
            refine k _ r (s45.trans (same_upd hr')) (s45.free hr') ?_
            rw [upd_same, ← nV_app]
            show some (HO.lst (nV (inner ++ Km353.le 4 (Km353.crc inner)))) = some (HO.lst (nV (Km353.checked ([1, who, paper, (ver ps).length] ++ ((ver ps).flatMap Km353.Version.bytes ++ List.replicate (76 * (Km353.APART - (ver ps).length)) 0)))))
            rw [hin]
            rfl
end
end PR
namespace PR
open PySem PySem.Spec PyProof.Rows L2
section
variable {P : Program} {w : World} {K : PySem.W.Frag} {mg : Str → Option Value} {base : Heap}
def rAddN : R2 := fun x y H Q => ∃ n m : Nat, x = .int (n : Int) ∧ y = .int (m : Int) ∧ Q (.int ((n + m : Nat) : Int)) H
def rMulN : R2 := fun x y H Q => ∃ n m : Nat, x = .int (n : Int) ∧ y = .int (m : Int) ∧ n ≤ 4294967296 ∧ Q (.int ((n * m : Nat) : Int)) H
theorem op_add_n {X : Cx} : OpR X (binaryOp .Add) rAddN := op_addN
theorem op_mul_n {X : Cx} : OpR X (binaryOp .Mult) rMulN := op_mulN
/-! ### Told(who, paper, versions) -/
abbrev sIT : Stmt := inClass (top 21) 0
def fT : List Str := ["who", "paper", "versions"]
def spIT (C : Addr) : Sp := fun vs H Q _ => ∃ (p dx : Addr) (a b c : V), vs = [.ref p, a, b, c] ∧ H p = some (.ins C dx []) ∧ Q .non (upd H p (.ins C dx [("who", a), ("paper", b), ("versions", c)]))
theorem scIT : FnScope ["self", "who", "paper", "versions"] ["self", "who", "paper", "versions"] (defScope sIT) := ⟨rfl, rfl, rfl, by decide +kernel, rfl, by decide +kernel, by decide +kernel⟩
theorem ok_it {C : Addr} (F : HereI K mg "Told" "Told.__init__" C sIT ["self", "who", "paper", "versions"]) (T : Cl K C fT) : Mkr P w K mg base 1 "Told" C ["self", "who", "paper", "versions"] (spIT C) := by
  refine F.mkr scIT (fun vs H Q E h => ?_) (fun cdv A outer s H vs Q E f hr h => ?_)
  · obtain ⟨p, dx, a, b, c, rfl, _⟩ := h
    rfl
  · obtain ⟨p, dx, a, b, c, rfl, hp, k⟩ := h
    refine ⟨_, pss_cons (ps_fld (pv 0) (pv 1) rfl) (pss_cons (ps_fld (pv 0) (pv 2) rfl) (pss_one (ps_fld (pv 0) (pv 3) rfl))), ?_⟩
    refine ⟨_, rfl, _, rfl, p, C, dx, [], rfl, hp, T.cl, T.na _ (by decide +kernel), (by decide), ?_⟩
    refine ⟨_, rfl, _, rfl, p, C, dx, _, rfl, upd_same, T.cl, T.na _ (by decide +kernel), (by show 1 < 1000; decide), ?_⟩
    refine ⟨_, rfl, _, rfl, p, C, dx, _, rfl, upd_same, T.cl, T.na _ (by decide +kernel), (by show 2 < 1000; decide), ?_⟩
    have e : putF ("versions" : Str) c (putF ("paper" : Str) b (putF ("who" : Str) a [])) = [(("who" : Str), a), (("paper" : Str), b), (("versions" : Str), c)] := put3 (by decide +kernel) (by decide +kernel) (by decide +kernel)
    rw [e, upd_upd, upd_upd]
    exact k

/-! ### version_at -/
abbrev sVt : Stmt := top 27
def spVt (C : Addr) : Sp := fun vs H Q _ => ∃ (l : Addr) (b : Nat) (bs : List Nat), vs = [.ref l, .int (b : Int)] ∧ H l = some (.lst (nV bs)) ∧ b + 76 ≤ bs.length ∧
  (¬ padOk bs b → ∀ H', Same H H' → Q .non H') ∧ (padOk bs b → ∀ (H' : Hp) (x : Addr), Same H H' → VerAt C (nw H H') x (Km353.versionAt bs b) → Q (.ref x) H')
theorem scVt : FnScope ["message", "begin", "counts", "at", "place"] ["message", "begin"] (defScope sVt) := ⟨rfl, rfl, rfl, by decide +kernel, rfl, by decide +kernel, by decide +kernel⟩
theorem pad_iff (bs : List Nat) (b : Nat) : ((bs.drop (b + 1)).take 3).map Int.ofNat = [0, 0, 0] ↔ padOk bs b := intNat_inj (b := [0, 0, 0])
theorem countsAt_more (bs : List Nat) (b i : Nat) (h : i < 16) : (Km353.versionAt bs b).counts.take (i + 1) = (Km353.versionAt bs b).counts.take i ++ [Km353.num bs (b + 4 + 4 * i) 4] := by
  refine take_more ?_
  show ((List.range 16).map fun i => Km353.num bs (b + 4 + 4 * i) 4)[i]? = _
  rw [List.getElem?_map, List.getElem?_range h]
  rfl
theorem ok_vt {C : Addr} (F : Here K mg "version_at" sVt ["message", "begin"]) (c : Cst mg) (Ni : Df P w K mg base 1 "number_in" ["some"] spNi) (Ve : Mkr P w K mg base 1 "Version" C ["self", "writer", "counts", "number"] (spIV C)) :
    Df P w K mg base 3 "version_at" ["message", "begin"] (spVt C) := by
  refine F.df scVt (fun vs H Q E h => ?_) (fun cdv A outer s H vs Q E f hr h => ?_)
  · obtain ⟨l, b, bs, rfl, _⟩ := h
    rfl
  · obtain ⟨l, b, bs, rfl, hl, hn, kN, kS⟩ := h
    refine ⟨_, pss_cons (ps_if (pt_cmpR (op_neI hr.units) (pe_slice sl_list (pv 0) (po_some (pe_op op_add_n (pv 1) pe_int)) (po_some (pe_op op_add_n (pv 1) pe_int))) (pe_lst (pa_cons pe_int (pa_cons pe_int (pa_cons pe_int pa_nil)))) (nomark _)) (pss_one (ps_ret pe_non)) pss_nil)
      (pss_cons (ps_set (i := 2) scVt.nd rfl (Or.inl rfl) (pe_lst pa_nil))
      (pss_cons (ps_for PassesOwn.never rfl (pi_range1 rfl c.range (pa_cons (pe_gc c.MACHINES) pa_nil)) (pg_name (i := 3) scVt.nd rfl (Or.inl rfl))
        (pss_cons (ps_set (i := 4) scVt.nd rfl (Or.inl rfl) (pe_op op_add_n (pe_op op_add_n (pv 1) (pe_gc c.HEAD)) (pe_op op_mul_n pe_int (pv 3))))
        (pss_one (ps_expr (pe_bm PySem.F.plainAttrs_list PySem.F.slot_list_append PySem.F.type_list_append mt_append (pv 2) (pa_cons (pe_df Ni hr (by decide) rfl (pa_cons (pe_slice sl_list (pv 0) (po_some (pv 4)) (po_some (pe_op op_add_n (pv 4) pe_int))) pa_nil)) pa_nil))))))
      (pss_one (ps_ret (pe_mkr Ve hr (by decide) rfl (pa_cons (pe_ix ix_list (pv 0) (pv 1) (fun _ _ => rfl)) (pa_cons (pv 2) (pa_cons (pe_df Ni hr (by decide) rfl (pa_cons (pe_slice sl_list (pv 0) (po_some (pe_op op_add_n (pv 1) pe_int)) (po_some (pe_op op_add_n (pv 1) (pe_gc c.PLACE)))) pa_nil)) pa_nil)))))))), ?_⟩
    refine ⟨_, rfl, _, rfl, b, 1, rfl, rfl, _, rfl, _, rfl, b, 4, rfl, rfl, _, rfl, l, _, rfl, SqL.of hl, fun p1 hp1 => ?_⟩
    rw [cut_nV (by omega) (by omega)]
    have e3 : b + 4 - (b + 1) = 3 := by omega
    rw [e3]
    have s1 : Same H (upd H p1 (.lst (nV ((bs.drop (b + 1)).take 3)))) := same_upd hp1
    refine ⟨(by show 3 ≤ sizeLine; decide), fun p2 hp2 => ?_⟩
    have s2 := s1.trans (same_upd (o := .lst [.int 0, .int 0, .int 0]) hp2)
    refine ⟨p1, p2, ((bs.drop (b + 1)).take 3).map Int.ofNat, [0, 0, 0], rfl, rfl, by rw [← nV_eq]; exact SqL.of ((same_upd hp2) _ _ upd_same), SqL.of upd_same, _, rfl, ?_⟩
    by_cases hp : padOk bs b
    · refine ite_f (by rw [decide_eq_true ((pad_iff bs b).mpr hp)]; rfl) ?_
      refine ⟨Nat.zero_le _, fun cl hcl => ?_⟩
      have s3 := s2.trans (same_upd (o := .lst []) hcl)
      have ncl : H cl = none := s2.free hcl
      refine ⟨16, rfl, by decide, by decide, for_range (n := 16) (fun i σ H' => Same H H' ∧ H' cl = some (.lst (nV ((Km353.versionAt bs b).counts.take i))) ∧ ∃ x y, σ = [some (.ref l), some (.int (b : Int)), some (.ref cl), x, y]) ⟨s3, upd_same, _, _, rfl⟩ ?_ ?_⟩
      · rintro i σ H' hi ⟨s4, hc, x, y, rfl⟩
        rw [show (0 : Int) + (i : Int) = (i : Int) from Int.zero_add _]
        refine ⟨_, rfl, b, 4, rfl, rfl, _, rfl, 4, i, rfl, rfl, by decide, b + 4, 4 * i, rfl, rfl, ?_⟩
        refine ⟨_, rfl, .inl ⟨rfl, _, SqL.of hc⟩, _, rfl, _, rfl, _, rfl, _, rfl, b + 4 + 4 * i, 4, rfl, rfl, _, rfl, l, _, rfl, SqL.of (s4 _ _ hl), fun p3 hp3 => ?_⟩
        rw [cut_nV (by omega) (by omega), show b + 4 + 4 * i + 4 - (b + 4 + 4 * i) = 4 by omega]
        refine ⟨p3, _, rfl, upd_same, fun H5 s5 => ?_⟩
        have s45 : Same H' H5 := (same_upd hp3).trans s5
        refine ⟨cl, _, _, rfl, rfl, s45 _ _ hc, ?_, fun b' o e => ?_, ?_, _, _, rfl⟩
        · rw [nV_len, List.length_take]
          exact sz (by omega)
        · rw [upd_ne (ne_of_none e ncl)]
          exact s45 _ _ (s4 _ _ e)
        · rw [upd_same, countsAt_more bs b i hi, nV_app]
          rfl
      · rintro σ H4 ⟨s4, hc, x, y, rfl⟩
        rw [List.take_of_length_le (by rw [versionAt_len]; exact Nat.le_refl _)] at hc
        have hb : bs[b]? = some (Km353.num bs b 1) := by
          rw [num_one bs b (by omega)]
          exact List.getElem?_eq_getElem (by omega)
        refine ⟨_, rfl, _, rfl, l, _, _, _, rfl, rfl, SqL.of (s4 _ _ hl), atI_nat (nV_at hb), _, rfl, _, rfl, _, rfl, b, 68, rfl, rfl, _, rfl, _, rfl, b, 76, rfl, rfl, _, rfl, l, _, rfl, SqL.of (s4 _ _ hl), fun p3 hp3 => ?_⟩
        rw [cut_nV (by omega) (by omega), show b + 76 - (b + 68) = 8 by omega]
        refine ⟨p3, _, rfl, upd_same, fun H5 s5 => fun x dx hx hdx hne => ⟨x, dx, _, _, _, rfl, upd_same, rfl, ?_⟩⟩
        have s45 : Same H4 H5 := (same_upd hp3).trans s5
        rw [upd_upd]
        have s6 := same_made (o := .ins C dx [("writer", V.int (Km353.num bs b 1 : Int)), ("counts", V.ref cl), ("number", V.int (numL ((bs.drop (b + 68)).take 8) : Int))]) hx hdx
        have s05 := s4.trans s45
        exact kS hp _ x (s05.trans s6) ⟨⟨dx, cl, nw_of (s05.free hx) upd_same, nw_of ncl (s6 _ _ (s45 _ _ hc))⟩, versionAt_len bs b⟩
    · refine ite_t (by rw [decide_eq_false (fun z => hp ((pad_iff bs b).mp z))]; rfl) ?_
      exact kN hp _ s2

/-! ### is_right_row -/
abbrev sRr : Stmt := top 28
def Bnd (v : Km353.Version) : Prop := v.counts.length = 16 ∧ (∀ c ∈ v.counts, c < 2 ^ 32) ∧ v.value < 2 ^ 64
def spRr (C : Addr) : Sp := fun vs H Q _ => ∃ (l : Addr) (ps : Vs), vs = [.ref l] ∧ H l = some (.lst (rf ps)) ∧ VsAt C H ps ∧ (∀ p ∈ ps, Bnd p.2) ∧ ∀ H', Same H H' → Q (.bl (Km353.okPaper (ver ps))) H'
theorem scRr : FnScope ["versions", "at", "version", "other"] ["versions"] (defScope sRr) := ⟨rfl, rfl, rfl, by decide +kernel, rfl, by decide +kernel, by decide +kernel⟩
theorem cut_rf {ps : Vs} {i : Nat} (hi : i ≤ ps.length) : cutV (rf ps) none (some (i : Int)) = rf (ps.take i) := by
  unfold cutV
  rw [HT.sIx_nat, HT.sIx_none, rf_len, Nat.min_eq_left hi, List.drop_zero, Nat.sub_zero]
  unfold rf
  rw [← List.map_take]
theorem ver_get {ps : Vs} {i : Nat} {p : Addr × Km353.Version} (h : ps[i]? = some p) : (ver ps)[i]? = some p.2 := by
  unfold ver
  rw [List.getElem?_map, h]
  rfl
theorem bnd_ver {ps : Vs} (h : ∀ p ∈ ps, Bnd p.2) : ∀ v ∈ ver ps, v.counts.length = 16 ∧ (∀ c ∈ v.counts, c < 2 ^ 32) ∧ v.value < 2 ^ 64 := fun v hv => by
  obtain ⟨p, hp, rfl⟩ := List.mem_map.mp hv
  exact h p hp
theorem not_right {ps : Vs} (h : ∀ p ∈ ps, Bnd p.2) {i : Nat} {p : Addr × Km353.Version} (hp : ps[i]? = some p) (q : ¬ rowAt (ver ps) i p.2) : Km353.okPaper (ver ps) = false := by
  cases e : Km353.okPaper (ver ps) with
  | false => rfl
  | true => exact absurd ((right_iff (bnd_ver h)).mpr e i p.2 (ver_get hp)) q
theorem ok_rr {C : Addr} (F : Here K mg "is_right_row" sRr ["versions"]) (c : Cst mg) (T : Cl K C fV) (Go : Df P w K mg base 1 "goes_by_all" ["one", "other"] (spGo C)) : Df P w K mg base 2 "is_right_row" ["versions"] (spRr C) := by
  refine F.df scRr (fun vs H Q E h => ?_) (fun cdv A outer s H vs Q E f hr h => ?_)
  · obtain ⟨l, ps, rfl, _⟩ := h
    rfl
  · obtain ⟨l, ps, rfl, hl, hps, hB, k⟩ := h
    refine ⟨_, pss_cons (ps_for PassesOwn.never rfl (pi_enum (by rfl) c.enumerate (pa_cons (pv 0) pa_nil)) (pg_tup rfl (pgs_cons (pg_name (i := 1) scRr.nd rfl (Or.inl rfl)) (pgs_cons (pg_name (i := 2) scRr.nd rfl (Or.inl rfl)) pgs_nil)))
      (pss_cons (ps_if (PW.pt (pw_or (pt_cmpR op_ge (pe_fld (pv 2) rfl) (pe_gc c.MACHINES) (nomark _)) (pw_or1 (pt_cmpR op_eq (pe_ix ix_list (pe_fld (pv 2) rfl) (pe_fld (pv 2) rfl) (fun _ _ => rfl)) pe_int (nomark _))))) (pss_one (ps_ret pe_bl)) pss_nil)
      (pss_cons (ps_if (PW.pt (pw_and (pt_cmpR op_gt (pv 1) pe_int (nomark _)) (pw_and1 (pt_cmpR op_ge (pe_fld (pe_ix ix_list (pv 0) (pe_op op_sub (pv 1) pe_int) (fun _ _ => rfl)) rfl) (pe_fld (pv 2) rfl) (nomark _))))) (pss_one (ps_ret pe_bl)) pss_nil)
      (pss_one (ps_for PassesOwn.never rfl (pi_list (pe_slice sl_list (pv 0) po_none (po_some (pv 1)))) (pg_name (i := 3) scRr.nd rfl (Or.inl rfl))
        (pss_one (ps_if (PW.pt (pw_or (pt_val (pe_df Go hr (by decide) rfl (pa_cons (pv 2) (pa_cons (pv 3) pa_nil)))) (pw_or1 (pt_val (pe_df Go hr (by decide) rfl (pa_cons (pv 3) (pa_cons (pv 2) pa_nil))))))) (pss_one (ps_ret pe_bl)) pss_nil)))))))
      (pss_one (ps_ret pe_bl)), ?_⟩
    refine ⟨_, rfl, l, _, rfl, SqL.of hl, for_it (walk_enum (K := K) (a := l) (xs := rf ps)) (fun i σ H' => Same H H' ∧ (∃ x y z, σ = [some (.ref l), x, y, z]) ∧ ∀ (j : Nat) (p : Addr × Km353.Version), j < i → ps[j]? = some p → rowAt (ver ps) j p.2)
      ⟨Same.refl H, ⟨_, _, _, rfl⟩, fun j p h => absurd h (Nat.not_lt_zero _)⟩ (fun i σ H' _ z => SqL.of (z.1 _ _ hl)) ?_ ?_⟩
    · rintro i x σ H' H2 hi ⟨s1, ⟨x1, x2, x3, rfl⟩, hj⟩ ⟨U, y1, y2, rfl, hU, rfl, e1, e2⟩
      cases e1
      obtain ⟨p, hp, rfl⟩ := rf_get e2
      have hi' : i < ps.length := by rw [rf_len] at hi; exact hi
      have s2 : Same H' (upd H' U (.tup [.int (i : Nat), .ref p.1])) := same_upd hU
      have s12 := s1.trans s2
      obtain ⟨⟨dp, cp, hpa, hpc⟩, lp⟩ := (hps.get hp).mono s12
      refine ⟨U, _, rfl, SqT.of upd_same, rfl, _, _, rfl, _, _, rfl, rfl, ?_⟩
      refine ⟨_, rfl, p.1, C, dp, _, _, rfl, hpa, T.cl, T.na _ (by decide +kernel), vF_w _ _, _, _, rfl, rfl, _, rfl, ?_⟩
      by_cases w16 : p.2.writer < 16
      · refine ite_f (decide_eq_false (by omega)) ?_
        refine ⟨_, rfl, p.1, C, dp, _, _, rfl, hpa, T.cl, T.na _ (by decide +kernel), vF_c _ _, _, rfl, p.1, C, dp, _, _, rfl, hpa, T.cl, T.na _ (by decide +kernel), vF_w _ _, cp, _, _, _, rfl, rfl, SqL.of hpc, atI_nat (nV_at (at_get (by omega))), rfl, _, rfl, ?_⟩
        by_cases c0 : Km353.at_ p.2.counts p.2.writer = 0
        · refine ite_t (decide_eq_true (by rw [c0]; rfl)) ?_
          rw [not_right hB hp (fun z => z.2.1 c0)] at k
          exact k _ s12
        · refine ite_f (decide_eq_false (fun z => c0 (Int.ofNat.inj (V.int.inj z)))) ?_
          -- the second test
          have third : (∀ u, 0 < i → (ver ps)[i - 1]? = some u → u.writer < p.2.writer) → tFor (iList K (tSl (rSlL K) (tVar 0) tNoPart (tPart (tVar 1)))) (gName 3) (tIfS (tOr (tB (tCl (spGo C) E0 (tCons (tVar 2) (tCons (tVar 3) tNil)))) (tB (tCl (spGo C) E0 (tCons (tVar 3) (tCons (tVar 2) tNil))))) (tRet (tC (.bl false))) tNext)
              { nx := fun σ H' => Same H H' ∧ (∃ x y z, σ = [some (.ref l), x, y, z]) ∧ ∀ (j : Nat) (p : Addr × Km353.Version), j < i + 1 → ps[j]? = some p → rowAt (ver ps) j p.2, rt := Q,
                bk := fun σ H' => tRet (tC (.bl true)) { nx := fun _ H' => Q .non H', rt := Q } σ H',
                ct := fun σ H' => Same H H' ∧ (∃ x y z, σ = [some (.ref l), x, y, z]) ∧ ∀ (j : Nat) (p : Addr × Km353.Version), j < i + 1 → ps[j]? = some p → rowAt (ver ps) j p.2 }
              [some (.ref l), some (.int (i : Nat)), some (.ref p.1), x3] (upd H' U (.tup [.int (i : Nat), .ref p.1])) := by
            intro hw
            refine ⟨_, rfl, _, rfl, _, rfl, l, _, rfl, SqL.of (s12 _ _ hl), fun q hq => ?_⟩
            rw [cut_rf (by omega)]
            have s3 := s12.trans (same_upd (o := .lst (rf (ps.take i))) hq)
            refine ⟨q, rfl, ⟨_, SqL.of upd_same⟩, for_list (K := K) (a := q) (xs := rf (ps.take i)) (fun m σ H3 => Same H H3 ∧ H3 q = some (.lst (rf (ps.take i))) ∧ (∃ z, σ = [some (.ref l), some (.int (i : Nat)), some (.ref p.1), z]) ∧ ∀ (j : Nat) (r : Addr × Km353.Version), j < m → (ps.take i)[j]? = some r → Km353.within r.2.counts p.2.counts = false ∧ Km353.within p.2.counts r.2.counts = false)
              ⟨s3, upd_same, ⟨_, rfl⟩, fun j r h => absurd h (Nat.not_lt_zero _)⟩ (fun m σ H3 _ z => SqL.of z.2.1) ?_ ?_⟩
            · rintro m y σ H3 hy ⟨s4, hq', ⟨z, rfl⟩, hm⟩
              obtain ⟨r, hr', rfl⟩ := rf_get hy
              have hr2 : VerAt C H3 r.1 r.2 := (hps r (List.mem_of_mem_take (List.mem_of_getElem? hr'))).mono s4
              refine ⟨_, rfl, _, rfl, p.1, r.1, p.2, r.2, rfl, (hps.get hp).mono s4, hr2, _, rfl, ?_⟩
              have mem : r.2 ∈ (ver ps).take i := by
                unfold ver
                rw [← List.map_take]
                exact List.mem_map.mpr ⟨r, List.mem_of_getElem? hr', rfl⟩
              cases c1 : Km353.within r.2.counts p.2.counts with
              | true =>
                refine ite_t rfl (ite_t rfl ?_)
                rw [not_right hB hp (fun z => by have := (z.2.2.2 r.2 mem).1; rw [c1] at this; cases this)] at k
                exact k _ s4
              | false =>
                refine ite_f rfl ?_
                refine ⟨_, rfl, _, rfl, r.1, p.1, r.2, p.2, rfl, hr2, (hps.get hp).mono s4, _, rfl, ?_⟩
                cases c2 : Km353.within p.2.counts r.2.counts with
                | true =>
                  refine ite_t rfl ?_
                  rw [not_right hB hp (fun z => by have := (z.2.2.2 r.2 mem).2; rw [c2] at this; cases this)] at k
                  exact k _ s4
                | false =>
                  refine ite_f rfl ?_
                  refine ⟨s4, hq', ⟨_, rfl⟩, fun j r' h1 h2 => ?_⟩
                  by_cases e : j = m
                  · rw [e, hr'] at h2
                    cases h2
                    exact ⟨c1, c2⟩
                  · exact hm j r' (by omega) h2
            · rintro σ H3 ⟨s4, hq', ⟨z, rfl⟩, hm⟩
              refine ⟨s4, ⟨_, _, _, rfl⟩, fun j p' h1 h2 => ?_⟩
              by_cases e : j = i
              · rw [e, hp] at h2
                cases h2
                rw [e]
                refine ⟨w16, c0, hw, fun u hu => ?_⟩
                unfold ver at hu
                rw [← List.map_take] at hu
                obtain ⟨r, hr', rfl⟩ := List.mem_map.mp hu
                obtain ⟨j', hj'⟩ := List.getElem?_of_mem hr'
                exact hm j' r (by rw [rf_len]; exact (List.getElem?_eq_some_iff.mp hj').1) hj'
              · exact hj j p' (by omega) h2
          refine ⟨_, rfl, _, _, rfl, rfl, _, rfl, ?_⟩
          by_cases i0 : 0 < i
          · refine ite_t (decide_eq_true (by omega)) ?_
            have hq : ps[i - 1]? = some (ps[i - 1]'(by omega)) := List.getElem?_eq_getElem (by omega)
            obtain ⟨⟨dq, cq, hqa, hqc⟩, lq⟩ := (hps.get hq).mono s12
            refine ⟨_, rfl, _, rfl, _, _, rfl, rfl, l, _, _, _, rfl, rfl, SqL.of (s12 _ _ hl), at_of (j := i - 1) (by omega) (rf_at hq), _, C, dq, _, _, rfl, hqa, T.cl, T.na _ (by decide +kernel), vF_w _ _, _, rfl, p.1, C, dp, _, _, rfl, hpa, T.cl, T.na _ (by decide +kernel), vF_w _ _, _, _, rfl, rfl, _, rfl, ?_⟩
            by_cases wq : (ps[i - 1]'(by omega)).2.writer < p.2.writer
            · refine ite_f (decide_eq_false (by omega)) ?_
              refine third fun u _ hu => ?_
              rw [ver_get hq] at hu
              cases hu
              exact wq
            · refine ite_t (decide_eq_true (by omega)) ?_
              rw [not_right hB hp (fun z => wq (z.2.2.1 _ i0 (ver_get hq)))] at k
              exact k _ s12
          · refine ite_f (decide_eq_false (by omega)) ?_
            refine ite_f rfl ?_
            exact third fun u h _ => absurd h i0
      · refine ite_t (decide_eq_true (by omega)) ?_
        refine ite_t rfl ?_
        rw [not_right hB hp (fun z => w16 z.1)] at k
        exact k _ s12
    · rintro σ H' ⟨s1, ⟨x1, x2, x3, rfl⟩, hj⟩
      have e : Km353.okPaper (ver ps) = true := by
        refine (right_iff (bnd_ver hB)).mp fun i v hv => ?_
        unfold ver at hv
        rw [List.getElem?_map] at hv
        cases e : ps[i]? with
        | none =>
          rw [e] at hv
          cases hv
        | some p =>
          rw [e] at hv
          cases hv
          exact hj i p (by rw [rf_len]; exact (List.getElem?_eq_some_iff.mp e).1) e
      rw [e] at k
      exact k _ s1
end
end PR
namespace PR
open PySem PySem.Spec PyProof.Rows L2
section
variable {P : Program} {w : World} {K : PySem.W.Frag} {mg : Str → Option Value} {base : Heap}
/-- a class whose instances are told apart by themselves -/
structure ClE (K : PySem.W.Frag) (C : Addr) : Prop where
  mro : PySem.W.mroIn K C (.type "object") = some true
  eq : PySem.W.findIn K (.ref C) "__eq__" = some (some (.builtin "object.__eq__"))
theorem nw_dom {H0 H H1 : Hp} (s : ∀ a, H a = none → H0 a = none) : Same (nw H H1) (nw H0 H1) := fun b o e => nw_of (s b (nw_get e).1) (nw_get e).2
theorem nw_upd {H0 H : Hp} {D : Addr} {o o' : HO} (h : H0 D = some o) : Same (nw H0 H) (nw H0 (upd H D o')) := fun b u e => by
  obtain ⟨e1, e2⟩ := nw_get e
  refine nw_of e1 ?_
  rw [upd_ne (fun z => by rw [z, h] at e1; cases e1)]
  exact e2
def tF (m : Km353.Message) (vl : Addr) : List (Str × V) := [("who", .int (m.from_ : Int)), ("paper", .int (m.paper : Int)), ("versions", .ref vl)]
/-- what a message tells: its object; the versions stand in Im -/
structure ToldAt (CT C : Addr) (H Im : Hp) (x : Addr) (m : Km353.Message) : Prop where
  ex : ∃ dx vl ps, H x = some (.ins CT dx (tF m vl)) ∧ H vl = some (.lst (rf ps)) ∧ VsAt C Im ps ∧ ver ps = m.versions
abbrev sTb : Stmt := top 29
def spTb (CT C : Addr) : Sp := fun vs H Q _ => ∃ (l : Addr) (bs : List Nat), vs = [.ref l] ∧ H l = some (.lst (nV bs)) ∧ bs.length = 312 ∧ (∀ b ∈ bs, b < 256) ∧
  (¬ Right bs → ∀ H', Same H H' → Q .non H') ∧ (Right bs → ∀ (H' : Hp) (x : Addr), Same H H' → ToldAt CT C H' (nw H H') x (told bs) → Q (.ref x) H')
theorem scTb : FnScope ["message", "first", "who", "paper", "many", "versions", "at", "byte"] ["message"] (defScope sTb) := ⟨rfl, rfl, rfl, by decide +kernel, rfl, by decide +kernel, by decide +kernel⟩
theorem take4 {l : List Nat} (hn : 4 ≤ l.length) : l.take 4 = [Km353.num l 0 1, Km353.num l 1 1, Km353.num l 2 1, Km353.num l 3 1] := by
  have e := cut_many l 0 1 4
  rw [List.drop_zero] at e
  rw [show 1 * 4 = 4 from rfl] at e
  rw [e]
  show (l.drop (0 + 1 * 0)).take 1 ++ ((l.drop (0 + 1 * 1)).take 1 ++ ((l.drop (0 + 1 * 2)).take 1 ++ ((l.drop (0 + 1 * 3)).take 1 ++ []))) = _
  rw [one_cut (by omega), one_cut (by omega), one_cut (by omega), one_cut (by omega)]
  rfl
def oV : Option Addr → V
  | none => .non
  | some a => .ref a
/-- what is found at the j-th place -/
def OkO (C : Addr) (Im : Hp) (bs : List Nat) (j : Nat) : Option Addr → Prop
  | none => ¬ padOk bs (4 + 76 * j)
  | some a => padOk bs (4 + 76 * j) ∧ VerAt C Im a (Km353.versionAt bs (4 + 76 * j))
theorem OkO.mono {C : Addr} {I J : Hp} {bs : List Nat} {j : Nat} {o : Option Addr} (h : OkO C I bs j o) (s : Same I J) : OkO C J bs j o := by
  cases o with
  | none => exact h
  | some a => exact ⟨h.1, h.2.mono s⟩
def AllO (C : Addr) (Im : Hp) (bs : List Nat) (os : List (Option Addr)) : Prop := ∀ (j : Nat) (o : Option Addr), os[j]? = some o → OkO C Im bs j o
theorem AllO.mono {C : Addr} {I J : Hp} {bs : List Nat} {os : List (Option Addr)} (h : AllO C I bs os) (s : Same I J) : AllO C J bs os := fun j o e => (h j o e).mono s
theorem AllO.snoc {C : Addr} {I : Hp} {bs : List Nat} {os : List (Option Addr)} (h : AllO C I bs os) {o : Option Addr} (ho : OkO C I bs os.length o) : AllO C I bs (os ++ [o]) := fun j o' e => by
  by_cases hj : j < os.length
  · rw [List.getElem?_append_left hj] at e
    exact h j o' e
  · have hl := (List.getElem?_eq_some_iff.mp e).1
    rw [List.length_append] at hl
    have ej : j = os.length := by
      simp at hl
      omega
    rw [ej, List.getElem?_append_right (Nat.le_refl _), Nat.sub_self] at e
    have : o = o' := Option.some.inj e
    rw [ej, ← this]
    exact ho
/-- all of them are versions -/
theorem AllO.pairs {C : Addr} {I : Hp} {bs : List Nat} {os : List (Option Addr)} (h : AllO C I bs os) (hn : (os.map oV).any isNon = false) :
    ∃ ps : Vs, os.map oV = rf ps ∧ VsAt C I ps ∧ ver ps = ((List.range os.length).map fun i => Km353.versionAt bs (4 + 76 * i)) ∧ ∀ j, j < os.length → padOk bs (4 + 76 * j) := by
  have hs : ∀ (j : Nat) (o : Option Addr), os[j]? = some o → ∃ a, o = some a := by
    intro j o e
    cases o with
    | some a => exact ⟨a, rfl⟩
    | none =>
      rw [List.any_eq_false] at hn
      exact absurd rfl (hn (oV none) (List.mem_map.mpr ⟨none, List.mem_of_getElem? e, rfl⟩))
  refine ⟨(List.range os.length).map fun i => ((os.getD i none).getD 0, Km353.versionAt bs (4 + 76 * i)), ?_, ?_, ?_, ?_⟩
  · apply List.ext_getElem?
    intro j
    unfold rf
    rw [List.getElem?_map, List.getElem?_map, List.getElem?_map]
    cases e : os[j]? with
    | none =>
      rw [List.getElem?_eq_none (by simpa using e)]
      rfl
    | some o =>
      obtain ⟨a, rfl⟩ := hs j o e
      rw [List.getElem?_range (List.getElem?_eq_some_iff.mp e).1]
      simp [oV, e]
  · intro p hp
    obtain ⟨j, hj, rfl⟩ := List.mem_map.mp hp
    have hj' : j < os.length := by simpa using hj
    have e : os[j]? = some os[j] := List.getElem?_eq_getElem hj'
    obtain ⟨a, ea⟩ := hs j _ e
    have z := h j _ e
    rw [ea] at z e
    simp only [List.getD_eq_getElem?_getD, e]
    exact z.2
  · unfold ver
    rw [List.map_map]
    rfl
  · intro j hj
    have e : os[j]? = some os[j] := List.getElem?_eq_getElem hj
    obtain ⟨a, ea⟩ := hs j _ e
    have z := h j _ e
    rw [ea] at z
    exact z.1
theorem AllO.none_bad {C : Addr} {I : Hp} {bs : List Nat} {os : List (Option Addr)} (h : AllO C I bs os) (hn : (os.map oV).any isNon = true) : ∃ j, j < os.length ∧ ¬ padOk bs (4 + 76 * j) := by
  rw [List.any_eq_true] at hn
  obtain ⟨x, hx, hx'⟩ := hn
  obtain ⟨o, ho, rfl⟩ := List.mem_map.mp hx
  cases o with
  | some a => cases hx'
  | none =>
    obtain ⟨j, hj⟩ := List.getElem?_of_mem ho
    exact ⟨j, (List.getElem?_eq_some_iff.mp hj).1, h j _ hj⟩
theorem tail_iff (l : List Nat) : (nV (l.filter fun b => !decide (b = 0))).isEmpty = true ↔ ∀ b ∈ l, b = 0 := by
  unfold nV
  rw [List.isEmpty_map, List.isEmpty_iff, List.filter_eq_nil_iff]
  simp
theorem ok_tb {CT C : Addr} (F : Here K mg "told_by" sTb ["message"]) (c : Cst mg) (Q0 : ClE K C) (Ni : Df P w K mg base 1 "number_in" ["some"] spNi) (Ck : Df P w K mg base 1 "check_of" ["some"] spCk)
    (Vt : Df P w K mg base 3 "version_at" ["message", "begin"] (spVt C)) (Rr : Df P w K mg base 2 "is_right_row" ["versions"] (spRr C)) (To : Mkr P w K mg base 1 "Told" CT ["self", "who", "paper", "versions"] (spIT CT)) :
    Df P w K mg base 4 "told_by" ["message"] (spTb CT C) := by
  refine F.df scTb (fun vs H Q E h => ?_) (fun cdv A outer s H vs Q E f hr h => ?_)
  · obtain ⟨l, bs, rfl, _⟩ := h
    rfl
  · obtain ⟨l, bs, rfl, hl, hn, hb, kN, kS⟩ := h
    refine ⟨_, pss_cons (ps_if (pt_cmpR op_ne (pe_df Ni hr (by decide) rfl (pa_cons (pe_slice sl_list (pv 0) (po_some (pe_gc c.CHECK)) po_none) pa_nil)) (pe_df Ck hr (by decide) rfl (pa_cons (pe_slice sl_list (pv 0) po_none (po_some (pe_gc c.CHECK))) pa_nil)) (nomark _)) (pss_one (ps_ret pe_non)) pss_nil)
      (pss_cons (ps_asg (pe_slice sl_list (pv 0) po_none (po_some (pe_gc c.HEAD))) (pg_lst rfl (pgs_cons (pg_name (i := 1) scTb.nd rfl (Or.inl rfl)) (pgs_cons (pg_name (i := 2) scTb.nd rfl (Or.inl rfl)) (pgs_cons (pg_name (i := 3) scTb.nd rfl (Or.inl rfl)) (pgs_cons (pg_name (i := 4) scTb.nd rfl (Or.inl rfl)) pgs_nil))))))
      (pss_cons (ps_if (PW.pt (pw_or (pt_cmpR op_ne (pv 1) (pe_gc c.FIRST) (nomark _)) (pw_or (pt_cmpR op_ge (pv 2) (pe_gc c.MACHINES) (nomark _)) (pw_or (pt_cmpR op_ge (pv 3) (pe_gc c.PAPERS) (nomark _)) (pw_or1 (pt_cmpR op_gt (pv 4) (pe_gc c.MOST) (nomark _))))))) (pss_one (ps_ret pe_non)) pss_nil)
      (pss_cons (ps_setLc (i := 5) (own := [("at", 6)]) (g := gName 6) (tt := tYes) (te := tCl (spVt C) E0 (tCons (tVar 0) (tCons (tOp rAddN (tC (.int 4)) (tOp rMulN (tC (.int 76)) (tVar 6))) tNil))) rfl scTb.nd rfl rfl (sw_true rfl rfl rfl (by decide +kernel)) (pi_range1 rfl c.range (pa_cons (pv 4) pa_nil))
        (blkOk_by (own := [("at", 6)]) (N := ["message", "first", "who", "paper", "many", "versions", "at", "byte"]) (sc := defScope sTb) (by decide +kernel))
        (fun _ _ _ _ _ => pg_name (i := 6) scTb.nd rfl (Or.inl rfl)) (fun _ _ _ _ _ => pts_nil) (fun _ _ _ _ _ => pe_df Vt hr (by decide) rfl (pa_cons (pv 0) (pa_cons (pe_op op_add_n (pe_gc c.HEAD) (pe_op op_mul_n (pe_gc c.PLACE) (pv 6))) pa_nil))))
      (pss_cons (ps_if (pt_cmpR (op_neE hr.units) (pe_lc (own := [("byte", 7)]) (g := gName 7) (tt := tTest (tOp rNe (tVar 7) (tC (.int 0)))) (te := tVar 7) rfl scTb.nd (pi_list (pe_slice sl_list (pv 0) (po_some (pe_op op_add_n (pe_gc c.HEAD) (pe_op op_mul_n (pe_gc c.PLACE) (pv 4)))) (po_some (pe_gc c.CHECK))))
        (blkOk_by (own := [("byte", 7)]) (N := ["message", "first", "who", "paper", "many", "versions", "at", "byte"]) (sc := defScope sTb) (by decide +kernel))
        (fun _ _ _ _ _ => pg_name (i := 7) scTb.nd rfl (Or.inl rfl)) (fun _ _ _ _ _ => pts_one (pt_cmpR op_ne (pv 7) pe_int (nomark _))) (fun _ _ _ _ _ => pv 7)) (pe_lst pa_nil) (nomark _)) (pss_one (ps_ret pe_non)) pss_nil)
      (pss_cons (ps_if (PW.pt (pw_or (pt_cmpR (op_noneIn hr.units) pe_non (pv 5) (by rfl)) (pw_or1 (pt_not (pt_val (pe_df Rr hr (by decide) rfl (pa_cons (pv 5) pa_nil))))))) (pss_one (ps_ret pe_non)) pss_nil)
      (pss_one (ps_ret (pe_mkr To hr (by decide) rfl (pa_cons (pv 2) (pa_cons (pv 3) (pa_cons (pv 5) pa_nil))))))))))), ?_⟩
    refine ⟨_, rfl, _, rfl, l, _, rfl, SqL.of hl, fun p1 hp1 => ?_⟩
    rw [show ((308 : Int)) = ((308 : Nat) : Int) from rfl, cut_from (by omega)]
    have s1 : Same H (upd H p1 (.lst (nV (bs.drop 308)))) := same_upd hp1
    refine ⟨p1, _, rfl, upd_same, fun H2 s2 => ?_⟩
    have s02 := s1.trans s2
    refine ⟨_, rfl, _, rfl, l, _, rfl, SqL.of (s02 _ _ hl), fun p2 hp2 => ?_⟩
    rw [cut_to (by omega)]
    have s03 := s02.trans (same_upd (o := .lst (nV (bs.take 308))) hp2)
    generalize hH3 : upd H2 p2 (.lst (nV (bs.take 308))) = H3 at s03
    have h3 : H3 p2 = some (.lst (nV (bs.take 308))) := by
      rw [← hH3]
      exact upd_same
    refine ⟨p2, _, rfl, h3, fun b hb' => hb b (List.mem_of_mem_take hb'), rfl, _, rfl, ?_⟩
    have e308 : numL (bs.drop 308) = Km353.num bs 308 4 := by
      rw [num_eq, List.take_of_length_le (by simp; omega)]
    rw [e308]
    by_cases r1 : Km353.num bs 308 4 = Km353.crc (bs.take 308)
    · refine ite_f (by rw [decide_eq_true (int_eq.mpr r1)]; rfl) ?_
      refine ⟨_, rfl, _, rfl, l, _, rfl, SqL.of (s03 _ _ hl), fun p3 hp3 => ?_⟩
      rw [show ((4 : Int)) = ((4 : Nat) : Int) from rfl, cut_to (by omega), take4 (by omega)]
      have s04 := s03.trans (same_upd (o := .lst (nV [Km353.num bs 0 1, Km353.num bs 1 1, Km353.num bs 2 1, Km353.num bs 3 1])) hp3)
      refine ⟨p3, _, rfl, SqL.of upd_same, rfl, _, _, rfl, _, _, rfl, _, _, rfl, _, _, rfl, rfl, ?_⟩
      generalize hH4 : upd H3 p3 (.lst (nV [Km353.num bs 0 1, Km353.num bs 1 1, Km353.num bs 2 1, Km353.num bs 3 1])) = H4 at s04
      refine ⟨_, rfl, rfl, _, rfl, ?_⟩
      by_cases r2 : Km353.num bs 0 1 = 1
      · refine ite_f (by rw [decide_eq_true (by rw [r2]; rfl)]; rfl) ?_
        refine ⟨_, rfl, _, _, rfl, rfl, _, rfl, ?_⟩
        by_cases r3 : Km353.num bs 1 1 < 16
        · refine ite_f (decide_eq_false (by omega)) ?_
          refine ⟨_, rfl, _, _, rfl, rfl, _, rfl, ?_⟩
          by_cases r4 : Km353.num bs 2 1 < 64
          · refine ite_f (decide_eq_false (by omega)) ?_
            refine ⟨_, rfl, _, _, rfl, rfl, _, rfl, ?_⟩
            by_cases r5 : Km353.num bs 3 1 ≤ 4
            · refine ite_f (decide_eq_false (by omega)) ?_
              -- versions
              refine ⟨_, rfl, _, rfl, by omega, by omega, fun D hD => lc_range (lo := 0) (n := (Km353.num bs 3 1 : Int).toNat) (fun i H' => Same H4 H' ∧ ∃ os : List (Option Addr), os.length = i ∧ H' D = some (.lst (os.map oV)) ∧ AllO C (nw (upd H4 D (.lst [])) H') bs os) ⟨same_upd hD, [], rfl, upd_same, fun j o e => by simp at e⟩ ?_ ?_⟩
              · rintro i H' hi ⟨s5, os, ho, hD', hA⟩
                have hi' : i < Km353.num bs 3 1 := by simpa using hi
                have dom : ∀ a, H' a = none → upd H4 D (.lst []) a = none := fun a ha => by
                  have ne : a ≠ D := fun z => by rw [z, hD'] at ha; cases ha
                  rw [upd_ne ne]
                  exact s5.free ha
                rw [show (0 : Int) + (i : Int) = (i : Int) from Int.zero_add _]
                refine ⟨rfl, tyes ?_⟩
                refine ⟨_, rfl, _, rfl, 76, i, rfl, rfl, by decide, 4, 76 * i, rfl, rfl, l, 4 + 76 * i, bs, rfl, s5 _ _ (s04 _ _ hl), by omega, fun hp H5 s6 => ?_, fun hp H5 x s6 hx => ?_⟩
                · refine ⟨_, s6 _ _ hD', ?_, fun b o e => ?_, os ++ [none], by rw [List.length_append, ho]; rfl, ?_, ?_⟩
                  · rw [List.length_map, ho]
                    exact sz (by omega)
                  · rw [upd_ne (ne_of_none e hD)]
                    exact s6 _ _ (s5 _ _ e)
                  · rw [upd_same, List.map_append]
                    rfl
                  · refine (hA.mono ((nw_mono s6).trans (nw_upd upd_same))).snoc ?_
                    rw [ho]
                    exact hp
                · refine ⟨_, s6 _ _ hD', ?_, fun b o e => ?_, os ++ [some x], by rw [List.length_append, ho]; rfl, ?_, ?_⟩
                  · rw [List.length_map, ho]
                    exact sz (by omega)
                  · rw [upd_ne (ne_of_none e hD)]
                    exact s6 _ _ (s5 _ _ e)
                  · rw [upd_same, List.map_append]
                    rfl
                  · refine (hA.mono ((nw_mono s6).trans (nw_upd upd_same))).snoc ?_
                    rw [ho]
                    exact ⟨hp, hx.mono ((nw_dom dom).trans (nw_upd upd_same))⟩
              · rintro H5 ⟨s5, os, ho, hD5, hA⟩
                have ho' : os.length = Km353.num bs 3 1 := by simpa using ho
                have s05 := s04.trans s5
                have dom0 : ∀ a, upd H4 D (.lst []) a = none → H a = none := fun a ha => by
                  have ne : a ≠ D := fun z => by rw [z, upd_same] at ha; cases ha
                  rw [upd_ne ne] at ha
                  exact s04.free ha
                have hA0 : AllO C (nw H H5) bs os := hA.mono (nw_dom dom0)
                have hN5 : ∀ z ∈ os.map oV, NoneOr K H5 z := fun z hz => by
                  obtain ⟨o, ho2, rfl⟩ := List.mem_map.mp hz
                  cases o with
                  | none => exact .inl rfl
                  | some a =>
                    obtain ⟨j, hj⟩ := List.getElem?_of_mem ho2
                    obtain ⟨⟨dx, cx, h1, _⟩, _⟩ := (hA0 j _ hj).2
                    exact .inr ⟨a, C, dx, _, rfl, nw_same _ _ h1, Q0.mro, Q0.eq⟩
                -- the rest is zero
                refine ⟨_, rfl, _, rfl, 76, Km353.num bs 3 1, rfl, rfl, by decide, 4, 76 * Km353.num bs 3 1, rfl, rfl, _, rfl, _, rfl, l, _, rfl, SqL.of (s05 _ _ hl), fun p6 hp6 => ?_⟩
                rw [cut_nV (by omega) (by omega)]
                generalize hseg : (bs.drop (4 + 76 * Km353.num bs 3 1)).take (308 - (4 + 76 * Km353.num bs 3 1)) = seg
                have hsl : seg.length ≤ 312 := by
                  rw [← hseg, List.length_take, List.length_drop]
                  omega
                have s06 : Same H5 (upd H5 p6 (.lst (nV seg))) := same_upd hp6
                refine ⟨p6, rfl, ⟨_, SqL.of upd_same⟩, fun G hG => lc_list (K := K) (a := p6) (xs := nV seg) (fun i H' => Same (upd H5 p6 (.lst (nV seg))) H' ∧ H' G = some (.lst (nV ((seg.take i).filter fun b => !decide (b = 0))))) ⟨same_upd hG, upd_same⟩ (fun i H' _ z => SqL.of (z.1 _ _ upd_same)) ?_ ?_⟩
                · rintro i x H' hx ⟨s7, hG'⟩
                  obtain ⟨b, hb', rfl⟩ := nV_get hx
                  refine ⟨rfl, _, rfl, rfl, _, rfl, ?_⟩
                  by_cases b0 : b = 0
                  · refine ite_f (by rw [decide_eq_true (by rw [b0]; rfl)]; rfl) ⟨s7, ?_⟩
                    rw [filt_f hb' (by simp [b0])]
                    exact hG'
                  · refine ite_t (by have z : ¬ (V.int (b : Int) = V.int 0) := fun z => b0 (by have := V.int.inj z; omega); exact congrArg not (decide_eq_false z)) ⟨_, rfl, _, hG', ?_, fun b' o e => ?_, ?_⟩
                    · rw [nV_len]
                      exact sz (Nat.le_trans (filt_le _ _ _) (by omega))
                    · rw [upd_ne (ne_of_none e hG)]
                      exact s7 _ _ e
                    · rw [upd_same, filt_t hb' (by simp [b0]), nV_app]
                      rfl
                · rintro H7 ⟨s7, hG7⟩
                  rw [nV_len, List.take_length] at hG7
                  refine ⟨Nat.zero_le _, fun p8 hp8 => ⟨G, p8, _, rfl, rfl, SqL.of ((same_upd hp8) _ _ hG7), SqL.of upd_same, _, rfl, ?_⟩⟩
                  have s58 : Same H5 (upd H7 p8 (.lst [])) := (s06.trans s7).trans (same_upd hp8)
                  generalize upd H7 p8 (.lst []) = H8 at s58
                  by_cases r6 : ∀ b ∈ seg, b = 0
                  · refine ite_f (by rw [(tail_iff seg).mpr r6]; rfl) ?_
                    refine ⟨_, rfl, D, _, rfl, rfl, SqL.of (s58 _ _ hD5), fun z hz => ?_, _, rfl, ?_⟩
                    · rcases hN5 z hz with z1 | ⟨a, C', dx, fs, z1, z2, z3, z4⟩
                      · exact .inl z1
                      · exact .inr ⟨a, C', dx, fs, z1, s58 _ _ z2, z3, z4⟩
                    · cases hnon : (os.map oV).any isNon with
                      | true =>
                        refine ite_t rfl (ite_t rfl ?_)
                        obtain ⟨j, hj, hbad⟩ := hA.none_bad hnon
                        exact kN (fun r => hbad (r.2.2.2.1 j (by omega))) _ (s05.trans s58)
                      | false =>
                        refine ite_f rfl ?_
                        obtain ⟨ps, e1, e2, e3, e4⟩ := hA0.pairs hnon
                        rw [ho'] at e3 e4
                        have hD8 : H8 D = some (.lst (rf ps)) := by
                          rw [← e1]
                          exact s58 _ _ hD5
                        refine ⟨_, rfl, D, ps, rfl, hD8, e2.mono (nw_same.trans s58), fun p hp => ?_, fun H9 s9 => ⟨_, rfl, ?_⟩⟩
                        · have : p.2 ∈ ver ps := List.mem_map.mpr ⟨p, hp, rfl⟩
                          rw [e3] at this
                          obtain ⟨j, _, ej⟩ := List.mem_map.mp this
                          rw [← ej]
                          exact versionAt_ok hb _
                        · have s09 := (s05.trans s58).trans s9
                          have e3' : ver ps = (told bs).versions := e3
                          cases hok : Km353.okPaper (ver ps) with
                          | false =>
                            refine ite_t rfl ?_
                            exact kN (fun r => by have := r.2.2.2.2; rw [← e3', hok] at this; cases this) _ s09
                          | true =>
                            refine ite_f rfl ?_
                            have hR : Right bs := ⟨r1, ⟨r2, r3, r4, r5⟩, by rw [hseg]; exact r6, e4, by rw [← e3']; exact hok⟩
                            refine ⟨_, rfl, _, rfl, _, rfl, fun x dx hx hdx hne => ⟨x, dx, _, _, _, rfl, upd_same, rfl, ?_⟩⟩
                            rw [upd_upd]
                            have s10 := same_made (o := .ins CT dx [("who", V.int (Km353.num bs 1 1 : Int)), ("paper", V.int (Km353.num bs 2 1 : Int)), ("versions", V.ref D)]) hx hdx
                            exact kS hR _ x (s09.trans s10) ⟨dx, D, ps, upd_same, s10 _ _ (s9 _ _ hD8), e2.mono (nw_mono ((s58.trans s9).trans s10)), e3'⟩
                  · refine ite_t (by rw [show (nV (seg.filter fun b => !decide (b = 0))).isEmpty = false from (by cases hz : (nV (seg.filter fun b => !decide (b = 0))).isEmpty with | false => rfl | true => exact absurd ((tail_iff seg).mp hz) r6)]; rfl) ?_
                    exact kN (fun r => r6 (by rw [← hseg]; exact r.2.2.1)) _ (s05.trans s58)
            · refine ite_t (decide_eq_true (by omega)) ?_
              exact kN (fun r => r5 r.2.1.2.2.2) _ s04
          · refine ite_t (decide_eq_true (by omega)) (ite_t rfl ?_)
            exact kN (fun r => r4 r.2.1.2.2.1) _ s04
        · refine ite_t (decide_eq_true (by omega)) (ite_t rfl ?_)
          exact kN (fun r => r3 r.2.1.2.1) _ s04
      · refine ite_t (by have z : ¬ (V.int (Km353.num bs 0 1 : Int) = V.int 1) := fun z => r2 (by have := V.int.inj z; omega); exact congrArg not (decide_eq_false z)) (ite_t rfl ?_)
        exact kN (fun r => r2 r.2.1.1) _ s04
    · refine ite_t (by rw [decide_eq_false (fun z => r1 (int_eq.mp z))]; rfl) ?_
      exact kN (fun r => r1 r.1) _ s03
end
end PR
namespace PR
open PySem PySem.Spec PyProof.Rows L2
/-! ### Refused(code) -/
abbrev sIR : Stmt := inClass (top 35) 0
def spIR (C : Addr) : Sp := fun vs H Q _ => ∃ (a : Addr) (v : V), vs = [.ref a, v] ∧ H a = some (exo a C none) ∧ ∀ dx, H dx = none → dx ≠ a → Q .non (upd (upd H dx (exd dx [("code", v)])) a (exo a C (some dx)))
theorem scIR : FnScope ["self", "code"] ["self", "code"] (defScope sIR) := ⟨rfl, rfl, rfl, by decide +kernel, rfl, by decide +kernel, by decide +kernel⟩
/-- what the top says of the class -/
structure RefC (K : PySem.W.Frag) (mg : Str → Option Value) (C fI : Addr) : Prop where
  g : mg "Refused" = some (.ref C)
  oex : OexC K C
  iC : PySem.W.findIn K (.ref C) "__init__" = some (some (.ref fI))
  tI : PySem.W.typeIn K (.ref fI) = some (.type "function")
  nc : PySem.W.findIn K (.ref C) "code" = some none
  xf : XfC K C
  te : PySem.W.exmOne K (.ref C) (.ref C) = some true
  here : ∃ fd, Fun K "__init__" "Refused.__init__" sIR fI fd ∧ Binds K fd ["self", "code"] []
section
variable {P : Program} {w : World} {K : PySem.W.Frag} {mg : Str → Option Value} {base : Heap}
theorem ok_ir {C fI : Addr} (T : RefC K mg C fI) : ∃ fd, Binds K fd ["self", "code"] [] ∧ FnOk P w K mg base CX0 1 fI fd ["self", "code"] (spIR C) := by
  obtain ⟨fd, F, b⟩ := T.here
  refine ⟨fd, b, F.ok scIR (fun vs H Q E h => ?_) (fun cdv A outer s H vs Q E hr h => ?_)⟩
  · obtain ⟨a, v, rfl, _⟩ := h
    rfl
  · obtain ⟨a, v, rfl, ha, k⟩ := h
    refine ⟨_, pss_one (ps_ost (pv 0) (pv 1)), ?_⟩
    exact ⟨_, rfl, _, rfl, a, C, rfl, T.oex, T.nc, .inl ⟨ha, fun dx h1 h2 => k dx h1 h2⟩⟩
end
section
variable {X : Cx}
/-- Refused(v): its dict is new -/
def tMkR (C : Addr) (v : V) : L2.St → Hp → XK → Prop := fun σ H Q => ∀ (H' : Hp) (d : Addr), Same H H' → H' d = some (.xd [("code", v)]) → Q (.ref C) (some d) H'
theorem pmk_ref {C fI : Addr} {k : Nat} {e : Expr} {v : V} {p pos : Pos} (T : RefC X.K X.mg C fI) (hr : Room k X.A) (hk : 2 ≤ k) (he : PE X e (tC v)) (hg : Gl X "Refused" := by rfl)
    (hst : starEach (e :: []) X.env = (false, eval e X.env) :: starEach [] X.env := by rfl) (hpl : (backTo pos (starEach [] X.env)).any (·.1) = false := by rfl) :
    PMk X (.Call (.Name "Refused" p) [e] [] pos) (tMkR C v) := by
  obtain ⟨fd, b, F⟩ := ok_ir (P := X.prog) (w := X.w) (base := X.base) T
  have z := pmk_oex (X := X) (CX := CX0) (x := "Refused") (p := p) (pos := pos) (dvs := []) T.oex T.iC T.tI F (hr.mono hk) b .nil pass0 hg T.g (pa_cons he pa_nil hst) (by decide) hst hpl
  intro pins s σ H Q I h
  refine z pins s σ H Q I ⟨(by show 1 ≤ 1000; decide), fun a ha => ⟨a, v, rfl, upd_same, fun dx hdx hne => ⟨rfl, dx, _, upd_same, (upd_ne hne).trans upd_same, ?_, h _ dx ?_ upd_same⟩⟩⟩
  · rw [upd_ne hne] at hdx
    exact hdx
  · intro b o eb
    rw [upd_ne hne] at hdx
    have nb : b ≠ dx := ne_of_none eb hdx
    have na : b ≠ a := ne_of_none eb ha
    rw [upd_ne nb, del_ne na, upd_ne na, upd_ne nb, upd_ne na]
    exact eb
/-- raise Refused(v) -/
theorem ps_ref {C fI : Addr} {k : Nat} {e : Expr} {v : V} {W : WX} {p pos pos2 : Pos} (hc : X.calm = true) (tk : Takes X W) (T : RefC X.K X.mg C fI) (hr : Room k X.A) (hk : 2 ≤ k) (he : PE X e (tC v)) (hg : Gl X "Refused" := by rfl)
    (hst : starEach (e :: []) X.env = (false, eval e X.env) :: starEach [] X.env := by rfl) (hpl : (backTo pos (starEach [] X.env)).any (·.1) = false := by rfl) :
    PS X (.Raise (some (.Call (.Name "Refused" p) [e] [] pos)) none pos2) (fun _ σ H => tMkR C v σ H fun cls d H' => W cls d σ H') := ps_raise hc tk (pmk_ref T hr hk he hg hst hpl)
end
/-- the refusal with a number -/
def Refu (CR : Addr) (H : Hp) (n : Int) (E : XK) : Prop := ∀ (H' : Hp) (d : Addr), Same H H' → H' d = some (.xd [("code", .int n)]) → E (.ref CR) (some d) H'
theorem Refu.mono {CR : Addr} {H H1 : Hp} {n : Int} {E : XK} (h : Refu CR H n E) (s : Same H H1) : Refu CR H1 n E := fun H' d s1 e => h H' d (s.trans s1) e
section
variable {P : Program} {w : World} {K : PySem.W.Frag} {mg : Str → Option Value} {base : Heap}

/-! ### papers, machines -/
def PapAt (C : Addr) (Im : Hp) (e : Addr) (p : List Km353.Version) : Prop := ∃ ps, Im e = some (.lst (rf ps)) ∧ VsAt C Im ps ∧ ver ps = p
theorem PapAt.mono {C e : Addr} {I J : Hp} {p : List Km353.Version} (h : PapAt C I e p) (s : Same I J) : PapAt C J e p := by
  obtain ⟨ps, h1, h2, h3⟩ := h
  exact ⟨ps, s _ _ h1, h2.mono s, h3⟩
def mF (m : Km353.Machine) (pl : Addr) : List (Str × V) := [("me", .int (m.me : Int)), ("machines", .int (m.machines : Int)), ("papers", .ref pl)]
theorem mF_me (m : Km353.Machine) (c : Addr) : (mF m c).lookup ("me" : Str) = some (.int (m.me : Int)) := lkh
theorem mF_ma (m : Km353.Machine) (c : Addr) : (mF m c).lookup ("machines" : Str) = some (.int (m.machines : Int)) := lk2 (by decide +kernel)
theorem mF_pa (m : Km353.Machine) (c : Addr) : (mF m c).lookup ("papers" : Str) = some (.ref c) := lk3 (by decide +kernel) (by decide +kernel)
def fM : List Str := ["me", "machines", "papers"]
/-- a machine: its object and its row of papers in H, the papers in Im -/
structure MachAt (CM C : Addr) (H Im : Hp) (a pl : Addr) (m : Km353.Machine) : Prop where
  obj : ∃ dx, H a = some (.ins CM dx (mF m pl))
  lst : ∃ es : List Addr, H pl = some (.lst (es.map V.ref)) ∧ es.length = 64 ∧ ∀ (i : Nat) (e : Addr), es[i]? = some e → PapAt C Im e (m.paper i)
theorem MachAt.mono {CM C a pl : Addr} {H H' I I' : Hp} {m : Km353.Machine} (h : MachAt CM C H I a pl m) (s : Same H H') (t : Same I I') : MachAt CM C H' I' a pl m := by
  obtain ⟨⟨dx, h1⟩, ⟨es, h2, h3, h4⟩⟩ := h
  exact ⟨⟨dx, s _ _ h1⟩, ⟨es, s _ _ h2, h3, fun i e he => (h4 i e he).mono t⟩⟩
/-- behind a call: all but the row of papers stands; the machine is m' -/
def Post (CM C : Addr) (H Im : Hp) (a pl : Addr) (m' : Km353.Machine) (H' : Hp) : Prop := (∀ b o, H b = some o → b ≠ pl → H' b = some o) ∧ ∀ Im', Same Im Im' → Same (nw H H') Im' → MachAt CM C H' Im' a pl m'
theorem Post.same {CM C a pl : Addr} {H I H' : Hp} {m : Km353.Machine} (h : MachAt CM C H I a pl m) (s : Same H H') : Post CM C H I a pl m H' := ⟨fun b o e _ => s b o e, fun Im' t _ => h.mono s t⟩

/-! ### Machine(me, machines) -/
abbrev sIM : Stmt := inClass (top 36) 0
def spIM (C : Addr) : Sp := fun vs H Q _ => ∃ (p dx : Addr) (a b : V), vs = [.ref p, a, b] ∧ H p = some (.ins C dx []) ∧
  ∀ (H' : Hp) (pl : Addr) (es : List Addr), (∀ b o, H b = some o → b ≠ p → H' b = some o) → H' p = some (.ins C dx [("me", a), ("machines", b), ("papers", .ref pl)]) → H pl = none → H' pl = some (.lst (es.map V.ref)) → es.length = 64 → (∀ e ∈ es, H e = none ∧ H' e = some (.lst [])) → Q .non H'
theorem scIM : FnScope ["self", "me", "machines", "paper"] ["self", "me", "machines"] (defScope sIM) := ⟨rfl, rfl, rfl, by decide +kernel, rfl, by decide +kernel, by decide +kernel⟩
theorem ok_im {C : Addr} (F : HereI K mg "Machine" "Machine.__init__" C sIM ["self", "me", "machines"]) (c : Cst mg) (T : Cl K C fM) : Mkr P w K mg base 1 "Machine" C ["self", "me", "machines"] (spIM C) := by
  refine F.mkr scIM (fun vs H Q E h => ?_) (fun cdv A outer s H vs Q E f hr h => ?_)
  · obtain ⟨p, dx, a, b, rfl, _⟩ := h
    rfl
  · obtain ⟨p, dx, a, b, rfl, hp, k⟩ := h
    refine ⟨_, pss_cons (ps_fld (pv 0) (pv 1) rfl) (pss_cons (ps_fld (pv 0) (pv 2) rfl) (pss_one (ps_fld (pv 0) (pe_lc (own := [("paper", 3)]) (g := gName 3) (tt := tYes) (te := tLst tNil) rfl scIM.nd (pi_range1 rfl c.range (pa_cons (pe_gc c.PAPERS) pa_nil))
      (blkOk_by (own := [("paper", 3)]) (N := ["self", "me", "machines", "paper"]) (sc := defScope sIM) (by decide +kernel)) (fun _ _ _ _ _ => pg_name (i := 3) scIM.nd rfl (Or.inl rfl)) (fun _ _ _ _ _ => pts_nil) (fun _ _ _ _ _ => pe_lst pa_nil)) rfl))), ?_⟩
    refine ⟨_, rfl, _, rfl, p, C, dx, [], rfl, hp, T.cl, T.na _ (by decide +kernel), (by decide), ?_⟩
    refine ⟨_, rfl, _, rfl, p, C, dx, _, rfl, upd_same, T.cl, T.na _ (by decide +kernel), (by show 1 < 1000; decide), ?_⟩
    rw [upd_upd]
    have e2 : putF ("machines" : Str) b (putF ("me" : Str) a []) = [(("me" : Str), a), (("machines" : Str), b)] := (put_past (by decide +kernel)).trans rfl
    rw [e2]
    generalize hH1 : upd H p (.ins C dx [(("me" : Str), a), (("machines" : Str), b)]) = H1
    have h1 : H1 p = some (.ins C dx [(("me" : Str), a), (("machines" : Str), b)]) := by
      rw [← hH1]
      exact upd_same
    have d1 : ∀ x, H1 x = none → H x = none := fun x hx => by
      rw [← hH1] at hx
      have ne : x ≠ p := fun z => by rw [z, upd_same] at hx; cases hx
      rw [upd_ne ne] at hx
      exact hx
    have k1 : ∀ b o, H b = some o → b ≠ p → H1 b = some o := fun b o e ne => by
      rw [← hH1, upd_ne ne]
      exact e
    refine ⟨64, rfl, by decide, by decide, fun D hD => lc_range (lo := 0) (n := 64) (fun i H' => Same H1 H' ∧ ∃ es : List Addr, es.length = i ∧ H' D = some (.lst (es.map V.ref)) ∧ ∀ e ∈ es, H1 e = none ∧ e ≠ D ∧ H' e = some (.lst [])) ⟨same_upd hD, [], rfl, upd_same, fun e h => by simp at h⟩ ?_ ?_⟩
    · rintro i H' hi ⟨s1, es, he, hD', hes⟩
      refine ⟨rfl, tyes ?_⟩
      refine ⟨Nat.zero_le _, fun q hq => ?_⟩
      have s2 := same_upd (o := .lst []) hq
      refine ⟨_, s2 _ _ hD', ?_, fun b o e => ?_, es ++ [q], by rw [List.length_append, he]; rfl, ?_, fun e hm => ?_⟩
      · rw [List.length_map, he]
        exact sz (by omega)
      · rw [upd_ne (ne_of_none e hD)]
        exact s2 _ _ (s1 _ _ e)
      · rw [upd_same, List.map_append]
        rfl
      · rcases List.mem_append.mp hm with z | z
        · obtain ⟨z1, z2, z3⟩ := hes e z
          refine ⟨z1, z2, ?_⟩
          rw [upd_ne z2]
          exact s2 _ _ z3
        · have eq : e = q := by simpa using z
          have nq : q ≠ D := (ne_of_none hD' hq).symm
          rw [eq]
          refine ⟨s1.free hq, nq, ?_⟩
          rw [upd_ne nq]
          exact upd_same
    · rintro H2 ⟨s1, es, he, hD', hes⟩
      refine ⟨_, rfl, p, C, dx, _, rfl, s1 _ _ h1, T.cl, T.na _ (by decide +kernel), (by show 2 < 1000; decide), ?_⟩
      have e3 : putF ("papers" : Str) (V.ref D) [(("me" : Str), a), (("machines" : Str), b)] = [(("me" : Str), a), (("machines" : Str), b), (("papers" : Str), V.ref D)] := (put_past (by decide +kernel)).trans (congrArg _ ((put_past (by decide +kernel)).trans rfl))
      rw [e3]
      have np : D ≠ p := (ne_of_none h1 hD).symm
      refine k _ D es (fun b' o e ne => ?_) upd_same (d1 D hD) ?_ he (fun e hm => ?_)
      · rw [upd_ne ne]
        exact s1 _ _ (k1 _ _ e ne)
      · rw [upd_ne np]
        exact hD'
      · obtain ⟨z1, z2, z3⟩ := hes e hm
        refine ⟨d1 e z1, ?_⟩
        rw [upd_ne (ne_of_none h1 z1).symm]
        exact z3

/-! ### machine_of, ask_paper -/
abbrev sMa : Stmt := top 37
def spMa (CM CR : Addr) : Sp := fun vs H Q E => ∃ (me n : Nat), vs = [.int (me : Int), .int (n : Int)] ∧ (Km353.okSize me n = false → Refu CR H (-22) E) ∧
  (Km353.okSize me n = true → ∀ (H' : Hp) (x dx pl : Addr) (es : List Addr), Same H H' → H x = none → H pl = none → H' x = some (.ins CM dx (mF (Km353.fresh me n) pl)) → H' pl = some (.lst (es.map V.ref)) → es.length = 64 → (∀ e ∈ es, H e = none ∧ H' e = some (.lst [])) → Q (.ref x) H')
theorem scMa : FnScope ["me", "machines"] ["me", "machines"] (defScope sMa) := ⟨rfl, rfl, rfl, by decide +kernel, rfl, by decide +kernel, by decide +kernel⟩
theorem ok_ma {CM CR fI : Addr} (F : Here K mg "machine_of" sMa ["me", "machines"]) (c : Cst mg) (T : RefC K mg CR fI) (Im : Mkr P w K mg base 1 "Machine" CM ["self", "me", "machines"] (spIM CM)) : DfX P w K mg base 3 "machine_of" ["me", "machines"] (spMa CM CR) := by
  refine F.dfX scMa (fun vs H Q E h => ?_) (fun cdv A outer s H vs Q E f hr h => ?_)
  · obtain ⟨me, n, rfl, _⟩ := h
    rfl
  · obtain ⟨me, n, rfl, kE, kQ⟩ := h
    refine ⟨_, pss_cons (ps_if (PW.pt (pw_or (pt_cmpR op_lt (pv 1) (pe_gc c.LEAST) (nomark _)) (pw_or (pt_cmpR op_gt (pv 1) (pe_gc c.MACHINES) (nomark _)) (pw_or1 (pt_cmpR op_ge (pv 0) (pv 1) (nomark _))))))
        (pss_one (ps_ref rfl (takes_of rfl rfl rfl rfl) T hr (by decide) (pe_gc c.OUT))) pss_nil)
      (pss_one (ps_ret (pe_mkr Im hr (by decide) rfl (pa_cons (pv 0) (pa_cons (pv 1) pa_nil))))), ?_⟩
    have okf : ∀ (h : ¬ (2 ≤ n ∧ n ≤ 16 ∧ me < n)), Km353.okSize me n = false := fun h => by
      cases e : Km353.okSize me n with
      | false => rfl
      | true =>
        unfold Km353.okSize at e
        simp only [Bool.and_eq_true, decide_eq_true_eq] at e
        exact absurd e h
    refine ⟨_, rfl, _, _, rfl, rfl, _, rfl, ?_⟩
    by_cases c1 : 2 ≤ n
    · refine ite_f (decide_eq_false (by omega)) ?_
      refine ⟨_, rfl, _, _, rfl, rfl, _, rfl, ?_⟩
      by_cases c2 : n ≤ 16
      · refine ite_f (decide_eq_false (by omega)) ?_
        refine ⟨_, rfl, _, rfl, _, _, rfl, rfl, _, rfl, ?_⟩
        by_cases c3 : me < n
        · refine ite_f (decide_eq_false (by omega)) ?_
          have ok : Km353.okSize me n = true := by
            unfold Km353.okSize
            simp only [Bool.and_eq_true, decide_eq_true_eq]
            exact ⟨c1, c2, c3⟩
          refine ⟨_, rfl, _, rfl, fun x dx hx hdx hne => ⟨x, dx, _, _, rfl, upd_same, fun H' pl es k1 k2 k3 k4 k5 k6 => ⟨rfl, ?_⟩⟩⟩
          have s0 := same_made (o := .ins CM dx []) hx hdx
          refine kQ ok H' x dx pl es (fun b o e => k1 b o (s0 _ _ e) (ne_of_none e hx)) hx (s0.free k3) k2 k4 k5 fun e he => ⟨s0.free (k6 e he).1, (k6 e he).2⟩
        · refine ite_t (decide_eq_true (by omega)) ?_
          exact kE (okf fun z => c3 z.2.2)
      · refine ite_t (decide_eq_true (by omega)) (ite_t rfl ?_)
        exact kE (okf fun z => c2 z.2.1)
    · refine ite_t (decide_eq_true (by omega)) (ite_t rfl ?_)
      exact kE (okf fun z => c1 z.1)
abbrev sAp : Stmt := top 38
def spAp (CR : Addr) : Sp := fun vs H Q E => ∃ k : Nat, vs = [.int (k : Int)] ∧ (64 ≤ k → Refu CR H (-22) E) ∧ (k < 64 → Q .non H)
theorem scAp : FnScope ["paper"] ["paper"] (defScope sAp) := ⟨rfl, rfl, rfl, by decide +kernel, rfl, by decide +kernel, by decide +kernel⟩
theorem ok_ap {CR fI : Addr} (F : Here K mg "ask_paper" sAp ["paper"]) (c : Cst mg) (T : RefC K mg CR fI) : DfX P w K mg base 3 "ask_paper" ["paper"] (spAp CR) := by
  refine F.dfX scAp (fun vs H Q E h => ?_) (fun cdv A outer s H vs Q E f hr h => ?_)
  · obtain ⟨k, rfl, _⟩ := h
    rfl
  · obtain ⟨k, rfl, kE, kQ⟩ := h
    refine ⟨_, pss_one (ps_if (pt_cmpR op_ge (pv 0) (pe_gc c.PAPERS) (nomark _)) (pss_one (ps_ref rfl (takes_of rfl rfl rfl rfl) T hr (by decide) (pe_gc c.OUT))) pss_nil), ?_⟩
    refine ⟨_, rfl, _, _, rfl, rfl, _, rfl, ?_⟩
    by_cases h : k < 64
    · exact ite_f (decide_eq_false (by omega)) (kQ h)
    · exact ite_t (decide_eq_true (by omega)) (kE (by omega))
end
end PR
namespace PR
open PySem PySem.Spec PyProof.Rows L2
section
variable {P : Program} {w : World} {K : PySem.W.Frag} {mg : Str → Option Value} {base : Heap}
theorem ixN_nat {n j : Nat} (h : j < n) : ixN n (j : Int) = some j := by
  unfold ixN
  rw [if_pos (by omega), if_pos (by omega)]
  simp
theorem paper_get {es : List Addr} {i : Nat} (h : i < es.length) : es[i]? = some es[i] := List.getElem?_eq_getElem h
theorem paper_set {m : Km353.Machine} {k i : Nat} {p : List Km353.Version} (hk : k < m.papers.length) : ({ m with papers := m.papers.set k p } : Km353.Machine).paper i = if i = k then p else m.paper i := by
  unfold Km353.Machine.paper
  show (m.papers.set k p).getD i [] = _
  rw [List.getD_eq_getElem?_getD, List.getElem?_set]
  by_cases e : k = i
  · rw [if_pos e, if_pos (by omega), if_pos e.symm]
    rfl
  · rw [if_neg e, if_neg (fun z => e z.symm), List.getD_eq_getElem?_getD]
/-- a paper replaced -/
theorem Post.set {CM C a pl e : Addr} {H H2 I : Hp} {m : Km353.Machine} {k : Nat} {es : List Addr} {p : List Km353.Version} {dx : Addr} (M : MOk m) (hk : k < 64) (s : Same H H2) (hI : Same I H) (hIp : I pl = none) (ho : H a = some (.ins CM dx (mF m pl))) (hl : H pl = some (.lst (es.map V.ref))) (hn : es.length = 64)
    (hp : ∀ (i : Nat) (e : Addr), es[i]? = some e → PapAt C I e (m.paper i)) (he : ∀ Im', Same I Im' → Same (nw H H2) Im' → PapAt C Im' e p) :
    Post CM C H I a pl { m with papers := m.papers.set k p } (upd H2 pl (.lst ((es.map V.ref).set k (.ref e)))) := by
  have na : a ≠ pl := ne_of ho hl (by intro z; cases z)
  refine ⟨fun b o e' ne => by rw [upd_ne ne]; exact s _ _ e', fun Im' t1 t2 => ⟨⟨dx, ?_⟩, ⟨es.set k e, ?_, by rw [List.length_set]; exact hn, fun i e' hi => ?_⟩⟩⟩
  · rw [upd_ne na]
    exact s _ _ ho
  · rw [upd_same, List.map_set]
  · rw [paper_set (by rw [M.len]; exact hk)]
    rw [List.getElem?_set] at hi
    by_cases ei : k = i
    · rw [if_pos ei, if_pos (by omega)] at hi
      rw [if_pos ei.symm]
      have : e = e' := Option.some.inj hi
      rw [← this]
      refine he Im' t1 fun b o q => t2 b o ?_
      obtain ⟨q1, q2⟩ := nw_get q
      refine nw_of q1 ?_
      rw [upd_ne (fun z => by rw [z, hl] at q1; cases q1)]
      exact q2
    · rw [if_neg ei] at hi
      rw [if_neg fun z => ei z.symm]
      exact (hp i e' hi).mono t1

/-! ### write -/
abbrev sWr : Stmt := top 39
/-- a call of a machine: by what is due -/
def Due (CM CR C : Addr) (H Im : Hp) (a pl : Addr) (m : Km353.Machine) (c : Km353.Call) (Q : Hp → Prop) (E : XK) : Prop :=
  ((Km353.act m c).2.value < 0 → Refu CR H (Km353.act m c).2.value E) ∧ (0 ≤ (Km353.act m c).2.value → ∀ H', Post CM C H Im a pl (Km353.act m c).1 H' → Q H')
def spWr (CM CR C : Addr) : Sp := fun vs H Q E => ∃ (a pl : Addr) (Im : Hp) (m : Km353.Machine) (k x : Nat), vs = [.ref a, .int (k : Int), .int (x : Int)] ∧ Same Im H ∧ Im pl = none ∧ MachAt CM C H Im a pl m ∧ MOk m ∧
  Due CM CR C H Im a pl m (.write k x) (fun H' => Q .non H') E
theorem scWr : FnScope ["machine", "paper", "number", "version"] ["machine", "paper", "number"] (defScope sWr) := ⟨rfl, rfl, rfl, by decide +kernel, rfl, by decide +kernel, by decide +kernel⟩
theorem act_write_22 {m : Km353.Machine} {k x : Nat} (h : 64 ≤ k) : Km353.act m (.write k x) = (m, Km353.only (-22)) := if_pos h
theorem act_write_28 {m : Km353.Machine} {k x : Nat} (h : k < 64) (h2 : Km353.COUNT ≤ Km353.at_ (Km353.known (m.paper k)) m.me + 1) : Km353.act m (.write k x) = (m, Km353.only (-28)) := (if_neg (by show ¬ 64 ≤ k; omega)).trans (if_pos h2)
theorem act_write {m : Km353.Machine} {k x : Nat} (h : k < 64) (h2 : ¬ Km353.COUNT ≤ Km353.at_ (Km353.known (m.paper k)) m.me + 1) : Km353.act m (.write k x) = ({ m with papers := m.papers.set k [Km353.write m.me x (m.paper k)] }, Km353.only 0) := (if_neg (by show ¬ 64 ≤ k; omega)).trans (if_neg h2)
theorem ok_wr {CM CR C fI : Addr} (F : Here K mg "write" sWr ["machine", "paper", "number"]) (c : Cst mg) (T : RefC K mg CR fI) (TM : Cl K CM fM) (TV : Cl K C fV) (Ap : DfX P w K mg base 3 "ask_paper" ["paper"] (spAp CR)) (Wo : Df P w K mg base 3 "written_on" ["versions", "me", "number"] (spWo C)) :
    DfX P w K mg base 4 "write" ["machine", "paper", "number"] (spWr CM CR C) := by
  refine F.dfX scWr (fun vs H Q E h => ?_) (fun cdv A outer s H vs Q E f hr h => ?_)
  · obtain ⟨a, pl, Im, m, k, x, rfl, _⟩ := h
    rfl
  · obtain ⟨a, pl, Im, m, k, x, rfl, hI, hIp, ⟨⟨dx, ho⟩, ⟨es, hl, hn, hp⟩⟩, M, dE, dQ⟩ := h
    refine ⟨_, pss_cons (ps_expr (pe_dfX Ap hr (by decide) rfl (passes_call (takes_of rfl rfl rfl rfl) (fun _ _ _ _ z => z)) (pa_cons (pv 1) pa_nil)))
      (pss_cons (ps_set (i := 3) scWr.nd rfl (Or.inl rfl) (pe_df Wo hr (by decide) rfl (pa_cons (pe_ix ix_list (pe_fld (pv 0) rfl) (pv 1) (fun _ _ => rfl)) (pa_cons (pe_fld (pv 0) rfl) (pa_cons (pv 2) pa_nil)))))
      (pss_cons (ps_if (pt_cmpR op_eq (pe_ix ix_list (pe_fld (pv 3) rfl) (pe_fld (pv 0) rfl) (fun _ _ => rfl)) (pe_gc c.CEND) (nomark _)) (pss_one (ps_ref rfl (takes_of rfl rfl rfl rfl) T hr (by decide) (pe_gc c.ROOM))) pss_nil)
      (pss_one (ps_asg (pe_lst (pa_cons (pv 3) pa_nil)) (pg_sub (pe_fld (pv 0) rfl) (pv 1) set_list))))), ?_⟩
    refine ⟨_, rfl, k, rfl, fun hk => ?_, fun hk => ?_⟩
    · rw [act_write_22 hk] at dE
      exact dE (by show (-22 : Int) < 0; decide)
    · have hk' : k < es.length := by omega
      have hme : m.me < 16 := Nat.lt_of_lt_of_le M.me M.hi
      obtain ⟨ps, hp1, hp2, hp3⟩ := hp k _ (paper_get hk')
      refine ⟨_, rfl, a, CM, dx, _, _, rfl, ho, TM.cl, TM.na _ (by decide +kernel), mF_pa _ _, _, rfl, pl, _, _, _, rfl, rfl, SqL.of hl, atI_nat (by rw [List.getElem?_map, paper_get hk']; rfl), _, rfl, a, CM, dx, _, _, rfl, ho, TM.cl, TM.na _ (by decide +kernel), mF_me _ _, _, rfl,
        _, ps, m.me, x, rfl, hI _ _ hp1, hp2.mono hI, hme, fun H2 v s2 hv => ?_⟩
      rw [hp3] at hv
      obtain ⟨⟨dv, cv, hva, hvc⟩, lv⟩ := hv
      have hcnt : (Km353.write m.me x (m.paper k)).counts[m.me]? = some (Km353.at_ (Km353.known (m.paper k)) m.me + 1) := by
        show ((Km353.known (m.paper k)).set m.me _)[m.me]? = _
        exact List.getElem?_set_self (by rw [known_len]; exact hme)
      refine ⟨_, rfl, v, C, dv, _, _, rfl, nw_same _ _ hva, TV.cl, TV.na _ (by decide +kernel), vF_c _ _, _, rfl, a, CM, dx, _, _, rfl, s2 _ _ ho, TM.cl, TM.na _ (by decide +kernel), mF_me _ _, cv, _, _, _, rfl, rfl, SqL.of (nw_same _ _ hvc), atI_nat (nV_at hcnt), rfl, _, rfl, ?_⟩
      have lt := at_lt (known_lt (M.paper hk)) (by decide) m.me
      by_cases full : Km353.COUNT ≤ Km353.at_ (Km353.known (m.paper k)) m.me + 1
      · have e : Km353.at_ (Km353.known (m.paper k)) m.me + 1 = 4294967296 := by
          have : (4294967296 : Nat) ≤ Km353.at_ (Km353.known (m.paper k)) m.me + 1 := full
          omega
        refine ite_t (decide_eq_true (by rw [e]; rfl)) ?_
        rw [act_write_28 hk full] at dE
        exact (dE (by show (-28 : Int) < 0; decide)).mono s2
      · refine ite_f (decide_eq_false fun z => full (by have z := V.int.inj z; show (4294967296 : Nat) ≤ _; omega)) ?_
        refine ⟨_, rfl, (by show 1 ≤ sizeLine; decide), fun q hq => ?_⟩
        have s3 := s2.trans (same_upd (o := .lst [.ref v]) hq)
        refine ⟨_, rfl, a, CM, dx, _, _, rfl, s3 _ _ ho, TM.cl, TM.na _ (by decide +kernel), mF_pa _ _, _, rfl, pl, _, _, k, rfl, rfl, s3 _ _ hl, ixN_nat (by rw [List.length_map]; exact hk'), ?_⟩
        rw [act_write hk full] at dQ
        refine dQ (by show (0 : Int) ≤ 0; decide) _ (Post.set M hk s3 hI hIp ho hl hn hp fun Im' t1 t2 => ?_)
        refine ⟨[(v, Km353.write m.me x (m.paper k))], t2 _ _ (nw_of (s2.free hq) upd_same), fun r hr' => ?_, rfl⟩
        have er : r = (v, Km353.write m.me x (m.paper k)) := by simpa using hr'
        rw [er]
        have q1 := nw_mono (H := H) (same_upd (o := .lst [.ref v]) hq)
        exact ⟨⟨dv, cv, t2 _ _ (q1 _ _ hva), t2 _ _ (q1 _ _ hvc)⟩, lv⟩

/-! ### read -/
abbrev sRe : Stmt := top 40
def spRe (CM CR C : Addr) : Sp := fun vs H Q E => ∃ (a pl : Addr) (Im : Hp) (m : Km353.Machine) (k : Nat), vs = [.ref a, .int (k : Int)] ∧ Same Im H ∧ MachAt CM C H Im a pl m ∧ MOk m ∧
  (64 ≤ k → Refu CR H (-22) E) ∧ (k < 64 → ∀ (H' : Hp) (p : Addr), Same H H' → H p = none → H' p = some (.lst (nV ((m.paper k).length :: ((m.paper k).map Km353.Version.value ++ List.replicate 4 0).take 4))) → Q (.ref p) H')
theorem scRe : FnScope ["machine", "paper", "numbers", "version"] ["machine", "paper"] (defScope sRe) := ⟨rfl, rfl, rfl, by decide +kernel, rfl, by decide +kernel, by decide +kernel⟩
theorem four {l : List Nat} (h : l.length ≤ 4) : (l ++ List.replicate 4 0).take 4 = l ++ List.replicate (4 - l.length) 0 := by
  rw [List.take_append, List.take_of_length_le h, List.take_replicate]
  congr 2
  omega
theorem ok_re {CM CR C : Addr} (F : Here K mg "read" sRe ["machine", "paper"]) (c : Cst mg) (TM : Cl K CM fM) (TV : Cl K C fV) (Ap : DfX P w K mg base 3 "ask_paper" ["paper"] (spAp CR)) : DfX P w K mg base 4 "read" ["machine", "paper"] (spRe CM CR C) := by
  refine F.dfX scRe (fun vs H Q E h => ?_) (fun cdv A outer s H vs Q E f hr h => ?_)
  · obtain ⟨a, pl, Im, m, k, rfl, _⟩ := h
    rfl
  · obtain ⟨a, pl, Im, m, k, rfl, hI, ⟨⟨dx, ho⟩, ⟨es, hl, hn, hp⟩⟩, M, dE, dQ⟩ := h
    refine ⟨_, pss_cons (ps_expr (pe_dfX Ap hr (by decide) rfl (passes_call (takes_of rfl rfl rfl rfl) (fun _ _ _ _ z => z)) (pa_cons (pv 1) pa_nil)))
      (pss_cons (ps_setLc (i := 2) (own := [("version", 3)]) (g := gName 3) (tt := tYes) (te := tFld K (tVar 3) "number") rfl scRe.nd rfl rfl (sw_true rfl rfl rfl (by decide +kernel)) (pi_list (pe_ix ix_list (pe_fld (pv 0) rfl) (pv 1) (fun _ _ => rfl)))
        (blkOk_by (own := [("version", 3)]) (N := ["machine", "paper", "numbers", "version"]) (sc := defScope sRe) (by decide +kernel)) (fun _ _ _ _ _ => pg_name (i := 3) scRe.nd rfl (Or.inl rfl)) (fun _ _ _ _ _ => pts_nil) (fun _ _ _ _ _ => pe_fld (pv 3) rfl))
      (pss_one (ps_ret (pe_op op_cat (pe_op op_cat (pe_lst (pa_cons (pe_callB call_len_seq (by rfl) c.len PySem.boot_len (pa_cons (pv 2) pa_nil)) pa_nil)) (pv 2)) (pe_op op_rep (pe_lst (pa_cons pe_int pa_nil)) (pe_op op_sub (pe_gc c.MOST) (pe_callB call_len_seq (by rfl) c.len PySem.boot_len (pa_cons (pv 2) pa_nil)))))))), ?_⟩
    refine ⟨_, rfl, k, rfl, fun hk => dE hk, fun hk => ?_⟩
    have hk' : k < es.length := by omega
    obtain ⟨ps, hp1, hp2, hp3⟩ := hp k _ (paper_get hk')
    have hlen : ps.length ≤ 4 := by
      rw [← ver_len, hp3]
      exact (M.paper hk).len
    refine ⟨_, rfl, a, CM, dx, _, _, rfl, ho, TM.cl, TM.na _ (by decide +kernel), mF_pa _ _, _, rfl, pl, _, _, _, rfl, rfl, SqL.of hl, atI_nat (by rw [List.getElem?_map, paper_get hk']; rfl), _, rfl, ⟨_, SqL.of (hI _ _ hp1)⟩,
      fun D hD => lc_list (K := K) (a := es[k]) (xs := rf ps) (fun i H' => Same H H' ∧ H' D = some (.lst (nV ((ver (ps.take i)).map Km353.Version.value)))) ⟨same_upd hD, upd_same⟩ (fun i H' _ z => SqL.of (z.1 _ _ (hI _ _ hp1))) ?_ ?_⟩
    · rintro i y H' hy ⟨s1, hD'⟩
      obtain ⟨q, hq, rfl⟩ := rf_get hy
      obtain ⟨⟨dq, cq, hqa, hqc⟩, lq⟩ := (hp2.get hq).mono (hI.trans s1)
      refine ⟨rfl, tyes ?_⟩
      refine ⟨_, rfl, q.1, C, dq, _, _, rfl, hqa, TV.cl, TV.na _ (by decide +kernel), vF_n _ _, _, hD', ?_, fun b o e => ?_, ?_⟩
      · rw [nV_len, List.length_map, ver_len, List.length_take]
        exact sz (by omega)
      · rw [upd_ne (ne_of_none e hD)]
        exact s1 _ _ e
      · rw [upd_same, take_more hq, ver_app, List.map_append, nV_app]
        rfl
    · rintro H1 ⟨s1, hD1⟩
      rw [rf_len, List.take_length, hp3] at hD1
      have hl2 : ((m.paper k).map Km353.Version.value).length ≤ 4 := by
        rw [List.length_map, ← hp3, ver_len]
        exact hlen
      refine ⟨_, rfl, D, _, rfl, .inl (SqL.of hD1), (by show 1 ≤ sizeLine; decide), fun p1 hq1 => ?_⟩
      have s2 : Same H1 (upd H1 p1 (.lst [.int ((nV ((m.paper k).map Km353.Version.value)).length : Int)])) := same_upd hq1
      refine ⟨_, rfl, p1, D, _, _, rfl, rfl, upd_same, s2 _ _ hD1, ?_, fun p2 hq2 => ?_⟩
      · rw [nV_len]
        exact sz' (by simp; simp at hl2; omega)
      have s3 := s2.trans (same_upd (o := .lst ([.int ((nV ((m.paper k).map Km353.Version.value)).length : Int)] ++ nV ((m.paper k).map Km353.Version.value))) hq2)
      refine ⟨(by show 1 ≤ sizeLine; decide), fun p3 hq3 => ?_⟩
      have s4 := s3.trans (same_upd (o := .lst [.int 0]) hq3)
      refine ⟨_, rfl, D, _, rfl, .inl (SqL.of (s4 _ _ hD1)), _, _, rfl, rfl, p3, _, _, rfl, rfl, upd_same, ?_, ?_, ?_, fun p4 hq4 => ?_⟩
      · rw [nV_len]
        omega
      · rw [nV_len]
        omega
      · rw [nV_len]
        exact sz' (by simp; omega)
      · have e4 : (4 - ((nV ((m.paper k).map Km353.Version.value)).length : Int)).toNat = 4 - ((m.paper k).map Km353.Version.value).length := by
          rw [nV_len]
          omega
        rw [e4, rep_nV]
        have s5 := s4.trans (same_upd (o := .lst (nV (List.replicate (4 - ((m.paper k).map Km353.Version.value).length) 0))) hq4)
        have h2 : upd (upd (upd (upd H1 p1 (.lst [.int ((nV ((m.paper k).map Km353.Version.value)).length : Int)])) p2 (.lst ([.int ((nV ((m.paper k).map Km353.Version.value)).length : Int)] ++ nV ((m.paper k).map Km353.Version.value)))) p3 (.lst [.int 0])) p4 (.lst (nV (List.replicate (4 - ((m.paper k).map Km353.Version.value).length) 0))) p2 = some (.lst ([.int ((nV ((m.paper k).map Km353.Version.value)).length : Int)] ++ nV ((m.paper k).map Km353.Version.value))) := (same_upd hq4) _ _ ((same_upd hq3) _ _ upd_same)
        refine ⟨p2, p4, _, _, rfl, rfl, h2, upd_same, ?_, fun p5 hq5 => ?_⟩
        · rw [List.length_append, nV_len, nV_len, List.length_replicate]
          exact sz' (by simp; simp at hl2; omega)
        · refine dQ hk _ p5 ((s1.trans s5).trans (same_upd hq5)) ((s1.trans s5).free hq5) ?_
          rw [upd_same, four hl2, nV_len, List.length_map]
          show some (HO.lst (([V.int ((m.paper k).length : Int)] ++ nV ((m.paper k).map Km353.Version.value)) ++ nV (List.replicate (4 - (m.paper k).length) 0))) = some (HO.lst (V.int ((m.paper k).length : Int) :: nV ((m.paper k).map Km353.Version.value ++ List.replicate (4 - (m.paper k).length) 0)))
          rw [nV_app]
          rfl

/-! ### say -/
abbrev sSa : Stmt := top 41
def spSa (CM CR C : Addr) : Sp := fun vs H Q E => ∃ (a pl : Addr) (Im : Hp) (m : Km353.Machine) (k : Nat), vs = [.ref a, .int (k : Int)] ∧ Same Im H ∧ MachAt CM C H Im a pl m ∧ MOk m ∧
  (64 ≤ k → Refu CR H (-22) E) ∧ (k < 64 → ∀ (H' : Hp) (p : Addr), Same H H' → H p = none → H' p = some (.lst (nV (⟨m.me, k, m.paper k⟩ : Km353.Message).bytes)) → Q (.ref p) H')
theorem scSa : FnScope ["machine", "paper"] ["machine", "paper"] (defScope sSa) := ⟨rfl, rfl, rfl, by decide +kernel, rfl, by decide +kernel, by decide +kernel⟩
theorem ok_sa {CM CR C : Addr} (F : Here K mg "say" sSa ["machine", "paper"]) (TM : Cl K CM fM) (Ap : DfX P w K mg base 3 "ask_paper" ["paper"] (spAp CR)) (Mo : Df P w K mg base 3 "message_of" ["who", "paper", "versions"] (spMo C)) : DfX P w K mg base 4 "say" ["machine", "paper"] (spSa CM CR C) := by
  refine F.dfX scSa (fun vs H Q E h => ?_) (fun cdv A outer s H vs Q E f hr h => ?_)
  · obtain ⟨a, pl, Im, m, k, rfl, _⟩ := h
    rfl
  · obtain ⟨a, pl, Im, m, k, rfl, hI, ⟨⟨dx, ho⟩, ⟨es, hl, hn, hp⟩⟩, M, dE, dQ⟩ := h
    refine ⟨_, pss_cons (ps_expr (pe_dfX Ap hr (by decide) rfl (passes_call (takes_of rfl rfl rfl rfl) (fun _ _ _ _ z => z)) (pa_cons (pv 1) pa_nil)))
      (pss_one (ps_ret (pe_df Mo hr (by decide) rfl (pa_cons (pe_fld (pv 0) rfl) (pa_cons (pv 1) (pa_cons (pe_ix ix_list (pe_fld (pv 0) rfl) (pv 1) (fun _ _ => rfl)) pa_nil)))))), ?_⟩
    refine ⟨_, rfl, k, rfl, fun hk => dE hk, fun hk => ?_⟩
    have hk' : k < es.length := by omega
    obtain ⟨ps, hp1, hp2, hp3⟩ := hp k _ (paper_get hk')
    have hme : m.me < 16 := Nat.lt_of_lt_of_le M.me M.hi
    refine ⟨_, rfl, a, CM, dx, _, _, rfl, ho, TM.cl, TM.na _ (by decide +kernel), mF_me _ _, _, rfl, _, rfl, a, CM, dx, _, _, rfl, ho, TM.cl, TM.na _ (by decide +kernel), mF_pa _ _, _, rfl, pl, _, _, _, rfl, rfl, SqL.of hl, atI_nat (by rw [List.getElem?_map, paper_get hk']; rfl),
      m.me, k, _, ps, rfl, hI _ _ hp1, hp2.mono hI, ?_, by omega, by omega, fun p hp' => ?_, fun H' q s1 hq hq' => ?_⟩
    · rw [← ver_len, hp3]
      exact (M.paper hk).len
    · have : p.2 ∈ m.paper k := by
        rw [← hp3]
        exact List.mem_map.mpr ⟨p, hp', rfl⟩
      have := ((M.paper hk).ver _ this).1
      omega
    · rw [hp3] at hq'
      exact dQ hk H' q s1 hq hq'
end
end PR
namespace PR
open PySem PySem.Spec PyProof.Rows L2
section
variable {P : Program} {w : World} {K : PySem.W.Frag} {mg : Str → Option Value} {base : Heap}
theorem tF_w (m : Km353.Message) (c : Addr) : (tF m c).lookup ("who" : Str) = some (.int (m.from_ : Int)) := lkh
theorem tF_p (m : Km353.Message) (c : Addr) : (tF m c).lookup ("paper" : Str) = some (.int (m.paper : Int)) := lk2 (by decide +kernel)
theorem tF_v (m : Km353.Message) (c : Addr) : (tF m c).lookup ("versions" : Str) = some (.ref c) := lk3 (by decide +kernel) (by decide +kernel)
/-! ### ask_told -/
abbrev sAt : Stmt := top 42
def Bad (m : Km353.Machine) (t : Km353.Message) : Prop := m.machines ≤ t.from_ ∨ (t.versions.any fun v => decide (m.machines ≤ v.writer)) = true ∨ Km353.clash (m.paper t.paper) t.versions = true
def spAt (CM CT CR C : Addr) : Sp := fun vs H Q E => ∃ (a pl : Addr) (Im : Hp) (m : Km353.Machine) (v : V), vs = [.ref a, v] ∧ Same Im H ∧ MachAt CM C H Im a pl m ∧ MOk m ∧
  ((v = .non ∧ Refu CR H (-71) E) ∨ ∃ (x : Addr) (t : Km353.Message) (IT : Hp), v = .ref x ∧ Same IT H ∧ ToldAt CT C H IT x t ∧ t.paper < 64 ∧ t.versions.length ≤ 4 ∧ (Bad m t → Refu CR H (-71) E) ∧ (¬ Bad m t → ∀ H', Same H H' → Q .non H'))
theorem scAt : FnScope ["machine", "told", "version"] ["machine", "told"] (defScope sAt) := ⟨rfl, rfl, rfl, by decide +kernel, rfl, by decide +kernel, by decide +kernel⟩
theorem any_empty (ps : Vs) (n : Nat) : (rf (ps.filter fun p => decide (n ≤ p.2.writer))).isEmpty = !((ver ps).any fun v => decide (n ≤ v.writer)) := by
  unfold rf ver
  rw [List.any_map]
  induction ps with
  | nil => rfl
  | cons p ps ih =>
    rw [List.any_cons]
    by_cases c : n ≤ p.2.writer
    · simp [c]
    · rw [List.filter_cons_of_neg (by simpa using c), ih]
      simp [c]
theorem ok_at {CM CT CR C fI : Addr} (F : Here K mg "ask_told" sAt ["machine", "told"]) (c : Cst mg) (T : RefC K mg CR fI) (TM : Cl K CM fM) (TV : Cl K C fV) (TT : Cl K CT fT) (Ch : Df P w K mg base 2 "clash" ["there", "told"] (spCh C)) :
    DfX P w K mg base 3 "ask_told" ["machine", "told"] (spAt CM CT CR C) := by
  refine F.dfX scAt (fun vs H Q E h => ?_) (fun cdv A outer s H vs Q E f hr h => ?_)
  · obtain ⟨a, pl, Im, m, v, rfl, _⟩ := h
    rfl
  · obtain ⟨a, pl, Im, m, v, rfl, hI, ⟨⟨dx, ho⟩, ⟨es, hl, hn, hp⟩⟩, M, hv⟩ := h
    refine ⟨_, pss_cons (ps_if (PW.pt (pw_or (pt_cmpR op_isN (pv 1) pe_non (nomark _)) (pw_or1 (pt_cmpR op_ge (pe_fld (pv 1) rfl) (pe_fld (pv 0) rfl) (nomark _))))) (pss_one (ps_ref rfl (takes_of rfl rfl rfl rfl) T hr (by decide) (pe_gc c.RIGHT))) pss_nil)
      (pss_cons (ps_if (pt_cmpR (op_neE hr.units) (pe_lc (own := [("version", 2)]) (g := gName 2) (tt := tTest (tOp (rI0 fun i j => .bl (decide (j ≤ i))) (tFld K (tVar 2) "writer") (tFld K (tVar 0) "machines"))) (te := tVar 2) rfl scAt.nd (pi_list (pe_fld (pv 1) rfl))
        (blkOk_by (own := [("version", 2)]) (N := ["machine", "told", "version"]) (sc := defScope sAt) (by decide +kernel)) (fun _ _ _ _ _ => pg_name (i := 2) scAt.nd rfl (Or.inl rfl)) (fun _ _ _ _ _ => pts_one (pt_cmpR op_ge (pe_fld (pv 2) rfl) (pe_fld (pv 0) rfl) (nomark _))) (fun _ _ _ _ _ => pv 2)) (pe_lst pa_nil) (nomark _))
        (pss_one (ps_ref rfl (takes_of rfl rfl rfl rfl) T hr (by decide) (pe_gc c.RIGHT))) pss_nil)
      (pss_one (ps_if (pt_val (pe_df Ch hr (by decide) rfl (pa_cons (pe_ix ix_list (pe_fld (pv 0) rfl) (pe_fld (pv 1) rfl) (fun _ _ => rfl)) (pa_cons (pe_fld (pv 1) rfl) pa_nil)))) (pss_one (ps_ref rfl (takes_of rfl rfl rfl rfl) T hr (by decide) (pe_gc c.RIGHT))) pss_nil))), ?_⟩
    refine ⟨_, rfl, rfl, _, rfl, ?_⟩
    rcases hv with ⟨rfl, kE⟩ | ⟨x, t, IT, rfl, hT, ⟨⟨dt, vl, qs, ht1, ht2, ht3, ht4⟩⟩, hpap, hlen, kE, kQ⟩
    · exact ite_t rfl (ite_t rfl kE)
    · refine ite_f rfl ?_
      have hql : qs.length ≤ 4 := by
        rw [← ver_len, ht4]
        exact hlen
      refine ⟨_, rfl, x, CT, dt, _, _, rfl, ht1, TT.cl, TT.na _ (by decide +kernel), tF_w _ _, _, rfl, a, CM, dx, _, _, rfl, ho, TM.cl, TM.na _ (by decide +kernel), mF_ma _ _, _, _, rfl, rfl, _, rfl, ?_⟩
      by_cases b1 : m.machines ≤ t.from_
      · exact ite_t (decide_eq_true (by omega)) (kE (.inl b1))
      · refine ite_f (decide_eq_false (by omega)) ?_
        refine ⟨_, rfl, x, CT, dt, _, _, rfl, ht1, TT.cl, TT.na _ (by decide +kernel), tF_v _ _, vl, rfl, ⟨_, SqL.of ht2⟩, fun D hD => lc_list (K := K) (a := vl) (xs := rf qs) (fun i H' => Same H H' ∧ H' D = some (.lst (rf ((qs.take i).filter fun p => decide (m.machines ≤ p.2.writer))))) ⟨same_upd hD, upd_same⟩ (fun i H' _ z => SqL.of (z.1 _ _ ht2)) ?_ ?_⟩
        · rintro i y H' hy ⟨s1, hD'⟩
          obtain ⟨q, hq, rfl⟩ := rf_get hy
          obtain ⟨⟨dq, cq, hqa, hqc⟩, lq⟩ := (ht3.get hq).mono (hT.trans s1)
          refine ⟨rfl, _, rfl, q.1, C, dq, _, _, rfl, hqa, TV.cl, TV.na _ (by decide +kernel), vF_w _ _, _, rfl, a, CM, dx, _, _, rfl, s1 _ _ ho, TM.cl, TM.na _ (by decide +kernel), mF_ma _ _, _, _, rfl, rfl, _, rfl, ?_⟩
          by_cases z : m.machines ≤ q.2.writer
          · refine ite_t (decide_eq_true (by omega)) ⟨_, rfl, _, hD', ?_, fun b o e => ?_, ?_⟩
            · rw [rf_len]
              exact sz (Nat.le_trans (filt_le _ _ _) (by omega))
            · rw [upd_ne (ne_of_none e hD)]
              exact s1 _ _ e
            · rw [upd_same, filt_t (f := fun p : Addr × Km353.Version => decide (m.machines ≤ p.2.writer)) hq (decide_eq_true z), rf_app]
              rfl
          · refine ite_f (decide_eq_false (by omega)) ⟨s1, ?_⟩
            rw [filt_f (f := fun p : Addr × Km353.Version => decide (m.machines ≤ p.2.writer)) hq (decide_eq_false z)]
            exact hD'
        · rintro H1 ⟨s1, hD1⟩
          rw [rf_len, List.take_length] at hD1
          refine ⟨Nat.zero_le _, fun p1 hp1 => ⟨D, p1, _, rfl, rfl, SqL.of ((same_upd hp1) _ _ hD1), SqL.of upd_same, _, rfl, ?_⟩⟩
          have s2 : Same H (upd H1 p1 (.lst [])) := s1.trans (same_upd hp1)
          generalize upd H1 p1 (.lst []) = H2 at s2
          have e2 : (!(rf (qs.filter fun p => decide (m.machines ≤ p.2.writer))).isEmpty) = (t.versions.any fun v => decide (m.machines ≤ v.writer)) := by
            rw [any_empty, ht4, Bool.not_not]
          rw [e2]
          cases b2 : (t.versions.any fun v => decide (m.machines ≤ v.writer)) with
          | true => exact ite_t rfl ((kE (.inr (.inl b2))).mono s2)
          | false =>
            refine ite_f rfl ?_
            have hk' : t.paper < es.length := by omega
            obtain ⟨ps, hp1, hp2, hp3⟩ := hp t.paper _ (paper_get hk')
            refine ⟨_, rfl, a, CM, dx, _, _, rfl, s2 _ _ ho, TM.cl, TM.na _ (by decide +kernel), mF_pa _ _, _, rfl, x, CT, dt, _, _, rfl, s2 _ _ ht1, TT.cl, TT.na _ (by decide +kernel), tF_p _ _, pl, _, _, _, rfl, rfl, SqL.of (s2 _ _ hl), atI_nat (by rw [List.getElem?_map, paper_get hk']; rfl),
              _, rfl, x, CT, dt, _, _, rfl, s2 _ _ ht1, TT.cl, TT.na _ (by decide +kernel), tF_v _ _, _, vl, ps, qs, rfl, s2 _ _ (hI _ _ hp1), s2 _ _ ht2, hp2.mono (hI.trans s2), ht3.mono (hT.trans s2), _, rfl, ?_⟩
            rw [hp3, ht4]
            cases b3 : Km353.clash (m.paper t.paper) t.versions with
            | true => exact ite_t rfl ((kE (.inr (.inr b3))).mono s2)
            | false =>
              refine ite_f rfl (kQ (fun z => ?_) _ s2)
              rcases z with z | z | z
              · exact b1 z
              · rw [b2] at z
                cases z
              · rw [b3] at z
                cases z

/-! ### hear -/
abbrev sHe : Stmt := top 43
def spHe (CM CR C : Addr) : Sp := fun vs H Q E => ∃ (a pl l : Addr) (Im : Hp) (m : Km353.Machine) (bs : List Nat), vs = [.ref a, .ref l] ∧ H l = some (.lst (nV bs)) ∧ bs.length = 312 ∧ (∀ b ∈ bs, b < 256) ∧ Same Im H ∧ Im pl = none ∧ MachAt CM C H Im a pl m ∧ MOk m ∧
  Due CM CR C H Im a pl m (.heard bs) (fun H' => Q (.int (Km353.act m (.heard bs)).2.value) H') E
theorem scHe : FnScope ["machine", "message", "told", "there", "found"] ["machine", "message"] (defScope sHe) := ⟨rfl, rfl, rfl, by decide +kernel, rfl, by decide +kernel, by decide +kernel⟩
section
variable {m : Km353.Machine} {bs : List Nat} {t : Km353.Message}
theorem heard_none (h : Km353.messageOf bs = none) : Km353.act m (.heard bs) = (m, Km353.only (-71)) := by
  show (match Km353.messageOf bs with | none => _ | some x => _) = _
  rw [h]
theorem heard_some (h : Km353.messageOf bs = some t) : Km353.act m (.heard bs) = if m.machines ≤ t.from_ ∨ (t.versions.any fun v => decide (m.machines ≤ v.writer)) = true ∨ Km353.clash (m.paper t.paper) t.versions = true then (m, Km353.only (-71)) else
          if Km353.merge (m.paper t.paper) t.versions = m.paper t.paper then (m, Km353.only 0) else if Km353.APART < (Km353.merge (m.paper t.paper) t.versions).length then (m, Km353.only (-28)) else ({ m with papers := m.papers.set t.paper (Km353.merge (m.paper t.paper) t.versions) }, Km353.only 1) := by
  show (match Km353.messageOf bs with | none => _ | some x => _) = _
  rw [h]
theorem heard_bad (h : Km353.messageOf bs = some t) (b : Bad m t) : Km353.act m (.heard bs) = (m, Km353.only (-71)) := (heard_some h).trans (if_pos b)
theorem heard_same (h : Km353.messageOf bs = some t) (b : ¬ Bad m t) (e : Km353.merge (m.paper t.paper) t.versions = m.paper t.paper) : Km353.act m (.heard bs) = (m, Km353.only 0) := (heard_some h).trans ((if_neg b).trans (if_pos e))
theorem heard_full (h : Km353.messageOf bs = some t) (b : ¬ Bad m t) (e : ¬ Km353.merge (m.paper t.paper) t.versions = m.paper t.paper) (l : Km353.APART < (Km353.merge (m.paper t.paper) t.versions).length) : Km353.act m (.heard bs) = (m, Km353.only (-28)) := (heard_some h).trans ((if_neg b).trans ((if_neg e).trans (if_pos l)))
theorem heard_new (h : Km353.messageOf bs = some t) (b : ¬ Bad m t) (e : ¬ Km353.merge (m.paper t.paper) t.versions = m.paper t.paper) (l : ¬ Km353.APART < (Km353.merge (m.paper t.paper) t.versions).length) :
    Km353.act m (.heard bs) = ({ m with papers := m.papers.set t.paper (Km353.merge (m.paper t.paper) t.versions) }, Km353.only 1) := (heard_some h).trans ((if_neg b).trans ((if_neg e).trans (if_neg l)))
end
theorem ok_he {CM CT CR C fI : Addr} (F : Here K mg "hear" sHe ["machine", "message"]) (c : Cst mg) (T : RefC K mg CR fI) (TM : Cl K CM fM) (TT : Cl K CT fT) (Tb : Df P w K mg base 4 "told_by" ["message"] (spTb CT C)) (At : DfX P w K mg base 3 "ask_told" ["machine", "told"] (spAt CM CT CR C))
    (Pt : Df P w K mg base 3 "put_together" ["there", "told"] (spPt C)) (As : Df P w K mg base 2 "are_same" ["some", "others"] (spAs C)) : DfX P w K mg base 5 "hear" ["machine", "message"] (spHe CM CR C) := by
  refine F.dfX scHe (fun vs H Q E h => ?_) (fun cdv A outer s H vs Q E f hr h => ?_)
  · obtain ⟨a, pl, l, Im, m, bs, rfl, _⟩ := h
    rfl
  · obtain ⟨a, pl, l, Im, m, bs, rfl, hbl, hbn, hb, hI, hIp, MA, M, dE, dQ⟩ := h
    obtain ⟨⟨dx, ho⟩, ⟨es, hl, hn, hp⟩⟩ := id MA
    refine ⟨_, pss_cons (ps_set (i := 2) scHe.nd rfl (Or.inl rfl) (pe_df Tb hr (by decide) rfl (pa_cons (pv 1) pa_nil)))
      (pss_cons (ps_expr (pe_dfX At hr (by decide) rfl (passes_call (takes_of rfl rfl rfl rfl) (fun _ _ _ _ z => z)) (pa_cons (pv 0) (pa_cons (pv 2) pa_nil))))
      (pss_cons (ps_set (i := 3) scHe.nd rfl (Or.inl rfl) (pe_ix ix_list (pe_fld (pv 0) rfl) (pe_fld (pv 2) rfl) (fun _ _ => rfl)))
      (pss_cons (ps_set (i := 4) scHe.nd rfl (Or.inl rfl) (pe_df Pt hr (by decide) rfl (pa_cons (pv 3) (pa_cons (pe_fld (pv 2) rfl) pa_nil))))
      (pss_cons (ps_if (pt_val (pe_df As hr (by decide) rfl (pa_cons (pv 3) (pa_cons (pv 4) pa_nil)))) (pss_one (ps_ret pe_int)) pss_nil)
      (pss_cons (ps_if (pt_cmpR op_gt (pe_callB call_len_seq (by rfl) c.len PySem.boot_len (pa_cons (pv 4) pa_nil)) (pe_gc c.MOST) (nomark _)) (pss_one (ps_ref rfl (takes_of rfl rfl rfl rfl) T hr (by decide) (pe_gc c.ROOM))) pss_nil)
      (pss_cons (ps_asg (pv 4) (pg_sub (pe_fld (pv 0) rfl) (pe_fld (pv 2) rfl) set_list))
      (pss_one (ps_ret pe_int)))))))), ?_⟩
    refine ⟨_, rfl, l, bs, rfl, hbl, hbn, hb, fun nR H1 s1 => ?_, fun R H1 x s1 tA => ?_⟩
    · refine ⟨_, rfl, _, rfl, a, pl, Im, m, .non, rfl, hI.trans s1, MA.mono s1 (Same.refl _), M, .inl ⟨rfl, ?_⟩⟩
      rw [heard_none (messageOf_none hbn hb nR)] at dE
      exact (dE (by show (-71 : Int) < 0; decide)).mono s1
    · have hm := messageOf_some hbn hb R
      have hlen : (told bs).versions.length ≤ 4 := by
        show ((List.range (Km353.num bs 3 1)).map _).length ≤ 4
        rw [List.length_map, List.length_range]
        exact R.2.1.2.2.2
      have hpap : (told bs).paper < 64 := R.2.1.2.2.1
      refine ⟨_, rfl, _, rfl, a, pl, Im, m, .ref x, rfl, hI.trans s1, MA.mono s1 (Same.refl _), M, .inr ⟨x, told bs, nw H H1, rfl, nw_same, tA, hpap, hlen, fun B => ?_, fun nB H2 s2 => ?_⟩⟩
      · rw [heard_bad hm B] at dE
        exact (dE (by show (-71 : Int) < 0; decide)).mono s1
      · obtain ⟨⟨dt, vl, qs, ht1, ht2, ht3, ht4⟩⟩ := tA
        have s02 := s1.trans s2
        have hk' : (told bs).paper < es.length := by omega
        obtain ⟨ps, hp1, hp2, hp3⟩ := hp (told bs).paper _ (paper_get hk')
        have hpl : ps.length ≤ 4 := by
          rw [← ver_len, hp3]
          exact (M.paper hpap).len
        have hql : qs.length ≤ 4 := by
          rw [← ver_len, ht4]
          exact hlen
        refine ⟨_, rfl, a, CM, dx, _, _, rfl, s02 _ _ ho, TM.cl, TM.na _ (by decide +kernel), mF_pa _ _, _, rfl, x, CT, dt, _, _, rfl, s2 _ _ ht1, TT.cl, TT.na _ (by decide +kernel), tF_p _ _, pl, _, _, _, rfl, rfl, SqL.of (s02 _ _ hl), atI_nat (by rw [List.getElem?_map, paper_get hk']; rfl), ?_⟩
        refine ⟨_, rfl, _, rfl, x, CT, dt, _, _, rfl, s2 _ _ ht1, TT.cl, TT.na _ (by decide +kernel), tF_v _ _, _, vl, ps, qs, rfl, s02 _ _ (hI _ _ hp1), s2 _ _ ht2, hp2.mono (hI.trans s02), ht3.mono (nw_same.trans s2), by omega, by omega, by rw [hp3]; exact (M.paper hpap).srt, fun H3 p rs s3 hpn hpr hrm hrv hrl => ?_⟩
        rw [hp3, ht4] at hrv
        have s03 := s02.trans s3
        have hrs : VsAt C H3 rs := fun r hr' => by
          rcases hrm r hr' with z | z
          · exact (hp2 r z).mono (hI.trans s03)
          · exact (ht3 r z).mono ((nw_same.trans s2).trans s3)
        refine ⟨_, rfl, _, rfl, _, p, ps, rs, rfl, s03 _ _ (hI _ _ hp1), hpr, hp2.mono (hI.trans s03), hrs, by omega, fun H4 s4 => ⟨_, rfl, ?_⟩⟩
        rw [hp3, hrv]
        have s04 := s03.trans s4
        by_cases e : Km353.merge (m.paper (told bs).paper) (told bs).versions = m.paper (told bs).paper
        · refine ite_t (decide_eq_true e.symm) ?_
          rw [heard_same hm nB e] at dQ
          exact dQ (by show (0 : Int) ≤ 0; decide) _ (Post.same MA s04)
        · refine ite_f (decide_eq_false fun z => e z.symm) ?_
          refine ⟨_, rfl, p, _, rfl, .inl (SqL.of (s4 _ _ hpr)), _, _, rfl, rfl, _, rfl, ?_⟩
          have hlr : rs.length = (Km353.merge (m.paper (told bs).paper) (told bs).versions).length := by rw [← ver_len, hrv]
          by_cases ll : Km353.APART < (Km353.merge (m.paper (told bs).paper) (told bs).versions).length
          · have l4 : 4 < rs.length := by rw [hlr]; exact ll
            refine ite_t (decide_eq_true (by rw [rf_len]; omega)) ?_
            rw [heard_full hm nB e ll] at dE
            exact (dE (by show (-28 : Int) < 0; decide)).mono s04
          · have l4 : ¬ 4 < rs.length := by rw [hlr]; exact ll
            refine ite_f (decide_eq_false (by rw [rf_len]; omega)) ?_
            refine ⟨_, rfl, _, rfl, a, CM, dx, _, _, rfl, s04 _ _ ho, TM.cl, TM.na _ (by decide +kernel), mF_pa _ _, _, rfl, x, CT, dt, _, _, rfl, s4 _ _ (s3 _ _ (s2 _ _ ht1)), TT.cl, TT.na _ (by decide +kernel), tF_p _ _, pl, _, _, (told bs).paper, rfl, rfl, s04 _ _ hl, ixN_nat (by rw [List.length_map]; exact hk'), ?_⟩
            rw [heard_new hm nB e ll] at dQ
            refine dQ (by show (0 : Int) ≤ 1; decide) _ (Post.set M hpap s04 hI hIp ho hl hn hp fun Im' t1 t2 => ?_)
            refine ⟨rs, t2 _ _ (nw_of (s02.free hpn) (s4 _ _ hpr)), fun r hr' => ?_, hrv⟩
            rcases hrm r hr' with z | z
            · exact (hp2 r z).mono t1
            · exact (ht3 r z).mono ((nw_mono ((s2.trans s3).trans s4)).trans t2)
end
end PR
namespace PR
open PySem PySem.Spec PyProof.Rows L2
section
variable {P : Program} {w : World} {K : PySem.W.Frag} {mg : Str → Option Value} {base : Heap}
/-! ### Call(kind, numbers, lists, behind) -/
abbrev sIC : Stmt := inClass (top 52) 0
def fC : List Str := ["kind", "numbers", "lists", "behind"]
def spIC (C : Addr) : Sp := fun vs H Q _ => ∃ (p dx : Addr) (a b c d : V), vs = [.ref p, a, b, c, d] ∧ H p = some (.ins C dx []) ∧ Q .non (upd H p (.ins C dx [("kind", a), ("numbers", b), ("lists", c), ("behind", d)]))
theorem scIC : FnScope ["self", "kind", "numbers", "lists", "behind"] ["self", "kind", "numbers", "lists", "behind"] (defScope sIC) := ⟨rfl, rfl, rfl, by decide +kernel, rfl, by decide +kernel, by decide +kernel⟩
theorem put4 {f g h i : Str} {x y z u : V} (h1 : ¬ f = g) (h2 : ¬ f = h) (h3 : ¬ g = h) (h4 : ¬ f = i) (h5 : ¬ g = i) (h6 : ¬ h = i) : putF i u (putF h z (putF g y (putF f x []))) = [(f, x), (g, y), (h, z), (i, u)] := by
  rw [put3 h1 h2 h3, put_past h4, put_past h5, put_past h6]
  rfl
theorem ok_ic {C : Addr} (F : HereI K mg "Call" "Call.__init__" C sIC ["self", "kind", "numbers", "lists", "behind"]) (T : Cl K C fC) : Mkr P w K mg base 1 "Call" C ["self", "kind", "numbers", "lists", "behind"] (spIC C) := by
  refine F.mkr scIC (fun vs H Q E h => ?_) (fun cdv A outer s H vs Q E f hr h => ?_)
  · obtain ⟨p, dx, a, b, c, d, rfl, _⟩ := h
    rfl
  · obtain ⟨p, dx, a, b, c, d, rfl, hp, k⟩ := h
    refine ⟨_, pss_cons (ps_fld (pv 0) (pv 1) rfl) (pss_cons (ps_fld (pv 0) (pv 2) rfl) (pss_cons (ps_fld (pv 0) (pv 3) rfl) (pss_one (ps_fld (pv 0) (pv 4) rfl)))), ?_⟩
    refine ⟨_, rfl, _, rfl, p, C, dx, [], rfl, hp, T.cl, T.na _ (by decide +kernel), (by decide), ?_⟩
    refine ⟨_, rfl, _, rfl, p, C, dx, _, rfl, upd_same, T.cl, T.na _ (by decide +kernel), (by show 1 < 1000; decide), ?_⟩
    refine ⟨_, rfl, _, rfl, p, C, dx, _, rfl, upd_same, T.cl, T.na _ (by decide +kernel), (by show 2 < 1000; decide), ?_⟩
    refine ⟨_, rfl, _, rfl, p, C, dx, _, rfl, upd_same, T.cl, T.na _ (by decide +kernel), (by show 3 < 1000; decide), ?_⟩
    have e : putF ("behind" : Str) d (putF ("lists" : Str) c (putF ("numbers" : Str) b (putF ("kind" : Str) a []))) = [(("kind" : Str), a), (("numbers" : Str), b), (("lists" : Str), c), (("behind" : Str), d)] := put4 (by decide +kernel) (by decide +kernel) (by decide +kernel) (by decide +kernel) (by decide +kernel) (by decide +kernel)
    rw [e, upd_upd, upd_upd, upd_upd]
    exact k

/-! ### call_at -/
abbrev sCa : Stmt := top 53
def cF (k : Nat) (x : Km353.Call) (nl ll : Addr) (e : Nat) : List (Str × V) := [("kind", .int (cKind x : Int)), ("numbers", .ref nl), ("lists", .ref ll), ("behind", .int (e : Int))]
theorem cF_k (k : Nat) (x : Km353.Call) (nl ll : Addr) (e : Nat) : (cF k x nl ll e).lookup ("kind" : Str) = some (.int (cKind x : Int)) := lkh
theorem cF_n (k : Nat) (x : Km353.Call) (nl ll : Addr) (e : Nat) : (cF k x nl ll e).lookup ("numbers" : Str) = some (.ref nl) := lk2 (by decide +kernel)
theorem cF_l (k : Nat) (x : Km353.Call) (nl ll : Addr) (e : Nat) : (cF k x nl ll e).lookup ("lists" : Str) = some (.ref ll) := lk3 (by decide +kernel) (by decide +kernel)
theorem cF_b (k : Nat) (x : Km353.Call) (nl ll : Addr) (e : Nat) : (cF k x nl ll e).lookup ("behind" : Str) = some (.int (e : Int)) := (lkp (by decide +kernel)).trans (lk3 (by decide +kernel) (by decide +kernel))
structure CallAt (CC : Addr) (H : Hp) (a : Addr) (k : Nat) (x : Km353.Call) (e : Nat) : Prop where
  ex : ∃ dx nl ll, H a = some (.ins CC dx (cF k x nl ll e)) ∧ H nl = some (.lst (nV (cNums k x))) ∧ ∀ bs, x = .heard bs → ∃ r, H ll = some (.lst [.ref r]) ∧ H r = some (.lst (nV bs))
theorem CallAt.mono {CC a : Addr} {H H' : Hp} {k e : Nat} {x : Km353.Call} (h : CallAt CC H a k x e) (s : Same H H') : CallAt CC H' a k x e := by
  obtain ⟨dx, nl, ll, h1, h2, h3⟩ := h.ex
  exact ⟨dx, nl, ll, s _ _ h1, s _ _ h2, fun bs hb => let ⟨r, h4, h5⟩ := h3 bs hb; ⟨r, s _ _ h4, s _ _ h5⟩⟩
def spCa (K : PySem.W.Frag) (CC : Addr) : Sp := fun vs H Q _ => ∃ (l : Addr) (ns t : List Int) (at_ k : Nat) (x : Km353.Call), vs = [.ref l, .int (at_ : Int)] ∧ SqL K H l (ns.map V.int) ∧ (∀ H', Same H H' → SqL K H' l (ns.map V.int)) ∧ ns.drop at_ = (cEnc k x).map Int.ofNat ++ t ∧
  ∀ (H' : Hp) (c : Addr), Same H H' → H c = none → CallAt CC H' c k x (at_ + (cEnc k x).length) → Q (.ref c) H'
theorem scCa : FnScope ["calls", "at", "kind", "end", "numbers", "lists", "turn", "size"] ["calls", "at"] (defScope sCa) := ⟨rfl, rfl, rfl, by decide +kernel, rfl, by decide +kernel, by decide +kernel⟩
def nOf : List V := [.int 3, .int 3, .int 2, .int 2, .int 1]
def lOf : List V := [.int 0, .int 0, .int 0, .int 0, .int 1]
def cRows : Km353.Call → Nat
  | .heard _ => 1
  | _ => 0
theorem nOf_at (k : Nat) (x : Km353.Call) : nOf[cKind x]? = some (.int ((cNums k x).length : Int)) := by cases x <;> rfl
theorem cRows_le (x : Km353.Call) : cRows x ≤ 1 := by cases x <;> simp [cRows]
theorem lOf_at (x : Km353.Call) : lOf[cKind x]? = some (.int (cRows x : Int)) := by cases x <;> rfl
theorem cut_int {ns : List Int} {i j : Nat} (hi : i ≤ ns.length) (hj : j ≤ ns.length) : cutV (ns.map V.int) (some (i : Int)) (some (j : Int)) = ((ns.drop i).take (j - i)).map V.int := by
  unfold cutV
  rw [HT.sIx_nat, HT.sIx_nat, List.length_map, Nat.min_eq_left hi, Nat.min_eq_left hj, ← List.map_drop, ← List.map_take]
theorem drop_get {ns a b : List Int} {i j : Nat} (h : ns.drop i = a ++ b) (hj : j < a.length) : ns[i + j]? = some a[j] := by
  have e : (ns.drop i)[j]? = ns[i + j]? := List.getElem?_drop
  rw [← e, h, List.getElem?_append_left hj]
  exact List.getElem?_eq_getElem hj
theorem ok_ca {CC aN aL : Addr} (F : Here K mg "call_at" sCa ["calls", "at"]) (c : Cst mg) (gN : Gc mg "NUMBERS_OF" (.ref aN)) (gL : Gc mg "LISTS_OF" (.ref aL)) (hN : ∀ H, SqT K H aN nOf) (hL : ∀ H, SqT K H aL lOf) (Ca : Mkr P w K mg base 1 "Call" CC ["self", "kind", "numbers", "lists", "behind"] (spIC CC)) :
    Df P w K mg base 3 "call_at" ["calls", "at"] (spCa K CC) := by
  refine F.df scCa (fun vs H Q E h => ?_) (fun cdv A outer s H vs Q E f hr h => ?_)
  · obtain ⟨l, ns, t, at_, k, x, rfl, _⟩ := h
    rfl
  · obtain ⟨l, ns, t, at_, k, x, rfl, hl0, hl, hd, kQ⟩ := h
    refine ⟨_, pss_cons (ps_set (i := 2) scCa.nd rfl (Or.inl rfl) (pe_ix ix_list (pv 0) (pv 1) (fun _ _ => rfl)))
      (pss_cons (ps_set (i := 3) scCa.nd rfl (Or.inl rfl) (pe_op op_add_n (pe_op op_add_n (pv 1) pe_int) (pe_ix ix_tup (pe_gc gN) (pv 2) (fun _ _ => rfl))))
      (pss_cons (ps_set (i := 4) scCa.nd rfl (Or.inl rfl) (pe_slice sl_list (pv 0) (po_some (pe_op op_add_n (pv 1) pe_int)) (po_some (pv 3))))
      (pss_cons (ps_set (i := 5) scCa.nd rfl (Or.inl rfl) (pe_lst pa_nil))
      (pss_cons (ps_for PassesOwn.never rfl (pi_range1 rfl c.range (pa_cons (pe_ix ix_tup (pe_gc gL) (pv 2) (fun _ _ => rfl)) pa_nil)) (pg_name (i := 6) scCa.nd rfl (Or.inl rfl))
        (pss_cons (ps_set (i := 7) scCa.nd rfl (Or.inl rfl) (pe_ix ix_list (pv 0) (pv 3) (fun _ _ => rfl)))
        (pss_cons (ps_expr (pe_bm PySem.F.plainAttrs_list PySem.F.slot_list_append PySem.F.type_list_append mt_append (pv 5) (pa_cons (pe_slice sl_list (pv 0) (po_some (pe_op op_add_n (pv 3) pe_int)) (po_some (pe_op op_add_n (pe_op op_add_n (pv 3) pe_int) (pv 7)))) pa_nil)))
        (pss_one (ps_aug (i := 3) scCa.nd rfl (.inl rfl) (pe_op op_add_n pe_int (pv 7)) ip_add)))))
      (pss_one (ps_ret (pe_mkr Ca hr (by decide) rfl (pa_cons (pv 2) (pa_cons (pv 4) (pa_cons (pv 5) (pa_cons (pv 3) pa_nil))))))))))), ?_⟩
    have hlen : at_ + (cEnc k x).length ≤ ns.length := by
      have e := congrArg List.length hd
      rw [List.length_drop, List.length_append, List.length_map] at e
      have : 0 < (cEnc k x).length := by
        unfold cEnc
        simp
      omega
    have hel : (cEnc k x).length = 1 + (cNums k x).length + (cRow x).length := by
      unfold cEnc
      rw [List.length_cons, List.length_append]
      omega
    have g0 : (ns.map V.int)[at_]? = some (.int (cKind x : Int)) := by
      have e := drop_get (j := 0) hd (by rw [List.length_map, hel]; omega)
      rw [Nat.add_zero] at e
      rw [List.getElem?_map, e]
      rfl
    refine ⟨_, rfl, _, rfl, l, _, _, _, rfl, rfl, hl0, atI_nat g0, ?_⟩
    refine ⟨_, rfl, at_, 1, rfl, rfl, _, rfl, aN, _, _, _, rfl, rfl, hN _, atI_nat (nOf_at k x), at_ + 1, (cNums k x).length, rfl, rfl, ?_⟩
    refine ⟨_, rfl, _, rfl, at_, 1, rfl, rfl, _, rfl, _, rfl, _, rfl, l, _, rfl, hl0, fun nl hnl => ?_⟩
    rw [cut_int (by omega) (by omega)]
    have enl : ((ns.drop (at_ + 1)).take (at_ + 1 + (cNums k x).length - (at_ + 1))).map V.int = nV (cNums k x) := by
      rw [show at_ + 1 + (cNums k x).length - (at_ + 1) = (cNums k x).length by omega, ← List.drop_drop, hd]
      unfold cEnc
      rw [List.map_cons, List.map_append, List.cons_append, List.drop_one, List.tail_cons, List.append_assoc, List.take_left' (by rw [List.length_map]), nV_eq]
    rw [enl]
    have s1 : Same H (upd H nl (.lst (nV (cNums k x)))) := same_upd hnl
    refine ⟨Nat.zero_le _, fun ll hll => ?_⟩
    have s2 := s1.trans (same_upd (o := .lst []) hll)
    generalize hH2 : upd (upd H nl (.lst (nV (cNums k x)))) ll (.lst []) = H2 at s2
    have h2n : H2 nl = some (.lst (nV (cNums k x))) := by
      rw [← hH2]
      exact (same_upd hll) _ _ upd_same
    have h2l : H2 ll = some (.lst []) := by
      rw [← hH2]
      exact upd_same
    have nll : H ll = none := s1.free hll
    -- what follows the loop
    have rest : ∀ (H3 : Hp) (y z : Option V), Same H H3 → H3 nl = some (.lst (nV (cNums k x))) → (∀ bs, x = .heard bs → ∃ r, H3 ll = some (.lst [.ref r]) ∧ H3 r = some (.lst (nV bs))) →
        tRet (tMk CC (spIC CC) (tCons (tVar 2) (tCons (tVar 4) (tCons (tVar 5) (tCons (tVar 3) tNil))))) { nx := fun _ H' => Q .non H', rt := Q } [some (.ref l), some (.int (at_ : Int)), some (.int (cKind x : Int)), some (.int ((at_ + (cEnc k x).length : Nat) : Int)), some (.ref nl), some (.ref ll), y, z] H3 := by
      intro H3 y z s3 hn3 hl3
      refine ⟨_, rfl, _, rfl, _, rfl, _, rfl, fun p dx hp hdx hne => ⟨p, dx, _, _, _, _, rfl, upd_same, rfl, ?_⟩⟩
      rw [upd_upd]
      have s4 := same_made (o := .ins CC dx [("kind", V.int (cKind x : Int)), ("numbers", V.ref nl), ("lists", V.ref ll), ("behind", V.int ((at_ + (cEnc k x).length : Nat) : Int))]) hp hdx
      exact kQ _ p (s3.trans s4) (s3.free hp) ⟨dx, nl, ll, upd_same, s4 _ _ hn3, fun bs hb => let ⟨r, h4, h5⟩ := hl3 bs hb; ⟨r, s4 _ _ h4, s4 _ _ h5⟩⟩
    refine ⟨_, rfl, aL, _, _, _, rfl, rfl, hL _, atI_nat (lOf_at x), _, rfl, by omega, (by have := cRows_le x; omega), ?_⟩
    cases x with
    | heard bs =>
      have e1 : (ns.map V.int)[at_ + 2]? = some (.int (bs.length : Int)) := by
        have e := drop_get (j := 2) hd (by rw [List.length_map]; show 2 < bs.length + 1 + 1 + 1; omega)
        rw [List.getElem?_map, e]
        rfl
      have hel' : (cEnc k (.heard bs)).length = bs.length + 3 := rfl
      refine for_range (n := 1) (fun i σ H' => Same H H' ∧ H' nl = some (.lst (nV [k])) ∧ ((i = 0 ∧ H' = H2 ∧ σ = [some (.ref l), some (.int (at_ : Int)), some (.int ((4 : Nat) : Int)), some (.int ((at_ + 1 + 1 : Nat) : Int)), some (.ref nl), some (.ref ll), none, none]) ∨
        (i = 1 ∧ (∃ r, H' ll = some (.lst [.ref r]) ∧ H' r = some (.lst (nV bs))) ∧ ∃ y z, σ = [some (.ref l), some (.int (at_ : Int)), some (.int ((4 : Nat) : Int)), some (.int ((at_ + (cEnc k (.heard bs)).length : Nat) : Int)), some (.ref nl), some (.ref ll), y, z]))) ⟨s2, h2n, .inl ⟨rfl, rfl, rfl⟩⟩ ?_ ?_
      · rintro i σ H' hi ⟨s3, hn3, ⟨rfl, rfl, rfl⟩ | ⟨rfl, _⟩⟩
        · refine ⟨_, rfl, _, rfl, l, _, _, _, rfl, rfl, hl _ s2, atI_nat (j := at_ + 2) e1, ?_⟩
          refine ⟨_, rfl, .inl ⟨rfl, _, SqL.of h2l⟩, _, rfl, _, rfl, at_ + 1 + 1, 1, rfl, rfl, _, rfl, _, rfl, at_ + 1 + 1, 1, rfl, rfl, _, rfl, at_ + 1 + 1 + 1, bs.length, rfl, rfl, _, rfl, l, _, rfl, hl _ s2, fun r hr' => ?_⟩
          rw [cut_int (by omega) (by omega)]
          have er : ((ns.drop (at_ + 1 + 1 + 1)).take (at_ + 1 + 1 + 1 + bs.length - (at_ + 1 + 1 + 1))).map V.int = nV bs := by
            rw [show at_ + 1 + 1 + 1 + bs.length - (at_ + 1 + 1 + 1) = bs.length by omega, show at_ + 1 + 1 + 1 = at_ + 3 by omega, ← List.drop_drop, hd]
            show ((((4 : Nat) : Int) :: ((k : Nat) : Int) :: ((bs.length : Nat) : Int) :: (bs.map Int.ofNat ++ t)).drop 3 |>.take bs.length).map V.int = nV bs
            show ((bs.map Int.ofNat ++ t).take bs.length).map V.int = nV bs
            rw [List.take_left' (by rw [List.length_map]), nV_eq]
          rw [er]
          have s4 := same_upd (o := .lst (nV bs)) hr'
          have nr : ll ≠ r := ne_of_none h2l hr'
          refine ⟨ll, _, _, rfl, rfl, s4 _ _ h2l, (by show 0 < sizeLine; decide), ?_⟩
          refine ⟨_, rfl, _, rfl, 1, bs.length, rfl, rfl, _, _, rfl, rfl, fun b o e => ?_, ?_, .inr ⟨rfl, ⟨r, upd_same, ?_⟩, some (.int (0 + ((0 : Nat) : Int))), some (.int (bs.length : Int)), ?_⟩⟩
          · rw [upd_ne (ne_of_none e nll)]
            exact s4 _ _ (s2 _ _ e)
          · rw [upd_ne (fun z => by rw [z, h2l] at h2n; cases h2n)]
            exact s4 _ _ h2n
          · rw [upd_ne nr.symm]
            exact upd_same
          · have ez : ((at_ + 1 + 1 : Nat) : Int) + ((1 + bs.length : Nat) : Int) = ((at_ + (cEnc k (.heard bs)).length : Nat) : Int) := by
              rw [hel']
              omega
            rw [← ez]
            rfl
        · exact absurd hi (by decide)
      · rintro σ H' ⟨s3, hn3, ⟨h, _⟩ | ⟨_, hr3, y, z, rfl⟩⟩
        · cases h
        · exact rest H' y z s3 hn3 fun bs' hb => by
            cases hb
            exact hr3
    | start me n =>
      exact for_range (n := 0) (fun i σ H' => H' = H2 ∧ σ = _) ⟨rfl, rfl⟩ (fun i σ H' hi => absurd hi (Nat.not_lt_zero _)) (fun σ H' ⟨e1, e2⟩ => by subst e1 e2; exact rest _ none none s2 h2n fun bs hb => by cases hb)
    | write me n =>
      exact for_range (n := 0) (fun i σ H' => H' = H2 ∧ σ = _) ⟨rfl, rfl⟩ (fun i σ H' hi => absurd hi (Nat.not_lt_zero _)) (fun σ H' ⟨e1, e2⟩ => by subst e1 e2; exact rest _ none none s2 h2n fun bs hb => by cases hb)
    | read me =>
      exact for_range (n := 0) (fun i σ H' => H' = H2 ∧ σ = _) ⟨rfl, rfl⟩ (fun i σ H' hi => absurd hi (Nat.not_lt_zero _)) (fun σ H' ⟨e1, e2⟩ => by subst e1 e2; exact rest _ none none s2 h2n fun bs hb => by cases hb)
    | say me =>
      exact for_range (n := 0) (fun i σ H' => H' = H2 ∧ σ = _) ⟨rfl, rfl⟩ (fun i σ H' hi => absurd hi (Nat.not_lt_zero _)) (fun σ H' ⟨e1, e2⟩ => by subst e1 e2; exact rest _ none none s2 h2n fun bs hb => by cases hb)
end
end PR
namespace PR
open PySem PySem.Spec PyProof.Rows L2
section
variable {P : Program} {w : World} {K : PySem.W.Frag} {mg : Str → Option Value} {base : Heap}
def mV : Option (Addr × Addr) → V
  | none => .non
  | some p => .ref p.1
/-- the four machines: the row at M; mu: what is changed; Im: the papers' heap -/
structure SAt (CM C : Addr) (H Im : Hp) (mu : List Addr) (M : Addr) (s : Km353Neutral.S) : Prop where
  sub : Same Im H
  mutI : ∀ b ∈ mu, Im b = none
  mutH : ∀ b ∈ mu, ∃ o, H b = some o
  mM : M ∈ mu
  ex : ∃ as : List (Option (Addr × Addr)), as.length = 4 ∧ s.length = 4 ∧ H M = some (.lst (as.map mV)) ∧ (∀ i : Nat, as[i]? = some none → s[i]? = some none) ∧
    (∀ (i : Nat) (p : Addr × Addr), as[i]? = some (some p) → p.2 ∈ mu ∧ p.2 ≠ M ∧ ∃ m, s[i]? = some (some m) ∧ MachAt CM C H Im p.1 p.2 m ∧ MOk m) ∧
    (∀ (i j : Nat) (p q : Addr × Addr), i ≠ j → as[i]? = some (some p) → as[j]? = some (some q) → p.2 ≠ q.2)
theorem SAt.mono {CM C M : Addr} {H H' Im : Hp} {mu : List Addr} {s : Km353Neutral.S} (h : SAt CM C H Im mu M s) (t : Same H H') : SAt CM C H' Im mu M s := by
  obtain ⟨h1, h2, h3, h4, as, a1, a2, a3, a4, a5, a6⟩ := h
  exact ⟨h1.trans t, h2, fun b hb => let ⟨o, e⟩ := h3 b hb; ⟨o, t _ _ e⟩, h4, as, a1, a2, t _ _ a3, a4, fun i p e => let ⟨z1, z2, m, z3, z4, z5⟩ := a5 i p e; ⟨z1, z2, m, z3, z4.mono t (Same.refl _), z5⟩, a6⟩
/-- behind a call -/
def PostS (CM C : Addr) (H Im : Hp) (mu : List Addr) (M : Addr) (s' : Km353Neutral.S) (H' : Hp) : Prop := ∃ (Im' : Hp) (mu' : List Addr), SAt CM C H' Im' mu' M s' ∧ (∀ b o, H b = some o → Im b = none → Im' b = none) ∧ (∀ b o, H b = some o → b ∉ mu → b ∉ mu') ∧ (∀ b o, H b = some o → b ∉ mu → H' b = some o)
theorem PostS.same {CM C M : Addr} {H H' Im : Hp} {mu : List Addr} {s : Km353Neutral.S} (h : SAt CM C H Im mu M s) (t : Same H H') : PostS CM C H Im mu M s H' := ⟨Im, mu, h.mono t, fun _ _ _ e => e, fun _ _ _ e => e, fun b o e _ => t b o e⟩
theorem PostS.mono {CM C M : Addr} {H H1 H' Im : Hp} {mu : List Addr} {s : Km353Neutral.S} (h : PostS CM C H Im mu M s H1) (t : Same H1 H') : PostS CM C H Im mu M s H' := by
  obtain ⟨Im', mu', h1, h2, h3, h4⟩ := h
  exact ⟨Im', mu', h1.mono t, h2, h3, fun b o e n => t _ _ (h4 b o e n)⟩
/-- two heaps side by side -/
def un (I J : Hp) : Hp := fun b => match I b with
  | some o => some o
  | none => J b
theorem un_l {I J : Hp} : Same I (un I J) := fun b o e => by
  unfold un
  rw [e]
theorem un_r {I J : Hp} {b : Addr} (h : I b = none) : un I J b = J b := by
  unfold un
  rw [h]
theorem un_get {I J : Hp} {b : Addr} {o : HO} (h : un I J b = some o) : I b = some o ∨ (I b = none ∧ J b = some o) := by
  cases e : I b with
  | none =>
    rw [un_r e] at h
    exact .inr ⟨rfl, h⟩
  | some u =>
    rw [un_l _ _ e] at h
    exact .inl h
/-- one of the machines was called -/
theorem postS_of {CM C M a pl : Addr} {H H1 Im : Hp} {mu : List Addr} {s : Km353Neutral.S} {as : List (Option (Addr × Addr))} {k : Nat} {m m' : Km353.Machine} (h : SAt CM C H Im mu M s)
    (a1 : as.length = 4) (a2 : s.length = 4) (a3 : H M = some (.lst (as.map mV))) (a4 : ∀ i : Nat, as[i]? = some none → s[i]? = some none)
    (a5 : ∀ (i : Nat) (p : Addr × Addr), as[i]? = some (some p) → p.2 ∈ mu ∧ p.2 ≠ M ∧ ∃ m, s[i]? = some (some m) ∧ MachAt CM C H Im p.1 p.2 m ∧ MOk m)
    (a6 : ∀ (i j : Nat) (p q : Addr × Addr), i ≠ j → as[i]? = some (some p) → as[j]? = some (some q) → p.2 ≠ q.2)
    (hk : as[k]? = some (some (a, pl))) (hs : s[k]? = some (some m)) (ok : MOk m') (po : Post CM C H Im a pl m' H1) : PostS CM C H Im mu M (s.set k (some m')) H1 := by
  obtain ⟨p1, p2⟩ := po
  obtain ⟨hpl, hpM, mk, hmk, ⟨⟨dxk, hok⟩, ⟨esk, hlk, _⟩⟩, _⟩ := a5 k _ hk
  have nwM : ∀ b ∈ mu, nw H H1 b = none := fun b hb => by
    obtain ⟨o, e⟩ := h.mutH b hb
    unfold nw
    rw [e]
  have sI : Same Im (un Im (nw H H1)) := un_l
  have sN : Same (nw H H1) (un Im (nw H H1)) := fun b o e => by
    have : Im b = none := by
      cases q : Im b with
      | none => rfl
      | some u =>
        have := h.sub _ _ q
        rw [(nw_get e).1] at this
        cases this
    rw [un_r this]
    exact e
  have keep : ∀ b o, H b = some o → b ≠ pl → H1 b = some o := p1
  have MA := p2 _ sI sN
  refine ⟨un Im (nw H H1), mu, ⟨fun b o e => ?_, fun b hb => ?_, fun b hb => ?_, h.mM, as, a1, by rw [List.length_set]; exact a2, keep _ _ a3 (fun z => hpM z.symm), fun i hi => ?_, fun i p hi => ?_, a6⟩, fun b o e1 e2 => ?_, fun _ _ _ n => n, fun b o e n => keep b o e (fun z => n (by rw [z]; exact hpl))⟩
  · rcases un_get e with q | ⟨_, q⟩
    · exact keep _ _ (h.sub _ _ q) (fun z => by
        have := h.mutI pl hpl
        rw [z, this] at q
        cases q)
    · exact (nw_get q).2
  · rw [un_r (h.mutI b hb)]
    exact nwM b hb
  · obtain ⟨o, e⟩ := h.mutH b hb
    by_cases c : b = pl
    · obtain ⟨_, ⟨es, hl, _⟩⟩ := MA
      exact ⟨_, by rw [c]; exact hl⟩
    · exact ⟨o, keep _ _ e c⟩
  · have ne : k ≠ i := fun z => by
      rw [← z, hk] at hi
      cases hi
    rw [List.getElem?_set_ne ne]
    exact a4 i hi
  · by_cases c : k = i
    · rw [← c, hk] at hi
      cases hi
      refine ⟨hpl, hpM, m', ?_, MA, ok⟩
      rw [← c]
      exact List.getElem?_set_self (List.getElem?_eq_some_iff.mp hs).1
    · obtain ⟨z1, z2, m2, z3, z4, z5⟩ := a5 i p hi
      have np : p.2 ≠ pl := a6 i k p (a, pl) (fun z => c z.symm) hi hk
      obtain ⟨⟨dx, ho⟩, ⟨es, hl, hn, hp⟩⟩ := z4
      have na : p.1 ≠ pl := ne_of ho hlk (by intro z; cases z)
      refine ⟨z1, z2, m2, by rw [List.getElem?_set_ne c]; exact z3, ⟨⟨dx, keep _ _ ho na⟩, ⟨es, keep _ _ hl np, hn, fun j e he => (hp j e he).mono sI⟩⟩, z5⟩
  · rw [un_r e2]
    unfold nw
    rw [e1]
theorem fresh_paper (me n i : Nat) : (Km353.fresh me n).paper i = [] := by
  unfold Km353.Machine.paper Km353.fresh
  rw [List.getD_eq_getElem?_getD, List.getElem?_replicate]
  split <;> rfl
/-- a machine is new -/
theorem postS_new {CM C M x dx pl : Addr} {H H1 Im : Hp} {mu : List Addr} {s : Km353Neutral.S} {as : List (Option (Addr × Addr))} {k me n : Nat} {es : List Addr} (h : SAt CM C H Im mu M s)
    (a1 : as.length = 4) (a2 : s.length = 4) (a3 : H M = some (.lst (as.map mV))) (a4 : ∀ i : Nat, as[i]? = some none → s[i]? = some none)
    (a5 : ∀ (i : Nat) (p : Addr × Addr), as[i]? = some (some p) → p.2 ∈ mu ∧ p.2 ≠ M ∧ ∃ m, s[i]? = some (some m) ∧ MachAt CM C H Im p.1 p.2 m ∧ MOk m)
    (a6 : ∀ (i j : Nat) (p q : Addr × Addr), i ≠ j → as[i]? = some (some p) → as[j]? = some (some q) → p.2 ≠ q.2) (hk : k < 4) (ok : Km353.okSize me n = true) (s1 : Same H H1) (hx : H x = none) (hpl : H pl = none) (o1 : H1 x = some (.ins CM dx (mF (Km353.fresh me n) pl))) (o2 : H1 pl = some (.lst (es.map V.ref))) (o3 : es.length = 64) (o4 : ∀ e ∈ es, H e = none ∧ H1 e = some (.lst [])) :
    PostS CM C H Im mu M (s.set k (some (Km353.fresh me n))) (upd H1 M (.lst ((as.map mV).set k (.ref x)))) := by
  have hM1 := s1 _ _ a3
  have nM : pl ≠ M := (ne_of_none a3 hpl).symm
  have nx : x ≠ M := (ne_of_none a3 hx).symm
  have plI : Im pl = none := h.sub.free hpl
  let J : Hp := fun b => if b = pl then none else nw H H1 b
  have J_get : ∀ {b o}, J b = some o → b ≠ pl ∧ H b = none ∧ H1 b = some o := fun {b o} e => by
    by_cases c : b = pl
    · have : J b = none := if_pos c
      rw [this] at e
      cases e
    · have : J b = nw H H1 b := if_neg c
      rw [this] at e
      exact ⟨c, nw_get e⟩
  have J_old : ∀ b o, H b = some o → J b = none := fun b o e => by
    cases q : J b with
    | none => rfl
    | some u =>
      have := (J_get q).2.1
      rw [e] at this
      cases this
  have keep : ∀ b o, H1 b = some o → b ≠ M → upd H1 M (.lst ((as.map mV).set k (.ref x))) b = some o := fun b o e n => by
    rw [upd_ne n]
    exact e
  refine ⟨un Im J, pl :: mu, ⟨fun b o e => ?_, fun b hb => ?_, fun b hb => ?_, List.mem_cons_of_mem _ h.mM, as.set k (some (x, pl)), by rw [List.length_set]; exact a1, by rw [List.length_set]; exact a2, by rw [upd_same, List.map_set]; rfl, fun i hi => ?_, fun i q hi => ?_, fun i j q r ne hi hj => ?_⟩, fun b o e1 e2 => ?_, fun b o e nm hb => ?_, fun b o e nm => ?_⟩
  · rcases un_get e with q | ⟨_, q⟩
    · exact keep _ _ (s1 _ _ (h.sub _ _ q)) (fun z => by
        have := h.mutI M h.mM
        rw [z, this] at q
        cases q)
    · obtain ⟨_, q1, q2⟩ := J_get q
      exact keep _ _ q2 (fun z => by rw [z, a3] at q1; cases q1)
  · rcases List.mem_cons.mp hb with z | z
    · rw [z, un_r plI]
      exact if_pos rfl
    · rw [un_r (h.mutI b z)]
      obtain ⟨o, e⟩ := h.mutH b z
      exact J_old b o e
  · rcases List.mem_cons.mp hb with z | z
    · rw [z]
      exact ⟨_, keep _ _ o2 nM⟩
    · obtain ⟨o, e⟩ := h.mutH b z
      by_cases c : b = M
      · rw [c]
        exact ⟨_, upd_same⟩
      · exact ⟨o, keep _ _ (s1 _ _ e) c⟩
  · have ne : k ≠ i := fun z => by
      rw [← z, List.getElem?_set_self (by omega)] at hi
      cases hi
    rw [List.getElem?_set_ne ne] at hi ⊢
    exact a4 i hi
  · by_cases c : k = i
    · rw [← c, List.getElem?_set_self (by omega)] at hi
      cases hi
      refine ⟨List.mem_cons_self .., nM, Km353.fresh me n, ?_, ⟨⟨dx, keep _ _ o1 nx⟩, ⟨es, keep _ _ o2 nM, o3, fun j e he => ?_⟩⟩, fresh_ok ok⟩
      · rw [← c]
        exact List.getElem?_set_self (by omega)
      · obtain ⟨e1, e2⟩ := o4 e (List.mem_of_getElem? he)
        have ne : e ≠ pl := fun z => by
          rw [z, o2] at e2
          have e3 : es.map V.ref = [] := HO.lst.inj (Option.some.inj e2)
          have := congrArg List.length e3
          rw [List.length_map, o3] at this
          cases this
        refine ⟨[], ?_, (fun q hq => by cases hq), (by rw [fresh_paper]; rfl)⟩
        rw [un_r (h.sub.free e1)]
        show (if e = pl then none else nw H H1 e) = _
        rw [if_neg ne]
        exact nw_of e1 e2
    · rw [List.getElem?_set_ne c] at hi
      obtain ⟨z1, z2, m2, z3, ⟨⟨dx2, ho⟩, ⟨es2, hl, hn, hp⟩⟩, z5⟩ := a5 i q hi
      refine ⟨List.mem_cons_of_mem _ z1, z2, m2, by rw [List.getElem?_set_ne c]; exact z3, ⟨⟨dx2, keep _ _ (s1 _ _ ho) (ne_of ho a3 (by intro z; cases z))⟩, ⟨es2, keep _ _ (s1 _ _ hl) z2, hn, fun j e he => (hp j e he).mono un_l⟩⟩, z5⟩
  · have old : ∀ (i : Nat) (q : Addr × Addr), as[i]? = some (some q) → q.2 ≠ pl := fun i q hi => by
      obtain ⟨_, _, _, _, ⟨_, ⟨_, hl, _⟩⟩, _⟩ := a5 i q hi
      exact ne_of_none hl hpl
    by_cases c : k = i
    · have cj : k ≠ j := fun z => ne (c.symm.trans z)
      rw [← c, List.getElem?_set_self (by omega)] at hi
      rw [List.getElem?_set_ne cj] at hj
      cases hi
      exact (old j r hj).symm
    · rw [List.getElem?_set_ne c] at hi
      by_cases cj : k = j
      · rw [← cj, List.getElem?_set_self (by omega)] at hj
        cases hj
        exact old i q hi
      · rw [List.getElem?_set_ne cj] at hj
        exact a6 i j q r ne hi hj
  · rw [un_r e2]
    exact J_old b o e1
  · rcases List.mem_cons.mp hb with z | z
    · rw [z, hpl] at e
      cases e
    · exact nm z
  · exact keep _ _ (s1 _ _ e) (fun z => nm (by rw [z]; exact h.mM))

/-! ### told -/
abbrev sTo : Stmt := top 54
def spTo (CM CC CR C : Addr) : Sp := fun vs H Q E => ∃ (M c : Addr) (Im : Hp) (mu : List Addr) (s : Km353Neutral.S) (k e : Nat) (x : Km353.Call), vs = [.ref M, .ref c] ∧ SAt CM C H Im mu M s ∧ CallAt CC H c k x e ∧ k < 4 ∧ COk x ∧ (Km353Neutral.step0 s k x).2 ≠ [] ∧
  (∀ n : Int, Km353Neutral.step0 s k x = (s, [n]) → Refu CR H n E) ∧
  (∀ (H' : Hp) (p : Addr), PostS CM C H Im mu M (Km353Neutral.step0 s k x).1 H' → H p = none → H' p = some (.lst ((Km353Neutral.step0 s k x).2.map V.int)) → Q (.ref p) H')
theorem scTo : FnScope ["machines", "call", "number", "machine"] ["machines", "call"] (defScope sTo) := ⟨rfl, rfl, rfl, by decide +kernel, rfl, by decide +kernel, by decide +kernel⟩
theorem told_only (v : Int) : Km353Neutral.told (Km353.only v) = [v] := rfl
theorem told_out (v : Int) (o : List Nat) : (Km353Neutral.told { value := v, out := o }).map V.int = V.int v :: nV o := by
  show V.int v :: ((o.map fun (x : Nat) => (x : Int)).map V.int) = V.int v :: nV o
  rw [nV_eq]
  rfl
theorem kne {a b : Nat} (h : a ≠ b) : decide (V.int (a : Int) = V.int (b : Int)) = false := decide_eq_false fun z => h (Int.ofNat.inj (V.int.inj z))
theorem ok_to {CM CC CR C fI : Addr} (F : Here K mg "told" sTo ["machines", "call"]) (c : Cst mg) (TC : Cl K CC fC) (Ma : DfX P w K mg base 3 "machine_of" ["me", "machines"] (spMa CM CR)) (Wr : DfX P w K mg base 4 "write" ["machine", "paper", "number"] (spWr CM CR C))
    (Re : DfX P w K mg base 4 "read" ["machine", "paper"] (spRe CM CR C)) (Sa : DfX P w K mg base 4 "say" ["machine", "paper"] (spSa CM CR C)) (He : DfX P w K mg base 5 "hear" ["machine", "message"] (spHe CM CR C)) :
    DfX P w K mg base 6 "told" ["machines", "call"] (spTo CM CC CR C) := by
  refine F.dfX scTo (fun vs H Q E h => ?_) (fun cdv A outer s H vs Q E f hr h => ?_)
  · obtain ⟨M, cl, Im, mu, s, k, e, x, rfl, _⟩ := h
    rfl
  · obtain ⟨M, cl, Im, mu, S, k, e, x, rfl, SA, ⟨⟨dc, nl, ll, hc1, hc2, hc3⟩⟩, hk, cok, hne, dE, dQ⟩ := h
    obtain ⟨as, a1, a2, a3, a4, a5, a6⟩ := SA.ex
    refine ⟨_, pss_cons (ps_set (i := 2) scTo.nd rfl (Or.inl rfl) (pe_ix ix_list (pe_fld (pv 1) rfl) pe_int (fun _ _ => rfl)))
      (pss_cons (ps_if (pt_cmpR op_eq (pe_fld (pv 1) rfl) (pe_gc c.START) (nomark _))
        (pss_cons (ps_asg (pe_dfX Ma hr (by decide) rfl (passes_call (takes_of rfl rfl rfl rfl) (fun _ _ _ _ z => z)) (pa_cons (pe_ix ix_list (pe_fld (pv 1) rfl) pe_int (fun _ _ => rfl)) (pa_cons (pe_ix ix_list (pe_fld (pv 1) rfl) pe_int (fun _ _ => rfl)) pa_nil))) (pg_sub (pv 0) (pv 2) set_list))
        (pss_one (ps_ret (pe_lst (pa_cons pe_int pa_nil))))) pss_nil)
      (pss_cons (ps_set (i := 3) scTo.nd rfl (Or.inl rfl) (pe_ix ix_list (pv 0) (pv 2) (fun _ _ => rfl)))
      (pss_cons (ps_if (pt_cmpR op_eq (pe_fld (pv 1) rfl) (pe_gc c.WRITE) (nomark _))
        (pss_cons (ps_expr (pe_dfX Wr hr (by decide) rfl (passes_call (takes_of rfl rfl rfl rfl) (fun _ _ _ _ z => z)) (pa_cons (pv 3) (pa_cons (pe_ix ix_list (pe_fld (pv 1) rfl) pe_int (fun _ _ => rfl)) (pa_cons (pe_ix ix_list (pe_fld (pv 1) rfl) pe_int (fun _ _ => rfl)) pa_nil)))))
        (pss_one (ps_ret (pe_lst (pa_cons pe_int pa_nil))))) pss_nil)
      (pss_cons (ps_if (pt_cmpR op_eq (pe_fld (pv 1) rfl) (pe_gc c.READ) (nomark _))
        (pss_one (ps_ret (pe_dfX Re hr (by decide) rfl (passes_call (takes_of rfl rfl rfl rfl) (fun _ _ _ _ z => z)) (pa_cons (pv 3) (pa_cons (pe_ix ix_list (pe_fld (pv 1) rfl) pe_int (fun _ _ => rfl)) pa_nil))))) pss_nil)
      (pss_cons (ps_if (pt_cmpR op_eq (pe_fld (pv 1) rfl) (pe_gc c.SAY) (nomark _))
        (pss_one (ps_ret (pe_op op_cat (pe_lst (pa_cons pe_int pa_nil)) (pe_dfX Sa hr (by decide) rfl (passes_call (takes_of rfl rfl rfl rfl) (fun _ _ _ _ z => z)) (pa_cons (pv 3) (pa_cons (pe_ix ix_list (pe_fld (pv 1) rfl) pe_int (fun _ _ => rfl)) pa_nil)))))) pss_nil)
      (pss_one (ps_ret (pe_lst (pa_cons (pe_dfX He hr (by decide) rfl (passes_call (takes_of rfl rfl rfl rfl) (fun _ _ _ _ z => z)) (pa_cons (pv 3) (pa_cons (pe_ix ix_list (pe_fld (pv 1) rfl) pe_int (fun _ _ => rfl)) pa_nil))) pa_nil))))))))), ?_⟩
    have ask : as[k]? = some (as[k]'(by omega)) := List.getElem?_eq_getElem (by omega)
    have hn0 : (nV (cNums k x))[0]? = some (V.int (k : Int)) := by cases x <;> rfl
    refine ⟨_, rfl, cl, CC, dc, _, _, rfl, hc1, TC.cl, TC.na _ (by decide +kernel), cF_n _ _ _ _ _, nl, _, _, _, rfl, rfl, SqL.of hc2, atI_nat (j := 0) hn0, ?_⟩
    refine ⟨_, rfl, cl, CC, dc, _, _, rfl, hc1, TC.cl, TC.na _ (by decide +kernel), cF_k _ _ _ _ _, rfl, _, rfl, ?_⟩
    -- the machine that is there, if the call is none that starts
    have there : Km353.isStart x = false → ∃ p m, as[k]? = some (some p) ∧ S[k]? = some (some m) ∧ MachAt CM C H Im p.1 p.2 m ∧ MOk m ∧ p.2 ∈ mu := fun hx => by
      cases q : as[k]'(by omega) with
      | none =>
        rw [q] at ask
        exact absurd (step_none (a4 k ask) hx) hne
      | some p =>
        rw [q] at ask
        obtain ⟨z1, z2, m, z3, z4, z5⟩ := a5 k p ask
        exact ⟨p, m, ask, z3, z4, z5, z1⟩
    cases x with
    | start me n =>
      refine ite_t (decide_eq_true rfl) ?_
      have hso : ∃ o, S[k]? = some o := ⟨_, List.getElem?_eq_getElem (by omega)⟩
      obtain ⟨so, hso⟩ := hso
      refine ⟨_, rfl, cl, CC, dc, _, _, rfl, hc1, TC.cl, TC.na _ (by decide +kernel), cF_n _ _ _ _ _, nl, _, _, _, rfl, rfl, SqL.of hc2, atI_nat (j := 1) rfl, _, rfl, cl, CC, dc, _, _, rfl, hc1, TC.cl, TC.na _ (by decide +kernel), cF_n _ _ _ _ _, nl, _, _, _, rfl, rfl, SqL.of hc2, atI_nat (j := 2) rfl, me, n, rfl, fun ok => ?_, fun ok H1 y dy pl es s1 hy hpl o1 o2 o3 o4 => ?_⟩
      · exact dE (-22) (step_start_bad hk hso ok)
      · refine ⟨_, rfl, _, rfl, M, _, _, k, rfl, rfl, s1 _ _ a3, ixN_nat (by rw [List.length_map]; omega), ?_⟩
        have po := postS_new SA a1 a2 a3 a4 a5 a6 hk ok s1 hy hpl o1 o2 o3 o4
        refine ⟨(by show 1 ≤ sizeLine; decide), fun p hp => ?_⟩
        rw [step_start_ok hk hso ok] at dQ
        refine dQ _ p (po.mono (same_upd hp)) ?_ upd_same
        have ne : p ≠ M := fun z => by
          rw [z, upd_same] at hp
          cases hp
        rw [upd_ne ne] at hp
        exact s1.free hp
    | write kp v =>
      refine ite_f (kne (a := 1) (b := 0) (by decide)) ?_
      obtain ⟨p, m, hp1, hs1, MA, MO, hpm⟩ := there rfl
      have gk : (as.map mV)[k]? = some (.ref p.1) := by rw [List.getElem?_map, hp1]; rfl
      refine ⟨_, rfl, _, rfl, M, _, _, _, rfl, rfl, SqL.of a3, atI_nat gk, ?_⟩
      refine ⟨_, rfl, cl, CC, dc, _, _, rfl, hc1, TC.cl, TC.na _ (by decide +kernel), cF_k _ _ _ _ _, rfl, _, rfl, ?_⟩
      refine ite_t (decide_eq_true rfl) ?_
      rw [step_some _ hk hs1] at dE dQ
      refine ⟨_, rfl, _, rfl, cl, CC, dc, _, _, rfl, hc1, TC.cl, TC.na _ (by decide +kernel), cF_n _ _ _ _ _, nl, _, _, _, rfl, rfl, SqL.of hc2, atI_nat (j := 1) rfl, _, rfl, cl, CC, dc, _, _, rfl, hc1, TC.cl, TC.na _ (by decide +kernel), cF_n _ _ _ _ _, nl, _, _, _, rfl, rfl, SqL.of hc2, atI_nat (j := 2) rfl,
        p.1, p.2, Im, m, kp, v, rfl, SA.sub, SA.mutI _ hpm, MA, MO, fun ng => ?_, fun nn H1 po => ?_⟩
      · refine dE _ ?_
        rw [act_neg ng]
        show (S.set k (some m), _) = _
        rw [set_same hs1]
        rfl
      · have P1 := postS_of SA a1 a2 a3 a4 a5 a6 hp1 hs1 (act_ok MO cok) po
        refine ⟨(by show 1 ≤ sizeLine; decide), fun q hq => ?_⟩
        have ev : (Km353.act m (.write kp v)).2 = Km353.only 0 := by
          have e0 : Km353.act m (.write kp v) = if Km353.PAPERS ≤ kp then (m, Km353.only (-22)) else if Km353.COUNT ≤ Km353.at_ (Km353.known (m.paper kp)) m.me + 1 then (m, Km353.only (-28)) else ({ m with papers := m.papers.set kp [Km353.write m.me v (m.paper kp)] }, Km353.only 0) := rfl
          rw [e0] at nn ⊢
          by_cases c1 : Km353.PAPERS ≤ kp
          · rw [if_pos c1] at nn
            exact absurd nn (by show ¬ ((0 : Int) ≤ -22); decide)
          · rw [if_neg c1] at nn ⊢
            by_cases c2 : Km353.COUNT ≤ Km353.at_ (Km353.known (m.paper kp)) m.me + 1
            · rw [if_pos c2] at nn
              exact absurd nn (by show ¬ ((0 : Int) ≤ -28); decide)
            · rw [if_neg c2]
        have hqH : H q = none := by
          cases z : H q with
          | none => rfl
          | some o =>
            by_cases qp : q = p.2
            · obtain ⟨_, ⟨_, hl, _⟩⟩ := po.2 _ (un_l (J := nw H H1)) (fun b o e => by
                have : Im b = none := SA.sub.free (nw_get e).1
                rw [un_r this]
                exact e)
              rw [qp, hl] at hq
              cases hq
            · rw [po.1 q o z qp] at hq
              cases hq
        refine dQ _ q (P1.mono (same_upd hq)) hqH ?_
        rw [upd_same, ev]
        rfl
    | read kp =>
      refine ite_f (kne (a := 2) (b := 0) (by decide)) ?_
      obtain ⟨p, m, hp1, hs1, MA, MO, hpm⟩ := there rfl
      have gk : (as.map mV)[k]? = some (.ref p.1) := by rw [List.getElem?_map, hp1]; rfl
      refine ⟨_, rfl, _, rfl, M, _, _, _, rfl, rfl, SqL.of a3, atI_nat gk, ?_⟩
      refine ⟨_, rfl, cl, CC, dc, _, _, rfl, hc1, TC.cl, TC.na _ (by decide +kernel), cF_k _ _ _ _ _, rfl, _, rfl, ?_⟩
      refine ite_f (kne (a := 2) (b := 1) (by decide)) ?_
      refine ⟨_, rfl, cl, CC, dc, _, _, rfl, hc1, TC.cl, TC.na _ (by decide +kernel), cF_k _ _ _ _ _, rfl, _, rfl, ?_⟩
      refine ite_t (decide_eq_true rfl) ?_
      rw [step_some _ hk hs1] at dE dQ
      have e0 : Km353.act m (.read kp) = (m, if Km353.PAPERS ≤ kp then Km353.only (-22) else { value := ((m.paper kp).length : Int), out := ((m.paper kp).map Km353.Version.value ++ List.replicate Km353.APART 0).take Km353.APART }) := rfl
      refine ⟨_, rfl, _, rfl, cl, CC, dc, _, _, rfl, hc1, TC.cl, TC.na _ (by decide +kernel), cF_n _ _ _ _ _, nl, _, _, _, rfl, rfl, SqL.of hc2, atI_nat (j := 1) rfl, p.1, p.2, Im, m, kp, rfl, SA.sub, MA, MO, fun hb => ?_, fun hb H1 q s1 hq hq' => ?_⟩
      · refine dE _ ?_
        rw [e0, if_pos (show Km353.PAPERS ≤ kp from hb)]
        show (S.set k (some m), [(-22 : Int)]) = _
        rw [set_same hs1]
      · have P1 := postS_of SA a1 a2 a3 a4 a5 a6 hp1 hs1 (act_ok MO cok) (Post.same (m := (Km353.act m (.read kp)).1) MA s1)
        refine dQ _ q P1 hq ?_
        rw [e0, if_neg (show ¬ Km353.PAPERS ≤ kp from by show ¬ 64 ≤ kp; omega), hq', told_out]
        rfl
    | say kp =>
      refine ite_f (kne (a := 3) (b := 0) (by decide)) ?_
      obtain ⟨p, m, hp1, hs1, MA, MO, hpm⟩ := there rfl
      have gk : (as.map mV)[k]? = some (.ref p.1) := by rw [List.getElem?_map, hp1]; rfl
      refine ⟨_, rfl, _, rfl, M, _, _, _, rfl, rfl, SqL.of a3, atI_nat gk, ?_⟩
      refine ⟨_, rfl, cl, CC, dc, _, _, rfl, hc1, TC.cl, TC.na _ (by decide +kernel), cF_k _ _ _ _ _, rfl, _, rfl, ?_⟩
      refine ite_f (kne (a := 3) (b := 1) (by decide)) ?_
      refine ⟨_, rfl, cl, CC, dc, _, _, rfl, hc1, TC.cl, TC.na _ (by decide +kernel), cF_k _ _ _ _ _, rfl, _, rfl, ?_⟩
      refine ite_f (kne (a := 3) (b := 2) (by decide)) ?_
      refine ⟨_, rfl, cl, CC, dc, _, _, rfl, hc1, TC.cl, TC.na _ (by decide +kernel), cF_k _ _ _ _ _, rfl, _, rfl, ?_⟩
      refine ite_t (decide_eq_true rfl) ?_
      rw [step_some _ hk hs1] at dE dQ
      have e0 : Km353.act m (.say kp) = (m, if Km353.PAPERS ≤ kp then Km353.only (-22) else { value := 0, out := (⟨m.me, kp, m.paper kp⟩ : Km353.Message).bytes }) := rfl
      refine ⟨(by show 1 ≤ sizeLine; decide), fun q0 hq0 => ?_⟩
      have s0 : Same H (upd H q0 (.lst [.int 0])) := same_upd hq0
      refine ⟨_, rfl, _, rfl, cl, CC, dc, _, _, rfl, s0 _ _ hc1, TC.cl, TC.na _ (by decide +kernel), cF_n _ _ _ _ _, nl, _, _, _, rfl, rfl, SqL.of (s0 _ _ hc2), atI_nat (j := 1) rfl, p.1, p.2, Im, m, kp, rfl, SA.sub.trans s0, MA.mono s0 (Same.refl _), MO, fun hb => ?_, fun hb H1 q s1 hq hq' => ?_⟩
      · refine (dE (-22) ?_).mono s0
        rw [e0, if_pos (show Km353.PAPERS ≤ kp from hb)]
        show (S.set k (some m), [(-22 : Int)]) = _
        rw [set_same hs1]
      · have s01 := s0.trans s1
        have hlen : (⟨m.me, kp, m.paper kp⟩ : Km353.Message).bytes.length ≤ 1000 := by
          have hv : ∀ v ∈ m.paper kp, v.bytes.length = 76 := fun v hv => version_len ((MO.paper hb).ver v hv).2.1
          have hf : ∀ l : List Km353.Version, (∀ v ∈ l, v.bytes.length = 76) → (l.flatMap Km353.Version.bytes).length = 76 * l.length := by
            intro l
            induction l with
            | nil => intro _; rfl
            | cons v l ih =>
              intro h
              rw [List.flatMap_cons, List.length_append, h v (List.mem_cons_self ..), ih fun u hu => h u (List.mem_cons_of_mem _ hu), List.length_cons]
              omega
          have h4 := (MO.paper hb).len
          show (([1, m.me, kp, (m.paper kp).length] ++ ((m.paper kp).flatMap Km353.Version.bytes ++ List.replicate (76 * (4 - (m.paper kp).length)) 0)) ++ Km353.le 4 _).length ≤ 1000
          rw [List.length_append, List.length_append, List.length_append, hf _ hv, List.length_replicate, le_len]
          simp only [List.length_cons, List.length_nil]
          omega
        refine ⟨q0, q, _, _, rfl, rfl, s1 _ _ upd_same, hq', ?_, fun r hr' => ?_⟩
        · rw [nV_len]
          exact sz' (by simp only [List.length_cons, List.length_nil]; omega)
        · have P1 := postS_of SA a1 a2 a3 a4 a5 a6 hp1 hs1 (act_ok MO cok) (Post.same (m := (Km353.act m (.say kp)).1) MA (s01.trans (same_upd (o := .lst ([.int 0] ++ nV (⟨m.me, kp, m.paper kp⟩ : Km353.Message).bytes)) hr')))
          refine dQ _ r P1 (s01.free hr') ?_
          rw [e0, if_neg (show ¬ Km353.PAPERS ≤ kp from by show ¬ 64 ≤ kp; omega), upd_same, told_out]
          rfl
    | heard bs =>
      refine ite_f (kne (a := 4) (b := 0) (by decide)) ?_
      obtain ⟨p, m, hp1, hs1, MA, MO, hpm⟩ := there rfl
      have gk : (as.map mV)[k]? = some (.ref p.1) := by rw [List.getElem?_map, hp1]; rfl
      refine ⟨_, rfl, _, rfl, M, _, _, _, rfl, rfl, SqL.of a3, atI_nat gk, ?_⟩
      refine ⟨_, rfl, cl, CC, dc, _, _, rfl, hc1, TC.cl, TC.na _ (by decide +kernel), cF_k _ _ _ _ _, rfl, _, rfl, ?_⟩
      refine ite_f (kne (a := 4) (b := 1) (by decide)) ?_
      refine ⟨_, rfl, cl, CC, dc, _, _, rfl, hc1, TC.cl, TC.na _ (by decide +kernel), cF_k _ _ _ _ _, rfl, _, rfl, ?_⟩
      refine ite_f (kne (a := 4) (b := 2) (by decide)) ?_
      refine ⟨_, rfl, cl, CC, dc, _, _, rfl, hc1, TC.cl, TC.na _ (by decide +kernel), cF_k _ _ _ _ _, rfl, _, rfl, ?_⟩
      refine ite_f (kne (a := 4) (b := 3) (by decide)) ?_
      rw [step_some _ hk hs1] at dE dQ
      obtain ⟨r, hr1, hr2⟩ := hc3 bs rfl
      refine ⟨_, rfl, _, rfl, cl, CC, dc, _, _, rfl, hc1, TC.cl, TC.na _ (by decide +kernel), cF_l _ _ _ _ _, ll, _, _, _, rfl, rfl, SqL.of hr1, atI_nat (j := 0) rfl, p.1, p.2, r, Im, m, bs, rfl, hr2, cok.1, cok.2, SA.sub, SA.mutI _ hpm, MA, MO, fun ng => ?_, fun nn H1 po => ?_⟩
      · refine dE _ ?_
        rw [act_neg ng]
        show (S.set k (some m), _) = _
        rw [set_same hs1]
        rfl
      · have P1 := postS_of SA a1 a2 a3 a4 a5 a6 hp1 hs1 (act_ok MO cok) po
        refine ⟨(by show 1 ≤ sizeLine; decide), fun q hq => ?_⟩
        have hqH : H q = none := by
          cases z : H q with
          | none => rfl
          | some o =>
            by_cases qp : q = p.2
            · obtain ⟨_, ⟨_, hl, _⟩⟩ := po.2 _ (un_l (J := nw H H1)) (fun b o e => by
                have : Im b = none := SA.sub.free (nw_get e).1
                rw [un_r this]
                exact e)
              rw [qp, hl] at hq
              cases hq
            · rw [po.1 q o z qp] at hq
              cases hq
        have ev : Km353Neutral.told (Km353.act m (.heard bs)).2 = [(Km353.act m (.heard bs)).2.value] := by
          by_cases r : Right bs
          · rw [heard_some (messageOf_some cok.1 cok.2 r)]
            split
            · rfl
            · split
              · rfl
              · split <;> rfl
          · rw [heard_none (messageOf_none cok.1 cok.2 r)]
            rfl
        refine dQ _ q (P1.mono (same_upd hq)) hqH ?_
        rw [upd_same, ev]
        rfl
end
end PR
namespace PR
open PySem PySem.Spec PyProof.Rows L2
section
variable {P : Program} {w : World} {K : PySem.W.Frag} {mg : Str → Option Value} {base : Heap}
/-! ### told_or_refused -/
abbrev sTr : Stmt := top 55
def spTr (CM CC C : Addr) : Sp := fun vs H Q _ => ∃ (M c : Addr) (Im : Hp) (mu : List Addr) (s : Km353Neutral.S) (k e : Nat) (x : Km353.Call), vs = [.ref M, .ref c] ∧ SAt CM C H Im mu M s ∧ CallAt CC H c k x e ∧ k < 4 ∧ COk x ∧ (Km353Neutral.step0 s k x).2 ≠ [] ∧
  (∀ (H' : Hp) (p : Addr), PostS CM C H Im mu M (Km353Neutral.step0 s k x).1 H' → H p = none → H' p = some (.lst ((Km353Neutral.step0 s k x).2.map V.int)) → Q (.ref p) H')
theorem scTr : FnScope ["machines", "call", "refusal"] ["machines", "call"] (defScope sTr) := ⟨rfl, rfl, rfl, by decide +kernel, rfl, by decide +kernel, by decide +kernel⟩
theorem ok_tr {CM CC CR C fI : Addr} (F : Here K mg "told_or_refused" sTr ["machines", "call"]) (T : RefC K mg CR fI) (To : DfX P w K mg base 6 "told" ["machines", "call"] (spTo CM CC CR C)) : Df P w K mg base 7 "told_or_refused" ["machines", "call"] (spTr CM CC C) := by
  obtain ⟨fT, fdT, gT, kT, bT, GT⟩ := To
  refine F.df scTr (fun vs H Q E h => ?_) (fun cdv A outer s H vs Q E f hr h => ?_)
  · obtain ⟨M, c, Im, mu, s, k, e, x, rfl, _⟩ := h
    rfl
  · obtain ⟨M, c, Im, mu, S, k, e, x, rfl, SA, CA, hk, cok, hne, dQ⟩ := h
    refine ⟨_, pss_one (ps_try_as (i := 2) (tb := fun W => tRet (tCallS (spTo CM CC CR C) (WE W) (tCons (tVar 0) (tCons (tVar 1) tNil)))) (ts := fun a cls d => tRet (tLst (tCons (tXf a cls d CR "code" (tVar 2)) tNil))) (Wout := fun _ _ _ _ => False) rfl rfl scTr.nd rfl rfl ⟨rfl, by decide, Or.inl T.g⟩ takes0
      (fun W pn xe tk _ => pss_one (ps_ret (by exact (pe_callS GT hr rfl gT kT bT (fun σ => passAt tk σ) (by exact (pa_cons (pv 0) (pa_cons (pv 1) pa_nil)))))))
      (fun a oe cls d pn hz hf => pss_one (ps_ret (by exact (pe_lst (pa_cons (pe_xf T.xf T.nc hz hf (pv 2)) pa_nil)))))), ?_⟩
    refine ⟨_, rfl, _, rfl, M, c, Im, mu, S, k, e, x, rfl, SA, CA, hk, cok, hne, fun n hn H1 d s1 hd => ?_, fun H1 p po hp hp' => dQ H1 p po hp hp'⟩
    refine ⟨true, T.te, fun _ a ha => ?_, fun q => Bool.noConfusion q⟩
    refine ⟨_, rfl, rfl, rfl, d, _, _, rfl, hd, lkh, (by show 1 ≤ sizeLine; decide), fun p hp => ?_⟩
    refine dQ _ p ?_ (s1.free hp) ?_
    · rw [hn]
      exact PostS.same SA (s1.trans (same_upd hp))
    · rw [upd_same, hn]
      rfl

/-! ### answers -/
abbrev sAn : Stmt := top 56
def spAn (K : PySem.W.Frag) : Sp := fun vs H Q _ => ∃ (l : Addr) (ns : List Int), vs = [.ref l] ∧ SqL K H l (ns.map V.int) ∧ ns.length ≤ 16000 ∧ PyKm353.answers_asked ns = true ∧ ∀ (H' : Hp) (p : Addr), H' p = some (.lst ((PyKm353.answers ns).map V.int)) → Q (.ref p) H'
theorem scAn : FnScope ["calls", "found", "machines", "at", "call", "answer"] ["calls"] (defScope sAn) := ⟨rfl, rfl, rfl, by decide +kernel, rfl, by decide +kernel, by decide +kernel⟩
theorem seq_keep {H H' : Hp} {l : Addr} {xs : List V} (h : SqL K H l xs) (k : ∀ o, H l = some o → H' l = some o) : SqL K H' l xs := by
  rcases h with (h | ⟨o, h⟩) | h
  · exact .inl (.inl (k _ h))
  · exact .inl (.inr ⟨o, k _ h⟩)
  · exact .inr h
theorem SAt.found {CM C M F : Addr} {H Im : Hp} {mu : List Addr} {s : Km353Neutral.S} {xs ys : List V} (h : SAt CM C H Im mu M s) (hF : H F = some (.lst xs)) (nF : F ∉ mu) (iF : Im F = none) : SAt CM C (upd H F (.lst ys)) Im mu M s := by
  obtain ⟨h1, h2, h3, h4, as, a1, a2, a3, a4, a5, a6⟩ := h
  have keep : ∀ b o, H b = some o → b ≠ F → upd H F (.lst ys) b = some o := fun b o e n => by
    rw [upd_ne n]
    exact e
  refine ⟨fun b o e => keep _ _ (h1 _ _ e) (fun z => by rw [z, iF] at e; cases e), h2, fun b hb => ?_, h4, as, a1, a2, keep _ _ a3 (fun z => nF (by rw [← z]; exact h4)), a4, fun i p e => ?_, a6⟩
  · obtain ⟨o, e⟩ := h3 b hb
    exact ⟨o, keep _ _ e (fun z => nF (by rw [← z]; exact hb))⟩
  · obtain ⟨z1, z2, m, z3, ⟨⟨dx, ho⟩, ⟨es, hl, hn, hp⟩⟩, z5⟩ := a5 i p e
    exact ⟨z1, z2, m, z3, ⟨⟨dx, keep _ _ ho (ne_of ho hF (by intro z; cases z))⟩, ⟨es, keep _ _ hl (fun z => nF (by rw [← z]; exact z1)), hn, hp⟩⟩, z5⟩
/-- what is left to be done -/
structure Left (ns : List Int) (at_ : Nat) (s : Km353Neutral.S) (outs : List Int) : Prop where
  ex : ∃ (f : Nat) (cs : List (List (List Int))), PyFlat.calls PyKm353.shape f (ns.drop at_) = some cs ∧ PyInside.calls PyKm353.bound cs = true ∧ Km353Neutral.may s (cs.map PyKm353.whole) = true ∧ outs ++ PyFlat.told (PyFlat.played Km353Neutral.step s (cs.map PyKm353.whole)) = PyKm353.answers ns
theorem left_start {ns : List Int} (h : PyKm353.answers_asked ns = true) : Left ns 0 Km353Neutral.start [] ∧ (PyKm353.answers ns).length ≤ 10000000 := by
  unfold PyKm353.answers_asked at h
  cases e : PyFlat.calls PyKm353.shape ns.length ns with
  | none =>
    rw [e] at h
    cases h
  | some raw =>
    rw [e] at h
    simp only [Bool.and_eq_true] at h
    obtain ⟨⟨⟨⟨h1, h2⟩, h3⟩, h4⟩, h5⟩ := h
    unfold Km353Neutral.asked at h4
    simp only [Bool.and_eq_true] at h4
    refine ⟨⟨ns.length, raw, by rw [List.drop_zero]; exact e, h3, h4.2.2.2, ?_⟩, of_decide_eq_true h5⟩
    unfold PyKm353.answers PyKm353.calls
    rw [e]
    rfl
theorem left_end {ns : List Int} {at_ : Nat} {s : Km353Neutral.S} {outs : List Int} (h : Left ns at_ s outs) (ha : ns.length ≤ at_) : outs = PyKm353.answers ns := by
  obtain ⟨f, cs, h1, _, _, h4⟩ := h.ex
  rw [List.drop_eq_nil_of_le ha] at h1
  have e : cs = [] := by
    cases f <;> exact (Option.some.inj h1).symm
  rw [e] at h4
  rw [← h4]
  exact (List.append_nil outs).symm
theorem left_next {ns : List Int} {at_ : Nat} {s : Km353Neutral.S} {outs : List Int} (h : Left ns at_ s outs) (ha : at_ < ns.length) :
    ∃ (k : Nat) (x : Km353.Call) (t : List Int), ns.drop at_ = (cEnc k x).map Int.ofNat ++ t ∧ k < 4 ∧ COk x ∧ (Km353Neutral.step0 s k x).2 ≠ [] ∧ 0 < (cEnc k x).length ∧ at_ + (cEnc k x).length ≤ ns.length ∧
      outs.length + (Km353Neutral.step0 s k x).2.length + 1 ≤ (PyKm353.answers ns).length ∧
      Left ns (at_ + (cEnc k x).length) (Km353Neutral.step0 s k x).1 (outs ++ [((Km353Neutral.step0 s k x).2.length : Int)] ++ (Km353Neutral.step0 s k x).2) := by
  obtain ⟨f, cs, h1, h2, h3, h4⟩ := h.ex
  rw [List.drop_eq_getElem_cons ha] at h1
  cases f with
  | zero => cases h1
  | succ f =>
    obtain ⟨c, cs', t, k, x, rfl, d1, d2, d3, d4, d5, d6⟩ := decode (s := s) h1 h2
    rw [← List.drop_eq_getElem_cons ha] at d3
    have hs := d6 s
    rw [List.map_cons] at h3 h4
    have h3' : (!((Km353Neutral.step s (PyKm353.whole c)).2.isEmpty) && Km353Neutral.may (Km353Neutral.step s (PyKm353.whole c)).1 (cs'.map PyKm353.whole)) = true := h3
    rw [Bool.and_eq_true, hs] at h3'
    have h4' : outs ++ (((Km353Neutral.step s (PyKm353.whole c)).2.length : Int) :: (Km353Neutral.step s (PyKm353.whole c)).2 ++ PyFlat.told (PyFlat.played Km353Neutral.step (Km353Neutral.step s (PyKm353.whole c)).1 (cs'.map PyKm353.whole))) = PyKm353.answers ns := by
      rw [← h4]
      rfl
    rw [hs] at h4'
    have hlen := congrArg List.length d3
    rw [List.length_drop, List.length_append, List.length_map] at hlen
    refine ⟨k, x, t, d3, d4, d5, fun z => ?_, by unfold cEnc; simp, by omega, ?_, ⟨f, cs', ?_, d2, h3'.2, ?_⟩⟩
    · rw [z] at h3'
      cases h3'.1
    · rw [← h4', List.length_append, List.length_append, List.length_cons]
      omega
    · rw [← List.drop_drop, d3, List.drop_left' (by rw [List.length_map])]
      exact d1
    · rw [← h4']
      simp
def muAt (n : Nat) (σ : L2.St) : Nat := match (σ[3]? : Option (Option V)) with
  | some (some (V.int i)) => n - i.toNat
  | _ => 0
theorem ok_an {CM CC C fa : Addr} {fd : FuncData} (F : Fun K "answers" "answers" sAn fa fd) (c : Cst mg) (TC : Cl K CC fC) (Ca : Df P w K mg base 3 "call_at" ["calls", "at"] (spCa K CC)) (Tr : Df P w K mg base 7 "told_or_refused" ["machines", "call"] (spTr CM CC C)) : FnOk P w K mg base CX0 8 fa fd ["calls"] (spAn K) := by
  refine F.ok scAn (fun vs H Q E h => ?_) (fun cdv A outer s H vs Q E hr h => ?_)
  · obtain ⟨l, ns, rfl, _⟩ := h
    rfl
  · obtain ⟨l, ns, rfl, hl, hn, hask, kQ⟩ := h
    refine ⟨_, pss_cons (ps_set (i := 1) scAn.nd rfl (Or.inl rfl) (pe_lst pa_nil))
      (pss_cons (ps_set (i := 2) scAn.nd rfl (Or.inl rfl) (pe_op op_rep (pe_lst (pa_cons pe_non pa_nil)) (pe_gc c.OBJECTS)))
      (pss_cons (ps_set (i := 3) scAn.nd rfl (Or.inl rfl) pe_int)
      (pss_cons (ps_while PassesOwn.never (pt_cmpR op_lt (pv 3) (pe_callB call_len_seq (by rfl) c.len PySem.boot_len (pa_cons (pv 0) pa_nil)) (nomark _))
        (pss_cons (ps_set (i := 4) scAn.nd rfl (Or.inl rfl) (pe_df Ca hr (by decide) rfl (pa_cons (pv 0) (pa_cons (pv 3) pa_nil))))
        (pss_cons (ps_set (i := 5) scAn.nd rfl (Or.inl rfl) (pe_df Tr hr (by decide) rfl (pa_cons (pv 2) (pa_cons (pv 4) pa_nil))))
        (pss_cons (ps_expr (pe_bm PySem.F.plainAttrs_list PySem.F.slot_list_append PySem.F.type_list_append mt_append (pv 1) (pa_cons (pe_callB call_len_seq (by rfl) c.len PySem.boot_len (pa_cons (pv 5) pa_nil)) pa_nil)))
        (pss_cons (ps_expr (pe_bm PySem.F.plainAttrs_list PySem.F.slot_list_extend PySem.F.type_list_extend mt_extend (pv 1) (pa_cons (pv 5) pa_nil)))
        (pss_one (ps_set (i := 3) scAn.nd rfl (Or.inl rfl) (pe_fld (pv 4) rfl))))))))
      (pss_one (ps_ret (pv 1)))))), ?_⟩
    obtain ⟨L0, hmax⟩ := left_start hask
    refine ⟨Nat.zero_le _, fun F hF => ?_⟩
    have s1 : Same H (upd H F (.lst [])) := same_upd hF
    refine ⟨(by show 1 ≤ sizeLine; decide), fun q hq => ⟨q, 4, _, rfl, rfl, upd_same, by decide, by decide, (by show 1 * 4 ≤ sizeLine; decide), fun M hM => ?_⟩⟩
    have s2 := s1.trans (same_upd (o := .lst [.non]) hq)
    have s3 := s2.trans (same_upd (o := .lst (List.replicate (Int.toNat 4) [V.non]).flatten) hM)
    generalize hH3 : upd (upd (upd H F (.lst [])) q (.lst [.non])) M (.lst (List.replicate (Int.toNat 4) [V.non]).flatten) = H3 at s3
    have h3F : H3 F = some (.lst []) := by
      rw [← hH3]
      exact (same_upd hM) _ _ ((same_upd hq) _ _ upd_same)
    have h3M : H3 M = some (.lst [.non, .non, .non, .non]) := by
      rw [← hH3]
      exact upd_same
    have nFM : F ≠ M := ne_of_none ((same_upd hq (o := .lst [.non])) _ _ upd_same) hM
    have hMH : H M = none := s2.free hM
    have SA0 : SAt (CM := CM) (C := C) H3 (fun _ => none) [M] M Km353Neutral.start := by
      refine ⟨(fun _ _ e => by cases e), (fun _ _ => rfl), fun b hb => ?_, List.mem_singleton.mpr rfl, [none, none, none, none], rfl, rfl, h3M, fun i hi => ?_, fun i p hi => ?_, fun i j p q' ne hi hj => ?_⟩
      · rw [List.mem_singleton.mp hb]
        exact ⟨_, h3M⟩
      · match i, hi with
        | 0, _ => rfl
        | 1, _ => rfl
        | 2, _ => rfl
        | 3, _ => rfl
        | i + 4, hi => simp at hi
      · match i, hi with
        | 0, hi => cases hi
        | 1, hi => cases hi
        | 2, hi => cases hi
        | 3, hi => cases hi
        | i + 4, hi => simp at hi
      · match i, hi with
        | 0, hi => cases hi
        | 1, hi => cases hi
        | 2, hi => cases hi
        | 3, hi => cases hi
        | i + 4, hi => simp at hi
    refine while_by (fun σ H' => ∃ (at_ : Nat) (S : Km353Neutral.S) (outs : List Int) (Im : Hp) (mu : List Addr) (x y : Option V), σ = [some (.ref l), some (.ref F), some (.ref M), some (.int (at_ : Int)), x, y] ∧ at_ ≤ ns.length ∧ (∀ o, H l = some o → H' l = some o ∧ l ∉ mu) ∧ SAt CM C H' Im mu M S ∧ H' F = some (.lst (outs.map V.int)) ∧ F ∉ mu ∧ Im F = none ∧ Left ns at_ S outs)
      (fun σ _ => muAt ns.length σ) ⟨0, _, [], _, [M], none, none, rfl, Nat.zero_le _, fun o e => ⟨s3 _ _ e, fun z => ?_⟩, SA0, h3F, fun z => nFM (List.mem_singleton.mp z), rfl, L0⟩ ?_ ?_
    · rw [List.mem_singleton.mp z, hMH] at e
      cases e
    · rintro σ H' ⟨at_, S, outs, Im, mu, x4, x5, rfl, hat, hl', SA, hFo, nF, iF, L⟩
      have hlq : SqL K H' l (ns.map V.int) := seq_keep hl fun o e => (hl' o e).1
      refine ⟨_, rfl, _, rfl, l, _, rfl, .inl hlq, _, _, rfl, rfl, _, rfl, ?_⟩
      rw [List.length_map]
      by_cases ha : at_ < ns.length
      · refine ite_t (decide_eq_true (by omega)) ?_
        obtain ⟨k, x, t, d1, d2, d3, d4, d5, d6, d7, d8⟩ := left_next L ha
        refine ⟨_, rfl, _, rfl, l, ns, t, at_, k, x, rfl, hlq, fun H1 s4 => seq_keep hlq fun o e => s4 _ _ e, d1, fun H1 cl s4 hcn CA => ?_⟩
        have SA1 := SA.mono s4
        refine ⟨_, rfl, _, rfl, M, cl, Im, mu, S, k, _, x, rfl, SA1, CA, d2, d3, d4, fun H2 p po hp hp' => ?_⟩
        obtain ⟨Im', mu', SA2, c1, c2, c3⟩ := po
        have hF1 := s4 _ _ hFo
        have hF2 : H2 F = some (.lst (outs.map V.int)) := c3 _ _ hF1 nF
        have nF2 : F ∉ mu' := c2 _ _ hF1 nF
        have iF2 : Im' F = none := c1 _ _ hF1 iF
        have npF : p ≠ F := (ne_of_none hF1 hp).symm
        obtain ⟨dc, nl, ll, hc1, hc2, _⟩ := CA.ex
        have ncm : cl ∉ mu := fun z => by
          obtain ⟨o, e⟩ := SA.mutH cl z
          rw [hcn] at e
          cases e
        have hc2' := c3 _ _ hc1 ncm
        have ncF : cl ≠ F := ne_of hc1 hF1 (by intro z; cases z)
        have hsz : outs.length + (Km353Neutral.step0 S k x).2.length + 1 ≤ sizeLine := by
          rw [sizeLine_eq]
          omega
        refine ⟨_, rfl, .inl ⟨rfl, _, SqL.of hF2⟩, _, rfl, p, _, rfl, .inl (SqL.of hp'), F, _, _, rfl, rfl, hF2, by rw [List.length_map]; omega, ?_⟩
        have hp3 : upd H2 F (.lst (outs.map V.int ++ [.int (((Km353Neutral.step0 S k x).2.map V.int).length : Int)])) p = some (.lst ((Km353Neutral.step0 S k x).2.map V.int)) := by
          rw [upd_ne npF]
          exact hp'
        refine ⟨_, rfl, .inl ⟨rfl, _, SqL.of upd_same⟩, _, rfl, F, p, _, _, rfl, rfl, upd_same, hp3, by simp; omega, ?_⟩
        rw [upd_upd]
        have eo : outs.map V.int ++ [V.int (((Km353Neutral.step0 S k x).2.map V.int).length : Int)] ++ (Km353Neutral.step0 S k x).2.map V.int = (outs ++ [((Km353Neutral.step0 S k x).2.length : Int)] ++ (Km353Neutral.step0 S k x).2).map V.int := by
          rw [List.map_append, List.map_append, List.length_map]
          rfl
        rw [eo]
        refine ⟨_, rfl, cl, CC, dc, _, _, rfl, by rw [upd_ne ncF]; exact hc2', TC.cl, TC.na _ (by decide +kernel), cF_b _ _ _ _ _, ⟨at_ + (cEnc k x).length, _, _, Im', mu', some (.ref cl), some (.ref p), rfl, d6, fun o e => ?_, SA2.found hF2 nF2 iF2, upd_same, nF2, iF2, d8⟩, ?_⟩
        · obtain ⟨e1, e2⟩ := hl' o e
          have e3 := s4 _ _ e1
          refine ⟨?_, c2 _ _ e3 e2⟩
          have nlF : l ≠ F := ne_of_none e hF
          rw [upd_ne nlF]
          exact c3 _ _ e3 e2
        · show ns.length - (((at_ + (cEnc k x).length : Nat) : Int)).toNat < ns.length - ((at_ : Int)).toNat
          omega
      · refine ite_f (decide_eq_false (by omega)) ?_
        refine ⟨_, rfl, kQ H' F ?_⟩
        rw [hFo, left_end L (by omega)]
    · rintro σ H' Q1 Q2 hQ ⟨v, e1, u, e2, p, ys, e3, e4, i, j, e5, e6, b, e7, q⟩
      exact ⟨v, e1, u, e2, p, ys, e3, e4, i, j, e5, e6, b, e7, hQ _ _ q⟩
end
end PR
namespace PR
open PySem PySem.Spec PyProof.Rows L2
/-! ### what the top has written -/
section
variable {K : PySem.W.Frag} {h : Heap} {mg : Str → Option Value}
theorem here_mk {x : Str} {st : Stmt} {ps : List Str} {f : Addr} {oc : Value} {od an : Option Addr} {osl : Array (Option Value)} {kV doc pm cdv ct : Value} (X : K.In h) (G : h.Ns mainGlobals mg) (a : PySem.W.nsIn K mainGlobals x = some (some (.ref f)))
    (l : K.lookup f = some ⟨oc, od, .func (PySem.W.fnOf x x (defArgs st) (defBody st) (defScope st) .none kV doc pm an cdv ct), osl⟩) (c : PySem.W.codeIn K cdv x = true) (k : PySem.W.keepIn K (.ref f) = true)
    (b : ∀ (kV doc pm : Value) (an : Option Addr) (cdv ct : Value) (us : List Value), us.length = ps.length → bindArgs (PySem.W.fnOf x x (defArgs st) (defBody st) (defScope st) .none kV doc pm an cdv ct) ⟨us, []⟩ = pure (ps.zip us)) : Here K mg x st ps :=
  ⟨f, _, PySem.W.mg_of X G a, fun_mk l c k, (fun_mk (x := x) (qual := x) (st := st) l c k).binds b⟩
theorem herei_mk {x qn : Str} {C : Addr} {st : Stmt} {ps : List Str} {f : Addr} {oc : Value} {od an : Option Addr} {osl : Array (Option Value)} {kV doc pm cdv ct : Value} (X : K.In h) (G : h.Ns mainGlobals mg) (aC : PySem.W.nsIn K mainGlobals x = some (some (.ref C)))
    (a : PySem.W.findIn K (.ref C) "__init__" = some (some (.ref f))) (i : PySem.W.isFn K (.ref f) = true) (l : K.lookup f = some ⟨oc, od, .func (PySem.W.fnOf "__init__" qn (defArgs st) (defBody st) (defScope st) .none kV doc pm an cdv ct), osl⟩) (c : PySem.W.codeIn K cdv qn = true) (k : PySem.W.keepIn K (.ref f) = true)
    (mk : PySem.W.makesIn K C = true) (kc : PySem.W.keepIn K (.ref C) = true)
    (b : ∀ (kV doc pm : Value) (an : Option Addr) (cdv ct : Value) (us : List Value), us.length = ps.length → bindArgs (PySem.W.fnOf "__init__" qn (defArgs st) (defBody st) (defScope st) .none kV doc pm an cdv ct) ⟨us, []⟩ = pure (ps.zip us)) : HereI K mg x qn C st ps :=
  ⟨f, _, PySem.W.mg_of X G aC, ⟨mk, a, i, kc⟩, fun_mk l c k, (fun_mk (x := "__init__") (qual := qn) (st := st) l c k).binds b⟩
theorem cl3 {C : Addr} {a b c : Str} (pg : PySem.W.plainGet K C Str.empty = true) (hd : PySem.W.hasDictIn K C = true) (po : PySem.W.plainOver K C = true) (sa : PySem.W.findIn K (.ref C) "__setattr__" = some (some (.builtin "object.__setattr__")))
    (h1 : PySem.W.findIn K (.ref C) a = some none) (h2 : PySem.W.findIn K (.ref C) b = some none) (h3 : PySem.W.findIn K (.ref C) c = some none) : Cl K C [a, b, c] := ⟨⟨pg, hd, po, sa⟩, fun f hf => by
  rcases List.mem_cons.mp hf with z | hf
  · rw [z]; exact h1
  · rcases List.mem_cons.mp hf with z | hf
    · rw [z]; exact h2
    · rw [List.mem_singleton.mp hf]; exact h3⟩
theorem cl4 {C : Addr} {a b c d : Str} (pg : PySem.W.plainGet K C Str.empty = true) (hd : PySem.W.hasDictIn K C = true) (po : PySem.W.plainOver K C = true) (sa : PySem.W.findIn K (.ref C) "__setattr__" = some (some (.builtin "object.__setattr__")))
    (h1 : PySem.W.findIn K (.ref C) a = some none) (h2 : PySem.W.findIn K (.ref C) b = some none) (h3 : PySem.W.findIn K (.ref C) c = some none) (h4 : PySem.W.findIn K (.ref C) d = some none) : Cl K C [a, b, c, d] := ⟨⟨pg, hd, po, sa⟩, fun f hf => by
  rcases List.mem_cons.mp hf with z | hf
  · rw [z]; exact h1
  · rcases List.mem_cons.mp hf with z | hf
    · rw [z]; exact h2
    · rcases List.mem_cons.mp hf with z | hf
      · rw [z]; exact h3
      · rw [List.mem_singleton.mp hf]; exact h4⟩
theorem gc_mk {x : Str} {i : Int} {t : Tok} (X : K.In h) (G : h.Ns mainGlobals mg) (a : PySem.W.nsIn K mainGlobals x = some (some (.int i t))) : Gc mg x (.int i) := ⟨_, PySem.W.mg_of X G a, t, rfl⟩
theorem gr_mk {x : Str} {a : Addr} (X : K.In h) (G : h.Ns mainGlobals mg) (e : PySem.W.nsIn K mainGlobals x = some (some (.ref a))) : Gc mg x (.ref a) := ⟨_, PySem.W.mg_of X G e, rfl⟩
theorem tup5 {a : Addr} {dd : Option Addr} {sl : Array (Option Value)} {n : Nat} {i1 i2 i3 i4 i5 : Int} {t1 t2 t3 t4 t5 : Tok} (e : K.lookup a = some { cls := .type "tuple", dict := dd, data := .seq #[.int i1 t1, .int i2 t2, .int i3 t3, .int i4 t4, .int i5 t5] n, slots := sl }) (H : Hp) :
    SqT K H a [.int i1, .int i2, .int i3, .int i4, .int i5] := .inr ⟨_, _, _, e, rfl, rfl, (by show 5 ≤ sizeLine; decide), .cons ⟨_, rfl⟩ (.cons ⟨_, rfl⟩ (.cons ⟨_, rfl⟩ (.cons ⟨_, rfl⟩ (.cons ⟨_, rfl⟩ .nil))))⟩
theorem oex_mk {C N : Addr} {nm q : Str} {bs : List Value} {sn : List Str} {sub : List Value} {ab : Bool} {col : Option Bool} {dd : Option Addr} {m0 m1 m2 m3 m5 : Option Value} (xL : K.lookup C = some (excClassObj nm q C N bs [.type "ValueError", .type "Exception", .type "BaseException", .type "object"] true sn sub ab col dd m0 m1 m2 m3 m5 "ValueError.__new__"))
    (sa : PySem.W.findIn K (.ref C) "__setattr__" = some (some (.builtin "object.__setattr__"))) (eC : PySem.W.subIn K (.ref C) (.type "BaseException") = some true) (tC : PySem.W.typeIn K (.ref C) = some (.type "type")) (kC : PySem.W.keepIn K (.ref C) = true) : OexC K C :=
  ⟨⟨nm, q, N, bs, _, sn, sub, ab, col, dd, m0, m1, m2, m3, m5, xL, by decide +kernel⟩, sa, eC, tC, kC⟩
theorem hereR_mk {f : Addr} {oc : Value} {od an : Option Addr} {osl : Array (Option Value)} {kV doc pm cdv ct : Value} (l : K.lookup f = some ⟨oc, od, .func (PySem.W.fnOf "__init__" "Refused.__init__" (defArgs sIR) (defBody sIR) (defScope sIR) .none kV doc pm an cdv ct), osl⟩) (c : PySem.W.codeIn K cdv "Refused.__init__" = true) (k : PySem.W.keepIn K (.ref f) = true) :
    ∃ fd, Fun K "__init__" "Refused.__init__" sIR f fd ∧ Binds K fd ["self", "code"] [] :=
  ⟨_, fun_mk l c k, (fun_mk (x := "__init__") (qual := "Refused.__init__") (st := sIR) l c k).binds fun _ _ _ _ _ _ us hl => match us, hl with | [_, _], _ => rfl⟩
theorem exm_of {S : Addr} (h1 : PySem.W.subIn K (.ref S) (.type "BaseException") = some true) (h2 : PySem.W.isClsIn K S = true) (h3 : PySem.W.typeIn K (.ref S) = some (.type "type")) (h4 : PySem.W.subIn K (.ref S) (.ref S) = some true) : PySem.W.exmOne K (.ref S) (.ref S) = some true := by
  have t : (some true == some true) = true := rfl
  have e1 : (PySem.W.subIn K (.ref S) (.type "BaseException") == some true) = true := by
    rw [h1]
    exact t
  have e2 : ((PySem.W.clsIn K S).isSome && PySem.W.typeIn K (.ref S) == some (.type "type")) = true := by
    rw [show (PySem.W.clsIn K S).isSome = true from h2, h3]
    decide
  show (if (PySem.W.subIn K (.ref S) (.type "BaseException") == some true) = true then (if ((PySem.W.clsIn K S).isSome && PySem.W.typeIn K (.ref S) == some (.type "type")) = true then PySem.W.subIn K (.ref S) (.ref S) else none) else none) = some true
  rw [if_pos e1, if_pos e2]
  exact h4
end

structure Txt (K : PySem.W.Frag) (mg : Str → Option Value) (CV CT CR CM CC fI aN aL : Addr) : Prop where
  c : Cst mg
  iv : HereI K mg "Version" "Version.__init__" CV sIV ["self", "writer", "counts", "number"]
  tv : Cl K CV fV
  it : HereI K mg "Told" "Told.__init__" CT sIT ["self", "who", "paper", "versions"]
  tt : Cl K CT fT
  im : HereI K mg "Machine" "Machine.__init__" CM sIM ["self", "me", "machines"]
  tm : Cl K CM fM
  ic : HereI K mg "Call" "Call.__init__" CC sIC ["self", "kind", "numbers", "lists", "behind"]
  tc : Cl K CC fC
  ev : ClE K CV
  r : RefC K mg CR fI
  gN : Gc mg "NUMBERS_OF" (.ref aN)
  gL : Gc mg "LISTS_OF" (.ref aL)
  hN : ∀ H, SqT K H aN nOf
  hL : ∀ H, SqT K H aL lOf
  go : Here K mg "goes_by_all" sGo ["one", "other"]
  gb : Here K mg "is_gone_by" sGb ["versions", "other"]
  al : Here K mg "are_alike" sAl ["one", "other"]
  io : Here K mg "in_order" sIo ["versions"]
  wo : Here K mg "written_on" sWo ["versions", "me", "number"]
  pt : Here K mg "put_together" sPt ["there", "told"]
  as_ : Here K mg "are_same" sAs ["some", "others"]
  ch : Here K mg "clash" sCh ["there", "told"]
  ck : Here K mg "check_of" sCk ["some"]
  lf : Here K mg "low_first" sLf ["number", "many"]
  ni : Here K mg "number_in" sNi ["some"]
  vb : Here K mg "version_bytes" sVb ["version"]
  mo : Here K mg "message_of" sMo ["who", "paper", "versions"]
  vt : Here K mg "version_at" sVt ["message", "begin"]
  rr : Here K mg "is_right_row" sRr ["versions"]
  tb : Here K mg "told_by" sTb ["message"]
  ma : Here K mg "machine_of" sMa ["me", "machines"]
  ap : Here K mg "ask_paper" sAp ["paper"]
  wr : Here K mg "write" sWr ["machine", "paper", "number"]
  re : Here K mg "read" sRe ["machine", "paper"]
  sa : Here K mg "say" sSa ["machine", "paper"]
  at_ : Here K mg "ask_told" sAt ["machine", "told"]
  he : Here K mg "hear" sHe ["machine", "message"]
  ca : Here K mg "call_at" sCa ["calls", "at"]
  to : Here K mg "told" sTo ["machines", "call"]
  tr : Here K mg "told_or_refused" sTr ["machines", "call"]
theorem all_ok {P : Program} {w : World} {K : PySem.W.Frag} {mg : Str → Option Value} {base : Heap} {CV CT CR CM CC fI aN aL fa : Addr} {fd : FuncData} (T : Txt K mg CV CT CR CM CC fI aN aL) (F : Fun K "answers" "answers" sAn fa fd) : FnOk P w K mg base CX0 8 fa fd ["calls"] (spAn K) := by
  have Ve := ok_iv (P := P) (w := w) (base := base) T.iv T.tv
  have To := ok_it (P := P) (w := w) (base := base) T.it T.tt
  have Mc := ok_im (P := P) (w := w) (base := base) T.im T.c T.tm
  have Cc := ok_ic (P := P) (w := w) (base := base) T.ic T.tc
  have Go := ok_go (P := P) (w := w) (base := base) T.go T.c T.tv
  have Gb := ok_gb T.gb Go
  have Al := ok_al (P := P) (w := w) (base := base) T.al T.tv
  have Io := ok_io (P := P) (w := w) (base := base) T.io T.c T.tv
  have Wo := ok_wo T.wo T.c T.tv Ve
  have Pt := ok_pt T.pt Gb Io
  have As := ok_as T.as_ T.c Al
  have Ch := ok_ch T.ch T.tv Go
  have Ck := ok_ck (P := P) (w := w) (base := base) T.ck T.c
  have Lf := ok_lf (P := P) (w := w) (base := base) T.lf T.c
  have Ni := ok_ni (P := P) (w := w) (base := base) T.ni
  have Vb := ok_vb T.vb T.tv Lf
  have Mo := ok_mo T.mo T.c Vb Lf Ck
  have Vt := ok_vt T.vt T.c Ni Ve
  have Rr := ok_rr T.rr T.c T.tv Go
  have Tb := ok_tb T.tb T.c T.ev Ni Ck Vt Rr To
  have Ma := ok_ma T.ma T.c T.r Mc
  have Ap := ok_ap (P := P) (w := w) (base := base) T.ap T.c T.r
  have Wr := ok_wr T.wr T.c T.r T.tm T.tv Ap Wo
  have Re := ok_re (C := CV) T.re T.c T.tm T.tv Ap
  have Sa := ok_sa T.sa T.tm Ap Mo
  have At := ok_at T.at_ T.c T.r T.tm T.tv T.tt Ch
  have He := ok_he T.he T.c T.r T.tm T.tt Tb At Pt As
  have Ca := ok_ca T.ca T.c T.gN T.gL T.hN T.hL Cc
  have Tl := ok_to (fI := fI) T.to T.c T.tc Ma Wr Re Sa He
  have Tr := ok_tr T.tr T.r Tl
  exact ok_an F T.c T.tc Ca Tr
theorem all_mk {P : Program} {w : World} {K : PySem.W.Frag} {h : Heap} {mg : Str → Option Value} {CV CT CR CM CC fI aN aL fa f : Addr} {oc : Value} {od an : Option Addr} {osl : Array (Option Value)} {kV doc pm cdv ct : Value} (X : K.In h) (G : h.Ns mainGlobals mg) (hfa : mg "answers" = some (.ref fa)) (a : PySem.W.nsIn K mainGlobals "answers" = some (some (.ref f)))
    (l : K.lookup f = some ⟨oc, od, .func (PySem.W.fnOf "answers" "answers" (defArgs sAn) (defBody sAn) (defScope sAn) .none kV doc pm an cdv ct), osl⟩) (c : PySem.W.codeIn K cdv "answers" = true) (k : PySem.W.keepIn K (.ref f) = true) (T : Txt K mg CV CT CR CM CC fI aN aL) :
    ∃ fd : FuncData, (∀ (s : Shared) (us : List Value), us.length = (["calls"] : List Str).length → BindsTo s fd ⟨us, []⟩ ((["calls"] : List Str).zip us)) ∧ ∀ base : Heap, K.In base → base.Ns mainGlobals mg → FnOk P w K mg base CX0 8 fa fd ["calls"] (spAn K) := by
  have e := hfa.symm.trans (PySem.W.mg_of X G a)
  cases e
  exact ⟨PySem.W.fnOf "answers" "answers" (defArgs sAn) (defBody sAn) (defScope sAn) .none kV doc pm an cdv ct, fun s us hu => match us, hu with | [_], _ => .of_eq rfl, fun base _ _ => all_ok T (fun_mk (st := sAn) l c k)⟩
end PR
open PySem PySem.W PyProof.Rows
set_option maxRecDepth 100000 in
set_option maxHeartbeats 0 in
theorem PySem.Challenge.cw_paperrounds_s01_answers_holds : PySem.Challenge.rw_paperrounds_s01_answers.Holds := by
  w_on; k_headS; (case hw => exact ⟨[.list [.int 0, .int 0, .int 0, .int 0]], by decide +kernel, by decide +kernel⟩)
  k_fillS
  refine L2.walk_specK (r := PySem.Challenge.rw_paperrounds_s01_answers) (k := 8) (CX := L2.CX0) (ps := ["calls"]) (sp := PR.spAn) (by decide +kernel) rfl rfl ⟨rfl, by decide, by decide⟩ (fun w h Y => PySem.W.kIn_of Y) ?F ?S (fun _ _ _ _ z => z)
  case F =>
    intro w mg fa h Y KX G hmg
    refine' PR.all_mk KX G hmg ?a ?l ?c ?k ?T
    (case a => k_is); (case l => k_is); (case c => k_is); (case k => k_is)
    case T =>
      refine' { c := ?c, iv := ?iv, tv := ?tv, it := ?it, tt := ?tt, im := ?im, tm := ?tm, ic := ?ic, tc := ?tc, ev := ?ev, r := ?r, gN := ?gN, gL := ?gL, hN := ?hN, hL := ?hL, go := ?go, gb := ?gb, al := ?al, io := ?io, wo := ?wo, pt := ?pt, as_ := ?as_, ch := ?ch, ck := ?ck, lf := ?lf, ni := ?ni, vb := ?vb, mo := ?mo, vt := ?vt, rr := ?rr, tb := ?tb, ma := ?ma, ap := ?ap, wr := ?wr, re := ?re, sa := ?sa, at_ := ?at_, he := ?he, ca := ?ca, to := ?to, tr := ?tr }
      case iv =>
        refine' PR.herei_mk KX G ?z1_aC ?z1_a ?z1_i ?z1_l ?z1_c ?z1_k ?z1_mk ?z1_kc (fun _ _ _ _ _ _ us hl => match us, hl with | [_, _, _, _], _ => rfl)
        (case z1_aC => k_is); (case z1_a => k_is); (case z1_i => k_is); (case z1_l => k_is); (case z1_c => k_is); (case z1_k => k_is); (case z1_mk => k_is); (case z1_kc => k_is)
      case tv =>
        refine' PR.cl3 ?z2_pg ?z2_hd ?z2_po ?z2_sa ?z2_h1 ?z2_h2 ?z2_h3
        (case z2_pg => k_is); (case z2_hd => k_is); (case z2_po => k_is); (case z2_sa => k_is); (case z2_h1 => k_is); (case z2_h2 => k_is); (case z2_h3 => k_is)
      case it =>
        refine' PR.herei_mk KX G ?z3_aC ?z3_a ?z3_i ?z3_l ?z3_c ?z3_k ?z3_mk ?z3_kc (fun _ _ _ _ _ _ us hl => match us, hl with | [_, _, _, _], _ => rfl)
        (case z3_aC => k_is); (case z3_a => k_is); (case z3_i => k_is); (case z3_l => k_is); (case z3_c => k_is); (case z3_k => k_is); (case z3_mk => k_is); (case z3_kc => k_is)
      case tt =>
        refine' PR.cl3 ?z4_pg ?z4_hd ?z4_po ?z4_sa ?z4_h1 ?z4_h2 ?z4_h3
        (case z4_pg => k_is); (case z4_hd => k_is); (case z4_po => k_is); (case z4_sa => k_is); (case z4_h1 => k_is); (case z4_h2 => k_is); (case z4_h3 => k_is)
      case im =>
        refine' PR.herei_mk KX G ?z5_aC ?z5_a ?z5_i ?z5_l ?z5_c ?z5_k ?z5_mk ?z5_kc (fun _ _ _ _ _ _ us hl => match us, hl with | [_, _, _], _ => rfl)
        (case z5_aC => k_is); (case z5_a => k_is); (case z5_i => k_is); (case z5_l => k_is); (case z5_c => k_is); (case z5_k => k_is); (case z5_mk => k_is); (case z5_kc => k_is)
      case tm =>
        refine' PR.cl3 ?z6_pg ?z6_hd ?z6_po ?z6_sa ?z6_h1 ?z6_h2 ?z6_h3
        (case z6_pg => k_is); (case z6_hd => k_is); (case z6_po => k_is); (case z6_sa => k_is); (case z6_h1 => k_is); (case z6_h2 => k_is); (case z6_h3 => k_is)
      case ic =>
        refine' PR.herei_mk KX G ?z7_aC ?z7_a ?z7_i ?z7_l ?z7_c ?z7_k ?z7_mk ?z7_kc (fun _ _ _ _ _ _ us hl => match us, hl with | [_, _, _, _, _], _ => rfl)
        (case z7_aC => k_is); (case z7_a => k_is); (case z7_i => k_is); (case z7_l => k_is); (case z7_c => k_is); (case z7_k => k_is); (case z7_mk => k_is); (case z7_kc => k_is)
      case tc =>
        refine' PR.cl4 ?z8_pg ?z8_hd ?z8_po ?z8_sa ?z8_h1 ?z8_h2 ?z8_h3 ?z8_h4
        (case z8_pg => k_is); (case z8_hd => k_is); (case z8_po => k_is); (case z8_sa => k_is); (case z8_h1 => k_is); (case z8_h2 => k_is); (case z8_h3 => k_is); (case z8_h4 => k_is)
      case ev =>
        refine' ⟨?z9_m1, ?z9_m2⟩
        (case z9_m1 => k_is); (case z9_m2 => k_is)
      case gN =>
        refine' PR.gr_mk KX G ?z10_e
        (case z10_e => k_is)
      case gL =>
        refine' PR.gr_mk KX G ?z11_e
        (case z11_e => k_is)
      case hN =>
        refine' PR.tup5 ?z12_e
        (case z12_e => k_is)
      case hL =>
        refine' PR.tup5 ?z13_e
        (case z13_e => k_is)
      case r =>
        refine' { g := PySem.W.mg_of KX G ?z14_g, oex := PR.oex_mk ?z14_xL ?z14_sa ?z14_eC ?z14_tC ?z14_kC, iC := ?z14_a1, tI := ?z14_t1, nc := ?z14_nc, xf := ⟨?z14_ga, ?z14_gg, ?z14_eD, ?z14_hC⟩, te := PR.exm_of ?z14_eE ?z14_iC ?z14_tD ?z14_sC, here := PR.hereR_mk ?z14_l1 ?z14_c1 ?z14_k1 }
        (case z14_g => k_is); (case z14_xL => k_is); (case z14_sa => k_is); (case z14_eC => k_is); (case z14_tC => k_is); (case z14_kC => k_is); (case z14_a1 => k_is); (case z14_t1 => k_is); (case z14_nc => k_is); (case z14_ga => k_is); (case z14_gg => k_is); (case z14_eD => k_is); (case z14_hC => k_is); (case z14_eE => k_is); (case z14_iC => k_is); (case z14_tD => k_is); (case z14_sC => first | rfl | k_is); (case z14_l1 => k_is); (case z14_c1 => k_is); (case z14_k1 => k_is)
      case c =>
        refine' { range := PySem.W.mg_none_of KX G ?z15_Brange, len := PySem.W.mg_none_of KX G ?z15_Blen, max := PySem.W.mg_none_of KX G ?z15_Bmax, sorted := PySem.W.mg_none_of KX G ?z15_Bsorted, enumerate := PySem.W.mg_none_of KX G ?z15_Benumerate, MACHINES := PR.gc_mk KX G ?z15_MACHINES, MOST := PR.gc_mk KX G ?z15_MOST, CEND := PR.gc_mk KX G ?z15_CEND, HEAD := PR.gc_mk KX G ?z15_HEAD, PLACE := PR.gc_mk KX G ?z15_PLACE, CHECK := PR.gc_mk KX G ?z15_CHECK, FIRST := PR.gc_mk KX G ?z15_FIRST, PAPERS := PR.gc_mk KX G ?z15_PAPERS, POLY := PR.gc_mk KX G ?z15_POLY, ONES := PR.gc_mk KX G ?z15_ONES, OUT := PR.gc_mk KX G ?z15_OUT, ROOM := PR.gc_mk KX G ?z15_ROOM, RIGHT := PR.gc_mk KX G ?z15_RIGHT, LEAST := PR.gc_mk KX G ?z15_LEAST, START := PR.gc_mk KX G ?z15_START, WRITE := PR.gc_mk KX G ?z15_WRITE, READ := PR.gc_mk KX G ?z15_READ, SAY := PR.gc_mk KX G ?z15_SAY, OBJECTS := PR.gc_mk KX G ?z15_OBJECTS }
        (case z15_Brange => k_is); (case z15_Blen => k_is); (case z15_Bmax => k_is); (case z15_Bsorted => k_is); (case z15_Benumerate => k_is); (case z15_MACHINES => k_is); (case z15_MOST => k_is); (case z15_CEND => k_is); (case z15_HEAD => k_is); (case z15_PLACE => k_is); (case z15_CHECK => k_is); (case z15_FIRST => k_is); (case z15_PAPERS => k_is); (case z15_POLY => k_is); (case z15_ONES => k_is); (case z15_OUT => k_is); (case z15_ROOM => k_is); (case z15_RIGHT => k_is); (case z15_LEAST => k_is); (case z15_START => k_is); (case z15_WRITE => k_is); (case z15_READ => k_is); (case z15_SAY => k_is); (case z15_OBJECTS => k_is)
      case go =>
        refine' PR.here_mk KX G ?z16_a ?z16_l ?z16_c ?z16_k (fun _ _ _ _ _ _ us hl => match us, hl with | [_, _], _ => rfl)
        (case z16_a => k_is); (case z16_l => k_is); (case z16_c => k_is); (case z16_k => k_is)
      case gb =>
        refine' PR.here_mk KX G ?z17_a ?z17_l ?z17_c ?z17_k (fun _ _ _ _ _ _ us hl => match us, hl with | [_, _], _ => rfl)
        (case z17_a => k_is); (case z17_l => k_is); (case z17_c => k_is); (case z17_k => k_is)
      case al =>
        refine' PR.here_mk KX G ?z18_a ?z18_l ?z18_c ?z18_k (fun _ _ _ _ _ _ us hl => match us, hl with | [_, _], _ => rfl)
        (case z18_a => k_is); (case z18_l => k_is); (case z18_c => k_is); (case z18_k => k_is)
      case io =>
        refine' PR.here_mk KX G ?z19_a ?z19_l ?z19_c ?z19_k (fun _ _ _ _ _ _ us hl => match us, hl with | [_], _ => rfl)
        (case z19_a => k_is); (case z19_l => k_is); (case z19_c => k_is); (case z19_k => k_is)
      case wo =>
        refine' PR.here_mk KX G ?z20_a ?z20_l ?z20_c ?z20_k (fun _ _ _ _ _ _ us hl => match us, hl with | [_, _, _], _ => rfl)
        (case z20_a => k_is); (case z20_l => k_is); (case z20_c => k_is); (case z20_k => k_is)
      case pt =>
        refine' PR.here_mk KX G ?z21_a ?z21_l ?z21_c ?z21_k (fun _ _ _ _ _ _ us hl => match us, hl with | [_, _], _ => rfl)
        (case z21_a => k_is); (case z21_l => k_is); (case z21_c => k_is); (case z21_k => k_is)
      case as_ =>
        refine' PR.here_mk KX G ?z22_a ?z22_l ?z22_c ?z22_k (fun _ _ _ _ _ _ us hl => match us, hl with | [_, _], _ => rfl)
        (case z22_a => k_is); (case z22_l => k_is); (case z22_c => k_is); (case z22_k => k_is)
      case ch =>
        refine' PR.here_mk KX G ?z23_a ?z23_l ?z23_c ?z23_k (fun _ _ _ _ _ _ us hl => match us, hl with | [_, _], _ => rfl)
        (case z23_a => k_is); (case z23_l => k_is); (case z23_c => k_is); (case z23_k => k_is)
      case ck =>
        refine' PR.here_mk KX G ?z24_a ?z24_l ?z24_c ?z24_k (fun _ _ _ _ _ _ us hl => match us, hl with | [_], _ => rfl)
        (case z24_a => k_is); (case z24_l => k_is); (case z24_c => k_is); (case z24_k => k_is)
      case lf =>
        refine' PR.here_mk KX G ?z25_a ?z25_l ?z25_c ?z25_k (fun _ _ _ _ _ _ us hl => match us, hl with | [_, _], _ => rfl)
        (case z25_a => k_is); (case z25_l => k_is); (case z25_c => k_is); (case z25_k => k_is)
      case ni =>
        refine' PR.here_mk KX G ?z26_a ?z26_l ?z26_c ?z26_k (fun _ _ _ _ _ _ us hl => match us, hl with | [_], _ => rfl)
        (case z26_a => k_is); (case z26_l => k_is); (case z26_c => k_is); (case z26_k => k_is)
      case vb =>
        refine' PR.here_mk KX G ?z27_a ?z27_l ?z27_c ?z27_k (fun _ _ _ _ _ _ us hl => match us, hl with | [_], _ => rfl)
        (case z27_a => k_is); (case z27_l => k_is); (case z27_c => k_is); (case z27_k => k_is)
      case mo =>
        refine' PR.here_mk KX G ?z28_a ?z28_l ?z28_c ?z28_k (fun _ _ _ _ _ _ us hl => match us, hl with | [_, _, _], _ => rfl)
        (case z28_a => k_is); (case z28_l => k_is); (case z28_c => k_is); (case z28_k => k_is)
      case vt =>
        refine' PR.here_mk KX G ?z29_a ?z29_l ?z29_c ?z29_k (fun _ _ _ _ _ _ us hl => match us, hl with | [_, _], _ => rfl)
        (case z29_a => k_is); (case z29_l => k_is); (case z29_c => k_is); (case z29_k => k_is)
      case rr =>
        refine' PR.here_mk KX G ?z30_a ?z30_l ?z30_c ?z30_k (fun _ _ _ _ _ _ us hl => match us, hl with | [_], _ => rfl)
        (case z30_a => k_is); (case z30_l => k_is); (case z30_c => k_is); (case z30_k => k_is)
      case tb =>
        refine' PR.here_mk KX G ?z31_a ?z31_l ?z31_c ?z31_k (fun _ _ _ _ _ _ us hl => match us, hl with | [_], _ => rfl)
        (case z31_a => k_is); (case z31_l => k_is); (case z31_c => k_is); (case z31_k => k_is)
      case ma =>
        refine' PR.here_mk KX G ?z32_a ?z32_l ?z32_c ?z32_k (fun _ _ _ _ _ _ us hl => match us, hl with | [_, _], _ => rfl)
        (case z32_a => k_is); (case z32_l => k_is); (case z32_c => k_is); (case z32_k => k_is)
      case ap =>
        refine' PR.here_mk KX G ?z33_a ?z33_l ?z33_c ?z33_k (fun _ _ _ _ _ _ us hl => match us, hl with | [_], _ => rfl)
        (case z33_a => k_is); (case z33_l => k_is); (case z33_c => k_is); (case z33_k => k_is)
      case wr =>
        refine' PR.here_mk KX G ?z34_a ?z34_l ?z34_c ?z34_k (fun _ _ _ _ _ _ us hl => match us, hl with | [_, _, _], _ => rfl)
        (case z34_a => k_is); (case z34_l => k_is); (case z34_c => k_is); (case z34_k => k_is)
      case re =>
        refine' PR.here_mk KX G ?z35_a ?z35_l ?z35_c ?z35_k (fun _ _ _ _ _ _ us hl => match us, hl with | [_, _], _ => rfl)
        (case z35_a => k_is); (case z35_l => k_is); (case z35_c => k_is); (case z35_k => k_is)
      case sa =>
        refine' PR.here_mk KX G ?z36_a ?z36_l ?z36_c ?z36_k (fun _ _ _ _ _ _ us hl => match us, hl with | [_, _], _ => rfl)
        (case z36_a => k_is); (case z36_l => k_is); (case z36_c => k_is); (case z36_k => k_is)
      case at_ =>
        refine' PR.here_mk KX G ?z37_a ?z37_l ?z37_c ?z37_k (fun _ _ _ _ _ _ us hl => match us, hl with | [_, _], _ => rfl)
        (case z37_a => k_is); (case z37_l => k_is); (case z37_c => k_is); (case z37_k => k_is)
      case he =>
        refine' PR.here_mk KX G ?z38_a ?z38_l ?z38_c ?z38_k (fun _ _ _ _ _ _ us hl => match us, hl with | [_, _], _ => rfl)
        (case z38_a => k_is); (case z38_l => k_is); (case z38_c => k_is); (case z38_k => k_is)
      case ca =>
        refine' PR.here_mk KX G ?z39_a ?z39_l ?z39_c ?z39_k (fun _ _ _ _ _ _ us hl => match us, hl with | [_, _], _ => rfl)
        (case z39_a => k_is); (case z39_l => k_is); (case z39_c => k_is); (case z39_k => k_is)
      case to =>
        refine' PR.here_mk KX G ?z40_a ?z40_l ?z40_c ?z40_k (fun _ _ _ _ _ _ us hl => match us, hl with | [_, _], _ => rfl)
        (case z40_a => k_is); (case z40_l => k_is); (case z40_c => k_is); (case z40_k => k_is)
      case tr =>
        refine' PR.here_mk KX G ?z41_a ?z41_l ?z41_c ?z41_k (fun _ _ _ _ _ _ us hl => match us, hl with | [_, _], _ => rfl)
        (case z41_a => k_is); (case z41_l => k_is); (case z41_c => k_is); (case z41_k => k_is)
  case S =>
    intro K H xs a hO hwi hask hx
    cases hx with
    | cons h1 h2 =>
      cases h2
      cases h1 with
      | lst hs ha =>
        have e := L2.ints_dw a.1 _ ha
        subst e
        have q : ((Codec.inLen 0 16000 a.1 && a.1.all (Codec.inInt 0 18446744073709551615)) && true) = true := hwi
        rw [Bool.and_eq_true, Bool.and_eq_true] at q
        exact ⟨_, a.1, rfl, hs, (Codec.inNat_iff.mp q.1.1).2, hask, fun H' p hp => .lst (L2.SqL.of hp) (L2.dw_ints _)⟩
#print axioms PySem.Challenge.cw_paperrounds_s01_answers_holds
