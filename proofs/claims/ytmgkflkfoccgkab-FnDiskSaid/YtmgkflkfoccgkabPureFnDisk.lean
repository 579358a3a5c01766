/- For all drawn disks, a crash leaves a front of the texts with all synchronised ones among them, mending again changes nothing, and a text that is put behind is read back; and the disks' functions answer as the reference's do.
Conditions: none beyond what the row itself says. -/
import Derived.Test.YtmgkflkfoccgkabQFnDiskx17
namespace Go.Proofs.Ytmgkflkfoccgkab.Pure
open Go.RowKit Go.Proofs.Ytmgkflkfoccgkab.QFnDisk Go.Proofs.YtmgkflkfoccgkabW.PrintWords Go.Proofs.YtmgkflkfoccgkabW.PrintLast Go.Proofs.YtmgkflkfoccgkabW.PrintMore
set_option linter.unusedVariables false
set_option linter.unusedSimpArgs false

theorem w64 {x : Int} (h0 : -9223372036854775808 ≤ x) (h1 : x ≤ 9223372036854775807) : wrap64 x = x := by
  unfold wrap64; omega
theorem Ev.succ {α : Type} {g : Nat → Option α} {r : α} (h : Ev (fun k => g (k + 1)) r) : Ev g r := Ev.step (fun _ => rfl) h
theorem Ev.pos {α : Type} {c : Prop} [Decidable c] {a b : Nat → Option α} {r : α} (h : c) (e : Ev (fun k => a k) r) : Ev (fun k => if c then a k else b k) r := Ev.congr (fun _ => if_pos h) e
theorem Ev.neg {α : Type} {c : Prop} [Decidable c] {a b : Nat → Option α} {r : α} (h : ¬ c) (e : Ev (fun k => b k) r) : Ev (fun k => if c then a k else b k) r := Ev.congr (fun _ => if_neg h) e
theorem Ev.bnd {α β : Type} {g : Nat → Option α} {f : Nat → α → Option β} {a : α} {r : β} (h : Ev (fun k => g k) a) (k : Ev (fun n => f n a) r) : Ev (fun n => (g n).bind (fun x => f n x)) r := Ev.bind h k
theorem Ev.bnd1 {α β : Type} {g : Option α} {f : Nat → α → Option β} {a : α} {r : β} (h : g = some a) (k : Ev (fun n => f n a) r) : Ev (fun n => g.bind (fun x => f n x)) r := by
  rw [h]; exact k
theorem Ev.ret {α : Type} (r : α) : Ev (fun _ => some r) r := Ev.now r
theorem Ev.eq {α : Type} {g : Nat → Option α} {r r' : α} (h : Ev g r) (e : r = r') : Ev g r' := e ▸ h
theorem Ev.all {α : Type} {g : Nat → Option α} {r : α} (h : Ev (fun k => g k) r) : ∃ k, g k = some r := h.rounds
theorem toList_iff (a b : ByteArray) : a.toList = b.toList ↔ a = b := by
  rw [ByteArray.toList_eq, ByteArray.toList_eq]
  exact ⟨fun h => ByteArray.ext (Array.toList_inj.1 h), fun h => by rw [h]⟩

theorem son_append (xs ys : List Int) : strOfNums xs ++ strOfNums ys = strOfNums (xs ++ ys) := by
  apply ByteArray.ext
  simp [strOfNums]
/-! Strings as lists of numbers. -/
theorem bo_size (s : ByteArray) : (bytesOf s).length = s.size := by
  unfold bytesOf; rw [List.length_map, data_length]
theorem bo_son (xs : List Int) (h : ∀ x ∈ xs, 0 ≤ x ∧ x ≤ 255) : bytesOf (strOfNums xs) = xs := by
  unfold bytesOf
  rw [strOfNums_data, List.map_map]
  conv => rhs; rw [← List.map_id xs]
  apply List.map_congr_left
  intro x hx
  have := h x hx
  simp only [Function.comp_apply, id_eq, UInt8.toNat_ofNat']
  omega
theorem son_bo (s : ByteArray) : strOfNums (bytesOf s) = s := by
  apply ByteArray.ext
  apply Array.toList_inj.1
  rw [strOfNums_data]
  unfold bytesOf
  rw [List.map_map]
  conv => rhs; rw [← List.map_id s.data.toList]
  apply List.map_congr_left
  intro x _
  simp
theorem bo_inj {a b : ByteArray} (h : bytesOf a = bytesOf b) : a = b := by rw [← son_bo a, ← son_bo b, h]
theorem bo_append (a b : ByteArray) : bytesOf (a ++ b) = bytesOf a ++ bytesOf b := by
  unfold bytesOf; simp
theorem bo_extract (s : ByteArray) (a b : Nat) : bytesOf (s.extract a b) = ((bytesOf s).take b).drop a := by
  unfold bytesOf
  rw [ByteArray.data_extract, Array.toList_extract, List.extract_eq_take_drop, ← List.map_take, ← List.map_drop, List.drop_take]
theorem bo_bt (s : ByteArray) (i : Int) : bt s i = (bytesOf s).getD i.toNat 0 := by
  unfold bt bytesOf
  split
  · rename_i h
    rw [List.getD_eq_getElem?_getD, List.getElem?_map, List.getElem?_eq_getElem (by rw [data_length]; exact h)]
    rfl
  · rename_i h
    rw [List.getD_eq_getElem?_getD, List.getElem?_map, List.getElem?_eq_none (by rw [data_length]; omega)]
    rfl
theorem bo_empty : bytesOf (⟨#[]⟩ : ByteArray) = [] := rfl
theorem rds_mid (pre : List ByteArray) (x : ByteArray) (post : List ByteArray) : rdOf ByteArray.empty (pre ++ x :: post) (pre.length : Int) = x := by
  unfold rdOf; simp
theorem grow_s (n : Int) (h0 : 0 ≤ n) (h1 : n ≤ 8000000000000) : slices_Grow_string_string.f n = some [] := by
  unfold slices_Grow_string_string.f
  rw [if_neg (by omega), w64 (by omega) (by omega)]
  by_cases g : n > 0
  · rw [if_pos g, if_pos h0, if_pos (by simp only [List.length_nil]; omega)]
    simp only [Option.bind_some]
    rw [if_pos (by omega)]
    rfl
  · rw [if_neg g]
theorem rdls_mid (pre : List (List ByteArray)) (x : List ByteArray) (post : List (List ByteArray)) : rd_L2 (pre ++ x :: post) (pre.length : Int) = x := by
  unfold rd_L2; simp
theorem concat_s_l1 (post : List (List ByteArray)) : ∀ (pre : List (List ByteArray)) (acc : List ByteArray), acc.length + post.flatten.length ≤ 8000000000000 → (pre ++ post).length ≤ 1048576 → Ev (fun k => slices_Concat_string_string.l1 k acc (pre ++ post) ((pre ++ post).length : Int) (pre.length : Int)) (acc ++ post.flatten) := by
  induction post with
  | nil =>
    intro pre acc h hl
    refine Ev.succ ?_
    simp only [slices_Concat_string_string.l1]
    exact Ev.neg (by simp) (Ev.eq (Ev.ret _) (by simp))
  | cons x post ih =>
    intro pre acc h hl
    simp only [List.flatten_cons, List.length_append, List.length_cons] at h hl
    have h2 := ih (pre ++ [x]) (acc ++ x) (by simp only [List.length_append]; omega) (by simp only [List.length_append, List.length_cons, List.length_nil]; omega)
    refine Ev.succ ?_
    simp only [slices_Concat_string_string.l1]
    refine Ev.pos (by simp only [List.length_append, List.length_cons]; omega) (Ev.pos (by omega) (Ev.pos (by simp only [List.length_append, List.length_cons]; omega) ?_))
    rw [rdls_mid]
    refine Ev.pos (by omega) ?_
    rw [w64 (by omega) (by omega)]
    refine Ev.eq (by simpa using h2) (by simp)
theorem concat_s_l0 (x0 : List (List ByteArray)) (hx : x0.flatten.length ≤ 8000000000000) (hxl : x0.length ≤ 1048576) (post : List (List ByteArray)) : ∀ (pre : List (List ByteArray)) (s : Int), 0 ≤ s → s + post.flatten.length ≤ 8000000000000 → (pre ++ post).length ≤ 1048576 → Ev (fun k => slices_Concat_string_string.l0 k x0 s (pre ++ post) ((pre ++ post).length : Int) (pre.length : Int)) x0.flatten := by
  induction post with
  | nil =>
    intro pre s h0 h1 hl
    refine Ev.succ ?_
    simp only [slices_Concat_string_string.l0]
    refine Ev.neg (by simp) (Ev.bnd1 (grow_s s h0 (by simpa using h1)) ?_)
    simpa using concat_s_l1 x0 [] [] (by simpa using hx) (by simpa using hxl)
  | cons x post ih =>
    intro pre s h0 h1 hl
    simp only [List.flatten_cons, List.length_append, List.length_cons] at h1 hl
    have h2 := ih (pre ++ [x]) (s + x.length) (by omega) (by omega) (by simp only [List.length_append, List.length_cons, List.length_nil]; omega)
    refine Ev.succ ?_
    simp only [slices_Concat_string_string.l0]
    refine Ev.pos (by simp only [List.length_append, List.length_cons]; omega) (Ev.pos (by omega) (Ev.pos (by simp only [List.length_append, List.length_cons]; omega) ?_))
    rw [rdls_mid, w64 (x := s + (x.length : Int)) (by omega) (by omega), w64 (x := (pre.length : Int) + 1) (by omega) (by omega)]
    refine Ev.neg (by omega) ?_
    simpa using h2
theorem concat_s (x0 : List (List ByteArray)) (hx : x0.flatten.length ≤ 8000000000000) (hxl : x0.length ≤ 1048576) : Ev (fun k => slices_Concat_string_string.f k x0) x0.flatten := by
  simp only [slices_Concat_string_string.f]
  simpa using concat_s_l0 x0 hx hxl x0 [] 0 (by omega) (by omega) (by simpa using hxl)

theorem anyO_not {α : Type} (f : α → Option Bool) (p : α → Bool) (l : List α) (h : ∀ x ∈ l, f x = some (!p x)) : anyO f l = some (!l.all p) := by
  induction l with
  | nil => rfl
  | cons x t ih =>
    simp only [anyO]
    rw [h x (by simp), Option.bind_some]
    cases hp : p x with
    | true => simp [hp, ih (fun y hy => h y (by simp [hy]))]
    | false => simp [hp]

def goodDisk (a b : List ByteArray) : Bool := decide (a.length + b.length ≤ 400) && (a ++ b).all fun s => s.size == 16
theorem spec_gd_l0 (x3 : List ByteArray) (post : List ByteArray) : ∀ pre : List ByteArray, (pre ++ post).length ≤ 1048576 → Ev (fun k => spec_GoodDisk.l0 k x3 (pre ++ post) ((pre ++ post).length : Int) (pre.length : Int)) (if post.all (fun s => s.size == 16) = true then decide ((x3.length : Int) ≤ 400) else false) := by
  induction post with
  | nil =>
    intro pre hl
    refine Ev.succ ?_
    simp only [spec_GoodDisk.l0]
    exact Ev.neg (by simp) (Ev.eq (Ev.ret _) (by simp))
  | cons s post ih =>
    intro pre hl
    have h := ih (pre ++ [s]) (by simpa using hl)
    simp only [List.length_append, List.length_cons] at hl
    refine Ev.succ ?_
    simp only [spec_GoodDisk.l0]
    refine Ev.pos (by simp only [List.length_append, List.length_cons]; omega) (Ev.pos (by omega) (Ev.pos (by simp only [List.length_append, List.length_cons]; omega) ?_))
    rw [rds_mid, w64 (by omega) (by omega)]
    by_cases g : s.size = 16
    · refine Ev.pos (by omega) ?_
      refine Ev.eq (by simpa using h) (by simp [g])
    · exact Ev.neg (by omega) (Ev.eq (Ev.ret _) (by simp [g]))
theorem spec_GoodDisk_ev (a b : List ByteArray) (ha : a.length + b.length ≤ 1048576) : Ev (fun k => spec_GoodDisk.f k a b) (goodDisk a b) := by
  simp only [spec_GoodDisk.f]
  refine Ev.bnd1 rfl (Ev.pos (by simp only [List.length_nil]; omega) (Ev.bnd1 rfl (Ev.pos (by simp only [List.nil_append]; omega) (Ev.bnd1 rfl ?_))))
  have h := spec_gd_l0 ([] ++ a ++ b) ([] ++ a ++ b) [] (by simpa using ha)
  refine Ev.eq (Ev.congr (fun k => rfl) h) ?_
  unfold goodDisk
  simp only [List.nil_append, List.length_append, List.all_append]
  by_cases g1 : (a.all (fun s => s.size == 16) && b.all fun s => s.size == 16) = true
  · rw [if_pos g1, g1, Bool.and_true]; congr 1; simp only [eq_iff_iff]; omega
  · rw [if_neg g1]; simp only [Bool.not_eq_true] at g1; rw [g1, Bool.and_false]
theorem impl_GoodDisk_any (l : List ByteArray) : impl_GoodDisk_1_any.f l = some (!l.all fun s => s.size == 16) := by
  unfold impl_GoodDisk_1_any.f
  refine anyO_not _ _ _ (fun s _ => ?_)
  unfold impl_GoodDisk_1.f
  congr 1
  by_cases e : s.size = 16
  · simp [e]
  · have e2 : ((s.size : Int) == 16) = false := by simp; omega
    simp [bne, e, e2]
theorem impl_GoodDisk_ev (a b : List ByteArray) (ha : a.length + b.length ≤ 1048576) : Ev (fun k => impl_GoodDisk.f k a b) (goodDisk a b) := by
  have e0 : wrap64 ((a.length : Int) + (b.length : Int)) = (a.length : Int) + (b.length : Int) := w64 (by omega) (by omega)
  have h := concat_s [a, b] (by simp; omega) (by simp)
  have hf : [a, b].flatten = a ++ b := by simp
  rw [hf] at h
  refine Ev.bnd1 (show impl_Disk_size.f a b = some ((a.length : Int) + (b.length : Int)) by unfold impl_Disk_size.f; rw [e0]) ?_
  clear e0
  unfold goodDisk
  by_cases g : a.length + b.length ≤ 400
  · refine Ev.pos (by omega) (Ev.bnd h (Ev.bnd1 (impl_GoodDisk_any (a ++ b)) (Ev.eq (Ev.ret _) ?_)))
    rw [decide_eq_true g, Bool.not_not, Bool.true_and]
  · refine Ev.neg (by omega) (Ev.eq (Ev.ret _) ?_)
    rw [decide_eq_false g, Bool.false_and]

theorem spec_in_eq (a lo hi : Int) : spec_l1In.f a lo hi = some (decide (lo ≤ a ∧ a ≤ hi)) := by
  unfold spec_l1In.f
  by_cases h1 : a ≥ lo
  · rw [if_pos h1]
    by_cases h2 : a ≤ hi
    · rw [decide_eq_true h2, decide_eq_true ⟨h1, h2⟩]
    · rw [decide_eq_false h2, decide_eq_false (fun h => h2 h.2)]
  · rw [if_neg h1, decide_eq_false (fun h => h1 h.1)]

/-- One of the eight steps of the checksum. -/
def sumBit (n : Int) : Int := if wrap64 (n * 2) ≥ 65536 then Go.bits .xor .i64 (wrap64 (n * 2)) 69665 else wrap64 (n * 2)
def sumIter : Nat → Int → Int
  | 0, n => n
  | e + 1, n => sumIter e (sumBit n)
def sumGo (s : ByteArray) : Nat → Int → Int → Int
  | 0, n, _ => n
  | d + 1, n, i => sumGo s d (sumIter 8 (Go.bits .xor .i64 n (wrap64 (256 * wrap64 (bt s i))))) (i + 1)
def crc (s : ByteArray) : Int := sumGo s s.size 65535 0

theorem spec_sum_l1 (s : ByteArray) (r i : Int) (e : Nat) : ∀ (n j : Int), 0 ≤ j → j + e = 8 → Ev (fun k => spec_l10Sum.l0 k s (sumIter e n) (wrap64 (i + 1))) r → Ev (fun k => spec_l10Sum.l1 k s n i j) r := by
  induction e with
  | zero =>
    intro n j h0 hj h
    refine Ev.step (fun k => ?_) h
    simp only [spec_l10Sum.l1]
    rw [if_neg (by omega)]
    rfl
  | succ e ih =>
    intro n j h0 hj h
    refine Ev.step (fun k => ?_) (ih (sumBit n) (j + 1) (by omega) (by omega) h)
    simp only [spec_l10Sum.l1]
    rw [if_pos (by omega), w64 (x := j + 1) (by omega) (by omega)]
    unfold sumBit
    split <;> rfl
theorem spec_sum_l0 (s : ByteArray) (hs : s.size ≤ 140737488351232) (d : Nat) : ∀ (n i : Int), 0 ≤ i → i + d = s.size → Ev (fun k => spec_l10Sum.l0 k s n i) (sumGo s d n i) := by
  induction d with
  | zero =>
    intro n i h0 hi
    refine Ev.step (fun k => ?_) (Ev.now _)
    simp only [spec_l10Sum.l0]
    rw [if_neg (by omega)]
    rfl
  | succ d ih =>
    intro n i h0 hi
    have h := ih (sumIter 8 (Go.bits .xor .i64 n (wrap64 (256 * wrap64 (bt s i))))) (i + 1) (by omega) (by omega)
    refine Ev.step (fun k => ?_) (spec_sum_l1 s _ i 8 (Go.bits .xor .i64 n (wrap64 (256 * wrap64 (bt s i)))) 0 (by omega) (by omega) (by rw [w64 (x := i + 1) (by omega) (by omega)]; exact h))
    simp only [spec_l10Sum.l0]
    rw [if_pos (by omega), if_pos h0]
theorem spec_sum (s : ByteArray) (hs : s.size ≤ 140737488351232) : Ev (fun k => spec_l10Sum.f k s) (crc s) :=
  spec_sum_l0 s hs s.size 65535 0 (by omega) (by omega)
theorem impl_sum_l1 (s : ByteArray) (r z i : Int) (e : Nat) : ∀ (n j : Int), 0 ≤ j → j + e = 8 → Ev (fun k => impl_sumOf.l0 k s (sumIter e n) z (wrap64 (i + 1))) r → Ev (fun k => impl_sumOf.l1 k s n z i j) r := by
  induction e with
  | zero =>
    intro n j h0 hj h
    refine Ev.step (fun k => ?_) h
    simp only [impl_sumOf.l1]
    rw [if_neg (by omega)]
    rfl
  | succ e ih =>
    intro n j h0 hj h
    refine Ev.step (fun k => ?_) (ih (sumBit n) (j + 1) (by omega) (by omega) h)
    simp only [impl_sumOf.l1]
    rw [if_pos (by omega), w64 (x := j + 1) (by omega) (by omega)]
    unfold sumBit
    split <;> rfl
theorem impl_sum_l0 (s : ByteArray) (hs : s.size ≤ 140737488351232) (d : Nat) : ∀ (n i : Int), 0 ≤ i → i + d = s.size → Ev (fun k => impl_sumOf.l0 k s n (s.size : Int) i) (sumGo s d n i) := by
  induction d with
  | zero =>
    intro n i h0 hi
    refine Ev.step (fun k => ?_) (Ev.now _)
    simp only [impl_sumOf.l0]
    rw [if_neg (by omega)]
    rfl
  | succ d ih =>
    intro n i h0 hi
    have h := ih (sumIter 8 (Go.bits .xor .i64 n (wrap64 (256 * wrap64 (bt s i))))) (i + 1) (by omega) (by omega)
    refine Ev.step (fun k => ?_) (impl_sum_l1 s _ (s.size : Int) i 8 (Go.bits .xor .i64 n (wrap64 (256 * wrap64 (bt s i)))) 0 (by omega) (by omega) (by rw [w64 (x := i + 1) (by omega) (by omega)]; exact h))
    simp only [impl_sumOf.l0]
    rw [if_pos (by omega), if_pos h0, if_pos (by omega)]
theorem impl_sum (s : ByteArray) (hs : s.size ≤ 140737488351232) : Ev (fun k => impl_sumOf.f k s) (crc s) :=
  impl_sum_l0 s hs s.size 65535 0 (by omega) (by omega)

/-! Sectors. -/
def secHead (no : Int) (last : Bool) (t : ByteArray) : ByteArray := strOfNums [(wrap64 (Int.tdiv no 256)) % 256, (Int.tmod no 256) % 256, (if last = true then ((t.size : Int) + 128) % 256 else (t.size : Int) % 256)] ++ t ++ strOfNums (List.replicate (10 - t.size) 0)
def sectorB (no : Int) (last : Bool) (t : ByteArray) : ByteArray := secHead no last t ++ strOfNums [(wrap64 (Int.tdiv (crc (secHead no last t)) 256)) % 256, (Int.tmod (crc (secHead no last t)) 256) % 256, 1]
theorem son3 (a b c : Int) : (strOfNums [a, b, c]).size = 3 := by rw [strOfNums_size]; rfl
theorem son2 (a b : Int) : (strOfNums [a, b]).size = 2 := by rw [strOfNums_size]; rfl
theorem sonr (n : Nat) : (strOfNums (List.replicate n 0)).size = n := by rw [strOfNums_size, List.length_replicate]
theorem spec_l13Sector_ev (no : Int) (last : Bool) (t : ByteArray) (h : t.size ≤ 10) : Ev (fun k => spec_l13Sector.f k no last t) (sectorB no last t) := by
  have e2 : wrap64 (10 - (t.size : Int)) = ((10 - t.size : Nat) : Int) := by rw [w64 (by omega) (by omega)]; omega
  have e1 : wrap64 ((t.size : Int) + 128) = (t.size : Int) + 128 := w64 (by omega) (by omega)
  have hz := spec_sum (secHead no last t) (by unfold secHead; rw [ByteArray.size_append, ByteArray.size_append, son3, sonr]; omega)
  cases last with
  | true =>
    have eh : secHead no true t = strOfNums [(wrap64 (Int.tdiv no 256)) % 256, (Int.tmod no 256) % 256, ((t.size : Int) + 128) % 256] ++ t ++ strOfNums (List.replicate (10 - t.size) 0) := rfl
    unfold sectorB
    rw [eh] at hz ⊢
    simp only [spec_l13Sector.f]
    rw [e1, e2, Int.toNat_natCast]
    clear e1 e2
    refine Ev.pos (by trivial) (Ev.bnd1 rfl (Ev.pos (by rw [son3]; omega) (Ev.pos (by omega) (Ev.pos (by omega) (Ev.bnd1 rfl (Ev.pos (by rw [ByteArray.size_append, son3, sonr]; omega) (Ev.bnd hz (Ev.bnd1 rfl (Ev.pos (by rw [ByteArray.size_append, ByteArray.size_append, son3, sonr, son3]; omega) (Ev.ret _))))))))))
  | false =>
    have eh : secHead no false t = strOfNums [(wrap64 (Int.tdiv no 256)) % 256, (Int.tmod no 256) % 256, (t.size : Int) % 256] ++ t ++ strOfNums (List.replicate (10 - t.size) 0) := rfl
    unfold sectorB
    rw [eh] at hz ⊢
    simp only [spec_l13Sector.f]
    rw [e2, Int.toNat_natCast]
    clear e1 e2
    refine Ev.neg (by simp) (Ev.bnd1 rfl (Ev.pos (by rw [son3]; omega) (Ev.pos (by omega) (Ev.pos (by omega) (Ev.bnd1 rfl (Ev.pos (by rw [ByteArray.size_append, son3, sonr]; omega) (Ev.bnd hz (Ev.bnd1 rfl (Ev.pos (by rw [ByteArray.size_append, ByteArray.size_append, son3, sonr, son3]; omega) (Ev.ret _))))))))))
theorem rep0 (n : Nat) (h : n ≤ 1000) : strings_Repeat.f (⟨#[0]⟩ : ByteArray) (n : Int) = some (strOfNums (List.replicate n 0)) := by
  unfold strings_Repeat.f
  rw [Int.toNat_natCast, if_pos ⟨by omega, by omega, by rw [show (⟨#[0]⟩ : ByteArray).size = 1 from rfl]; omega⟩]
  congr 1
  unfold strOfNums
  congr 2
  rw [List.map_replicate, show (⟨#[0]⟩ : ByteArray).data.toList = List.replicate 1 0 from rfl, Lib.repeatL_replicate, Nat.mul_one]
  rfl
theorem impl_summed_ev (s : ByteArray) (h : s.size ≤ 1000) : Ev (fun k => impl_summed.f k s) (s ++ strOfNums [(wrap64 (Int.tdiv (crc s) 256)) % 256, (Int.tmod (crc s) 256) % 256]) := by
  simp only [impl_summed.f]
  exact Ev.bnd (impl_sum s (by omega)) (Ev.bnd1 rfl (Ev.pos (by rw [son2]; omega) (Ev.ret _)))
theorem impl_sector_ev (no : Int) (last : Bool) (t : ByteArray) (h : t.size ≤ 10) : Ev (fun k => impl_sector.f k no last t) (sectorB no last t) := by
  have e2 : ∀ a b c : Int, wrap64 (13 - ((strOfNums [a, b, c] ++ t).size : Int)) = ((10 - t.size : Nat) : Int) := by
    intro a b c
    rw [ByteArray.size_append, son3, w64 (by omega) (by omega)]; omega
  have hz := impl_summed_ev (secHead no last t) (by unfold secHead; rw [ByteArray.size_append, ByteArray.size_append, son3, sonr]; omega)
  have hr := rep0 (10 - t.size) (by omega)
  have hone : ∀ (s : ByteArray) (a b : Int), s ++ strOfNums [a, b] ++ (⟨#[1]⟩ : ByteArray) = s ++ strOfNums [a, b, 1] := by
    intro s a b
    rw [show (⟨#[1]⟩ : ByteArray) = strOfNums [1] from rfl, ByteArray.append_assoc, son_append]
    rfl
  cases last with
  | true =>
    have eh : secHead no true t = strOfNums [(wrap64 (Int.tdiv no 256)) % 256, (Int.tmod no 256) % 256, ((t.size : Int) + 128) % 256] ++ t ++ strOfNums (List.replicate (10 - t.size) 0) := rfl
    unfold sectorB
    rw [← hone]
    rw [eh] at hz ⊢
    simp only [impl_sector.f]
    refine Ev.pos (by trivial) (Ev.bnd1 rfl (Ev.pos (by rw [son3]; omega) (Ev.bnd1 (by rw [e2]; exact hr) (Ev.pos (by rw [ByteArray.size_append, son3, sonr]; omega) (Ev.bnd hz (Ev.pos ?_ (Ev.ret _)))))))
    rw [ByteArray.size_append, ByteArray.size_append, ByteArray.size_append, son3, sonr, son2]; omega
  | false =>
    have eh : secHead no false t = strOfNums [(wrap64 (Int.tdiv no 256)) % 256, (Int.tmod no 256) % 256, (t.size : Int) % 256] ++ t ++ strOfNums (List.replicate (10 - t.size) 0) := rfl
    unfold sectorB
    rw [← hone]
    rw [eh] at hz ⊢
    simp only [impl_sector.f]
    refine Ev.neg (by simp) (Ev.bnd1 rfl (Ev.pos (by rw [son3]; omega) (Ev.bnd1 (by rw [e2]; exact hr) (Ev.pos (by rw [ByteArray.size_append, son3, sonr]; omega) (Ev.bnd hz (Ev.pos ?_ (Ev.ret _)))))))
    rw [ByteArray.size_append, ByteArray.size_append, ByteArray.size_append, son3, sonr, son2]; omega

theorem impl_isNo_eq (no : Int) : impl_isNo.f no = some (decide (0 ≤ no ∧ no ≤ 399)) := by
  unfold impl_isNo.f
  by_cases h : 0 ≤ no
  · rw [if_pos h]; congr 1; simp only [decide_eq_decide]; omega
  · rw [if_neg h, decide_eq_false (by omega)]

def readSector (no : Int) (x : ByteArray) : ByteArray × Bool × Bool :=
  if (0 ≤ no ∧ no ≤ 399) ∧ x.size = 16 then
    if Int.tmod (bt x 2) 128 > 10 then ((⟨#[]⟩ : ByteArray), false, false)
    else if sectorB no (decide (bt x 2 ≥ 128)) (x.extract 3 ((3 + Int.tmod (bt x 2) 128).toNat)) = x then (x.extract 3 ((3 + Int.tmod (bt x 2) 128).toNat), decide (bt x 2 ≥ 128), true)
    else ((⟨#[]⟩ : ByteArray), false, false)
  else ((⟨#[]⟩ : ByteArray), false, false)
theorem tmod128 (x : ByteArray) : 0 ≤ Int.tmod (bt x 2) 128 := by
  have h := bt_range x 2
  obtain ⟨n, hn⟩ : ∃ n : Nat, bt x 2 = n := ⟨(bt x 2).toNat, by omega⟩
  rw [hn, show Int.tmod (n : Int) 128 = ((n % 128 : Nat) : Int) from rfl]
  omega
theorem ex_size (x : ByteArray) (m : Int) (h0 : 0 ≤ m) (h1 : m ≤ 10) : (x.extract 3 ((3 + m).toNat)).size ≤ 10 := by
  rw [ByteArray.size_extract]
  omega
theorem readSector_size (no : Int) (x : ByteArray) : (readSector no x).1.size ≤ 10 := by
  unfold readSector
  split
  · split
    · exact Nat.zero_le _
    · rename_i h
      split
      · exact ex_size x _ (tmod128 x) (by omega)
      · exact Nat.zero_le _
  · exact Nat.zero_le _
theorem spec_ReadSector_ev (no : Int) (x : ByteArray) : Ev (fun k => spec_ReadSector.f k no x) (readSector no x) := by
  have hb := bt_range x 2
  have ew : wrap64 (bt x 2) = bt x 2 := w64 (by omega) (by omega)
  have ht := tmod128 x
  unfold readSector
  by_cases g0 : 0 ≤ no ∧ no ≤ 399
  · by_cases g1 : x.size = 16
    · rw [if_pos ⟨g0, g1⟩]
      simp only [spec_ReadSector.f]
      refine Ev.bnd1 (spec_in_eq _ _ _) (Ev.pos (decide_eq_true g0) (Ev.succ ?_))
      simp only [spec_ReadSector.j0]
      rw [ew]
      refine Ev.neg (by simp [g1]) (Ev.pos (by omega) ?_)
      by_cases g2 : Int.tmod (bt x 2) 128 > 10
      · rw [if_pos g2]; exact Ev.pos g2 (Ev.ret _)
      · rw [if_neg g2]
        rw [w64 (x := 3 + Int.tmod (bt x 2) 128) (by omega) (by omega)]
        have hs := spec_l13Sector_ev no (decide (bt x 2 ≥ 128)) (x.extract 3 ((3 + Int.tmod (bt x 2) 128).toNat)) (ex_size x _ ht (by omega))
        refine Ev.neg g2 (Ev.pos (by omega) (Ev.pos (by omega) (Ev.bnd hs ?_)))
        by_cases g3 : sectorB no (decide (bt x 2 ≥ 128)) (x.extract 3 ((3 + Int.tmod (bt x 2) 128).toNat)) = x
        · rw [if_pos g3]; exact Ev.pos ((toList_iff _ _).2 g3) (Ev.ret _)
        · rw [if_neg g3]; exact Ev.neg (fun h => g3 ((toList_iff _ _).1 h)) (Ev.ret _)
    · rw [if_neg (fun h => g1 h.2)]
      simp only [spec_ReadSector.f]
      refine Ev.bnd1 (spec_in_eq _ _ _) (Ev.pos (decide_eq_true g0) (Ev.succ ?_))
      simp only [spec_ReadSector.j0]
      exact Ev.pos (by simp only [bne_iff_ne, ne_eq]; omega) (Ev.ret _)
  · rw [if_neg (fun h => g0 h.1)]
    simp only [spec_ReadSector.f]
    refine Ev.bnd1 (spec_in_eq _ _ _) (Ev.neg (by rw [decide_eq_false g0]; simp) (Ev.succ ?_))
    simp only [spec_ReadSector.j0]
    exact Ev.pos (by trivial) (Ev.ret _)
theorem impl_ReadSector_ev (no : Int) (x : ByteArray) : Ev (fun k => impl_ReadSector.f k no x) (readSector no x) := by
  have hb := bt_range x 2
  have ew : wrap64 (bt x 2) = bt x 2 := w64 (by omega) (by omega)
  have ht := tmod128 x
  unfold readSector
  by_cases g0 : 0 ≤ no ∧ no ≤ 399
  · by_cases g1 : x.size = 16
    · rw [if_pos ⟨g0, g1⟩]
      simp only [impl_ReadSector.f]
      refine Ev.bnd1 (impl_isNo_eq _) (Ev.pos (decide_eq_true g0) (Ev.succ ?_))
      simp only [impl_ReadSector.j0]
      rw [ew]
      refine Ev.neg (by simp [g1]) (Ev.pos (by omega) ?_)
      by_cases g2 : Int.tmod (bt x 2) 128 > 10
      · rw [if_pos g2]; exact Ev.pos g2 (Ev.ret _)
      · rw [if_neg g2]
        rw [w64 (x := 3 + Int.tmod (bt x 2) 128) (by omega) (by omega)]
        have hs := impl_sector_ev no (decide (bt x 2 ≥ 128)) (x.extract 3 ((3 + Int.tmod (bt x 2) 128).toNat)) (ex_size x _ ht (by omega))
        refine Ev.neg g2 (Ev.pos (by omega) (Ev.pos (by omega) (Ev.bnd hs ?_)))
        by_cases g3 : sectorB no (decide (bt x 2 ≥ 128)) (x.extract 3 ((3 + Int.tmod (bt x 2) 128).toNat)) = x
        · rw [if_pos g3]; exact Ev.pos ((toList_iff _ _).2 g3) (Ev.ret _)
        · rw [if_neg g3]; exact Ev.neg (fun h => g3 ((toList_iff _ _).1 h)) (Ev.ret _)
    · rw [if_neg (fun h => g1 h.2)]
      simp only [impl_ReadSector.f]
      refine Ev.bnd1 (impl_isNo_eq _) (Ev.pos (decide_eq_true g0) (Ev.succ ?_))
      simp only [impl_ReadSector.j0]
      exact Ev.pos (by simp only [bne_iff_ne, ne_eq]; omega) (Ev.ret _)
  · rw [if_neg (fun h => g0 h.1)]
    simp only [impl_ReadSector.f]
    refine Ev.bnd1 (impl_isNo_eq _) (Ev.neg (by rw [decide_eq_false g0]; simp) (Ev.succ ?_))
    simp only [impl_ReadSector.j0]
    exact Ev.pos (by trivial) (Ev.ret _)

/-- The texts in a row of sectors, and the number of sectors of complete ones. -/
def textsGo : List ByteArray → Int → List ByteArray → Int → ByteArray → List ByteArray × Int
  | [], _, out, used, _ => (out, used)
  | x :: l, i, out, used, part =>
    if (readSector i x).2.2 = true then
      if (readSector i x).2.1 = true then textsGo l (i + 1) (out ++ [part ++ (readSector i x).1]) (i + 1) (⟨#[]⟩ : ByteArray)
      else textsGo l (i + 1) out used (part ++ (readSector i x).1)
    else (out, used)
theorem textsGo_len (l : List ByteArray) : ∀ i out used part, (textsGo l i out used part).1.length ≤ out.length + l.length := by
  induction l with
  | nil => intro i out used part; simp [textsGo]
  | cons x l ih =>
    intro i out used part
    simp only [textsGo]
    split
    · split
      · have := ih (i + 1) (out ++ [part ++ (readSector i x).1]) (i + 1) (⟨#[]⟩ : ByteArray)
        simp only [List.length_append, List.length_cons, List.length_nil] at this ⊢
        omega
      · have := ih (i + 1) out used (part ++ (readSector i x).1)
        simp only [List.length_cons]
        omega
    · simp only [List.length_cons]; omega
theorem spec_l13Texts_l0 (post : List ByteArray) : ∀ (pre out : List ByteArray) (used : Int) (part : ByteArray), (pre ++ post).length ≤ 1048576 → out.length + post.length ≤ 10000000 → part.size + 10 * post.length ≤ 1000000000 →
    Ev (fun k => spec_l13Texts.l0 k out used part (pre ++ post) ((pre ++ post).length : Int) (pre.length : Int)) (textsGo post (pre.length : Int) out used part) := by
  induction post with
  | nil =>
    intro pre out used part hl ho hp
    refine Ev.succ ?_
    simp only [spec_l13Texts.l0, textsGo]
    exact Ev.neg (by simp) (Ev.ret _)
  | cons x post ih =>
    intro pre out used part hl ho hp
    have hl' := hl
    simp only [List.length_append, List.length_cons] at hl ho hp
    have hz := readSector_size (pre.length : Int) x
    have hc : ((pre ++ [x]).length : Int) = (pre.length : Int) + 1 := by simp
    refine Ev.succ ?_
    simp only [spec_l13Texts.l0, textsGo]
    refine Ev.pos (by simp only [List.length_append, List.length_cons]; omega) (Ev.pos (by omega) (Ev.pos (by simp only [List.length_append, List.length_cons]; omega) ?_))
    rw [rds_mid, w64 (x := (pre.length : Int) + 1) (by omega) (by omega)]
    refine Ev.bnd (spec_ReadSector_ev _ _) ?_
    by_cases g : (readSector (pre.length : Int) x).2.2 = true
    · rw [if_pos g]
      refine Ev.pos g (Ev.pos (by omega) ?_)
      by_cases g2 : (readSector (pre.length : Int) x).2.1 = true
      · rw [if_pos g2]
        refine Ev.pos g2 (Ev.pos (by omega) ?_)
        have h := ih (pre ++ [x]) (out ++ [part ++ (readSector (pre.length : Int) x).1]) ((pre.length : Int) + 1) (⟨#[]⟩ : ByteArray) (by simpa using hl') (by simp only [List.length_append, List.length_cons, List.length_nil]; omega) (by rw [show (⟨#[]⟩ : ByteArray).size = 0 from rfl]; omega)
        rw [hc] at h
        exact Ev.congr (fun k => by simp) h
      · rw [if_neg g2]
        refine Ev.neg g2 ?_
        have h := ih (pre ++ [x]) out used (part ++ (readSector (pre.length : Int) x).1) (by simpa using hl') (by omega) (by rw [ByteArray.size_append]; omega)
        rw [hc] at h
        exact Ev.congr (fun k => by simp) h
    · rw [if_neg g]
      exact Ev.neg g (Ev.ret _)
theorem impl_texts_l0 (post : List ByteArray) : ∀ (pre out : List ByteArray) (used : Int) (part : ByteArray), (pre ++ post).length ≤ 1048576 → out.length + post.length ≤ 10000000 → part.size + 10 * post.length ≤ 1000000000 →
    Ev (fun k => impl_Disk_texts.l0 k out part used (pre ++ post) ((pre ++ post).length : Int) (pre.length : Int)) (textsGo post (pre.length : Int) out used part) := by
  induction post with
  | nil =>
    intro pre out used part hl ho hp
    refine Ev.succ ?_
    simp only [impl_Disk_texts.l0, textsGo]
    exact Ev.neg (by simp) (Ev.ret _)
  | cons x post ih =>
    intro pre out used part hl ho hp
    have hl' := hl
    simp only [List.length_append, List.length_cons] at hl ho hp
    have hz := readSector_size (pre.length : Int) x
    have hc : ((pre ++ [x]).length : Int) = (pre.length : Int) + 1 := by simp
    refine Ev.succ ?_
    simp only [impl_Disk_texts.l0, textsGo]
    refine Ev.pos (by simp only [List.length_append, List.length_cons]; omega) (Ev.pos (by omega) (Ev.pos (by simp only [List.length_append, List.length_cons]; omega) ?_))
    rw [rds_mid, w64 (x := (pre.length : Int) + 1) (by omega) (by omega)]
    refine Ev.bnd (impl_ReadSector_ev _ _) ?_
    by_cases g : (readSector (pre.length : Int) x).2.2 = true
    · rw [if_pos g]
      refine Ev.pos g (Ev.pos (by omega) ?_)
      by_cases g2 : (readSector (pre.length : Int) x).2.1 = true
      · rw [if_pos g2]
        refine Ev.pos g2 (Ev.pos (by omega) ?_)
        have h := ih (pre ++ [x]) (out ++ [part ++ (readSector (pre.length : Int) x).1]) ((pre.length : Int) + 1) (⟨#[]⟩ : ByteArray) (by simpa using hl') (by simp only [List.length_append, List.length_cons, List.length_nil]; omega) (by rw [show (⟨#[]⟩ : ByteArray).size = 0 from rfl]; omega)
        rw [hc] at h
        exact Ev.congr (fun k => by simp) h
      · rw [if_neg g2]
        refine Ev.neg g2 ?_
        have h := ih (pre ++ [x]) out used (part ++ (readSector (pre.length : Int) x).1) (by simpa using hl') (by omega) (by rw [ByteArray.size_append]; omega)
        rw [hc] at h
        exact Ev.congr (fun k => by simp) h
    · rw [if_neg g]
      exact Ev.neg g (Ev.ret _)
theorem spec_l13Texts_ev (l : List ByteArray) (hl : l.length ≤ 1048576) : Ev (fun k => spec_l13Texts.f k l) (textsGo l 0 [] 0 (⟨#[]⟩ : ByteArray)) := by
  simp only [spec_l13Texts.f]
  exact spec_l13Texts_l0 l [] [] 0 (⟨#[]⟩ : ByteArray) (by simpa using hl) (by simp only [List.length_nil]; omega) (by rw [show (⟨#[]⟩ : ByteArray).size = 0 from rfl]; omega)
theorem impl_texts_ev (a b : List ByteArray) (ha : a.length + b.length ≤ 1048576) : Ev (fun k => impl_Disk_texts.f k a b) (textsGo (a ++ b) 0 [] 0 (⟨#[]⟩ : ByteArray)) := by
  have h := concat_s [a, b] (by simp; omega) (by simp)
  have hf : [a, b].flatten = a ++ b := by simp
  rw [hf] at h
  simp only [impl_Disk_texts.f]
  have hl : (a ++ b).length ≤ 1048576 := by rw [List.length_append]; omega
  exact Ev.bnd h (impl_texts_l0 (a ++ b) [] [] 0 (⟨#[]⟩ : ByteArray) (by simpa using hl) (by simp only [List.length_nil]; omega) (by rw [show (⟨#[]⟩ : ByteArray).size = 0 from rfl]; omega))
def textsOn (a b : List ByteArray) : List ByteArray × Int × Bool :=
  if goodDisk a b = true then ((textsGo (a ++ b) 0 [] 0 (⟨#[]⟩ : ByteArray)).1, (textsGo (a ++ b) 0 [] 0 (⟨#[]⟩ : ByteArray)).2, true) else ([], 0, false)
theorem textsOn_len (a b : List ByteArray) : (textsOn a b).1.length ≤ a.length + b.length := by
  unfold textsOn
  split
  · have := textsGo_len (a ++ b) 0 [] 0 (⟨#[]⟩ : ByteArray)
    simp only [List.length_append, List.length_nil] at this
    simp only; omega
  · simp

theorem l13All_eq (a b : List ByteArray) (ha : a.length + b.length ≤ 1048576) : spec_l13All.f a b = some (a ++ b) := by
  unfold spec_l13All.f
  rw [Option.bind_some, if_pos (by simp only [List.length_nil]; omega), Option.bind_some, if_pos (by simp only [List.nil_append]; omega), List.nil_append]

theorem spec_TextsOn_ev (a b : List ByteArray) (ha : a.length + b.length ≤ 1048576) : Ev (fun k => spec_TextsOn.f k a b) (textsOn a b) := by
  unfold textsOn
  by_cases g : goodDisk a b = true
  · rw [if_pos g]
    simp only [spec_TextsOn.f]
    exact Ev.bnd (spec_GoodDisk_ev a b ha) (Ev.pos g (Ev.bnd1 (l13All_eq a b ha) (Ev.bnd (spec_l13Texts_ev (a ++ b) (by rw [List.length_append]; omega)) (Ev.ret _))))
  · rw [if_neg g]
    simp only [spec_TextsOn.f]
    exact Ev.bnd (spec_GoodDisk_ev a b ha) (Ev.neg g (Ev.ret _))
theorem impl_TextsOn_ev (a b : List ByteArray) (ha : a.length + b.length ≤ 1048576) : Ev (fun k => impl_TextsOn.f k a b) (textsOn a b) := by
  unfold textsOn
  by_cases g : goodDisk a b = true
  · rw [if_pos g]
    simp only [impl_TextsOn.f]
    exact Ev.bnd (impl_GoodDisk_ev a b ha) (Ev.pos g (Ev.bnd (impl_texts_ev a b ha) (Ev.ret _)))
  · rw [if_neg g]
    simp only [impl_TextsOn.f]
    exact Ev.bnd (impl_GoodDisk_ev a b ha) (Ev.neg g (Ev.ret _))

theorem textsGo_used (l : List ByteArray) : ∀ i out used part, 0 ≤ used → used ≤ i → 0 ≤ (textsGo l i out used part).2 ∧ (textsGo l i out used part).2 ≤ i + l.length := by
  induction l with
  | nil => intro i out used part h0 h1; simp only [textsGo, List.length_nil]; omega
  | cons x l ih =>
    intro i out used part h0 h1
    simp only [textsGo, List.length_cons]
    split
    · split
      · have := ih (i + 1) (out ++ [part ++ (readSector i x).1]) (i + 1) (⟨#[]⟩ : ByteArray) (by omega) (by omega)
        omega
      · have := ih (i + 1) out used (part ++ (readSector i x).1) h0 (by omega)
        omega
    · simp only; omega

def mendDisk (a b : List ByteArray) : List ByteArray × List ByteArray × Bool := if goodDisk a b = true ∧ b.length = 0 then (a.take ((textsGo a 0 [] 0 (⟨#[]⟩ : ByteArray)).2.toNat), [], true) else ([], [], false)
theorem spec_MendDisk_ev (a b : List ByteArray) (ha : a.length + b.length ≤ 1048576) : Ev (fun k => spec_MendDisk.f k a b) (mendDisk a b) := by
  unfold mendDisk
  have hu := textsGo_used a 0 [] 0 (⟨#[]⟩ : ByteArray) (by omega) (by omega)
  have ht := spec_l13Texts_ev a (by omega)
  by_cases g : goodDisk a b = true
  · by_cases g2 : b.length = 0
    · rw [if_pos ⟨g, g2⟩]
      simp only [spec_MendDisk.f]
      exact Ev.bnd (spec_GoodDisk_ev a b ha) (Ev.pos g (Ev.neg (by omega) (Ev.bnd ht (Ev.bnd1 rfl (Ev.pos hu.1 (Ev.pos (by omega) (Ev.pos (by simp only [List.length_nil, List.length_take]; omega) (Ev.eq (Ev.ret _) (by simp)))))))))
    · rw [if_neg (fun h => g2 h.2)]
      simp only [spec_MendDisk.f]
      exact Ev.bnd (spec_GoodDisk_ev a b ha) (Ev.pos g (Ev.pos (by omega) (Ev.ret _)))
  · rw [if_neg (fun h => g h.1)]
    simp only [spec_MendDisk.f]
    exact Ev.bnd (spec_GoodDisk_ev a b ha) (Ev.neg g (Ev.ret _))
theorem impl_MendDisk_ev (a b : List ByteArray) (ha : a.length + b.length ≤ 1048576) : Ev (fun k => impl_MendDisk.f k a b) (mendDisk a b) := by
  unfold mendDisk
  have hu := textsGo_used a 0 [] 0 (⟨#[]⟩ : ByteArray) (by omega) (by omega)
  have ht := impl_texts_ev a b ha
  by_cases g : goodDisk a b = true
  · by_cases g2 : b.length = 0
    · obtain rfl : b = [] := List.eq_nil_of_length_eq_zero g2
      rw [List.append_nil] at ht
      rw [if_pos ⟨g, g2⟩]
      have hc : slices_Clone_string_string.f (a.take ((textsGo a 0 [] 0 (⟨#[]⟩ : ByteArray)).2.toNat)) = some (a.take ((textsGo a 0 [] 0 (⟨#[]⟩ : ByteArray)).2.toNat)) := by
        unfold slices_Clone_string_string.f
        exact if_pos (by rw [List.length_take]; omega)
      simp only [impl_MendDisk.f]
      refine Ev.bnd (impl_GoodDisk_ev a [] ha) (Ev.pos g (Ev.succ ?_))
      simp only [impl_MendDisk.j0]
      exact Ev.neg (by simp) (Ev.bnd ht (Ev.pos hu.1 (Ev.pos (by omega) (Ev.bnd1 hc (Ev.ret _)))))
    · rw [if_neg (fun h => g2 h.2)]
      simp only [impl_MendDisk.f]
      refine Ev.bnd (impl_GoodDisk_ev a b ha) (Ev.pos g (Ev.succ ?_))
      simp only [impl_MendDisk.j0]
      exact Ev.pos (decide_eq_true (by omega)) (Ev.ret _)
  · rw [if_neg (fun h => g h.1)]
    simp only [impl_MendDisk.f]
    refine Ev.bnd (impl_GoodDisk_ev a b ha) (Ev.neg g (Ev.succ ?_))
    simp only [impl_MendDisk.j0]
    exact Ev.pos (by trivial) (Ev.ret _)
theorem mendDisk_len (a b : List ByteArray) : (mendDisk a b).1.length + (mendDisk a b).2.1.length ≤ a.length + b.length := by
  unfold mendDisk
  split
  · simp only [List.length_take, List.length_nil]; omega
  · simp

/-! The sectors of a text that is put on a disk: `n` full ones, then the last. -/
def putN : Nat → Int → ByteArray → List ByteArray
  | 0, no, t => [sectorB no true t]
  | n + 1, no, t => sectorB no false (t.extract 0 10) :: putN n (no + 1) (t.extract 10 t.size)
theorem putN_len (n : Nat) : ∀ no t, (putN n no t).length = n + 1 := by
  induction n with
  | zero => intro no t; rfl
  | succ n ih => intro no t; simp only [putN, List.length_cons, ih]
theorem ex10 (t : ByteArray) : (t.extract 10 t.size).size = t.size - 10 := by rw [ByteArray.size_extract]; omega
theorem spec_put (n : Nat) : ∀ (no : Int) (t : ByteArray) (acc : List ByteArray), t.size ≤ 10 * (n + 1) → (n = 0 ∨ 10 * n < t.size) → 0 ≤ no → no + acc.length + n ≤ 100000 → Ev (fun k => spec_l13Put.l0 k no t acc) (acc ++ putN n (no + acc.length) t) := by
  induction n with
  | zero =>
    intro no t acc h1 h2 h0 h3
    refine Ev.succ ?_
    simp only [spec_l13Put.l0, putN]
    rw [w64 (x := no + (acc.length : Int)) (by omega) (by omega)]
    exact Ev.neg (by omega) (Ev.bnd (spec_l13Sector_ev _ true t (by omega)) (Ev.pos (by omega) (Ev.ret _)))
  | succ n ih =>
    intro no t acc h1 h2 h0 h3
    have e : ∀ s : ByteArray, no + ((acc ++ [s]).length : Int) = no + (acc.length : Int) + 1 := fun s => by simp only [List.length_append, List.length_cons, List.length_nil]; omega
    have h := ih no (t.extract 10 t.size) (acc ++ [sectorB (no + acc.length) false (t.extract 0 10)]) (by rw [ex10]; omega) (by rw [ex10]; omega) h0 (by rw [e]; omega)
    rw [e] at h
    refine Ev.succ ?_
    simp only [spec_l13Put.l0, putN]
    rw [w64 (x := no + (acc.length : Int)) (by omega) (by omega)]
    exact Ev.pos (by omega) (Ev.pos (by omega) (Ev.pos (by omega) (Ev.bnd (spec_l13Sector_ev _ false _ (by rw [ByteArray.size_extract]; omega)) (Ev.pos (by omega) (Ev.eq h (by rw [List.append_assoc]; rfl))))))
theorem size_eq (a b : List ByteArray) (h : a.length + b.length ≤ 2000000) : impl_Disk_size.f a b = some ((a.length : Int) + b.length) := by
  unfold impl_Disk_size.f
  rw [w64 (by omega) (by omega)]
theorem ne_nil (t : ByteArray) (h : 0 < t.size) : (t.toList != ([] : List UInt8)) = true := by
  rw [ByteArray.toList_eq, bne_iff_ne]
  intro e
  have h2 : t.data.toList.length = 0 := by rw [e]; rfl
  rw [Array.length_toList] at h2
  have h3 : t.size = t.data.size := rfl
  omega
theorem is_nil (t : ByteArray) (h : t.size = 0) : (t.toList != ([] : List UInt8)) = false := by
  have h2 : t.data.toList = [] := List.eq_nil_of_length_eq_zero (by rw [Array.length_toList]; exact h)
  rw [ByteArray.toList_eq, h2]
  rfl
theorem impl_put (n : Nat) : ∀ (t : ByteArray) (a b : List ByteArray), t.size ≤ 10 * (n + 1) → (n = 0 ∨ 10 * n < t.size) → a.length + b.length ≤ 400 →
    Ev (fun k => impl_PutText.j2 k t true a b) (if a.length + b.length + n + 1 ≤ 400 then (a, b ++ putN n ((a.length : Int) + b.length) t, true) else ([], [], false)) := by
  induction n with
  | zero =>
    intro t a b h1 h2 h3
    have hz := size_eq a b (by omega)
    have hm : mn (t.size : Int) 10 = (t.size : Int) := by unfold mn; rw [if_neg (by omega)]
    refine Ev.succ ?_
    simp only [impl_PutText.j2, putN, hm]
    rw [Int.toNat_natCast, ByteArray.extract_zero_size]
    refine Ev.pos (by trivial) (Ev.bnd1 hz ?_)
    by_cases g : a.length + b.length = 400
    · rw [if_neg (by omega)]
      exact Ev.pos (by omega) (Ev.ret _)
    · rw [if_pos (by omega)]
      refine Ev.neg (by omega) (Ev.bnd1 hz (Ev.pos (by omega) (Ev.pos (by omega) ?_)))
      rw [beq_self_eq_true]
      refine Ev.bnd (impl_sector_ev _ true t (by omega)) (Ev.pos (by omega) (Ev.succ ?_))
      simp only [impl_PutText.l0]
      refine Ev.neg (by simp) (Ev.succ ?_)
      simp only [impl_PutText.j2]
      rw [is_nil (t.extract t.size t.size) (by rw [ByteArray.size_extract]; omega)]
      exact Ev.neg (by simp) (Ev.ret _)
  | succ n ih =>
    intro t a b h1 h2 h3
    have hz := size_eq a b (by omega)
    have hm : mn (t.size : Int) 10 = 10 := by unfold mn; rw [if_pos (by omega)]
    refine Ev.succ ?_
    simp only [impl_PutText.j2, putN, hm]
    refine Ev.pos (by trivial) (Ev.bnd1 hz ?_)
    by_cases g : a.length + b.length = 400
    · rw [if_neg (by omega)]
      exact Ev.pos (by omega) (Ev.ret _)
    · have e : ∀ s : ByteArray, ((b ++ [s]).length : Int) = (b.length : Int) + 1 := fun s => by simp only [List.length_append, List.length_cons, List.length_nil]; omega
      have e' : ∀ s : ByteArray, (b ++ [s]).length = b.length + 1 := fun s => by simp only [List.length_append, List.length_cons, List.length_nil]
      have h := ih (t.extract 10 t.size) a (b ++ [sectorB ((a.length : Int) + b.length) false (t.extract 0 10)]) (by rw [ex10]; omega) (by rw [ex10]; omega) (by rw [e']; omega)
      rw [e, e'] at h
      refine Ev.neg (by omega) (Ev.bnd1 hz (Ev.pos (by omega) (Ev.pos (by omega) ?_)))
      rw [show ((10 : Int) == (t.size : Int)) = false from by rw [beq_eq_false_iff_ne]; omega]
      refine Ev.bnd (impl_sector_ev _ false _ (by rw [show Int.toNat 10 = 10 from rfl, ByteArray.size_extract]; omega)) (Ev.pos (by omega) (Ev.succ ?_))
      simp only [impl_PutText.l0, show Int.toNat 10 = 10 from rfl]
      refine Ev.neg (by simp) ?_
      rw [ne_nil (t.extract 10 t.size) (by rw [ex10]; omega)]
      refine Ev.eq h ?_
      by_cases c : a.length + (b.length + 1) + n + 1 ≤ 400
      · rw [if_pos c, if_pos (by omega), List.append_assoc, ← Int.add_assoc]; rfl
      · rw [if_neg c, if_neg (by omega)]
def putText (a b : List ByteArray) (t : ByteArray) : List ByteArray × List ByteArray × Bool :=
  if goodDisk a b = true ∧ t.size ≤ 1000 ∧ (textsGo (a ++ b) 0 [] 0 (⟨#[]⟩ : ByteArray)).2 = (a.length : Int) + b.length ∧ a.length + b.length + (t.size - 1) / 10 + 1 ≤ 400 then (a, b ++ putN ((t.size - 1) / 10) ((a.length : Int) + b.length) t, true) else ([], [], false)
theorem good400 (a b : List ByteArray) (g : goodDisk a b = true) : a.length + b.length ≤ 400 := by
  unfold goodDisk at g
  rw [Bool.and_eq_true, decide_eq_true_eq] at g
  exact g.1
theorem putText_len (a b : List ByteArray) (t : ByteArray) : (putText a b t).1.length + (putText a b t).2.1.length ≤ 400 := by
  unfold putText
  split
  · rename_i h; simp only [List.length_append, putN_len]; omega
  · simp
theorem own_eq (a b : List ByteArray) (ha : a.length + b.length ≤ 1048576) : spec_l13Own.f a b = some (a, b) := by
  unfold spec_l13Own.f
  rw [Option.bind_some, if_pos (by simp only [List.length_nil]; omega), Option.bind_some, if_pos (by simp only [List.length_nil]; omega), List.nil_append, List.nil_append]
theorem spec_put_no (a b : List ByteArray) (t : ByteArray) : Ev (fun k => spec_PutText.j0 k t true a b) ([], [], false) := by
  refine Ev.succ ?_
  simp only [spec_PutText.j0]
  exact Ev.pos (by trivial) (Ev.ret _)
theorem spec_put_no1 (a b : List ByteArray) (t : ByteArray) (u : Int) : Ev (fun k => spec_PutText.j1 k t u true a b) ([], [], false) := by
  refine Ev.succ ?_
  simp only [spec_PutText.j1]
  exact Ev.pos (by trivial) (Ev.ret _)
theorem tdiv10 (n : Nat) : Int.tdiv (n : Int) 10 = ((n / 10 : Nat) : Int) := rfl
theorem spec_PutText_ev (a b : List ByteArray) (ha : a.length + b.length ≤ 1048576) (t : ByteArray) : Ev (fun k => spec_PutText.f k a b t) (putText a b t) := by
  unfold putText
  simp only [spec_PutText.f]
  refine Ev.bnd (spec_GoodDisk_ev a b ha) ?_
  by_cases g : goodDisk a b = true
  · refine Ev.pos g ?_
    by_cases g1 : (t.size : Int) > 1000
    · rw [if_neg (fun h => by have := h.2.1; omega), decide_eq_true g1]; exact spec_put_no a b t
    · rw [decide_eq_false g1]
      have h4 := good400 a b g
      have hu := textsGo_used (a ++ b) 0 [] 0 (⟨#[]⟩ : ByteArray) (by omega) (by omega)
      have ht := spec_l13Texts_ev (a ++ b) (by rw [List.length_append]; omega)
      refine Ev.succ ?_
      simp only [spec_PutText.j0]
      refine Ev.neg (by simp) (Ev.bnd1 (l13All_eq a b ha) (Ev.bnd ht ?_))
      generalize (textsGo (a ++ b) 0 [] 0 (⟨#[]⟩ : ByteArray)).2 = u at hu
      rw [List.length_append] at hu ⊢
      by_cases g2 : u < ((a.length + b.length : Nat) : Int)
      · rw [if_neg (fun h => by have := h.2.2.1; omega)]
        exact Ev.pos g2 (spec_put_no1 a b t u)
      · refine Ev.neg g2 ?_
        obtain rfl : u = ((a.length + b.length : Nat) : Int) := by omega
        rw [w64 (x := (t.size : Int) + 9) (by omega) (by omega), show (t.size : Int) + 9 = ((t.size + 9 : Nat) : Int) from rfl, tdiv10, w64 (x := (((t.size + 9) / 10 : Nat) : Int)) (by omega) (by omega), w64 (by omega) (by omega)]
        by_cases g3 : ((a.length + b.length : Nat) : Int) + (((t.size + 9) / 10 : Nat) : Int) > 400
        · rw [if_neg (fun h => by have := h.2.2.2; omega)]
          exact Ev.pos g3 (spec_put_no1 a b t _)
        · refine Ev.neg g3 ?_
          by_cases g4 : a.length + b.length = 400
          · rw [if_neg (fun h => by have := h.2.2.2; omega), g4]
            exact spec_put_no1 a b t 400
          · rw [if_pos ⟨g, by omega, by omega, by omega⟩, show (((a.length + b.length : Nat) : Int) == 400) = false from by rw [beq_eq_false_iff_ne]; omega]
            refine Ev.succ ?_
            simp only [spec_PutText.j1]
            have hp := spec_put ((t.size - 1) / 10) ((a.length + b.length : Nat) : Int) t [] (by omega) (by omega) (by omega) (by simp only [List.length_nil]; omega)
            rw [List.nil_append, List.length_nil, Int.natCast_zero, Int.add_zero] at hp
            refine Ev.neg (by simp) (Ev.bnd1 (own_eq a b ha) (Ev.bnd (a := putN ((t.size - 1) / 10) ((a.length + b.length : Nat) : Int) t) ?_ (Ev.pos ?_ (Ev.ret _))))
            · simp only [spec_l13Put.f]; exact hp
            · rw [putN_len]; simp only; omega
  · rw [if_neg (fun h => g h.1)]
    exact Ev.neg g (spec_put_no a b t)
theorem impl_put_no (a b : List ByteArray) (t : ByteArray) : Ev (fun k => impl_PutText.j0 k t true a b) ([], [], false) := by
  refine Ev.succ ?_
  simp only [impl_PutText.j0]
  exact Ev.pos (by trivial) (Ev.ret _)
theorem clone_eq (a : List ByteArray) (h : a.length ≤ 1048576) : slices_Clone_string_string.f a = some a := by
  unfold slices_Clone_string_string.f
  exact if_pos (by omega)
theorem impl_PutText_ev (a b : List ByteArray) (ha : a.length + b.length ≤ 1048576) (t : ByteArray) : Ev (fun k => impl_PutText.f k a b t) (putText a b t) := by
  unfold putText
  simp only [impl_PutText.f]
  refine Ev.bnd (impl_GoodDisk_ev a b ha) ?_
  by_cases g : goodDisk a b = true
  · refine Ev.pos g ?_
    by_cases g1 : (t.size : Int) > 1000
    · rw [if_neg (fun h => by have := h.2.1; omega), decide_eq_true g1]; exact impl_put_no a b t
    · rw [decide_eq_false g1]
      have h4 := good400 a b g
      refine Ev.succ ?_
      simp only [impl_PutText.j0]
      refine Ev.neg (by simp) (Ev.bnd (impl_texts_ev a b ha) (Ev.bnd1 (size_eq a b (by omega)) ?_))
      by_cases g2 : (textsGo (a ++ b) 0 [] 0 (⟨#[]⟩ : ByteArray)).2 = (a.length : Int) + b.length
      · refine Ev.pos g2 ?_
        have hc : impl_Disk_copied.f a b = some (a, b) := by
          unfold impl_Disk_copied.f
          rw [clone_eq a (by omega), Option.bind_some, clone_eq b (by omega), Option.bind_some]
        refine Ev.bnd1 hc (Ev.succ ?_)
        simp only [impl_PutText.l0]
        refine Ev.pos (by trivial) (Ev.eq (impl_put ((t.size - 1) / 10) t a b (by omega) (by omega) h4) ?_)
        by_cases g3 : a.length + b.length + (t.size - 1) / 10 + 1 ≤ 400
        · rw [if_pos g3, if_pos ⟨g, by omega, g2, g3⟩]
        · rw [if_neg g3, if_neg (fun h => g3 h.2.2.2)]
      · rw [if_neg (fun h => g2 h.2.2.1)]
        exact Ev.neg g2 (Ev.ret _)
  · rw [if_neg (fun h => g h.1)]
    exact Ev.neg g (impl_put_no a b t)



def crashed (a b : List ByteArray) (m n : Nat) : List ByteArray := if 0 < n then (if m < b.length then a ++ b.take m ++ [(rdOf ByteArray.empty b (m : Int)).extract 0 n ++ strOfNums (List.replicate (16 - n) 0)] else a ++ b.take m) else a ++ b.take m
def crashDisk (a b : List ByteArray) (x y : Int) : List ByteArray × List ByteArray × Bool := if goodDisk a b = true ∧ (0 ≤ x ∧ x ≤ b.length) ∧ 0 ≤ y ∧ y ≤ 16 then (crashed a b x.toNat y.toNat, [], true) else ([], [], false)
theorem good16 (a b : List ByteArray) (g : goodDisk a b = true) (m : Nat) (h : m < b.length) : (rdOf ByteArray.empty b (m : Int)).size = 16 := by
  unfold goodDisk at g
  rw [Bool.and_eq_true] at g
  have := List.all_eq_true.1 g.2 b[m] (by simp)
  unfold rdOf
  simpa [List.getD_eq_getElem?_getD, List.getElem?_eq_getElem h] using this
theorem w16 (n : Nat) (h : n ≤ 16) : wrap64 (16 - (n : Int)) = ((16 - n : Nat) : Int) := by
  rw [w64 (by omega) (by omega)]; omega
theorem spec_crash (a b : List ByteArray) (ha : a.length + b.length ≤ 1048576) (m n : Nat) (hm : m ≤ b.length) (hn : n ≤ 16) (hs : m < b.length → (rdOf ByteArray.empty b (m : Int)).size = 16) : Ev (fun k => spec_CrashDisk.j0 k m n false a b) (crashed a b m n, [], true) := by
  have ht : (b.take m).length = m := by rw [List.length_take]; omega
  refine Ev.succ ?_
  simp only [spec_CrashDisk.j0, Int.toNat_natCast]
  rw [w16 n hn]
  refine Ev.neg (by simp) (Ev.bnd1 rfl (Ev.pos (by simp only [List.length_nil]; omega) (Ev.bnd1 rfl (Ev.pos (by omega) (Ev.pos (by omega) (Ev.pos (by simp only [List.nil_append]; omega) (Ev.bnd1 rfl ?_)))))))
  unfold crashed
  by_cases g : 0 < n
  · rw [if_pos g]
    by_cases g2 : m < b.length
    · rw [if_pos g2]
      have h16 := hs g2
      simp only [Int.toNat_natCast]
      refine Ev.pos (by omega) (Ev.pos (by omega) (Ev.pos (by omega) (Ev.pos (by omega) (Ev.pos (by omega) (Ev.pos (by omega) (Ev.bnd1 rfl (Ev.pos ?_ (Ev.pos ?_ (Ev.eq (Ev.ret _) (by simp))))))))))
      · rw [ByteArray.size_extract, sonr]; omega
      · simp only [List.length_append, List.length_nil]; omega
    · rw [if_neg g2]
      exact Ev.pos (by omega) (Ev.neg (by omega) (Ev.eq (Ev.ret _) (by simp)))
  · rw [if_neg g]
    exact Ev.neg (by omega) (Ev.eq (Ev.ret _) (by simp))
theorem spec_crash_no (a b : List ByteArray) (x y : Int) : Ev (fun k => spec_CrashDisk.j0 k x y true a b) ([], [], false) := by
  refine Ev.succ ?_
  simp only [spec_CrashDisk.j0]
  exact Ev.pos (by trivial) (Ev.ret _)
theorem spec_CrashDisk_ev (a b : List ByteArray) (ha : a.length + b.length ≤ 1048576) (x y : Int) : Ev (fun k => spec_CrashDisk.f k a b x y) (crashDisk a b x y) := by
  have no := spec_crash_no a b x y
  unfold crashDisk
  simp only [spec_CrashDisk.f]
  refine Ev.bnd (spec_GoodDisk_ev a b ha) ?_
  by_cases g : goodDisk a b = true
  · refine Ev.pos g (Ev.bnd1 (spec_in_eq _ _ _) ?_)
    by_cases gx : 0 ≤ x ∧ x ≤ (b.length : Int)
    · refine Ev.pos (decide_eq_true gx) (Ev.bnd1 (spec_in_eq _ _ _) ?_)
      by_cases gy : 0 ≤ y ∧ y ≤ 16
      · rw [if_pos ⟨g, gx, gy⟩, decide_eq_true gy]
        obtain ⟨m, rfl⟩ : ∃ m : Nat, x = m := ⟨x.toNat, by omega⟩
        obtain ⟨n, rfl⟩ : ∃ n : Nat, y = n := ⟨y.toNat, by omega⟩
        simp only [Int.toNat_natCast]
        exact spec_crash a b ha m n (by omega) (by omega) (good16 a b g m)
      · rw [if_neg (fun h => gy h.2.2), decide_eq_false gy]
        exact no
    · rw [if_neg (fun h => gx h.2.1)]
      exact Ev.neg (by rw [decide_eq_false gx]; simp) no
  · rw [if_neg (fun h => g h.1)]
    exact Ev.neg g no
theorem impl_crash (a b : List ByteArray) (ha : a.length + b.length ≤ 1048576) (m n : Nat) (hm : m ≤ b.length) (hn : n ≤ 16) (hs : m < b.length → (rdOf ByteArray.empty b (m : Int)).size = 16) : Ev (fun k => impl_CrashDisk.j0 k m n false a b) (crashed a b m n, [], true) := by
  have ht : (b.take m).length = m := by rw [List.length_take]; omega
  have hc := concat_s [a, b.take m] (by simp; omega) (by simp)
  rw [show [a, b.take m].flatten = a ++ b.take m by simp] at hc
  refine Ev.succ ?_
  simp only [impl_CrashDisk.j0, Int.toNat_natCast]
  rw [w16 n hn]
  refine Ev.neg (by simp) (Ev.pos (by omega) (Ev.pos (by omega) (Ev.bnd hc ?_)))
  unfold crashed
  by_cases g : 0 < n
  · rw [if_pos g]
    by_cases g2 : m < b.length
    · rw [if_pos g2]
      have h16 := hs g2
      refine Ev.pos (by omega) (Ev.pos (by omega) (Ev.pos (by omega) (Ev.pos (by omega) (Ev.bnd1 (rep0 _ (by omega)) (Ev.pos ?_ (Ev.pos ?_ (Ev.ret _)))))))
      · rw [ByteArray.size_extract, sonr]; omega
      · simp only [List.length_append]; omega
    · rw [if_neg g2]
      exact Ev.pos (by omega) (Ev.neg (by omega) (Ev.ret _))
  · rw [if_neg g]
    exact Ev.neg (by omega) (Ev.ret _)
theorem impl_crash_no (a b : List ByteArray) (x y : Int) : Ev (fun k => impl_CrashDisk.j0 k x y true a b) ([], [], false) := by
  refine Ev.succ ?_
  simp only [impl_CrashDisk.j0]
  exact Ev.pos (by trivial) (Ev.ret _)
theorem impl_CrashDisk_ev (a b : List ByteArray) (ha : a.length + b.length ≤ 1048576) (x y : Int) : Ev (fun k => impl_CrashDisk.f k a b x y) (crashDisk a b x y) := by
  have no := impl_crash_no a b x y
  unfold crashDisk
  simp only [impl_CrashDisk.f]
  refine Ev.bnd (impl_GoodDisk_ev a b ha) ?_
  by_cases g : goodDisk a b = true
  · refine Ev.pos g ?_
    by_cases g1 : x < 0
    · rw [if_neg (fun h => by have := h.2.1.1; omega)]; exact Ev.pos g1 no
    · refine Ev.neg g1 ?_
      by_cases g2 : x > (b.length : Int)
      · rw [if_neg (fun h => by have := h.2.1.2; omega)]; exact Ev.pos g2 no
      · refine Ev.neg g2 ?_
        by_cases g3 : y < 0
        · rw [if_neg (fun h => by have := h.2.2.1; omega)]; exact Ev.pos g3 no
        · refine Ev.neg g3 ?_
          by_cases g4 : y > 16
          · rw [if_neg (fun h => by have := h.2.2.2; omega), decide_eq_true g4]; exact no
          · rw [if_pos ⟨g, ⟨by omega, by omega⟩, by omega, by omega⟩, decide_eq_false g4]
            obtain ⟨m, rfl⟩ : ∃ m : Nat, x = m := ⟨x.toNat, by omega⟩
            obtain ⟨n, rfl⟩ : ∃ n : Nat, y = n := ⟨y.toNat, by omega⟩
            simp only [Int.toNat_natCast]
            exact impl_crash a b ha m n (by omega) (by omega) (good16 a b g m)
  · rw [if_neg (fun h => g h.1)]
    exact Ev.neg g no
theorem crashDisk_len (a b : List ByteArray) (x y : Int) : (crashDisk a b x y).1.length + (crashDisk a b x y).2.1.length ≤ a.length + b.length := by
  unfold crashDisk crashed
  split
  · split
    · split <;> simp <;> omega
    · simp; omega
  · simp

def syncDisk (a b : List ByteArray) : List ByteArray × List ByteArray × Bool := if goodDisk a b = true then (a ++ b, [], true) else ([], [], false)
theorem spec_SyncDisk_ev (a b : List ByteArray) (ha : a.length + b.length ≤ 1048576) : Ev (fun k => spec_SyncDisk.f k a b) (syncDisk a b) := by
  have h : spec_l13All.f a b = some (a ++ b) := by
    unfold spec_l13All.f
    rw [Option.bind_some, if_pos (by simp only [List.length_nil]; omega), Option.bind_some, if_pos (by simp only [List.nil_append]; omega), List.nil_append]
  unfold syncDisk
  by_cases g : goodDisk a b = true
  · rw [if_pos g]
    simp only [spec_SyncDisk.f]
    exact Ev.bnd (spec_GoodDisk_ev a b ha) (Ev.pos g (Ev.bnd1 h (Ev.ret _)))
  · rw [if_neg g]
    simp only [spec_SyncDisk.f]
    exact Ev.bnd (spec_GoodDisk_ev a b ha) (Ev.neg g (Ev.ret _))
theorem impl_SyncDisk_ev (a b : List ByteArray) (ha : a.length + b.length ≤ 1048576) : Ev (fun k => impl_SyncDisk.f k a b) (syncDisk a b) := by
  have h := concat_s [a, b] (by simp; omega) (by simp)
  have hf : [a, b].flatten = a ++ b := by simp
  rw [hf] at h
  unfold syncDisk
  by_cases g : goodDisk a b = true
  · rw [if_pos g]
    simp only [impl_SyncDisk.f]
    exact Ev.bnd (impl_GoodDisk_ev a b ha) (Ev.pos g (Ev.bnd h (Ev.ret _)))
  · rw [if_neg g]
    simp only [impl_SyncDisk.f]
    exact Ev.bnd (impl_GoodDisk_ev a b ha) (Ev.neg g (Ev.ret _))
theorem syncDisk_len (a b : List ByteArray) : (syncDisk a b).1.length + (syncDisk a b).2.1.length ≤ a.length + b.length := by
  unfold syncDisk
  split <;> simp

/-! The cursor's draws: they answer, and within what bounds. -/
theorem and255 (x : Int) : 0 ≤ Go.bits .and .u64 x 255 ∧ Go.bits .and .u64 x 255 ≤ 255 := by
  simp only [Go.bits, BitVec.toNat_and]
  have h := Nat.and_le_right (n := (BitVec.ofInt IntKind.u64.bits x).toNat) (m := (BitVec.ofInt IntKind.u64.bits 255).toNat)
  have h2 : (BitVec.ofInt IntKind.u64.bits 255).toNat = 255 := by decide
  rw [h2] at h ⊢
  generalize (BitVec.ofInt IntKind.u64.bits x).toNat &&& 255 = y at h
  rw [IntWalk.u64_in _ (by omega)]
  omega
theorem rd_range (l : List Int) (hl : ∀ x ∈ l, 0 ≤ x ∧ x ≤ 255) (i : Int) : 0 ≤ rd l i ∧ rd l i ≤ 255 := by
  unfold rd
  rw [List.getD_eq_getElem?_getD]
  cases h : l[i.toNat]? with
  | none => simp
  | some x => exact hl x (List.mem_of_getElem? h)
theorem next_ok (l : List Int) (hl : ∀ x ∈ l, 0 ≤ x ∧ x ≤ 255) (a sd : Int) (h0 : 0 ≤ a) (h1 : a ≤ 4611686018427387904) : ∃ b sd', spec_l1Cur_next.f l a sd = some (b, a + 1, sd') ∧ 0 ≤ b ∧ b ≤ 255 := by
  have hw : wrap64 (a + 1) = a + 1 := w64 (by omega) (by omega)
  have hr := rd_range l hl a
  have hrw : wrap64 (rd l a) = rd l a := w64 (by omega) (by omega)
  unfold spec_l1Cur_next.f
  rw [hw, hrw]
  by_cases g : a < (l.length : Int)
  · rw [if_pos g, if_pos h0]
    by_cases g2 : a + 1 ≤ (l.length : Int)
    · rw [if_pos g2]; exact ⟨_, _, rfl, hr.1, hr.2⟩
    · rw [if_neg g2]
      refine ⟨_, _, rfl, ?_⟩
      have := and255 ((IntKind.u64.wrap ((IntKind.u64.wrap ((IntKind.u64.wrap (sd * 6364136223846793005)) + (IntKind.u64.wrap (rd l a)))) + 1442695040888963407)) / 1099511627776)
      rw [w64 (by omega) (by omega)]
      exact this
  · rw [if_neg g]
    by_cases g2 : a + 1 ≤ (l.length : Int)
    · rw [if_pos g2]; exact ⟨_, _, rfl, by omega, by omega⟩
    · rw [if_neg g2]
      refine ⟨_, _, rfl, ?_⟩
      generalize (IntKind.u64.wrap ((IntKind.u64.wrap (IntKind.u64.wrap (sd * 6364136223846793005))) + 1442695040888963407)) / 1099511627776 = z
      have := and255 z
      rw [w64 (by omega) (by omega)]
      exact this
theorem pick_ok (l : List Int) (hl : ∀ x ∈ l, 0 ≤ x ∧ x ≤ 255) (a sd n : Int) (h0 : 0 ≤ a) (h1 : a ≤ 4611686018427387000) (hn : n ≤ 1000000000) : ∃ p a' sd', spec_l1Cur_pick.f l a sd n = some (p, a', sd') ∧ 0 ≤ p ∧ (1 ≤ n → p < n) ∧ a ≤ a' ∧ a' ≤ a + 2 := by
  unfold spec_l1Cur_pick.f
  by_cases g : n ≤ 1
  · rw [if_pos g]; exact ⟨0, a, sd, rfl, by omega, by omega, by omega, by omega⟩
  · rw [if_neg g]
    obtain ⟨b, s1, e1, hb0, hb1⟩ := next_ok l hl a sd h0 (by omega)
    rw [e1]
    simp only [Option.bind_some]
    by_cases g2 : n > 200
    · rw [if_pos g2]
      obtain ⟨c, s2, e2, hc0, hc1⟩ := next_ok l hl (a + 1) s1 (by omega) (by omega)
      rw [e2]
      simp only [Option.bind_some]
      rw [if_neg (show ¬ n = 0 by omega), w64 (x := b * 256) (by omega) (by omega), w64 (x := b * 256 + c) (by omega) (by omega)]
      exact ⟨_, _, _, rfl, Int.tmod_nonneg _ (by omega), fun _ => Int.tmod_lt_of_pos _ (by omega), by omega, by omega⟩
    · rw [if_neg g2, if_neg (show ¬ n = 0 by omega)]
      exact ⟨_, _, _, rfl, Int.tmod_nonneg _ (by omega), fun _ => Int.tmod_lt_of_pos _ (by omega), by omega, by omega⟩
theorem one_ok (l : List Int) (hl : ∀ x ∈ l, 0 ≤ x ∧ x ≤ 255) (a sd n : Int) (h0 : 0 ≤ a) (h1 : a ≤ 4611686018427387000) (hn : n ≤ 1000000000) : ∃ b a' sd', spec_l1Cur_one.f l a sd n = some (b, a', sd') ∧ a ≤ a' ∧ a' ≤ a + 2 := by
  obtain ⟨p, a1, s1, e1, hp0, hp1, ha1, ha2⟩ := pick_ok l hl a sd n h0 h1 hn
  exact ⟨_, a1, s1, by unfold spec_l1Cur_one.f; rw [e1]; rfl, ha1, ha2⟩

theorem son1 (a : Int) : (strOfNums [a]).size = 1 := by rw [strOfNums_size]; rfl
theorem spoilt_l0_ok (l : List Int) (hl : ∀ x ∈ l, 0 ≤ x ∧ x ≤ 255) (x2 : ByteArray) (hx2 : 1 ≤ x2.size ∧ x2.size ≤ 1000) (d : Nat) : ∀ (x1 : ByteArray) (a sd : Int), x1.size + d ≤ 1000 → 0 ≤ a → a + 6 * d ≤ 4611686018427300000 → ∃ s a' sd', Ev (fun k => spec_l1Cur_spoilt.l0 k x1 x2 (d : Int) l a sd) (s, a', sd') ∧ s.size ≤ x1.size + d ∧ a ≤ a' ∧ a' ≤ a + 6 * d := by
  induction d with
  | zero =>
    intro x1 a sd hx h0 h1
    have e : Ev (fun k => spec_l1Cur_spoilt.j1 k x1 x2 ((0 : Nat) : Int) false l a sd) (x1, a, sd) := Ev.step (fun k => by simp only [spec_l1Cur_spoilt.j1]; rw [if_neg (by simp)]) (Ev.now _)
    refine ⟨_, _, _, Ev.step (fun k => ?_) e, by omega, by omega, by omega⟩
    simp only [spec_l1Cur_spoilt.l0]
    rw [if_neg (by omega)]
  | succ d ih =>
    intro x1 a sd hx h0 h1
    by_cases g : (x1.size : Int) > 0
    · obtain ⟨i, a1, s1, e1, hi0, hi1, ha1, ha1'⟩ := pick_ok l hl a sd (x1.size : Int) h0 (by omega) (by omega)
      have hi2 := hi1 (by omega)
      obtain ⟨c, a2, s2, e2, hc0, hc1, ha2, ha2'⟩ := pick_ok l hl a1 s1 (x2.size : Int) (by omega) (by omega) (by omega)
      have hc2 := hc1 (by omega)
      obtain ⟨q, a3, s3, e3, hq0, hq1, ha3, ha3'⟩ := pick_ok l hl a2 s2 3 (by omega) (by omega) (by omega)
      have hw : wrap64 (((d + 1 : Nat) : Int) - 1) = (d : Int) := by rw [w64 (by omega) (by omega)]; omega
      have hwi : wrap64 (i + 1) = i + 1 := w64 (by omega) (by omega)
      have hz1 : (x1.extract 0 i.toNat).size = i.toNat := by rw [ByteArray.size_extract]; omega
      have hz2 : (x1.extract i.toNat x1.size).size = x1.size - i.toNat := by rw [ByteArray.size_extract]; omega
      have hz3 : (x1.extract (i + 1).toNat x1.size).size = x1.size - (i.toNat + 1) := by rw [ByteArray.size_extract]; omega
      have key : ∃ x' : ByteArray, x'.size ≤ x1.size + 1 ∧ x'.size ≤ 1001 ∧ ∀ k, spec_l1Cur_spoilt.j1 (k + 1) x1 x2 ((d + 1 : Nat) : Int) true l a sd = spec_l1Cur_spoilt.l0 k x' x2 (d : Int) l a3 s3 := by
        by_cases q0 : q = 0
        · refine ⟨(x1.extract 0 i.toNat ++ strOfNums [bt x2 c]) ++ x1.extract i.toNat x1.size, by rw [ByteArray.size_append, ByteArray.size_append, hz1, hz2, son1]; omega, by rw [ByteArray.size_append, ByteArray.size_append, hz1, hz2, son1]; omega, fun k => ?_⟩
          simp only [spec_l1Cur_spoilt.j1]
          rw [if_pos trivial, e1]
          simp only [Option.bind_some, e2, e3]
          rw [if_pos hc0, if_pos hc2, if_pos q0, if_pos hi0, if_pos (by omega), if_pos (by rw [hz1, son1]; omega), if_pos (by rw [ByteArray.size_append, hz1, hz2, son1]; omega), hw]
        · by_cases q1 : q = 1
          · refine ⟨(x1.extract 0 i.toNat ++ strOfNums [bt x2 c]) ++ x1.extract (i + 1).toNat x1.size, by rw [ByteArray.size_append, ByteArray.size_append, hz1, hz3, son1]; omega, by rw [ByteArray.size_append, ByteArray.size_append, hz1, hz3, son1]; omega, fun k => ?_⟩
            simp only [spec_l1Cur_spoilt.j1]
            rw [if_pos trivial, e1]
            simp only [Option.bind_some, e2, e3]
            rw [if_pos hc0, if_pos hc2, if_neg q0, if_pos q1, if_pos hi0, if_pos (by omega), if_pos (by rw [hz1, son1]; omega), hwi, if_pos (by omega), if_pos (by omega), if_pos (by rw [ByteArray.size_append, hz1, hz3, son1]; omega), hw]
          · refine ⟨x1.extract 0 i.toNat ++ x1.extract (i + 1).toNat x1.size, by rw [ByteArray.size_append, hz1, hz3]; omega, by rw [ByteArray.size_append, hz1, hz3]; omega, fun k => ?_⟩
            simp only [spec_l1Cur_spoilt.j1]
            rw [if_pos trivial, e1]
            simp only [Option.bind_some, e2, e3]
            rw [if_pos hc0, if_pos hc2, if_neg q0, if_neg q1, if_pos hi0, if_pos (by omega), hwi, if_pos (by omega), if_pos (by omega), if_pos (by rw [hz1, hz3]; omega), hw]
      obtain ⟨x', hx1, hx2', hk⟩ := key
      obtain ⟨s, a', sd', e, hs, ha, ha'⟩ := ih x' a3 s3 (by omega) (by omega) (by omega)
      have ej : Ev (fun k => spec_l1Cur_spoilt.j1 k x1 x2 ((d + 1 : Nat) : Int) true l a sd) (s, a', sd') := Ev.step (fun k => hk k) e
      refine ⟨s, a', sd', Ev.step (fun k => ?_) ej, by omega, by omega, by omega⟩
      simp only [spec_l1Cur_spoilt.l0]
      rw [if_pos (by omega), decide_eq_true g]
    · have e : Ev (fun k => spec_l1Cur_spoilt.j1 k x1 x2 ((d + 1 : Nat) : Int) false l a sd) (x1, a, sd) := Ev.step (fun k => by simp only [spec_l1Cur_spoilt.j1]; rw [if_neg (by simp)]) (Ev.now _)
      refine ⟨_, _, _, Ev.step (fun k => ?_) e, by omega, by omega, by omega⟩
      simp only [spec_l1Cur_spoilt.l0]
      rw [if_pos (by omega), decide_eq_false g]
theorem spoilt_ok (l : List Int) (hl : ∀ x ∈ l, 0 ≤ x ∧ x ≤ 255) (x1 x2 : ByteArray) (hx2 : 1 ≤ x2.size ∧ x2.size ≤ 1000) (a sd : Int) (hx : x1.size ≤ 900) (h0 : 0 ≤ a) (h1 : a ≤ 4611686018427000000) : ∃ s a' sd', Ev (fun k => spec_l1Cur_spoilt.f k l a sd x1 x2) (s, a', sd') ∧ s.size ≤ x1.size + 2 ∧ a ≤ a' ∧ a' ≤ a + 20 := by
  obtain ⟨p, a1, s1, e1, hp0, hp1, ha1, ha1'⟩ := pick_ok l hl a sd 2 h0 (by omega) (by omega)
  have := hp1 (by omega)
  obtain ⟨n, rfl⟩ : ∃ n : Nat, p = (n : Int) := ⟨p.toNat, by omega⟩
  obtain ⟨s, a', sd', e, hs, ha, ha'⟩ := spoilt_l0_ok l hl x2 hx2 (1 + n) x1 a1 s1 (by omega) (by omega) (by omega)
  refine ⟨s, a', sd', ?_, by omega, by omega, by omega⟩
  simp only [spec_l1Cur_spoilt.f]
  refine Ev.bnd1 e1 ?_
  rw [show wrap64 (1 + (n : Int)) = ((1 + n : Nat) : Int) by rw [w64 (by omega) (by omega)]; omega]
  exact e

theorem secHead_size (no : Int) (last : Bool) (t : ByteArray) (h : t.size ≤ 10) : (secHead no last t).size = 13 := by
  unfold secHead
  rw [ByteArray.size_append, ByteArray.size_append, son3, sonr]
  omega
theorem sectorB_size (no : Int) (last : Bool) (t : ByteArray) (h : t.size ≤ 10) : (sectorB no last t).size = 16 := by
  unfold sectorB
  rw [ByteArray.size_append, secHead_size _ _ _ h, son3]
theorem sectorB_bo (no : Int) (last : Bool) (t : ByteArray) : ∃ post, bytesOf (sectorB no last t) = (wrap64 (Int.tdiv no 256)) % 256 :: (Int.tmod no 256) % 256 :: (if last = true then ((t.size : Int) + 128) % 256 else (t.size : Int) % 256) :: (bytesOf t ++ post) := by
  unfold sectorB secHead
  refine ⟨bytesOf (strOfNums (List.replicate (10 - t.size) 0)) ++ bytesOf (strOfNums [(wrap64 (Int.tdiv (crc (secHead no last t)) 256)) % 256, (Int.tmod (crc (secHead no last t)) 256) % 256, 1]), ?_⟩
  rw [bo_append, bo_append, bo_append, bo_son [(wrap64 (Int.tdiv no 256)) % 256, (Int.tmod no 256) % 256, (if last = true then ((t.size : Int) + 128) % 256 else (t.size : Int) % 256)]]
  · unfold secHead
    simp
  · intro x hx
    simp only [List.mem_cons, List.not_mem_nil, or_false] at hx
    rcases hx with rfl | rfl | rfl
    · omega
    · omega
    · split <;> omega
theorem sectorB_2 (no : Int) (last : Bool) (t : ByteArray) (h : t.size ≤ 10) : bt (sectorB no last t) 2 = if last = true then (t.size : Int) + 128 else (t.size : Int) := by
  obtain ⟨post, e⟩ := sectorB_bo no last t
  rw [bo_bt, e]
  show (if last = true then ((t.size : Int) + 128) % 256 else (t.size : Int) % 256) = _
  split <;> omega
theorem sectorB_back (no : Int) (last : Bool) (t : ByteArray) (hn : 0 ≤ no ∧ no ≤ 399) (h : t.size ≤ 10) : readSector no (sectorB no last t) = (t, last, true) := by
  have e2 := sectorB_2 no last t h
  have em : Int.tmod (bt (sectorB no last t) 2) 128 = (t.size : Int) := by
    rw [e2, Int.tmod_eq_emod_of_nonneg (by split <;> omega)]
    split <;> omega
  have el : decide (bt (sectorB no last t) 2 ≥ 128) = last := by
    rw [e2]
    cases last with
    | true => simp; omega
    | false => simp; omega
  have ex : (sectorB no last t).extract 3 ((3 + (t.size : Int)).toNat) = t := by
    apply bo_inj
    obtain ⟨post, e⟩ := sectorB_bo no last t
    rw [bo_extract, e, show (3 + (t.size : Int)).toNat = t.size + 3 by omega]
    simp only [List.take_succ_cons, List.drop_succ_cons, List.drop_zero]
    rw [List.take_append_of_le_length (by rw [bo_size]; omega), List.take_of_length_le (by rw [bo_size]; omega)]
  unfold readSector
  rw [if_pos ⟨hn, sectorB_size no last t h⟩, em, el, ex, if_neg (by omega), if_pos rfl]
theorem readSector_true (no : Int) (x : ByteArray) (h : (readSector no x).2.2 = true) : ∃ last t, t.size ≤ 10 ∧ 0 ≤ no ∧ no ≤ 399 ∧ sectorB no last t = x := by
  unfold readSector at h
  split at h
  · rename_i g
    split at h
    · cases h
    · rename_i g2
      split at h
      · rename_i g3
        exact ⟨_, _, ex_size x _ (tmod128 x) (by omega), g.1.1, g.1.2, g3⟩
      · cases h
  · cases h

/-! Disks: what mending, crashing and putting leave of the texts. -/
theorem textsGo_none (l : List ByteArray) : ∀ i out used part, used ≤ i → textsGo l i out used part = (out, used) ∨ i < (textsGo l i out used part).2 := by
  induction l with
  | nil => intro i out used part h; exact .inl rfl
  | cons x l ih =>
    intro i out used part h
    simp only [textsGo]
    split
    · split
      · rcases ih (i + 1) (out ++ [part ++ (readSector i x).1]) (i + 1) (⟨#[]⟩ : ByteArray) (Int.le_refl _) with e | e
        · rw [e]; exact .inr (by simp only; omega)
        · exact .inr (by omega)
      · rcases ih (i + 1) out used (part ++ (readSector i x).1) (by omega) with e | e
        · exact .inl e
        · exact .inr (by omega)
    · exact .inl rfl
theorem textsGo_mend (l : List ByteArray) : ∀ i out used part, used ≤ i → textsGo (l.take ((textsGo l i out used part).2 - i).toNat) i out used part = textsGo l i out used part := by
  induction l with
  | nil => intro i out used part h; simp
  | cons x l ih =>
    intro i out used part h
    rcases textsGo_none (x :: l) i out used part h with e | e
    · rw [e, show (used - i).toNat = 0 by omega]; rfl
    · by_cases g : (readSector i x).2.2 = true
      · by_cases g2 : (readSector i x).2.1 = true
        · have q : ∀ z, textsGo (x :: z) i out used part = textsGo z (i + 1) (out ++ [part ++ (readSector i x).1]) (i + 1) (⟨#[]⟩ : ByteArray) := fun z => by simp only [textsGo]; rw [if_pos g, if_pos g2]
          have h2 := ih (i + 1) (out ++ [part ++ (readSector i x).1]) (i + 1) (⟨#[]⟩ : ByteArray) (Int.le_refl _)
          rw [q] at e ⊢
          generalize hr : textsGo l (i + 1) (out ++ [part ++ (readSector i x).1]) (i + 1) (⟨#[]⟩ : ByteArray) = r at e h2 ⊢
          rw [show (r.2 - i).toNat = (r.2 - (i + 1)).toNat + 1 by omega, List.take_succ_cons, q, h2]
        · have q : ∀ z, textsGo (x :: z) i out used part = textsGo z (i + 1) out used (part ++ (readSector i x).1) := fun z => by simp only [textsGo]; rw [if_pos g, if_neg g2]
          have h2 := ih (i + 1) out used (part ++ (readSector i x).1) (by omega)
          rw [q] at e ⊢
          generalize hr : textsGo l (i + 1) out used (part ++ (readSector i x).1) = r at e h2 ⊢
          rw [show (r.2 - i).toNat = (r.2 - (i + 1)).toNat + 1 by omega, List.take_succ_cons, q, h2]
      · have q : textsGo (x :: l) i out used part = (out, used) := by simp only [textsGo]; rw [if_neg g]
        rw [q] at e
        exact absurd e (by simp only; omega)
theorem textsGo_out (l : List ByteArray) : ∀ i out used part, ∃ t, (textsGo l i out used part).1 = out ++ t := by
  induction l with
  | nil => intro i out used part; exact ⟨[], by simp [textsGo]⟩
  | cons x l ih =>
    intro i out used part
    simp only [textsGo]
    split
    · split
      · obtain ⟨t, e⟩ := ih (i + 1) (out ++ [part ++ (readSector i x).1]) (i + 1) (⟨#[]⟩ : ByteArray)
        exact ⟨[part ++ (readSector i x).1] ++ t, by rw [e, List.append_assoc]⟩
      · exact ih _ _ _ _
    · exact ⟨[], by simp⟩
theorem textsGo_pre (b a : List ByteArray) : ∀ i out used part, ∃ t, (textsGo (a ++ b) i out used part).1 = (textsGo a i out used part).1 ++ t := by
  induction a with
  | nil => intro i out used part; exact textsGo_out b i out used part
  | cons x a ih =>
    intro i out used part
    simp only [List.cons_append, textsGo]
    split
    · split
      · exact ih _ _ _ _
      · exact ih _ _ _ _
    · exact ⟨[], by simp⟩
theorem textsGo_bad (x : ByteArray) (a : List ByteArray) : ∀ i out used part, (readSector (i + (a.length : Int)) x).2.2 = false → textsGo (a ++ [x]) i out used part = textsGo a i out used part := by
  induction a with
  | nil =>
    intro i out used part h
    simp only [List.length_nil, Int.natCast_zero, Int.add_zero] at h
    simp only [List.nil_append, textsGo]
    rw [if_neg (by rw [h]; simp)]
  | cons y a ih =>
    intro i out used part h
    have h2 : (readSector (i + 1 + (a.length : Int)) x).2.2 = false := by rw [← h]; congr 3; simp only [List.length_cons]; omega
    simp only [List.cons_append, textsGo]
    split
    · split
      · exact ih _ _ _ _ h2
      · exact ih _ _ _ _ h2
    · rfl
theorem textsGo_full (b a : List ByteArray) : ∀ i out used part, used ≤ i → (a = [] → part = (⟨#[]⟩ : ByteArray) ∧ used = i) → (textsGo a i out used part).2 = i + (a.length : Int) → textsGo (a ++ b) i out used part = textsGo b (i + (a.length : Int)) (textsGo a i out used part).1 (i + (a.length : Int)) (⟨#[]⟩ : ByteArray) := by
  induction a with
  | nil =>
    intro i out used part h h0 h1
    obtain ⟨rfl, rfl⟩ := h0 rfl
    simp only [List.nil_append, textsGo, List.length_nil, Int.natCast_zero, Int.add_zero]
  | cons x a ih =>
    intro i out used part h h0 h1
    have hl : i + ((x :: a).length : Int) = i + 1 + (a.length : Int) := by simp only [List.length_cons]; omega
    rw [hl] at h1 ⊢
    simp only [List.cons_append, textsGo] at h1 ⊢
    split
    · rename_i g
      rw [if_pos g] at h1
      split
      · rename_i g2
        rw [if_pos g2] at h1
        exact ih _ _ _ _ (Int.le_refl _) (fun _ => ⟨rfl, rfl⟩) h1
      · rename_i g2
        rw [if_neg g2] at h1
        refine ih _ _ _ _ (by omega) (fun e => ?_) h1
        subst e
        simp only [textsGo, List.length_nil] at h1
        omega
    · rename_i g
      rw [if_neg g] at h1
      simp only at h1
      omega
theorem read_last (no : Int) (x : ByteArray) (h : (readSector no x).2.2 = true) : ∃ p, bytesOf x = p ++ [1] := by
  obtain ⟨last, t, _, _, _, e⟩ := readSector_true no x h
  rw [← e]
  unfold sectorB
  rw [bo_append, bo_son]
  · exact ⟨bytesOf (secHead no last t) ++ [(wrap64 (Int.tdiv (crc (secHead no last t)) 256)) % 256, (Int.tmod (crc (secHead no last t)) 256) % 256], by simp⟩
  · intro y hy
    simp only [List.mem_cons, List.not_mem_nil, or_false] at hy
    rcases hy with rfl | rfl | rfl <;> omega
theorem torn_bad (no : Int) (x : ByteArray) (n : Nat) (h : n < 16) : (readSector no (x.extract 0 n ++ strOfNums (List.replicate (16 - n) 0))).2.2 = false := by
  cases hh : (readSector no (x.extract 0 n ++ strOfNums (List.replicate (16 - n) 0))).2.2 with
  | false => rfl
  | true =>
    obtain ⟨p, e⟩ := read_last _ _ hh
    rw [bo_append, bo_son _ (by intro y hy; have := List.eq_of_mem_replicate hy; omega), show 16 - n = (15 - n) + 1 by omega, List.replicate_succ', ← List.append_assoc] at e
    have e2 := congrArg List.getLast? e
    rw [List.getLast?_concat, List.getLast?_concat] at e2
    cases e2
theorem goodDisk_mk {a b : List ByteArray} (h : a.length + b.length ≤ 400) (h2 : ∀ s ∈ a ++ b, s.size = 16) : goodDisk a b = true := by
  unfold goodDisk
  rw [decide_eq_true h, Bool.true_and, List.all_eq_true]
  intro s hs
  exact beq_iff_eq.2 (h2 s hs)
theorem goodDisk_of {a b : List ByteArray} (g : goodDisk a b = true) : a.length + b.length ≤ 400 ∧ ∀ s ∈ a ++ b, s.size = 16 := by
  unfold goodDisk at g
  rw [Bool.and_eq_true, decide_eq_true_eq, List.all_eq_true] at g
  exact ⟨g.1, fun s hs => beq_iff_eq.1 (g.2 s hs)⟩
theorem torn_size (x : ByteArray) (n : Nat) (h : n ≤ 16) (hx : x.size = 16) : (x.extract 0 n ++ strOfNums (List.replicate (16 - n) 0)).size = 16 := by
  rw [ByteArray.size_append, ByteArray.size_extract, sonr]; omega
theorem crashed_good {a b : List ByteArray} (g : goodDisk a b = true) (m n : Nat) (hm : m ≤ b.length) (hn : n ≤ 16) : (crashed a b m n).length ≤ 400 ∧ ∀ s ∈ crashed a b m n, s.size = 16 := by
  obtain ⟨h1, h2⟩ := goodDisk_of g
  have h3 : ∀ s ∈ a ++ b.take m, s.size = 16 := fun s hs => h2 s (by rcases List.mem_append.1 hs with q | q; exact List.mem_append.2 (.inl q); exact List.mem_append.2 (.inr (List.mem_of_mem_take q)))
  have h4 : (a ++ b.take m).length = a.length + m := by rw [List.length_append, List.length_take]; omega
  unfold crashed
  split
  · split
    · rename_i g2
      refine ⟨by rw [List.length_append, h4]; simp only [List.length_cons, List.length_nil]; omega, fun s hs => ?_⟩
      rcases List.mem_append.1 hs with q | q
      · exact h3 s q
      · rw [List.mem_singleton.1 q]
        exact torn_size _ n hn (good16 a b g m g2)
    · exact ⟨by rw [h4]; omega, h3⟩
  · exact ⟨by rw [h4]; omega, h3⟩
theorem crashed_texts {a b : List ByteArray} (g : goodDisk a b = true) (m n : Nat) (hm : m ≤ b.length) (hn : n ≤ 16) : ∃ p q, p ++ q = b ∧ textsGo (crashed a b m n) 0 [] 0 (⟨#[]⟩ : ByteArray) = textsGo (a ++ p) 0 [] 0 (⟨#[]⟩ : ByteArray) := by
  have base : ∃ p q, p ++ q = b ∧ textsGo (a ++ b.take m) 0 [] 0 (⟨#[]⟩ : ByteArray) = textsGo (a ++ p) 0 [] 0 (⟨#[]⟩ : ByteArray) := ⟨b.take m, b.drop m, List.take_append_drop m b, rfl⟩
  unfold crashed
  split
  · split
    · rename_i g1 g2
      by_cases g3 : n < 16
      · rw [textsGo_bad _ _ _ _ _ _ (torn_bad _ _ n g3)]
        exact base
      · obtain rfl : n = 16 := by omega
        have hx := good16 a b g m g2
        have e : (rdOf ByteArray.empty b (m : Int)).extract 0 16 ++ strOfNums (List.replicate (16 - 16) 0) = b[m] := by
          have e1 : rdOf ByteArray.empty b (m : Int) = b[m] := by unfold rdOf; simp [List.getD_eq_getElem?_getD, List.getElem?_eq_getElem g2]
          rw [e1] at hx ⊢
          apply bo_inj
          rw [bo_append, bo_extract, List.take_of_length_le (by rw [bo_size]; omega)]
          simp [bytesOf, strOfNums]
        rw [e]
        refine ⟨b.take (m + 1), b.drop (m + 1), List.take_append_drop _ b, ?_⟩
        rw [List.append_assoc, List.take_append_getElem g2]
    · exact base
  · exact base
theorem mend_ok {c : List ByteArray} (h1 : c.length ≤ 400) (h2 : ∀ s ∈ c, s.size = 16) : ∃ ms, mendDisk c [] = (ms, [], true) ∧ mendDisk ms [] = (ms, [], true) ∧ goodDisk ms [] = true ∧ textsGo ms 0 [] 0 (⟨#[]⟩ : ByteArray) = textsGo c 0 [] 0 (⟨#[]⟩ : ByteArray) ∧ (textsGo ms 0 [] 0 (⟨#[]⟩ : ByteArray)).2 = (ms.length : Int) := by
  have g : goodDisk c [] = true := goodDisk_mk (by simpa using h1) (by simpa using h2)
  have hu := textsGo_used c 0 [] 0 (⟨#[]⟩ : ByteArray) (Int.le_refl _) (Int.le_refl _)
  have hm := textsGo_mend c 0 [] 0 (⟨#[]⟩ : ByteArray) (Int.le_refl _)
  rw [Int.sub_zero] at hm
  have hl : (c.take (textsGo c 0 [] 0 (⟨#[]⟩ : ByteArray)).2.toNat).length = (textsGo c 0 [] 0 (⟨#[]⟩ : ByteArray)).2.toNat := by rw [List.length_take]; omega
  have g2 : goodDisk (c.take (textsGo c 0 [] 0 (⟨#[]⟩ : ByteArray)).2.toNat) [] = true := goodDisk_mk (by rw [hl]; simp only [List.length_nil]; omega) (fun s hs => h2 s (List.mem_of_mem_take (by simpa using hs)))
  have hm2 : (textsGo (c.take (textsGo c 0 [] 0 (⟨#[]⟩ : ByteArray)).2.toNat) 0 [] 0 (⟨#[]⟩ : ByteArray)).2.toNat = (c.take (textsGo c 0 [] 0 (⟨#[]⟩ : ByteArray)).2.toNat).length := by rw [hl, hm]
  refine ⟨c.take (textsGo c 0 [] 0 (⟨#[]⟩ : ByteArray)).2.toNat, ?_, ?_, g2, hm, ?_⟩
  · unfold mendDisk
    rw [if_pos ⟨g, rfl⟩]
  · unfold mendDisk
    rw [if_pos ⟨g2, rfl⟩, hm2, List.take_length]
  · rw [hm, hl]; omega
theorem eb_append (t : ByteArray) : (⟨#[]⟩ : ByteArray) ++ t = t := bo_inj (by rw [bo_append, bo_empty, List.nil_append])
theorem put_back {ms : List ByteArray} (g : goodDisk ms [] = true) (hu : (textsGo ms 0 [] 0 (⟨#[]⟩ : ByteArray)).2 = (ms.length : Int)) (t : ByteArray) (h0 : 1 ≤ t.size) (h1 : t.size ≤ 10) (hok : (putText ms [] t).2.2 = true) :
    ∃ ps pl ul, putText ms [] t = (ps, pl, true) ∧ textsOn ps pl = ((textsGo ms 0 [] 0 (⟨#[]⟩ : ByteArray)).1 ++ [t], ul, true) := by
  obtain ⟨hl, hs⟩ := goodDisk_of g
  unfold putText at hok ⊢
  rw [List.append_nil, show (t.size - 1) / 10 = 0 by omega] at hok ⊢
  split at hok
  case isFalse => cases hok
  rename_i gg
  have hlen : ms.length + 1 ≤ 400 := by have := gg.2.2.2; simp only [List.length_nil] at this; omega
  rw [if_pos gg]
  have hn : ((ms.length : Int) + ((([] : List ByteArray).length : Nat) : Int)) = (ms.length : Int) := by simp
  rw [hn]
  refine ⟨ms, putN 0 (ms.length : Int) t, (ms.length : Int) + 1, rfl, ?_⟩
  have gd : goodDisk ms (putN 0 (ms.length : Int) t) = true := by
    refine goodDisk_mk (by rw [putN_len]; omega) (fun s q => ?_)
    rcases List.mem_append.1 q with q | q
    · exact hs s (by simpa using q)
    · simp only [putN, List.mem_singleton] at q
      rw [q]; exact sectorB_size _ _ _ h1
  have e : textsGo (ms ++ putN 0 (ms.length : Int) t) 0 [] 0 (⟨#[]⟩ : ByteArray) = ((textsGo ms 0 [] 0 (⟨#[]⟩ : ByteArray)).1 ++ [t], (ms.length : Int) + 1) := by
    rw [textsGo_full _ ms 0 [] 0 (⟨#[]⟩ : ByteArray) (Int.le_refl _) (fun _ => ⟨rfl, rfl⟩) (by rw [hu]; omega), Int.zero_add]
    simp only [putN, textsGo]
    rw [sectorB_back _ true t (by omega) h1]
    simp only [if_true, eb_append]
  unfold textsOn
  rw [if_pos gd, e]

theorem of_ok (l : List Int) (hl : ∀ x ∈ l, 0 ≤ x ∧ x ≤ 255) (a sd : Int) (xs : List ByteArray) (h0 : 0 ≤ a) (h1 : a ≤ 4611686018427387000) (hx : 1 ≤ xs.length ∧ xs.length ≤ 1000) : ∃ p a' sd', spec_l1Cur_of.f l a sd xs = some (rdOf ByteArray.empty xs p, a', sd') ∧ a ≤ a' ∧ a' ≤ a + 2 := by
  obtain ⟨p, a1, s1, e1, hp0, hp1, ha1, ha2⟩ := pick_ok l hl a sd (xs.length : Int) h0 h1 (by omega)
  have := hp1 (by omega)
  refine ⟨p, a1, s1, ?_, ha1, ha2⟩
  unfold spec_l1Cur_of.f
  rw [e1]
  simp only [Option.bind_some]
  rw [if_pos hp0, if_pos this]

/-! Drawn disks. -/
def Dr (b0 b1 : Int) (g : Nat → Option (List ByteArray × List ByteArray × Int × Int)) : Prop := ∃ s d a sd, Ev (fun k => g k) (s, d, a, sd) ∧ s.length + d.length ≤ 400 ∧ b0 ≤ a ∧ a ≤ b1
theorem Dr.pos {b0 b1 : Int} {c : Prop} [Decidable c] {f g : Nat → Option (List ByteArray × List ByteArray × Int × Int)} (h : c) (e : Dr b0 b1 (fun k => f k)) : Dr b0 b1 (fun k => if c then f k else g k) := by
  obtain ⟨s, d, a, sd, q, r⟩ := e
  exact ⟨s, d, a, sd, Ev.pos h q, r⟩
theorem Dr.neg {b0 b1 : Int} {c : Prop} [Decidable c] {f g : Nat → Option (List ByteArray × List ByteArray × Int × Int)} (h : ¬ c) (e : Dr b0 b1 (fun k => g k)) : Dr b0 b1 (fun k => if c then f k else g k) := by
  obtain ⟨s, d, a, sd, q, r⟩ := e
  exact ⟨s, d, a, sd, Ev.neg h q, r⟩
theorem Dr.bnd {b0 b1 : Int} {α : Type} {f : Nat → Option α} {g : Nat → α → Option (List ByteArray × List ByteArray × Int × Int)} {x : α} (h : Ev (fun k => f k) x) (e : Dr b0 b1 (fun k => g k x)) : Dr b0 b1 (fun k => (f k).bind fun x => g k x) := by
  obtain ⟨s, d, a, sd, q, r⟩ := e
  exact ⟨s, d, a, sd, Ev.bnd h q, r⟩
theorem Dr.bnd1 {b0 b1 : Int} {α : Type} {f : Option α} {g : Nat → α → Option (List ByteArray × List ByteArray × Int × Int)} {x : α} (h : f = some x) (e : Dr b0 b1 (fun k => g k x)) : Dr b0 b1 (fun k => f.bind fun x => g k x) := by
  obtain ⟨s, d, a, sd, q, r⟩ := e
  exact ⟨s, d, a, sd, Ev.bnd1 h q, r⟩
theorem Dr.succ {b0 b1 : Int} {g : Nat → Option (List ByteArray × List ByteArray × Int × Int)} (e : Dr b0 b1 (fun k => g (k + 1))) : Dr b0 b1 (fun k => g k) := by
  obtain ⟨s, d, a, sd, q, r⟩ := e
  exact ⟨s, d, a, sd, Ev.succ q, r⟩
theorem Dr.wide {b0 b1 c0 c1 : Int} {g : Nat → Option (List ByteArray × List ByteArray × Int × Int)} (e : Dr b0 b1 g) (h0 : c0 ≤ b0) (h1 : b1 ≤ c1) : Dr c0 c1 (fun k => g k) := by
  obtain ⟨s, d, a, sd, q, r, r0, r1⟩ := e
  exact ⟨s, d, a, sd, q, r, by omega, by omega⟩
theorem Dr.ret {b0 b1 : Int} (s d : List ByteArray) (a sd : Int) (h : s.length + d.length ≤ 400) (h0 : b0 ≤ a) (h1 : a ≤ b1) : Dr b0 b1 (fun _ => some (s, d, a, sd)) := ⟨s, d, a, sd, Ev.ret _, h, h0, h1⟩
def Sm (a b : List ByteArray) : Prop := a.length + b.length ≤ 400 ∧ ∀ s ∈ a ++ b, s.size ≤ 16
theorem putN_sizes (n : Nat) : ∀ no (t : ByteArray), t.size ≤ 10 * (n + 1) → ∀ s ∈ putN n no t, s.size = 16 := by
  induction n with
  | zero =>
    intro no t h s hs
    simp only [putN, List.mem_singleton] at hs
    rw [hs]; exact sectorB_size _ _ _ (by omega)
  | succ n ih =>
    intro no t h s hs
    simp only [putN, List.mem_cons] at hs
    rcases hs with rfl | hs
    · exact sectorB_size _ _ _ (by rw [ByteArray.size_extract]; omega)
    · exact ih _ _ (by rw [ex10]; omega) s hs
theorem put_sm {a b : List ByteArray} (h : Sm a b) (t : ByteArray) (ok : (putText a b t).2.2 = true) : Sm (putText a b t).1 (putText a b t).2.1 := by
  refine ⟨putText_len a b t, ?_⟩
  unfold putText at ok ⊢
  split at ok
  case isFalse => cases ok
  rename_i g
  rw [if_pos g]
  intro s hs
  simp only [← List.append_assoc] at hs
  rcases List.mem_append.1 hs with q | q
  · exact h.2 s q
  · have := putN_sizes ((t.size - 1) / 10) _ t (by omega) s q; omega
theorem sync_sm {a b : List ByteArray} (h : Sm a b) (ok : (syncDisk a b).2.2 = true) : Sm (syncDisk a b).1 (syncDisk a b).2.1 := by
  unfold syncDisk at ok ⊢
  split at ok
  case isFalse => cases ok
  rename_i g
  rw [if_pos g]
  exact ⟨by have := h.1; simp only [List.length_append, List.length_nil]; omega, by simpa using h.2⟩
theorem crash_sm {a b : List ByteArray} (x y : Int) (ok : (crashDisk a b x y).2.2 = true) : Sm (crashDisk a b x y).1 (crashDisk a b x y).2.1 := by
  unfold crashDisk at ok ⊢
  split at ok
  case isFalse => cases ok
  rename_i g
  rw [if_pos g]
  have := crashed_good g.1 x.toNat y.toNat (by omega) (by omega)
  exact ⟨by simpa using this.1, fun s hs => by have := this.2 s (by simpa using hs); omega⟩
theorem piece_ok (l : List Int) (hl : ∀ x ∈ l, 0 ≤ x ∧ x ≤ 255) (a sd : Int) (h0 : 0 ≤ a) (h1 : a ≤ 1000000) : ∃ t a' sd', spec_l1Cur_piece.f l a sd = some (t, a', sd') ∧ a ≤ a' ∧ a' ≤ a + 2 := by
  unfold spec_l1Cur_piece.f
  obtain ⟨p, a1, s1, e1, ha⟩ := of_ok l hl a sd [(⟨#[]⟩ : ByteArray), (⟨#[97]⟩ : ByteArray), (⟨#[116,101,110,32,98,121,116,101,115,46]⟩ : ByteArray), (⟨#[101,108,101,118,101,110,32,98,121,116,101,115]⟩ : ByteArray), (⟨#[97,32,116,101,120,116,32,116,104,97,116,32,116,97,107,101,115,32,116,104,114,101,101,32,111,102,32,116,104,101,109]⟩ : ByteArray)] h0 (by omega) ⟨by simp, by simp⟩
  rw [e1]
  exact ⟨_, _, _, rfl, ha⟩
section
variable (l : List Int) (hl : ∀ x ∈ l, 0 ≤ x ∧ x ≤ 255)
include hl
theorem disk_j3 (a sd : Int) (s d : List ByteArray) (h : Sm s d) (h0 : 0 ≤ a) (h1 : a ≤ 1000000) : Dr a (a + 30) (fun k => spec_l1Cur_disk.j3 k l a sd s d) := by
  refine Dr.succ ?_
  simp only [spec_l1Cur_disk.j3]
  by_cases g : (s.length : Int) > 0
  · obtain ⟨b, a1, s1, e1, ha1, ha1'⟩ := one_ok l hl a sd 6 h0 (by omega) (by omega)
    refine Dr.pos g (Dr.bnd1 e1 ?_)
    by_cases g2 : b = true
    · have hz : (rdOf ByteArray.empty s 0).size ≤ 900 := by
        obtain ⟨x, s, rfl⟩ : ∃ x t, s = x :: t := by cases s with | nil => simp at g | cons x t => exact ⟨x, t, rfl⟩
        have := h.2 x (by simp)
        exact Nat.le_trans this (by omega)
      obtain ⟨x, a2, s2, e2, _, ha2, ha2'⟩ := spoilt_ok l hl (rdOf ByteArray.empty s 0) (⟨#[97,0]⟩ : ByteArray) ⟨by decide, by decide⟩ a1 s1 hz (by omega) (by omega)
      exact Dr.pos g2 (Dr.pos g (Dr.bnd e2 (Dr.ret _ _ a2 s2 (by have := h.1; simp only [List.length_set]; omega) (by omega) (by omega))))
    · exact Dr.neg g2 (Dr.ret _ _ a1 s1 h.1 (by omega) (by omega))
  · exact Dr.neg g (Dr.ret _ _ a sd h.1 (by omega) (by omega))
theorem disk_j2 (b : Bool) (a sd : Int) (s d s' d' : List ByteArray) (h : Sm s d) (h' : b = true → Sm s' d') (h0 : 0 ≤ a) (h1 : a ≤ 1000000) : Dr a (a + 30) (fun k => spec_l1Cur_disk.j2 k b l a sd s d s' d') := by
  refine Dr.succ ?_
  simp only [spec_l1Cur_disk.j2]
  by_cases g : b = true
  · exact Dr.pos g (disk_j3 l hl a sd s' d' (h' g) h0 h1)
  · exact Dr.neg g (disk_j3 l hl a sd s d h h0 h1)
theorem disk_l0 (n : Nat) : ∀ (a sd : Int) (s d : List ByteArray), Sm s d → 0 ≤ a → a + 10 * n ≤ 900000 → n ≤ 1000 → Dr a (a + 10 * n + 50) (fun k => spec_l1Cur_disk.l0 k (n : Int) l a sd s d) := by
  induction n with
  | zero =>
    intro a sd s d h h0 h1 hn
    have hd := h.1
    obtain ⟨p, a1, s1, e1, _, _, ha1, ha1'⟩ := pick_ok l hl a sd ((d.length : Int) + 1) h0 (by omega) (by omega)
    obtain ⟨q, a2, s2, e2, _, _, ha2, ha2'⟩ := pick_ok l hl a1 s1 17 (by omega) (by omega) (by omega)
    refine Dr.succ ?_
    simp only [spec_l1Cur_disk.l0]
    rw [w64 (x := (d.length : Int) + 1) (by omega) (by omega)]
    refine Dr.neg (by omega) (Dr.bnd1 e1 (Dr.bnd1 e2 (Dr.bnd (spec_CrashDisk_ev s d (by omega) p q) ?_)))
    by_cases g : (crashDisk s d p q).2.2 = true
    · obtain ⟨b, a3, s3, e3, ha3, ha3'⟩ := one_ok l hl a2 s2 4 (by omega) (by omega) (by omega)
      exact Dr.pos g (Dr.bnd1 e3 ((disk_j2 l hl b a3 s3 s d _ _ h (fun _ => crash_sm p q g) (by omega) (by omega)).wide (by omega) (by omega)))
    · exact Dr.neg g ((disk_j2 l hl false a2 s2 s d _ _ h (fun h => absurd h (by simp)) (by omega) (by omega)).wide (by omega) (by omega))
  | succ n ih =>
    intro a sd s d h h0 h1 hn
    have j1 : ∀ (a1 s1 : Int) (s d : List ByteArray), Sm s d → a ≤ a1 → a1 ≤ a + 2 → Dr a (a + 10 * (n + 1 : Nat) + 50) (fun k => spec_l1Cur_disk.j1 k ((n + 1 : Nat) : Int) l a1 s1 s d) := by
      intro a1 s1 s d h ha1 ha1'
      have hd := h.1
      have hw : wrap64 (((n + 1 : Nat) : Int) - 1) = (n : Int) := by rw [w64 (by omega) (by omega)]; omega
      refine Dr.succ ?_
      simp only [spec_l1Cur_disk.j1]
      rw [hw]
      refine Dr.bnd (spec_SyncDisk_ev s d (by omega)) ?_
      by_cases g : (syncDisk s d).2.2 = true
      · obtain ⟨b, a2, s2, e2, ha2, ha2'⟩ := one_ok l hl a1 s1 3 (by omega) (by omega) (by omega)
        refine Dr.pos g (Dr.bnd1 e2 ?_)
        by_cases g2 : b = true
        · exact Dr.pos g2 ((ih a2 s2 _ _ (sync_sm h g) (by omega) (by omega) (by omega)).wide (by omega) (by omega))
        · exact Dr.neg g2 ((ih a2 s2 _ _ h (by omega) (by omega) (by omega)).wide (by omega) (by omega))
      · exact Dr.neg g ((ih a1 s1 _ _ h (by omega) (by omega) (by omega)).wide (by omega) (by omega))
    obtain ⟨t, a1, s1, e1, ha1, ha1'⟩ := piece_ok l hl a sd h0 (by omega)
    have hd := h.1
    refine Dr.succ ?_
    simp only [spec_l1Cur_disk.l0]
    refine Dr.pos (by omega) (Dr.bnd1 e1 (Dr.bnd (spec_PutText_ev s d (by omega) t) ?_))
    by_cases g : (putText s d t).2.2 = true
    · exact Dr.pos g (j1 a1 s1 _ _ (put_sm h t g) ha1 ha1')
    · exact Dr.neg g (j1 a1 s1 _ _ h ha1 ha1')
theorem disk_ok : ∃ s d a sd, Ev (fun k => spec_l1Cur_disk.f k l 0 0) (s, d, a, sd) ∧ s.length + d.length ≤ 400 ∧ 0 ≤ a ∧ a ≤ 1000 := by
  obtain ⟨p, a1, s1, e1, hp0, hp1, ha1, ha1'⟩ := pick_ok l hl 0 0 5 (by omega) (by omega) (by omega)
  have := hp1 (by omega)
  obtain ⟨n, rfl⟩ : ∃ n : Nat, p = (n : Int) := ⟨p.toNat, by omega⟩
  obtain ⟨s, d, a, sd, e, hs, h0, h1⟩ := disk_l0 l hl n a1 s1 [] [] ⟨by simp, by simp⟩ (by omega) (by omega) (by omega)
  refine ⟨s, d, a, sd, ?_, hs, by omega, by omega⟩
  simp only [spec_l1Cur_disk.f]
  exact Ev.bnd1 e1 e
theorem DrawGoodDisk_ok : ∃ s d, Ev (fun k => spec_DrawGoodDisk.f k l) (s, d) ∧ s.length + d.length ≤ 400 := by
  obtain ⟨s, d, a, sd, e, hs, _⟩ := disk_ok l hl
  refine ⟨s, d, ?_, hs⟩
  simp only [spec_DrawGoodDisk.f]
  exact Ev.bnd e (Ev.ret _)
theorem DrawTextsOn_ok : ∃ s d, Ev (fun k => spec_DrawTextsOn.f k l) (s, d) ∧ s.length + d.length ≤ 400 := by
  obtain ⟨s, d, e, hs⟩ := DrawGoodDisk_ok l hl
  refine ⟨s, d, ?_, hs⟩
  simp only [spec_DrawTextsOn.f]
  exact Ev.bnd e (Ev.ret _)
theorem DrawSyncDisk_ok : ∃ s d, Ev (fun k => spec_DrawSyncDisk.f k l) (s, d) ∧ s.length + d.length ≤ 400 := by
  obtain ⟨s, d, e, hs⟩ := DrawGoodDisk_ok l hl
  refine ⟨s, d, ?_, hs⟩
  simp only [spec_DrawSyncDisk.f]
  exact Ev.bnd e (Ev.ret _)
theorem DrawPutText_ok : ∃ s d t, Ev (fun k => spec_DrawPutText.f k l) (s, d, t) ∧ s.length + d.length ≤ 400 := by
  obtain ⟨s, d, a, sd, e, hs, h0, h1⟩ := disk_ok l hl
  obtain ⟨t, a1, s1, e1, _⟩ := piece_ok l hl a sd h0 (by omega)
  refine ⟨s, d, t, ?_, hs⟩
  simp only [spec_DrawPutText.f]
  exact Ev.bnd e (Ev.bnd1 e1 (Ev.ret _))
theorem DrawMendDisk_ok : ∃ s d, Ev (fun k => spec_DrawMendDisk.f k l) (s, d) ∧ s.length + d.length ≤ 400 := by
  obtain ⟨s, d, a, sd, e, hs, h0, h1⟩ := disk_ok l hl
  obtain ⟨p, a1, s1, e1, _, _, ha1, ha1'⟩ := pick_ok l hl a sd ((d.length : Int) + 1) h0 (by omega) (by omega)
  obtain ⟨q, a2, s2, e2, _, _, ha2, ha2'⟩ := pick_ok l hl a1 s1 17 (by omega) (by omega) (by omega)
  obtain ⟨b, a3, s3, e3, _⟩ := one_ok l hl a2 s2 6 (by omega) (by omega) (by omega)
  have hc := spec_CrashDisk_ev s d (by omega) p q
  have hlen : (crashDisk s d p q).1.length + (crashDisk s d p q).2.1.length ≤ 400 := by have := crashDisk_len s d p q; omega
  have hw : wrap64 ((d.length : Int) + 1) = (d.length : Int) + 1 := w64 (by omega) (by omega)
  simp only [spec_DrawMendDisk.f]
  by_cases g : (crashDisk s d p q).2.2 = true
  · by_cases g2 : b = true
    · exact ⟨s, d, Ev.bnd e (Ev.bnd1 (by rw [hw]; exact e1) (Ev.bnd1 e2 (Ev.bnd hc (Ev.pos g (Ev.bnd1 e3 (Ev.pos g2 (Ev.ret _))))))), hs⟩
    · exact ⟨_, _, Ev.bnd e (Ev.bnd1 (by rw [hw]; exact e1) (Ev.bnd1 e2 (Ev.bnd hc (Ev.pos g (Ev.bnd1 e3 (Ev.neg g2 (Ev.ret _))))))), hlen⟩
  · exact ⟨s, d, Ev.bnd e (Ev.bnd1 (by rw [hw]; exact e1) (Ev.bnd1 e2 (Ev.bnd hc (Ev.neg g (Ev.ret _))))), hs⟩
theorem DrawCrashDisk_ok : ∃ s d x y, Ev (fun k => spec_DrawCrashDisk.f k l) (s, d, x, y) ∧ s.length + d.length ≤ 400 := by
  obtain ⟨s, d, a, sd, e, hs, h0, h1⟩ := disk_ok l hl
  obtain ⟨p, a1, s1, e1, _, _, ha1, ha1'⟩ := pick_ok l hl a sd ((d.length : Int) + 2) h0 (by omega) (by omega)
  obtain ⟨q, a2, s2, e2, _, _, ha2, ha2'⟩ := pick_ok l hl a1 s1 9 (by omega) (by omega) (by omega)
  obtain ⟨r, a3, s3, e3, _, _, ha3, ha3'⟩ := pick_ok l hl a2 s2 18 (by omega) (by omega) (by omega)
  obtain ⟨u, a4, s4, e4, _⟩ := pick_ok l hl a3 s3 9 (by omega) (by omega) (by omega)
  have hw : wrap64 ((d.length : Int) + 2) = (d.length : Int) + 2 := w64 (by omega) (by omega)
  refine ⟨s, d, wrap64 (p - wrap64 (Int.tdiv q 8)), wrap64 (r - wrap64 (Int.tdiv u 8)), ?_, hs⟩
  simp only [spec_DrawCrashDisk.f]
  exact Ev.bnd e (Ev.bnd1 (by rw [hw]; exact e1) (Ev.bnd1 e2 (Ev.bnd1 e3 (Ev.bnd1 e4 (Ev.ret _)))))
end
theorem sameTexts_l0 (x : List ByteArray) (post : List ByteArray) : ∀ pre, pre ++ post = x → x.length ≤ 1048576 → Ev (fun k => laws_sameTexts.l0 k x x (x.length : Int) (pre.length : Int)) true := by
  induction post with
  | nil =>
    intro pre e h
    rw [List.append_nil] at e
    refine Ev.succ ?_
    simp only [laws_sameTexts.l0]
    exact Ev.neg (by rw [e]; omega) (Ev.ret _)
  | cons y post ih =>
    intro pre e h
    have h2 := ih (pre ++ [y]) (by rw [← e]; simp) h
    have hl : x.length = pre.length + (post.length + 1) := by rw [← e]; simp
    refine Ev.succ ?_
    simp only [laws_sameTexts.l0]
    rw [w64 (x := (pre.length : Int) + 1) (by omega) (by omega)]
    rw [List.length_append, List.length_singleton] at h2
    exact Ev.pos (by omega) (Ev.pos (by omega) (Ev.pos (by omega) (Ev.pos (by omega) (Ev.pos (by trivial) h2))))
theorem sameTexts_self (x : List ByteArray) (h : x.length ≤ 1048576) : Ev (fun k => laws_sameTexts.f k x x) true := by
  simp only [laws_sameTexts.f]
  exact Ev.pos (by trivial) (sameTexts_l0 x x [] rfl h)
theorem sameDisk_self (x y : List ByteArray) (h : x.length ≤ 1048576) (h2 : y.length ≤ 1048576) : Ev (fun k => laws_sameDisk.f k x y x y) true := by
  simp only [laws_sameDisk.f]
  exact Ev.bnd (sameTexts_self x h) (Ev.pos (by trivial) (Ev.bnd (sameTexts_self y h2) (Ev.ret _)))

/-! Several things at once, with enough rounds. -/
def Evp (P : Nat → Prop) : Prop := ∃ K, ∀ k, K ≤ k → P k
theorem Evp.and {P Q : Nat → Prop} (hp : Evp P) (hq : Evp Q) : Evp (fun k => P k ∧ Q k) := by
  obtain ⟨K1, h1⟩ := hp
  obtain ⟨K2, h2⟩ := hq
  exact ⟨K1 + K2, fun k hk => ⟨h1 k (by omega), h2 k (by omega)⟩⟩
theorem Evp.some {P : Nat → Prop} (h : Evp P) : ∃ k, P k := by
  obtain ⟨K, h⟩ := h
  exact ⟨K, h K (Nat.le_refl _)⟩
theorem Evp.of {α : Type} {g : Nat → Option α} {r : α} (h : Ev g r) : Evp (fun k => g k = .some r) := h
theorem disk_in {s l : List ByteArray} (hl : s.length + l.length ≤ 400) (x y : Int) (ok : (crashDisk s l x y).2.2 = true) :
    ∃ ahead used sure us ms ml behind ag al ps pl six lt ul seven, Evp (fun k => laws_FnDisk.In k s l (crashDisk s l x y).1 (crashDisk s l x y).2.1 ahead used sure us ms ml behind ag al ps pl six lt ul seven) := by
  unfold crashDisk at ok ⊢
  split at ok
  case isFalse => cases ok
  rename_i g
  rw [if_pos g]
  simp only
  obtain ⟨g1, gx, gy⟩ := g
  obtain ⟨_, hs⟩ := goodDisk_of g1
  have gs : goodDisk s [] = true := goodDisk_mk (by simp only [List.length_nil]; omega) (fun z hz => hs z (by rw [List.append_nil] at hz; exact List.mem_append.2 (.inl hz)))
  obtain ⟨c1, c2⟩ := crashed_good g1 x.toNat y.toNat (by omega) (by omega)
  obtain ⟨p, q, epq, ec⟩ := crashed_texts g1 x.toNat y.toNat (by omega) (by omega)
  obtain ⟨ms, m1, m2, gm, mt, mu⟩ := mend_ok c1 c2
  generalize crashed s l x.toNat y.toNat = c at c1 c2 ec m1 mt
  rw [ec] at mt
  have hml : ms.length ≤ 400 := by have := good400 ms [] gm; simp only [List.length_nil] at this; omega
  obtain ⟨ta, ea⟩ := textsGo_pre q (s ++ p) 0 [] 0 (⟨#[]⟩ : ByteArray)
  rw [List.append_assoc, epq, ← mt] at ea
  obtain ⟨tb, eb⟩ := textsGo_pre p s 0 [] 0 (⟨#[]⟩ : ByteArray)
  rw [← mt] at eb
  have hb4 : (textsGo ms 0 [] 0 (⟨#[]⟩ : ByteArray)).1.length ≤ 400 := by
    have := textsGo_len ms 0 [] 0 (⟨#[]⟩ : ByteArray)
    simp only [List.length_nil] at this; omega
  have e1 := impl_TextsOn_ev s l (by omega)
  have e2 := impl_TextsOn_ev s [] (by simp only [List.length_nil]; omega)
  have e3 := impl_MendDisk_ev c [] (by simp only [List.length_nil]; omega)
  have e4 := impl_TextsOn_ev ms [] (by simp only [List.length_nil]; omega)
  have e5 := impl_MendDisk_ev ms [] (by simp only [List.length_nil]; omega)
  have e6 := impl_PutText_ev ms [] (by simp only [List.length_nil]; omega) laws_FnDisk.more
  have hlen := putText_len ms [] laws_FnDisk.more
  have e7 := impl_TextsOn_ev (putText ms [] laws_FnDisk.more).1 (putText ms [] laws_FnDisk.more).2.1 (by omega)
  have e8 := sameDisk_self ms [] (by omega) (by simp)
  have e9 := sameTexts_self (textsGo ms 0 [] 0 (⟨#[]⟩ : ByteArray)).1 (by omega)
  have q1 : textsOn s l = ((textsGo (s ++ l) 0 [] 0 (⟨#[]⟩ : ByteArray)).1, (textsGo (s ++ l) 0 [] 0 (⟨#[]⟩ : ByteArray)).2, true) := by unfold textsOn; rw [if_pos g1]
  have q2 : textsOn s [] = ((textsGo s 0 [] 0 (⟨#[]⟩ : ByteArray)).1, (textsGo s 0 [] 0 (⟨#[]⟩ : ByteArray)).2, true) := by unfold textsOn; rw [if_pos gs, List.append_nil]
  have q4 : textsOn ms [] = ((textsGo ms 0 [] 0 (⟨#[]⟩ : ByteArray)).1, (ms.length : Int), true) := by unfold textsOn; rw [if_pos gm, List.append_nil, ← mu]
  rw [q1, ea] at e1
  rw [q2] at e2
  rw [m1] at e3
  rw [q4] at e4
  rw [m2] at e5
  have fr : (textsGo ms 0 [] 0 (⟨#[]⟩ : ByteArray)).1.length ≤ ((textsGo ms 0 [] 0 (⟨#[]⟩ : ByteArray)).1 ++ ta).length ∧ (textsGo s 0 [] 0 (⟨#[]⟩ : ByteArray)).1.length ≤ (textsGo ms 0 [] 0 (⟨#[]⟩ : ByteArray)).1.length := by
    refine ⟨by rw [List.length_append]; omega, ?_⟩
    rw [eb, List.length_append]; omega
  have tk : ((textsGo ms 0 [] 0 (⟨#[]⟩ : ByteArray)).1 ++ ta).take (textsGo ms 0 [] 0 (⟨#[]⟩ : ByteArray)).1.length = (textsGo ms 0 [] 0 (⟨#[]⟩ : ByteArray)).1 := List.take_left
  have ls : (putText ms [] laws_FnDisk.more).2.2 = true → (textsOn (putText ms [] laws_FnDisk.more).1 (putText ms [] laws_FnDisk.more).2.1).2.2 = true ∧ (textsGo ms 0 [] 0 (⟨#[]⟩ : ByteArray)).1.length ≤ 400 ∧ (textsOn (putText ms [] laws_FnDisk.more).1 (putText ms [] laws_FnDisk.more).2.1).1.length = (textsGo ms 0 [] 0 (⟨#[]⟩ : ByteArray)).1.length + 1 ∧ rdOf ByteArray.empty (textsOn (putText ms [] laws_FnDisk.more).1 (putText ms [] laws_FnDisk.more).2.1).1 ((textsGo ms 0 [] 0 (⟨#[]⟩ : ByteArray)).1.length : Int) = laws_FnDisk.more := by
    intro hok
    obtain ⟨ps, pl, ul, a1, a2⟩ := put_back gm mu laws_FnDisk.more (by decide) (by decide) hok
    rw [a1]
    simp only
    rw [a2]
    refine ⟨rfl, hb4, by rw [List.length_append]; rfl, ?_⟩
    unfold rdOf
    rw [Int.toNat_natCast, List.getD_eq_getElem?_getD, List.getElem?_append_right (Nat.le_refl _), Nat.sub_self]
    rfl
  obtain ⟨K, hK⟩ := ((((Evp.of e1).and (Evp.of e2)).and ((Evp.of e3).and (Evp.of e4))).and (((Evp.of e5).and (Evp.of e6)).and ((Evp.of e7).and (Evp.of e8)))).and (Evp.of e9)
  refine ⟨(textsGo ms 0 [] 0 (⟨#[]⟩ : ByteArray)).1 ++ ta, (textsGo (s ++ l) 0 [] 0 (⟨#[]⟩ : ByteArray)).2, (textsGo s 0 [] 0 (⟨#[]⟩ : ByteArray)).1, (textsGo s 0 [] 0 (⟨#[]⟩ : ByteArray)).2, ms, [], (textsGo ms 0 [] 0 (⟨#[]⟩ : ByteArray)).1, ms, [], (putText ms [] laws_FnDisk.more).1, (putText ms [] laws_FnDisk.more).2.1, (putText ms [] laws_FnDisk.more).2.2, (textsOn (putText ms [] laws_FnDisk.more).1 (putText ms [] laws_FnDisk.more).2.1).1, (textsOn (putText ms [] laws_FnDisk.more).1 (putText ms [] laws_FnDisk.more).2.1).2.1, (textsOn (putText ms [] laws_FnDisk.more).1 (putText ms [] laws_FnDisk.more).2.1).2.2, K, fun k hk => ?_⟩
  obtain ⟨⟨⟨⟨r1, r2⟩, r3, r4⟩, ⟨r5, r6⟩, r7, r8⟩, r9⟩ := hK k hk
  exact ⟨r1, r2, r3, r4, r5, r8, fun _ => ⟨fr.1, fr.2, by rw [tk]; exact r9⟩, r6, r7, ls⟩
theorem wf8 (l : List Int) (h : ∀ x ∈ l, (Lit.int .u8 x).wf = true) : ∀ x ∈ l, 0 ≤ x ∧ x ≤ 255 := by
  intro x hx
  have := h x hx
  simp only [Lit.wf, IntKind.min, IntKind.max, IntKind.signed, IntKind.bits, Bool.and_eq_true, decide_eq_true_eq] at this
  simp at this
  omega
theorem big_eq (l0 l1 : List Int) (h0 : l0.length ≤ 140737488351232) (h1 : l1.length ≤ 140737488351232) : ∃ bg, laws_big.f l0 l1 = some bg ∧ (bg = false → l0.length ≤ 1048576 ∧ l1.length ≤ 1048576) := by
  unfold laws_big.f
  by_cases g : (l0.length : Int) > 1048576
  · rw [if_pos g]; exact ⟨true, rfl, by simp⟩
  · rw [if_neg g, w64 (by omega) (by omega)]
    exact ⟨_, rfl, fun h => by rw [decide_eq_false_iff_not] at h; exact ⟨by omega, by omega⟩⟩
theorem FnDisk : laws_FnDisk.Pure := by
  intro l0 l1 _ hl0 hw0 _ hl1 hw1
  have h0 := wf8 l0 hw0
  have h1 := wf8 l1 hw1
  obtain ⟨bg, hb, hbs⟩ := big_eq l0 l1 (by omega) (by omega)
  cases bg with
  | true => exact ⟨0, true, hb, fun h => absurd h (by simp)⟩
  | false =>
    obtain ⟨s, l, x, y, ed, hd⟩ := DrawCrashDisk_ok l0 h0
    have ic := impl_CrashDisk_ev s l (by omega) x y
    have sc := spec_CrashDisk_ev s l (by omega) x y
    have hcl := crashDisk_len s l x y
    have sd := sameDisk_self (crashDisk s l x y).1 (crashDisk s l x y).2.1 (by omega) (by omega)
    have ig := impl_GoodDisk_ev s l (by omega)
    have sg := spec_GoodDisk_ev s l (by omega)
    obtain ⟨e0, e1, text, dp, he⟩ := DrawPutText_ok l1 h1
    have ip := impl_PutText_ev e0 e1 (by omega) text
    have sp := spec_PutText_ev e0 e1 (by omega) text
    have hpl := putText_len e0 e1 text
    have sp2 := sameDisk_self (putText e0 e1 text).1 (putText e0 e1 text).2.1 (by omega) (by omega)
    obtain ⟨f0, f1, dt, hf⟩ := DrawTextsOn_ok l1 h1
    have it := impl_TextsOn_ev f0 f1 (by omega)
    have st := spec_TextsOn_ev f0 f1 (by omega)
    have htl := textsOn_len f0 f1
    have stx := sameTexts_self (textsOn f0 f1).1 (by omega)
    obtain ⟨g0, g1, dm, hg⟩ := DrawMendDisk_ok l1 h1
    have im := impl_MendDisk_ev g0 g1 (by omega)
    have sm := spec_MendDisk_ev g0 g1 (by omega)
    have hml := mendDisk_len g0 g1
    have sm2 := sameDisk_self (mendDisk g0 g1).1 (mendDisk g0 g1).2.1 (by omega) (by omega)
    obtain ⟨i0, i1, ds, hi⟩ := DrawSyncDisk_ok l1 h1
    have is := impl_SyncDisk_ev i0 i1 (by omega)
    have ss := spec_SyncDisk_ev i0 i1 (by omega)
    have hsl := syncDisk_len i0 i1
    have ss2 := sameDisk_self (syncDisk i0 i1).1 (syncDisk i0 i1).2.1 (by omega) (by omega)
    have inn : ∃ (K : Nat), ∀ k, K ≤ k → (crashDisk s l x y).2.2 = true → ∃ ahead used sure us ms ml behind ag al ps pl six lt ul seven, laws_FnDisk.In k s l (crashDisk s l x y).1 (crashDisk s l x y).2.1 ahead used sure us ms ml behind ag al ps pl six lt ul seven := by
      cases hok : (crashDisk s l x y).2.2 with
      | false => exact ⟨0, fun k _ h => absurd h (by simp)⟩
      | true =>
        obtain ⟨a0, a1, a2, a3, a4, a5, a6, a7, a8, a9, a10, a11, a12, a13, a14, K, hK⟩ := disk_in hd x y hok
        exact ⟨K, fun k hk _ => ⟨a0, a1, a2, a3, a4, a5, a6, a7, a8, a9, a10, a11, a12, a13, a14, hK k hk⟩⟩
    obtain ⟨K1, hK1⟩ := (((Evp.of ed).and (Evp.of ic)).and ((Evp.of sc).and (Evp.of sd))).and (((Evp.of ig).and (Evp.of sg)).and ((Evp.of dp).and (Evp.of ip)))
    obtain ⟨K2, hK2⟩ := (((Evp.of sp).and (Evp.of sp2)).and ((Evp.of dt).and (Evp.of it))).and (((Evp.of st).and (Evp.of stx)).and ((Evp.of dm).and (Evp.of im)))
    obtain ⟨K3, hK3⟩ := (((Evp.of sm).and (Evp.of sm2)).and ((Evp.of ds).and (Evp.of is))).and ((Evp.of ss).and (Evp.of ss2))
    obtain ⟨K4, hK4⟩ := inn
    obtain ⟨⟨⟨p1, p2⟩, p3, p4⟩, ⟨p5, p6⟩, p7, p8⟩ := hK1 (K1 + K2 + K3 + K4) (by omega)
    obtain ⟨⟨⟨q1, q2⟩, q3, q4⟩, ⟨q5, q6⟩, q7, q8⟩ := hK2 (K1 + K2 + K3 + K4) (by omega)
    obtain ⟨⟨⟨r1, r2⟩, r3, r4⟩, r5, r6⟩ := hK3 (K1 + K2 + K3 + K4) (by omega)
    refine ⟨K1 + K2 + K3 + K4, false, hb, fun _ => ⟨s, l, x, y, (crashDisk s l x y).1, (crashDisk s l x y).2.1, (crashDisk s l x y).2.2, goodDisk s l, e0, e1, text, (putText e0 e1 text).1, (putText e0 e1 text).2.1, (putText e0 e1 text).2.2, f0, f1, (textsOn f0 f1).1, (textsOn f0 f1).2.1, (textsOn f0 f1).2.2, g0, g1, (mendDisk g0 g1).1, (mendDisk g0 g1).2.1, (mendDisk g0 g1).2.2, i0, i1, (syncDisk i0 i1).1, (syncDisk i0 i1).2.1, (syncDisk i0 i1).2.2, ⟨p1, p2, p3, p4, p5, p6, hK4 _ (by omega), p7, p8, q1, q2, q3, q4, q5, q6, q7, q8, r1, r2, r3, r4, r5, r6⟩⟩⟩

end Go.Proofs.Ytmgkflkfoccgkab.Pure
