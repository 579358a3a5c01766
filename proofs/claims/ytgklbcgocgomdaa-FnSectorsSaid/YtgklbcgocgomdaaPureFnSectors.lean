/- For all drawn sectors reading inverts writing, and any single changed byte is detected.
Conditions: none beyond what the row itself says. -/
import Derived.Test.YtgklbcgocgomdaaQFnSectorsx5
namespace Go.Proofs.Ytgklbcgocgomdaa.Pure
open Go.RowKit Go.Proofs.Ytgklbcgocgomdaa.QFnSectors Go.Proofs.YtgklbcgocgomdaaW.PrintWords Go.Proofs.YtgklbcgocgomdaaW.PrintLast Go.Proofs.YtgklbcgocgomdaaW.PrintMore
set_option linter.unusedVariables false
set_option linter.unusedSimpArgs false

theorem w64 {x : Int} (h0 : -9223372036854775808 ≤ x) (h1 : x ≤ 9223372036854775807) : wrap64 x = x := by
  unfold wrap64; omega
theorem wf64 {a : Int} (h : (Lit.int .i64 a).wf = true) : -9223372036854775808 ≤ a ∧ a ≤ 9223372036854775807 := by
  simp only [Lit.wf, IntKind.min, IntKind.max, IntKind.signed, IntKind.bits, Bool.and_eq_true, decide_eq_true_eq, if_true] at h
  omega

theorem Ev.succ {α : Type} {g : Nat → Option α} {r : α} (h : Ev (fun k => g (k + 1)) r) : Ev g r := Ev.step (fun _ => rfl) h
theorem Ev.pos {α : Type} {c : Prop} [Decidable c] {a b : Nat → Option α} {r : α} (h : c) (e : Ev (fun k => a k) r) : Ev (fun k => if c then a k else b k) r := Ev.congr (fun _ => if_pos h) e
theorem Ev.neg {α : Type} {c : Prop} [Decidable c] {a b : Nat → Option α} {r : α} (h : ¬ c) (e : Ev (fun k => b k) r) : Ev (fun k => if c then a k else b k) r := Ev.congr (fun _ => if_neg h) e
theorem Ev.bnd {α β : Type} {g : Nat → Option α} {f : Nat → α → Option β} {a : α} {r : β} (h : Ev (fun k => g k) a) (k : Ev (fun n => f n a) r) : Ev (fun n => (g n).bind (fun x => f n x)) r := Ev.bind h k
theorem Ev.bnd1 {α β : Type} {g : Option α} {f : Nat → α → Option β} {a : α} {r : β} (h : g = some a) (k : Ev (fun n => f n a) r) : Ev (fun n => g.bind (fun x => f n x)) r := by
  rw [h]; exact k
theorem Ev.ret {α : Type} (r : α) : Ev (fun _ => some r) r := Ev.now r
theorem Ev.eq {α : Type} {g : Nat → Option α} {r r' : α} (h : Ev g r) (e : r = r') : Ev g r' := e ▸ h
theorem Ev.all {α : Type} {g : Nat → Option α} {r : α} (h : Ev (fun k => g k) r) : ∃ k, g k = some r := h.rounds
theorem rd_mid (pre : List Int) (x : Int) (post : List Int) : rd (pre ++ x :: post) (pre.length : Int) = x := by
  unfold rd; simp
theorem rd_nat (xs : List Int) (i : Nat) (h : i < xs.length) : rd xs (i : Int) = xs[i] := by
  unfold rd; simp [List.getD_eq_getElem?_getD, List.getElem?_eq_getElem h]

theorem son_append (xs ys : List Int) : strOfNums xs ++ strOfNums ys = strOfNums (xs ++ ys) := by
  apply ByteArray.ext
  simp [strOfNums]
theorem son_nil : (⟨#[]⟩ : ByteArray) = strOfNums [] := by simp [strOfNums]
/-- The base-128 digits of a number, as bytes. -/
def vbytes (n : Nat) : List Int := if n < 128 then [(n : Int)] else ((n % 128 + 128 : Nat) : Int) :: vbytes (n / 128)
termination_by n
decreasing_by omega
theorem vbytes_lt {n : Nat} (h : n < 128) : vbytes n = [(n : Int)] := by rw [vbytes, if_pos h]
theorem vbytes_ge {n : Nat} (h : ¬ n < 128) : vbytes n = ((n % 128 + 128 : Nat) : Int) :: vbytes (n / 128) := by rw [vbytes, if_neg h]
theorem vbytes_pos (n : Nat) : 0 < (vbytes n).length := by
  rw [vbytes]; split <;> simp
theorem vbytes_len (n : Nat) : (vbytes n).length ≤ n + 1 := by
  induction n using Nat.strongRecOn with
  | _ n ih =>
    by_cases h : n < 128
    · rw [vbytes_lt h]; simp
    · rw [vbytes_ge h]
      have := ih (n / 128) (by omega)
      simp only [List.length_cons]
      omega
theorem tdiv_nat (n m : Nat) : Int.tdiv (n : Int) (m : Int) = ((n / m : Nat) : Int) := rfl
theorem tmod_nat (n m : Nat) : Int.tmod (n : Int) (m : Int) = ((n % m : Nat) : Int) := rfl

/-! Strings as lists of numbers. -/
theorem bo_size (s : ByteArray) : (bytesOf s).length = s.size := by
  unfold bytesOf; rw [List.length_map, data_length]
theorem bo_range (s : ByteArray) : ∀ x ∈ bytesOf s, 0 ≤ x ∧ x ≤ 255 := by
  intro x hx
  unfold bytesOf at hx
  obtain ⟨b, _, rfl⟩ := List.mem_map.1 hx
  have := b.toNat_lt
  omega
theorem bo_son (xs : List Int) (h : ∀ x ∈ xs, 0 ≤ x ∧ x ≤ 255) : bytesOf (strOfNums xs) = xs := by
  unfold bytesOf
  rw [strOfNums_data, List.map_map]
  conv => rhs; rw [← List.map_id xs]
  apply List.map_congr_left
  intro x hx
  have := h x hx
  simp only [Function.comp_apply, id_eq, UInt8.toNat_ofNat']
  omega
theorem son_bo (s : ByteArray) : strOfNums (bytesOf s) = s := by
  apply ByteArray.ext
  apply Array.toList_inj.1
  rw [strOfNums_data]
  unfold bytesOf
  rw [List.map_map]
  conv => rhs; rw [← List.map_id s.data.toList]
  apply List.map_congr_left
  intro x _
  simp
theorem bo_inj {a b : ByteArray} (h : bytesOf a = bytesOf b) : a = b := by rw [← son_bo a, ← son_bo b, h]
theorem toList_iff (a b : ByteArray) : a.toList = b.toList ↔ a = b := by
  rw [ByteArray.toList_eq, ByteArray.toList_eq]
  exact ⟨fun h => ByteArray.ext (Array.toList_inj.1 h), fun h => by rw [h]⟩
theorem son_inj {xs ys : List Int} (hx : ∀ x ∈ xs, 0 ≤ x ∧ x ≤ 255) (hy : ∀ x ∈ ys, 0 ≤ x ∧ x ≤ 255) (h : strOfNums xs = strOfNums ys) : xs = ys := by
  rw [← bo_son xs hx, ← bo_son ys hy, h]
theorem bo_append (a b : ByteArray) : bytesOf (a ++ b) = bytesOf a ++ bytesOf b := by
  unfold bytesOf; simp
theorem bo_extract (s : ByteArray) (a b : Nat) : bytesOf (s.extract a b) = ((bytesOf s).take b).drop a := by
  unfold bytesOf
  rw [ByteArray.data_extract, Array.toList_extract, List.extract_eq_take_drop, ← List.map_take, ← List.map_drop, List.drop_take]
theorem bo_bt (s : ByteArray) (i : Int) : bt s i = (bytesOf s).getD i.toNat 0 := by
  unfold bt bytesOf
  split
  · rename_i h
    rw [List.getD_eq_getElem?_getD, List.getElem?_map, List.getElem?_eq_getElem (by rw [data_length]; exact h)]
    rfl
  · rename_i h
    rw [List.getD_eq_getElem?_getD, List.getElem?_map, List.getElem?_eq_none (by rw [data_length]; omega)]
    rfl
theorem bo_empty : bytesOf (⟨#[]⟩ : ByteArray) = [] := rfl
theorem son_cut (s : ByteArray) (a : Int) (n : Nat) (h0 : 0 ≤ a) (h : a + n ≤ s.size) :
    strOfNums ((List.range n).map fun (j : Nat) => bt s (a + (j : Int))) = s.extract a.toNat (a + n).toNat := by
  apply bo_inj
  rw [bo_son _ (fun x hx => by obtain ⟨j, _, rfl⟩ := List.mem_map.1 hx; exact bt_range _ _), bo_extract]
  apply List.ext_getElem
  · simp only [List.length_map, List.length_range, List.length_drop, List.length_take, bo_size]; omega
  · intro j h1 h2
    simp only [List.length_map, List.length_range] at h1
    rw [List.getElem_map, List.getElem_range, List.getElem_drop, List.getElem_take, bo_bt, List.getD_eq_getElem?_getD, List.getElem?_eq_getElem (by rw [bo_size]; omega)]
    simp only [Option.getD_some]
    congr 1
    omega

theorem spec_in_eq (a lo hi : Int) : spec_l1In.f a lo hi = some (decide (lo ≤ a ∧ a ≤ hi)) := by
  unfold spec_l1In.f
  by_cases h1 : a ≥ lo
  · rw [if_pos h1]
    by_cases h2 : a ≤ hi
    · rw [decide_eq_true h2, decide_eq_true ⟨h1, h2⟩]
    · rw [decide_eq_false h2, decide_eq_false (fun h => h2 h.2)]
  · rw [if_neg h1, decide_eq_false (fun h => h1 h.1)]

/-- One of the eight steps of the checksum. -/
def sumBit (n : Int) : Int := if wrap64 (n * 2) ≥ 65536 then Go.bits .xor .i64 (wrap64 (n * 2)) 69665 else wrap64 (n * 2)
def sumIter : Nat → Int → Int
  | 0, n => n
  | e + 1, n => sumIter e (sumBit n)
def sumGo (s : ByteArray) : Nat → Int → Int → Int
  | 0, n, _ => n
  | d + 1, n, i => sumGo s d (sumIter 8 (Go.bits .xor .i64 n (wrap64 (256 * wrap64 (bt s i))))) (i + 1)
def crc (s : ByteArray) : Int := sumGo s s.size 65535 0

theorem spec_sum_l1 (s : ByteArray) (r i : Int) (e : Nat) : ∀ (n j : Int), 0 ≤ j → j + e = 8 → Ev (fun k => spec_l10Sum.l0 k s (sumIter e n) (wrap64 (i + 1))) r → Ev (fun k => spec_l10Sum.l1 k s n i j) r := by
  induction e with
  | zero =>
    intro n j h0 hj h
    refine Ev.step (fun k => ?_) h
    simp only [spec_l10Sum.l1]
    rw [if_neg (by omega)]
    rfl
  | succ e ih =>
    intro n j h0 hj h
    refine Ev.step (fun k => ?_) (ih (sumBit n) (j + 1) (by omega) (by omega) h)
    simp only [spec_l10Sum.l1]
    rw [if_pos (by omega), w64 (x := j + 1) (by omega) (by omega)]
    unfold sumBit
    split <;> rfl
theorem spec_sum_l0 (s : ByteArray) (hs : s.size ≤ 140737488351232) (d : Nat) : ∀ (n i : Int), 0 ≤ i → i + d = s.size → Ev (fun k => spec_l10Sum.l0 k s n i) (sumGo s d n i) := by
  induction d with
  | zero =>
    intro n i h0 hi
    refine Ev.step (fun k => ?_) (Ev.now _)
    simp only [spec_l10Sum.l0]
    rw [if_neg (by omega)]
    rfl
  | succ d ih =>
    intro n i h0 hi
    have h := ih (sumIter 8 (Go.bits .xor .i64 n (wrap64 (256 * wrap64 (bt s i))))) (i + 1) (by omega) (by omega)
    refine Ev.step (fun k => ?_) (spec_sum_l1 s _ i 8 (Go.bits .xor .i64 n (wrap64 (256 * wrap64 (bt s i)))) 0 (by omega) (by omega) (by rw [w64 (x := i + 1) (by omega) (by omega)]; exact h))
    simp only [spec_l10Sum.l0]
    rw [if_pos (by omega), if_pos h0]
theorem spec_sum (s : ByteArray) (hs : s.size ≤ 140737488351232) : Ev (fun k => spec_l10Sum.f k s) (crc s) :=
  spec_sum_l0 s hs s.size 65535 0 (by omega) (by omega)
theorem impl_sum_l1 (s : ByteArray) (r z i : Int) (e : Nat) : ∀ (n j : Int), 0 ≤ j → j + e = 8 → Ev (fun k => impl_sumOf.l0 k s (sumIter e n) z (wrap64 (i + 1))) r → Ev (fun k => impl_sumOf.l1 k s n z i j) r := by
  induction e with
  | zero =>
    intro n j h0 hj h
    refine Ev.step (fun k => ?_) h
    simp only [impl_sumOf.l1]
    rw [if_neg (by omega)]
    rfl
  | succ e ih =>
    intro n j h0 hj h
    refine Ev.step (fun k => ?_) (ih (sumBit n) (j + 1) (by omega) (by omega) h)
    simp only [impl_sumOf.l1]
    rw [if_pos (by omega), w64 (x := j + 1) (by omega) (by omega)]
    unfold sumBit
    split <;> rfl
theorem impl_sum_l0 (s : ByteArray) (hs : s.size ≤ 140737488351232) (d : Nat) : ∀ (n i : Int), 0 ≤ i → i + d = s.size → Ev (fun k => impl_sumOf.l0 k s n (s.size : Int) i) (sumGo s d n i) := by
  induction d with
  | zero =>
    intro n i h0 hi
    refine Ev.step (fun k => ?_) (Ev.now _)
    simp only [impl_sumOf.l0]
    rw [if_neg (by omega)]
    rfl
  | succ d ih =>
    intro n i h0 hi
    have h := ih (sumIter 8 (Go.bits .xor .i64 n (wrap64 (256 * wrap64 (bt s i))))) (i + 1) (by omega) (by omega)
    refine Ev.step (fun k => ?_) (impl_sum_l1 s _ (s.size : Int) i 8 (Go.bits .xor .i64 n (wrap64 (256 * wrap64 (bt s i)))) 0 (by omega) (by omega) (by rw [w64 (x := i + 1) (by omega) (by omega)]; exact h))
    simp only [impl_sumOf.l0]
    rw [if_pos (by omega), if_pos h0, if_pos (by omega)]
theorem impl_sum (s : ByteArray) (hs : s.size ≤ 140737488351232) : Ev (fun k => impl_sumOf.f k s) (crc s) :=
  impl_sum_l0 s hs s.size 65535 0 (by omega) (by omega)

/-! Sectors. -/
def secHead (no : Int) (last : Bool) (t : ByteArray) : ByteArray := strOfNums [(wrap64 (Int.tdiv no 256)) % 256, (Int.tmod no 256) % 256, (if last = true then ((t.size : Int) + 128) % 256 else (t.size : Int) % 256)] ++ t ++ strOfNums (List.replicate (10 - t.size) 0)
def sectorB (no : Int) (last : Bool) (t : ByteArray) : ByteArray := secHead no last t ++ strOfNums [(wrap64 (Int.tdiv (crc (secHead no last t)) 256)) % 256, (Int.tmod (crc (secHead no last t)) 256) % 256, 1]
theorem son3 (a b c : Int) : (strOfNums [a, b, c]).size = 3 := by rw [strOfNums_size]; rfl
theorem son2 (a b : Int) : (strOfNums [a, b]).size = 2 := by rw [strOfNums_size]; rfl
theorem sonr (n : Nat) : (strOfNums (List.replicate n 0)).size = n := by rw [strOfNums_size, List.length_replicate]
theorem spec_l13Sector_ev (no : Int) (last : Bool) (t : ByteArray) (h : t.size ≤ 10) : Ev (fun k => spec_l13Sector.f k no last t) (sectorB no last t) := by
  have e2 : wrap64 (10 - (t.size : Int)) = ((10 - t.size : Nat) : Int) := by rw [w64 (by omega) (by omega)]; omega
  have e1 : wrap64 ((t.size : Int) + 128) = (t.size : Int) + 128 := w64 (by omega) (by omega)
  have hz := spec_sum (secHead no last t) (by unfold secHead; rw [ByteArray.size_append, ByteArray.size_append, son3, sonr]; omega)
  cases last with
  | true =>
    have eh : secHead no true t = strOfNums [(wrap64 (Int.tdiv no 256)) % 256, (Int.tmod no 256) % 256, ((t.size : Int) + 128) % 256] ++ t ++ strOfNums (List.replicate (10 - t.size) 0) := rfl
    unfold sectorB
    rw [eh] at hz ⊢
    simp only [spec_l13Sector.f]
    rw [e1, e2, Int.toNat_natCast]
    clear e1 e2
    refine Ev.pos (by trivial) (Ev.bnd1 rfl (Ev.pos (by rw [son3]; omega) (Ev.pos (by omega) (Ev.pos (by omega) (Ev.bnd1 rfl (Ev.pos (by rw [ByteArray.size_append, son3, sonr]; omega) (Ev.bnd hz (Ev.bnd1 rfl (Ev.pos (by rw [ByteArray.size_append, ByteArray.size_append, son3, sonr, son3]; omega) (Ev.ret _))))))))))
  | false =>
    have eh : secHead no false t = strOfNums [(wrap64 (Int.tdiv no 256)) % 256, (Int.tmod no 256) % 256, (t.size : Int) % 256] ++ t ++ strOfNums (List.replicate (10 - t.size) 0) := rfl
    unfold sectorB
    rw [eh] at hz ⊢
    simp only [spec_l13Sector.f]
    rw [e2, Int.toNat_natCast]
    clear e1 e2
    refine Ev.neg (by simp) (Ev.bnd1 rfl (Ev.pos (by rw [son3]; omega) (Ev.pos (by omega) (Ev.pos (by omega) (Ev.bnd1 rfl (Ev.pos (by rw [ByteArray.size_append, son3, sonr]; omega) (Ev.bnd hz (Ev.bnd1 rfl (Ev.pos (by rw [ByteArray.size_append, ByteArray.size_append, son3, sonr, son3]; omega) (Ev.ret _))))))))))
theorem rep0 (n : Nat) (h : n ≤ 1000) : strings_Repeat.f (⟨#[0]⟩ : ByteArray) (n : Int) = some (strOfNums (List.replicate n 0)) := by
  unfold strings_Repeat.f
  rw [Int.toNat_natCast, if_pos ⟨by omega, by omega, by rw [show (⟨#[0]⟩ : ByteArray).size = 1 from rfl]; omega⟩]
  congr 1
  unfold strOfNums
  congr 2
  rw [List.map_replicate, show (⟨#[0]⟩ : ByteArray).data.toList = List.replicate 1 0 from rfl, Lib.repeatL_replicate, Nat.mul_one]
  rfl
theorem impl_summed_ev (s : ByteArray) (h : s.size ≤ 1000) : Ev (fun k => impl_summed.f k s) (s ++ strOfNums [(wrap64 (Int.tdiv (crc s) 256)) % 256, (Int.tmod (crc s) 256) % 256]) := by
  simp only [impl_summed.f]
  exact Ev.bnd (impl_sum s (by omega)) (Ev.bnd1 rfl (Ev.pos (by rw [son2]; omega) (Ev.ret _)))
theorem impl_sector_ev (no : Int) (last : Bool) (t : ByteArray) (h : t.size ≤ 10) : Ev (fun k => impl_sector.f k no last t) (sectorB no last t) := by
  have e2 : ∀ a b c : Int, wrap64 (13 - ((strOfNums [a, b, c] ++ t).size : Int)) = ((10 - t.size : Nat) : Int) := by
    intro a b c
    rw [ByteArray.size_append, son3, w64 (by omega) (by omega)]; omega
  have hz := impl_summed_ev (secHead no last t) (by unfold secHead; rw [ByteArray.size_append, ByteArray.size_append, son3, sonr]; omega)
  have hr := rep0 (10 - t.size) (by omega)
  have hone : ∀ (s : ByteArray) (a b : Int), s ++ strOfNums [a, b] ++ (⟨#[1]⟩ : ByteArray) = s ++ strOfNums [a, b, 1] := by
    intro s a b
    rw [show (⟨#[1]⟩ : ByteArray) = strOfNums [1] from rfl, ByteArray.append_assoc, son_append]
    rfl
  cases last with
  | true =>
    have eh : secHead no true t = strOfNums [(wrap64 (Int.tdiv no 256)) % 256, (Int.tmod no 256) % 256, ((t.size : Int) + 128) % 256] ++ t ++ strOfNums (List.replicate (10 - t.size) 0) := rfl
    unfold sectorB
    rw [← hone]
    rw [eh] at hz ⊢
    simp only [impl_sector.f]
    refine Ev.pos (by trivial) (Ev.bnd1 rfl (Ev.pos (by rw [son3]; omega) (Ev.bnd1 (by rw [e2]; exact hr) (Ev.pos (by rw [ByteArray.size_append, son3, sonr]; omega) (Ev.bnd hz (Ev.pos ?_ (Ev.ret _)))))))
    rw [ByteArray.size_append, ByteArray.size_append, ByteArray.size_append, son3, sonr, son2]; omega
  | false =>
    have eh : secHead no false t = strOfNums [(wrap64 (Int.tdiv no 256)) % 256, (Int.tmod no 256) % 256, (t.size : Int) % 256] ++ t ++ strOfNums (List.replicate (10 - t.size) 0) := rfl
    unfold sectorB
    rw [← hone]
    rw [eh] at hz ⊢
    simp only [impl_sector.f]
    refine Ev.neg (by simp) (Ev.bnd1 rfl (Ev.pos (by rw [son3]; omega) (Ev.bnd1 (by rw [e2]; exact hr) (Ev.pos (by rw [ByteArray.size_append, son3, sonr]; omega) (Ev.bnd hz (Ev.pos ?_ (Ev.ret _)))))))
    rw [ByteArray.size_append, ByteArray.size_append, ByteArray.size_append, son3, sonr, son2]; omega

theorem impl_isNo_eq (no : Int) : impl_isNo.f no = some (decide (0 ≤ no ∧ no ≤ 399)) := by
  unfold impl_isNo.f
  by_cases h : 0 ≤ no
  · rw [if_pos h]; congr 1; simp only [decide_eq_decide]; omega
  · rw [if_neg h, decide_eq_false (by omega)]

def readSector (no : Int) (x : ByteArray) : ByteArray × Bool × Bool :=
  if (0 ≤ no ∧ no ≤ 399) ∧ x.size = 16 then
    if Int.tmod (bt x 2) 128 > 10 then ((⟨#[]⟩ : ByteArray), false, false)
    else if sectorB no (decide (bt x 2 ≥ 128)) (x.extract 3 ((3 + Int.tmod (bt x 2) 128).toNat)) = x then (x.extract 3 ((3 + Int.tmod (bt x 2) 128).toNat), decide (bt x 2 ≥ 128), true)
    else ((⟨#[]⟩ : ByteArray), false, false)
  else ((⟨#[]⟩ : ByteArray), false, false)
theorem tmod128 (x : ByteArray) : 0 ≤ Int.tmod (bt x 2) 128 := by
  have h := bt_range x 2
  obtain ⟨n, hn⟩ : ∃ n : Nat, bt x 2 = n := ⟨(bt x 2).toNat, by omega⟩
  rw [hn, show Int.tmod (n : Int) 128 = ((n % 128 : Nat) : Int) from rfl]
  omega
theorem ex_size (x : ByteArray) (m : Int) (h0 : 0 ≤ m) (h1 : m ≤ 10) : (x.extract 3 ((3 + m).toNat)).size ≤ 10 := by
  rw [ByteArray.size_extract]
  omega
theorem readSector_size (no : Int) (x : ByteArray) : (readSector no x).1.size ≤ 10 := by
  unfold readSector
  split
  · split
    · exact Nat.zero_le _
    · rename_i h
      split
      · exact ex_size x _ (tmod128 x) (by omega)
      · exact Nat.zero_le _
  · exact Nat.zero_le _
theorem spec_ReadSector_ev (no : Int) (x : ByteArray) : Ev (fun k => spec_ReadSector.f k no x) (readSector no x) := by
  have hb := bt_range x 2
  have ew : wrap64 (bt x 2) = bt x 2 := w64 (by omega) (by omega)
  have ht := tmod128 x
  unfold readSector
  by_cases g0 : 0 ≤ no ∧ no ≤ 399
  · by_cases g1 : x.size = 16
    · rw [if_pos ⟨g0, g1⟩]
      simp only [spec_ReadSector.f]
      refine Ev.bnd1 (spec_in_eq _ _ _) (Ev.pos (decide_eq_true g0) (Ev.succ ?_))
      simp only [spec_ReadSector.j0]
      rw [ew]
      refine Ev.neg (by simp [g1]) (Ev.pos (by omega) ?_)
      by_cases g2 : Int.tmod (bt x 2) 128 > 10
      · rw [if_pos g2]; exact Ev.pos g2 (Ev.ret _)
      · rw [if_neg g2]
        rw [w64 (x := 3 + Int.tmod (bt x 2) 128) (by omega) (by omega)]
        have hs := spec_l13Sector_ev no (decide (bt x 2 ≥ 128)) (x.extract 3 ((3 + Int.tmod (bt x 2) 128).toNat)) (ex_size x _ ht (by omega))
        refine Ev.neg g2 (Ev.pos (by omega) (Ev.pos (by omega) (Ev.bnd hs ?_)))
        by_cases g3 : sectorB no (decide (bt x 2 ≥ 128)) (x.extract 3 ((3 + Int.tmod (bt x 2) 128).toNat)) = x
        · rw [if_pos g3]; exact Ev.pos ((toList_iff _ _).2 g3) (Ev.ret _)
        · rw [if_neg g3]; exact Ev.neg (fun h => g3 ((toList_iff _ _).1 h)) (Ev.ret _)
    · rw [if_neg (fun h => g1 h.2)]
      simp only [spec_ReadSector.f]
      refine Ev.bnd1 (spec_in_eq _ _ _) (Ev.pos (decide_eq_true g0) (Ev.succ ?_))
      simp only [spec_ReadSector.j0]
      exact Ev.pos (by simp only [bne_iff_ne, ne_eq]; omega) (Ev.ret _)
  · rw [if_neg (fun h => g0 h.1)]
    simp only [spec_ReadSector.f]
    refine Ev.bnd1 (spec_in_eq _ _ _) (Ev.neg (by rw [decide_eq_false g0]; simp) (Ev.succ ?_))
    simp only [spec_ReadSector.j0]
    exact Ev.pos (by trivial) (Ev.ret _)
theorem impl_ReadSector_ev (no : Int) (x : ByteArray) : Ev (fun k => impl_ReadSector.f k no x) (readSector no x) := by
  have hb := bt_range x 2
  have ew : wrap64 (bt x 2) = bt x 2 := w64 (by omega) (by omega)
  have ht := tmod128 x
  unfold readSector
  by_cases g0 : 0 ≤ no ∧ no ≤ 399
  · by_cases g1 : x.size = 16
    · rw [if_pos ⟨g0, g1⟩]
      simp only [impl_ReadSector.f]
      refine Ev.bnd1 (impl_isNo_eq _) (Ev.pos (decide_eq_true g0) (Ev.succ ?_))
      simp only [impl_ReadSector.j0]
      rw [ew]
      refine Ev.neg (by simp [g1]) (Ev.pos (by omega) ?_)
      by_cases g2 : Int.tmod (bt x 2) 128 > 10
      · rw [if_pos g2]; exact Ev.pos g2 (Ev.ret _)
      · rw [if_neg g2]
        rw [w64 (x := 3 + Int.tmod (bt x 2) 128) (by omega) (by omega)]
        have hs := impl_sector_ev no (decide (bt x 2 ≥ 128)) (x.extract 3 ((3 + Int.tmod (bt x 2) 128).toNat)) (ex_size x _ ht (by omega))
        refine Ev.neg g2 (Ev.pos (by omega) (Ev.pos (by omega) (Ev.bnd hs ?_)))
        by_cases g3 : sectorB no (decide (bt x 2 ≥ 128)) (x.extract 3 ((3 + Int.tmod (bt x 2) 128).toNat)) = x
        · rw [if_pos g3]; exact Ev.pos ((toList_iff _ _).2 g3) (Ev.ret _)
        · rw [if_neg g3]; exact Ev.neg (fun h => g3 ((toList_iff _ _).1 h)) (Ev.ret _)
    · rw [if_neg (fun h => g1 h.2)]
      simp only [impl_ReadSector.f]
      refine Ev.bnd1 (impl_isNo_eq _) (Ev.pos (decide_eq_true g0) (Ev.succ ?_))
      simp only [impl_ReadSector.j0]
      exact Ev.pos (by simp only [bne_iff_ne, ne_eq]; omega) (Ev.ret _)
  · rw [if_neg (fun h => g0 h.1)]
    simp only [impl_ReadSector.f]
    refine Ev.bnd1 (impl_isNo_eq _) (Ev.neg (by rw [decide_eq_false g0]; simp) (Ev.succ ?_))
    simp only [impl_ReadSector.j0]
    exact Ev.pos (by trivial) (Ev.ret _)

/-! A changed byte changes the checksum. -/
theorem xor_i64 (a b : Nat) (ha : a < 1152921504606846976) (hb : b < 1152921504606846976) : Go.bits .xor .i64 (a : Int) (b : Int) = ((a ^^^ b : Nat) : Int) := by
  have hx : a ^^^ b < 2 ^ 60 := Nat.xor_lt_two_pow (by omega) (by omega)
  have h1 : a % 2 ^ IntKind.i64.bits = a := Nat.mod_eq_of_lt (by show a < 2 ^ 64; omega)
  have h2 : b % 2 ^ IntKind.i64.bits = b := Nat.mod_eq_of_lt (by show b < 2 ^ 64; omega)
  simp only [Go.bits, BitVec.ofInt_natCast, BitVec.toNat_xor, BitVec.toNat_ofNat, h1, h2]
  generalize a ^^^ b = y at hx
  exact IntWalk.i64_in _ (by omega)
theorem xor_u8 (a b : Nat) (ha : a < 256) (hb : b < 256) : Go.bits .xor .u8 (a : Int) (b : Int) = ((a ^^^ b : Nat) : Int) := by
  have hx : a ^^^ b < 2 ^ 8 := Nat.xor_lt_two_pow (by omega) (by omega)
  have h1 : a % 2 ^ IntKind.u8.bits = a := Nat.mod_eq_of_lt (by show a < 2 ^ 8; omega)
  have h2 : b % 2 ^ IntKind.u8.bits = b := Nat.mod_eq_of_lt (by show b < 2 ^ 8; omega)
  simp only [Go.bits, BitVec.ofInt_natCast, BitVec.toNat_xor, BitVec.toNat_ofNat, h1, h2]
  generalize a ^^^ b = y at hx
  rw [IntKind.wrap_u8]; omega
def sbN (n : Nat) : Nat := if n * 2 ≥ 65536 then (n * 2) ^^^ 69665 else n * 2
theorem xor_odd (m : Nat) : ((m * 2) ^^^ 69665) % 2 = 1 := by
  have h : ((m * 2) ^^^ 69665).testBit 0 = true := by
    rw [Nat.testBit_xor, show (69665 : Nat).testBit 0 = true by decide]
    have : (m * 2).testBit 0 = false := by rw [Nat.testBit_zero]; simp
    rw [this]; rfl
  rw [Nat.testBit_zero] at h
  exact of_decide_eq_true h
theorem xor_cancel_right {a b c : Nat} (h : a ^^^ c = b ^^^ c) : a = b := by
  have h2 : (a ^^^ c) ^^^ c = (b ^^^ c) ^^^ c := by rw [h]
  rwa [Nat.xor_assoc, Nat.xor_assoc, Nat.xor_self, Nat.xor_zero, Nat.xor_zero] at h2
theorem top_xor (r : Nat) (hr : r < 65536) : 65536 + r = 65536 ^^^ r := by
  apply Nat.eq_of_testBit_eq
  intro i
  rw [Nat.testBit_xor]
  have h3 : 65536 + r = 2 ^ 16 * 1 + r := by omega
  rw [h3, Nat.testBit_two_pow_mul_add _ (by omega)]
  by_cases hi : i < 16
  · rw [if_pos hi]
    have : Nat.testBit 65536 i = false := by rw [show 65536 = 2 ^ 16 from rfl, Nat.testBit_two_pow]; simp; omega
    rw [this]; simp
  · rw [if_neg hi]
    have h5 : r.testBit i = false := Nat.testBit_lt_two_pow (by have := Nat.pow_le_pow_right (n := 2) (by omega) (show 16 ≤ i by omega); omega)
    rw [h5, show 65536 = 2 ^ 16 from rfl, Nat.testBit_two_pow]
    by_cases h7 : i = 16
    · subst h7; simp
    · have : Nat.testBit 1 (i - 16) = false := by rw [show (1 : Nat) = 2 ^ 0 from rfl, Nat.testBit_two_pow]; simp; omega
      rw [this]; simp; omega
theorem sbN_lt (n : Nat) (h : n < 65536) : sbN n < 65536 := by
  unfold sbN
  split
  · rename_i g
    obtain ⟨r, hr, hr2⟩ : ∃ r, n * 2 = 65536 + r ∧ r < 65536 := ⟨n * 2 - 65536, by omega, by omega⟩
    rw [hr, top_xor r hr2, Nat.xor_comm 65536 r, Nat.xor_assoc]
    exact Nat.xor_lt_two_pow (n := 16) (by omega) (by decide)
  · omega
theorem sbN_inj (a b : Nat) (ha : a < 65536) (hb : b < 65536) (h : sbN a = sbN b) : a = b := by
  unfold sbN at h
  have o1 := xor_odd a
  have o2 := xor_odd b
  split at h <;> split at h
  · have := xor_cancel_right h
    omega
  · omega
  · omega
  · omega
theorem sumBit_nat (n : Nat) (h : n < 65536) : sumBit (n : Int) = ((sbN n : Nat) : Int) := by
  unfold sumBit sbN
  rw [w64 (x := (n : Int) * 2) (by omega) (by omega)]
  by_cases g : n * 2 ≥ 65536
  · rw [if_pos (by omega), if_pos g, show (n : Int) * 2 = ((n * 2 : Nat) : Int) by omega]
    exact xor_i64 (n * 2) 69665 (by omega) (by omega)
  · rw [if_neg (by omega), if_neg g]; omega
def itN : Nat → Nat → Nat
  | 0, n => n
  | e + 1, n => itN e (sbN n)
theorem itN_lt (e : Nat) : ∀ n, n < 65536 → itN e n < 65536 := by
  induction e with
  | zero => intro n h; exact h
  | succ e ih => intro n h; exact ih _ (sbN_lt n h)
theorem itN_inj (e : Nat) : ∀ a b, a < 65536 → b < 65536 → itN e a = itN e b → a = b := by
  induction e with
  | zero => intro a b _ _ h; exact h
  | succ e ih => intro a b ha hb h; exact sbN_inj a b ha hb (ih _ _ (sbN_lt a ha) (sbN_lt b hb) h)
theorem sumIter_nat (e : Nat) : ∀ n : Nat, n < 65536 → sumIter e (n : Int) = ((itN e n : Nat) : Int) := by
  induction e with
  | zero => intro n h; rfl
  | succ e ih => intro n h; rw [sumIter, sumBit_nat n h, ih _ (sbN_lt n h)]; rfl
/-- One byte of the checksum. -/
def stN (n c : Nat) : Nat := itN 8 (n ^^^ 256 * c)
theorem stN_arg (n c : Nat) (hn : n < 65536) (hc : c < 256) : n ^^^ 256 * c < 65536 := Nat.xor_lt_two_pow (n := 16) (by omega) (by omega)
theorem stN_lt (n c : Nat) (hn : n < 65536) (hc : c < 256) : stN n c < 65536 := itN_lt 8 _ (stN_arg n c hn hc)
theorem stN_inj1 (a b c : Nat) (ha : a < 65536) (hb : b < 65536) (hc : c < 256) (h : stN a c = stN b c) : a = b := xor_cancel_right (itN_inj 8 _ _ (stN_arg a c ha hc) (stN_arg b c hb hc) h)
theorem stN_inj2 (n c d : Nat) (hn : n < 65536) (hc : c < 256) (hd : d < 256) (h : stN n c = stN n d) : c = d := by
  have := itN_inj 8 _ _ (stN_arg n c hn hc) (stN_arg n d hn hd) h
  rw [Nat.xor_comm n, Nat.xor_comm n] at this
  have := xor_cancel_right this
  omega
def goN : List UInt8 → Nat → Nat
  | [], n => n
  | c :: t, n => goN t (stN n c.toNat)
theorem goN_lt (t : List UInt8) : ∀ n, n < 65536 → goN t n < 65536 := by
  induction t with
  | nil => intro n h; exact h
  | cons c t ih => intro n h; exact ih _ (stN_lt n _ h (UInt8.toNat_lt _))
theorem goN_inj (t : List UInt8) : ∀ a b, a < 65536 → b < 65536 → goN t a = goN t b → a = b := by
  induction t with
  | nil => intro a b _ _ h; exact h
  | cons c t ih => intro a b ha hb h; exact stN_inj1 a b _ ha hb (UInt8.toNat_lt _) (ih _ _ (stN_lt a _ ha (UInt8.toNat_lt _)) (stN_lt b _ hb (UInt8.toNat_lt _)) h)
theorem goN_change (p : List UInt8) (c d : UInt8) (t : List UInt8) (hne : c ≠ d) : ∀ n, n < 65536 → goN (p ++ c :: t) n ≠ goN (p ++ d :: t) n := by
  induction p with
  | nil =>
    intro n hn h
    have h1 := goN_inj t _ _ (stN_lt n _ hn (UInt8.toNat_lt c)) (stN_lt n _ hn (UInt8.toNat_lt d)) h
    exact hne (UInt8.toNat_inj.1 (stN_inj2 n _ _ hn (UInt8.toNat_lt _) (UInt8.toNat_lt _) h1))
  | cons x p ih => intro n hn h; exact ih _ (stN_lt n _ hn (UInt8.toNat_lt _)) h
theorem sumGo_nat (s : ByteArray) (t : List UInt8) : ∀ (p : List UInt8) (n : Nat), s.data.toList = p ++ t → n < 65536 → sumGo s t.length (n : Int) (p.length : Int) = ((goN t n : Nat) : Int) := by
  induction t with
  | nil => intro p n _ _; rfl
  | cons c t ih =>
    intro p n hs hn
    have hb : bt s (p.length : Int) = ((c.toNat : Nat) : Int) := by
      have hl : p.length < s.size := by
        have := congrArg List.length hs
        rw [Array.length_toList, List.length_append, List.length_cons] at this
        show p.length < s.data.size
        omega
      unfold bt
      rw [Int.toNat_natCast, dif_pos hl]
      have : s.data.toList[p.length]? = some c := by rw [hs]; simp
      rw [Array.getElem?_toList] at this
      have h2 : s.data[p.length]? = some (s[p.length]'hl) := by rw [Array.getElem?_eq_getElem]; rfl
      rw [h2] at this
      rw [Option.some.inj this]
    have hc := UInt8.toNat_lt c
    have h := ih (p ++ [c]) (stN n c.toNat) (by rw [hs]; simp) (stN_lt n _ hn hc)
    rw [List.length_append, List.length_cons, List.length_nil] at h
    rw [List.length_cons, sumGo, hb, w64 (x := ((c.toNat : Nat) : Int)) (by omega) (by omega), w64 (x := 256 * ((c.toNat : Nat) : Int)) (by omega) (by omega), show (256 * ((c.toNat : Nat) : Int)) = ((256 * c.toNat : Nat) : Int) by omega, xor_i64 n _ (by omega) (by omega), sumIter_nat 8 _ (stN_arg n _ hn hc)]
    exact h
theorem crc_nat (s : ByteArray) : crc s = ((goN s.data.toList 65535 : Nat) : Int) := by
  unfold crc
  have h := sumGo_nat s s.data.toList [] 65535 rfl (by omega)
  rw [Array.length_toList] at h
  exact h
theorem crc_range (s : ByteArray) : 0 ≤ crc s ∧ crc s < 65536 := by
  rw [crc_nat]
  have := goN_lt s.data.toList 65535 (by omega)
  omega

/-! The cursor's draws: they answer, and within what bounds. -/
theorem and255 (x : Int) : 0 ≤ Go.bits .and .u64 x 255 ∧ Go.bits .and .u64 x 255 ≤ 255 := by
  simp only [Go.bits, BitVec.toNat_and]
  have h := Nat.and_le_right (n := (BitVec.ofInt IntKind.u64.bits x).toNat) (m := (BitVec.ofInt IntKind.u64.bits 255).toNat)
  have h2 : (BitVec.ofInt IntKind.u64.bits 255).toNat = 255 := by decide
  rw [h2] at h ⊢
  generalize (BitVec.ofInt IntKind.u64.bits x).toNat &&& 255 = y at h
  rw [IntWalk.u64_in _ (by omega)]
  omega
theorem rd_range (l : List Int) (hl : ∀ x ∈ l, 0 ≤ x ∧ x ≤ 255) (i : Int) : 0 ≤ rd l i ∧ rd l i ≤ 255 := by
  unfold rd
  rw [List.getD_eq_getElem?_getD]
  cases h : l[i.toNat]? with
  | none => simp
  | some x => exact hl x (List.mem_of_getElem? h)
theorem next_ok (l : List Int) (hl : ∀ x ∈ l, 0 ≤ x ∧ x ≤ 255) (a sd : Int) (h0 : 0 ≤ a) (h1 : a ≤ 4611686018427387904) : ∃ b sd', spec_l1Cur_next.f l a sd = some (b, a + 1, sd') ∧ 0 ≤ b ∧ b ≤ 255 := by
  have hw : wrap64 (a + 1) = a + 1 := w64 (by omega) (by omega)
  have hr := rd_range l hl a
  have hrw : wrap64 (rd l a) = rd l a := w64 (by omega) (by omega)
  unfold spec_l1Cur_next.f
  rw [hw, hrw]
  by_cases g : a < (l.length : Int)
  · rw [if_pos g, if_pos h0]
    by_cases g2 : a + 1 ≤ (l.length : Int)
    · rw [if_pos g2]; exact ⟨_, _, rfl, hr.1, hr.2⟩
    · rw [if_neg g2]
      refine ⟨_, _, rfl, ?_⟩
      have := and255 ((IntKind.u64.wrap ((IntKind.u64.wrap ((IntKind.u64.wrap (sd * 6364136223846793005)) + (IntKind.u64.wrap (rd l a)))) + 1442695040888963407)) / 1099511627776)
      rw [w64 (by omega) (by omega)]
      exact this
  · rw [if_neg g]
    by_cases g2 : a + 1 ≤ (l.length : Int)
    · rw [if_pos g2]; exact ⟨_, _, rfl, by omega, by omega⟩
    · rw [if_neg g2]
      refine ⟨_, _, rfl, ?_⟩
      generalize (IntKind.u64.wrap ((IntKind.u64.wrap (IntKind.u64.wrap (sd * 6364136223846793005))) + 1442695040888963407)) / 1099511627776 = z
      have := and255 z
      rw [w64 (by omega) (by omega)]
      exact this
theorem pick_ok (l : List Int) (hl : ∀ x ∈ l, 0 ≤ x ∧ x ≤ 255) (a sd n : Int) (h0 : 0 ≤ a) (h1 : a ≤ 4611686018427387000) (hn : n ≤ 1000000000) : ∃ p a' sd', spec_l1Cur_pick.f l a sd n = some (p, a', sd') ∧ 0 ≤ p ∧ (1 ≤ n → p < n) ∧ a ≤ a' ∧ a' ≤ a + 2 := by
  unfold spec_l1Cur_pick.f
  by_cases g : n ≤ 1
  · rw [if_pos g]; exact ⟨0, a, sd, rfl, by omega, by omega, by omega, by omega⟩
  · rw [if_neg g]
    obtain ⟨b, s1, e1, hb0, hb1⟩ := next_ok l hl a sd h0 (by omega)
    rw [e1]
    simp only [Option.bind_some]
    by_cases g2 : n > 200
    · rw [if_pos g2]
      obtain ⟨c, s2, e2, hc0, hc1⟩ := next_ok l hl (a + 1) s1 (by omega) (by omega)
      rw [e2]
      simp only [Option.bind_some]
      rw [if_neg (show ¬ n = 0 by omega), w64 (x := b * 256) (by omega) (by omega), w64 (x := b * 256 + c) (by omega) (by omega)]
      exact ⟨_, _, _, rfl, Int.tmod_nonneg _ (by omega), fun _ => Int.tmod_lt_of_pos _ (by omega), by omega, by omega⟩
    · rw [if_neg g2, if_neg (show ¬ n = 0 by omega)]
      exact ⟨_, _, _, rfl, Int.tmod_nonneg _ (by omega), fun _ => Int.tmod_lt_of_pos _ (by omega), by omega, by omega⟩
theorem one_ok (l : List Int) (hl : ∀ x ∈ l, 0 ≤ x ∧ x ≤ 255) (a sd n : Int) (h0 : 0 ≤ a) (h1 : a ≤ 4611686018427387000) (hn : n ≤ 1000000000) : ∃ b a' sd', spec_l1Cur_one.f l a sd n = some (b, a', sd') ∧ a ≤ a' ∧ a' ≤ a + 2 := by
  obtain ⟨p, a1, s1, e1, hp0, hp1, ha1, ha2⟩ := pick_ok l hl a sd n h0 h1 hn
  exact ⟨_, a1, s1, by unfold spec_l1Cur_one.f; rw [e1]; rfl, ha1, ha2⟩

theorem son1 (a : Int) : (strOfNums [a]).size = 1 := by rw [strOfNums_size]; rfl
theorem spoilt_l0_ok (l : List Int) (hl : ∀ x ∈ l, 0 ≤ x ∧ x ≤ 255) (x2 : ByteArray) (hx2 : 1 ≤ x2.size ∧ x2.size ≤ 1000) (d : Nat) : ∀ (x1 : ByteArray) (a sd : Int), x1.size + d ≤ 1000 → 0 ≤ a → a + 6 * d ≤ 4611686018427300000 → ∃ s a' sd', Ev (fun k => spec_l1Cur_spoilt.l0 k x1 x2 (d : Int) l a sd) (s, a', sd') ∧ s.size ≤ x1.size + d ∧ a ≤ a' ∧ a' ≤ a + 6 * d := by
  induction d with
  | zero =>
    intro x1 a sd hx h0 h1
    have e : Ev (fun k => spec_l1Cur_spoilt.j1 k x1 x2 ((0 : Nat) : Int) false l a sd) (x1, a, sd) := Ev.step (fun k => by simp only [spec_l1Cur_spoilt.j1]; rw [if_neg (by simp)]) (Ev.now _)
    refine ⟨_, _, _, Ev.step (fun k => ?_) e, by omega, by omega, by omega⟩
    simp only [spec_l1Cur_spoilt.l0]
    rw [if_neg (by omega)]
  | succ d ih =>
    intro x1 a sd hx h0 h1
    by_cases g : (x1.size : Int) > 0
    · obtain ⟨i, a1, s1, e1, hi0, hi1, ha1, ha1'⟩ := pick_ok l hl a sd (x1.size : Int) h0 (by omega) (by omega)
      have hi2 := hi1 (by omega)
      obtain ⟨c, a2, s2, e2, hc0, hc1, ha2, ha2'⟩ := pick_ok l hl a1 s1 (x2.size : Int) (by omega) (by omega) (by omega)
      have hc2 := hc1 (by omega)
      obtain ⟨q, a3, s3, e3, hq0, hq1, ha3, ha3'⟩ := pick_ok l hl a2 s2 3 (by omega) (by omega) (by omega)
      have hw : wrap64 (((d + 1 : Nat) : Int) - 1) = (d : Int) := by rw [w64 (by omega) (by omega)]; omega
      have hwi : wrap64 (i + 1) = i + 1 := w64 (by omega) (by omega)
      have hz1 : (x1.extract 0 i.toNat).size = i.toNat := by rw [ByteArray.size_extract]; omega
      have hz2 : (x1.extract i.toNat x1.size).size = x1.size - i.toNat := by rw [ByteArray.size_extract]; omega
      have hz3 : (x1.extract (i + 1).toNat x1.size).size = x1.size - (i.toNat + 1) := by rw [ByteArray.size_extract]; omega
      have key : ∃ x' : ByteArray, x'.size ≤ x1.size + 1 ∧ x'.size ≤ 1001 ∧ ∀ k, spec_l1Cur_spoilt.j1 (k + 1) x1 x2 ((d + 1 : Nat) : Int) true l a sd = spec_l1Cur_spoilt.l0 k x' x2 (d : Int) l a3 s3 := by
        by_cases q0 : q = 0
        · refine ⟨(x1.extract 0 i.toNat ++ strOfNums [bt x2 c]) ++ x1.extract i.toNat x1.size, by rw [ByteArray.size_append, ByteArray.size_append, hz1, hz2, son1]; omega, by rw [ByteArray.size_append, ByteArray.size_append, hz1, hz2, son1]; omega, fun k => ?_⟩
          simp only [spec_l1Cur_spoilt.j1]
          rw [if_pos trivial, e1]
          simp only [Option.bind_some, e2, e3]
          rw [if_pos hc0, if_pos hc2, if_pos q0, if_pos hi0, if_pos (by omega), if_pos (by rw [hz1, son1]; omega), if_pos (by rw [ByteArray.size_append, hz1, hz2, son1]; omega), hw]
        · by_cases q1 : q = 1
          · refine ⟨(x1.extract 0 i.toNat ++ strOfNums [bt x2 c]) ++ x1.extract (i + 1).toNat x1.size, by rw [ByteArray.size_append, ByteArray.size_append, hz1, hz3, son1]; omega, by rw [ByteArray.size_append, ByteArray.size_append, hz1, hz3, son1]; omega, fun k => ?_⟩
            simp only [spec_l1Cur_spoilt.j1]
            rw [if_pos trivial, e1]
            simp only [Option.bind_some, e2, e3]
            rw [if_pos hc0, if_pos hc2, if_neg q0, if_pos q1, if_pos hi0, if_pos (by omega), if_pos (by rw [hz1, son1]; omega), hwi, if_pos (by omega), if_pos (by omega), if_pos (by rw [ByteArray.size_append, hz1, hz3, son1]; omega), hw]
          · refine ⟨x1.extract 0 i.toNat ++ x1.extract (i + 1).toNat x1.size, by rw [ByteArray.size_append, hz1, hz3]; omega, by rw [ByteArray.size_append, hz1, hz3]; omega, fun k => ?_⟩
            simp only [spec_l1Cur_spoilt.j1]
            rw [if_pos trivial, e1]
            simp only [Option.bind_some, e2, e3]
            rw [if_pos hc0, if_pos hc2, if_neg q0, if_neg q1, if_pos hi0, if_pos (by omega), hwi, if_pos (by omega), if_pos (by omega), if_pos (by rw [hz1, hz3]; omega), hw]
      obtain ⟨x', hx1, hx2', hk⟩ := key
      obtain ⟨s, a', sd', e, hs, ha, ha'⟩ := ih x' a3 s3 (by omega) (by omega) (by omega)
      have ej : Ev (fun k => spec_l1Cur_spoilt.j1 k x1 x2 ((d + 1 : Nat) : Int) true l a sd) (s, a', sd') := Ev.step (fun k => hk k) e
      refine ⟨s, a', sd', Ev.step (fun k => ?_) ej, by omega, by omega, by omega⟩
      simp only [spec_l1Cur_spoilt.l0]
      rw [if_pos (by omega), decide_eq_true g]
    · have e : Ev (fun k => spec_l1Cur_spoilt.j1 k x1 x2 ((d + 1 : Nat) : Int) false l a sd) (x1, a, sd) := Ev.step (fun k => by simp only [spec_l1Cur_spoilt.j1]; rw [if_neg (by simp)]) (Ev.now _)
      refine ⟨_, _, _, Ev.step (fun k => ?_) e, by omega, by omega, by omega⟩
      simp only [spec_l1Cur_spoilt.l0]
      rw [if_pos (by omega), decide_eq_false g]
theorem spoilt_ok (l : List Int) (hl : ∀ x ∈ l, 0 ≤ x ∧ x ≤ 255) (x1 x2 : ByteArray) (hx2 : 1 ≤ x2.size ∧ x2.size ≤ 1000) (a sd : Int) (hx : x1.size ≤ 900) (h0 : 0 ≤ a) (h1 : a ≤ 4611686018427000000) : ∃ s a' sd', Ev (fun k => spec_l1Cur_spoilt.f k l a sd x1 x2) (s, a', sd') ∧ s.size ≤ x1.size + 2 ∧ a ≤ a' ∧ a' ≤ a + 20 := by
  obtain ⟨p, a1, s1, e1, hp0, hp1, ha1, ha1'⟩ := pick_ok l hl a sd 2 h0 (by omega) (by omega)
  have := hp1 (by omega)
  obtain ⟨n, rfl⟩ : ∃ n : Nat, p = (n : Int) := ⟨p.toNat, by omega⟩
  obtain ⟨s, a', sd', e, hs, ha, ha'⟩ := spoilt_l0_ok l hl x2 hx2 (1 + n) x1 a1 s1 (by omega) (by omega) (by omega)
  refine ⟨s, a', sd', ?_, by omega, by omega, by omega⟩
  simp only [spec_l1Cur_spoilt.f]
  refine Ev.bnd1 e1 ?_
  rw [show wrap64 (1 + (n : Int)) = ((1 + n : Nat) : Int) by rw [w64 (by omega) (by omega)]; omega]
  exact e

/-! laws.numberOf answers, and within what bounds. -/
theorem numberOf_l0_ok (l : List Int) (hl : ∀ x ∈ l, 0 ≤ x ∧ x ≤ 255) (hs : l.length ≤ 140737488351232) (d : Nat) : ∀ (n i : Int), 0 ≤ n → n < 1000003 → 0 ≤ i → i + d = l.length → ∃ m, Ev (fun k => laws_numberOf.l0 k n l (l.length : Int) i) m ∧ 0 ≤ m ∧ m < 1000003 := by
  induction d with
  | zero =>
    intro n i h0 h1 hi hd
    refine ⟨n, Ev.step (fun k => ?_) (Ev.now n), h0, h1⟩
    simp only [laws_numberOf.l0]
    rw [if_neg (by omega)]
  | succ d ih =>
    intro n i h0 h1 hi hd
    have hr := rd_range l hl i
    obtain ⟨m, e, hm⟩ := ih (Int.tmod (31 * n + rd l i) 1000003) (i + 1) (Int.tmod_nonneg _ (by omega)) (Int.tmod_lt_of_pos _ (by omega)) (by omega) (by omega)
    refine ⟨m, Ev.step (fun k => ?_) e, hm⟩
    simp only [laws_numberOf.l0]
    rw [if_pos (by omega), if_pos hi, if_pos (by omega), w64 (x := 31 * n) (by omega) (by omega), w64 (x := rd l i) (by omega) (by omega), w64 (x := 31 * n + rd l i) (by omega) (by omega), w64 (x := i + 1) (by omega) (by omega)]
theorem numberOf_ok (l : List Int) (hl : ∀ x ∈ l, 0 ≤ x ∧ x ≤ 255) (hs : l.length ≤ 140737488351232) : ∃ m, Ev (fun k => laws_numberOf.f k l) m ∧ 0 ≤ m ∧ m < 1000003 :=
  numberOf_l0_ok l hl hs l.length 0 0 (by omega) (by omega) (by omega) (by omega)

/-! A text with its checksum; one byte of it changed. -/
def cs (s : ByteArray) : List Int := [(wrap64 (Int.tdiv (crc s) 256)) % 256, (Int.tmod (crc s) 256) % 256]
theorem cs_data (s : ByteArray) : (strOfNums (cs s)).data.toList = [UInt8.ofNat (goN s.data.toList 65535 / 256), UInt8.ofNat (goN s.data.toList 65535 % 256)] := by
  have h := goN_lt s.data.toList 65535 (by omega)
  rw [strOfNums_data, cs, crc_nat]
  generalize goN s.data.toList 65535 = n at h
  have h1 : Int.tdiv (n : Int) 256 = ((n / 256 : Nat) : Int) := rfl
  have h2 : Int.tmod (n : Int) 256 = ((n % 256 : Nat) : Int) := rfl
  rw [h1, h2, w64 (by omega) (by omega)]
  simp only [List.map_cons, List.map_nil]
  rw [show (((n / 256 : Nat) : Int) % 256).toNat = n / 256 by omega, show (((n % 256 : Nat) : Int) % 256).toNat = n % 256 by omega]
theorem cs_inj {a b : ByteArray} (h : (strOfNums (cs a)).data.toList = (strOfNums (cs b)).data.toList) : goN a.data.toList 65535 = goN b.data.toList 65535 := by
  rw [cs_data, cs_data] at h
  have ha := goN_lt a.data.toList 65535 (by omega)
  have hb := goN_lt b.data.toList 65535 (by omega)
  generalize goN a.data.toList 65535 = n at h ha
  generalize goN b.data.toList 65535 = m at h hb
  simp only [List.cons.injEq, and_true] at h
  have h1 := congrArg UInt8.toNat h.1
  have h2 := congrArg UInt8.toNat h.2
  rw [UInt8.toNat_ofNat', UInt8.toNat_ofNat'] at h1 h2
  omega
theorem data_app (a b : ByteArray) : (a ++ b).data.toList = a.data.toList ++ b.data.toList := by simp
theorem set_split {α : Type} (l : List α) (j : Nat) (v : α) (h : j < l.length) : l = l.take j ++ l[j] :: l.drop (j + 1) ∧ l.set j v = l.take j ++ v :: l.drop (j + 1) := by
  refine ⟨?_, ?_⟩
  · rw [List.getElem_cons_drop, List.take_append_drop]
  · rw [List.set_eq_take_append_cons_drop, if_pos h]
/-- No text with its checksum is another such text with one byte changed. -/
theorem change (h h' : ByteArray) (j : Nat) (v : UInt8) (hj : j < h.size + 2) (hsz : h'.size = h.size) (hv : ∀ b, (h.data.toList ++ (strOfNums (cs h)).data.toList)[j]? = some b → b ≠ v)
    (e : h'.data.toList ++ (strOfNums (cs h')).data.toList = (h.data.toList ++ (strOfNums (cs h)).data.toList).set j v) : False := by
  have hl : h.data.toList.length = h.size := data_length h
  have hl' : h'.data.toList.length = h'.size := data_length h'
  by_cases g : j < h.size
  · rw [List.set_append_left _ _ (by omega)] at e
    have e2 := List.append_inj e (by rw [List.length_set]; omega)
    have hc := cs_inj e2.2
    rw [e2.1] at hc
    obtain ⟨s1, s2⟩ := set_split h.data.toList j v (by omega)
    rw [s2] at hc
    rw [List.getElem?_append_left (by omega), List.getElem?_eq_getElem (by omega)] at hv
    have hne := hv _ rfl
    have := goN_change (h.data.toList.take j) v (h.data.toList[j]'(by omega)) (h.data.toList.drop (j + 1)) (fun x => hne x.symm) 65535 (by omega)
    rw [← s1] at this
    exact this hc
  · rw [List.set_append_right _ _ (by omega)] at e
    have e2 := List.append_inj e (by omega)
    have hh : h' = h := ByteArray.ext (Array.toList_inj.1 e2.1)
    subst hh
    have hlen : (strOfNums (cs h')).data.toList.length = 2 := by rw [cs_data]; rfl
    have h3 := e2.2
    rw [List.getElem?_append_right (by omega), List.getElem?_eq_getElem (by omega)] at hv
    have hne := hv _ rfl
    have h4 := congrArg (fun z => z[j - h'.data.toList.length]?) h3
    rw [List.getElem?_set_self (by omega), List.getElem?_eq_getElem (by omega)] at h4
    exact hne (Option.some.inj h4)
theorem flip_data (w : ByteArray) (j : Nat) (v : Int) : (strOfNums ((bytesOf w).set j v)).data.toList = w.data.toList.set j (UInt8.ofNat v.toNat) := by
  rw [strOfNums_data, List.map_set]
  congr 1
  have := congrArg (fun z => z.data.toList) (son_bo w)
  simp only [strOfNums_data] at this
  exact this
theorem flip_size (w : ByteArray) (j : Nat) (v : Int) : (strOfNums ((bytesOf w).set j v)).size = w.size := by
  rw [strOfNums_size, List.length_set, bytesOf_length]
theorem xor_ne (b : UInt8) (y : Int) (h1 : 1 ≤ y) (h2 : y ≤ 255) : b ≠ UInt8.ofNat (Go.bits .xor .u8 ((b.toNat : Nat) : Int) y).toNat := by
  intro e
  obtain ⟨n, rfl⟩ : ∃ n : Nat, y = (n : Int) := ⟨y.toNat, by omega⟩
  have hb := UInt8.toNat_lt b
  rw [xor_u8 _ _ (by omega) (by omega), Int.toNat_natCast] at e
  have hx : b.toNat ^^^ n < 2 ^ 8 := Nat.xor_lt_two_pow (by omega) (by omega)
  have e2 := congrArg UInt8.toNat e
  rw [UInt8.toNat_ofNat'] at e2
  have e3 : (0 : Nat) ^^^ b.toNat = n ^^^ b.toNat := by
    rw [Nat.zero_xor, Nat.xor_comm n]
    omega
  have := xor_cancel_right e3
  omega
theorem flip_ne (w : ByteArray) (j : Nat) (hj : j < w.size) (y : Int) (h1 : 1 ≤ y) (h2 : y ≤ 255) : ∀ b, w.data.toList[j]? = some b → b ≠ UInt8.ofNat (Go.bits .xor .u8 ((bytesOf w).getD j 0) y).toNat := by
  intro b hb
  have : (bytesOf w).getD j 0 = ((b.toNat : Nat) : Int) := by
    rw [List.getD_eq_getElem?_getD, bytesOf, List.getElem?_map, hb]
    rfl
  rw [this]
  exact xor_ne b y h1 h2

theorem wf8 (l : List Int) (h : ∀ x ∈ l, (Lit.int .u8 x).wf = true) : ∀ x ∈ l, 0 ≤ x ∧ x ≤ 255 := by
  intro x hx
  have := h x hx
  simp only [Lit.wf, IntKind.min, IntKind.max, IntKind.signed, IntKind.bits, Bool.and_eq_true, decide_eq_true_eq] at this
  simp at this
  omega
theorem getD_all {α : Type} {P : α → Prop} (l : List α) (d : α) (i : Nat) (hl : ∀ x ∈ l, P x) (hd : P d) : P (l.getD i d) := by
  rw [List.getD_eq_getElem?_getD]
  cases h : l[i]? with
  | none => exact hd
  | some x => exact hl x (List.mem_of_getElem? h)
def secOf (no : Int) (last : Bool) (t : ByteArray) : ByteArray × Bool := if (0 ≤ no ∧ no ≤ 399) ∧ t.size ≤ 10 then (sectorB no last t, true) else (⟨#[]⟩, false)
theorem impl_SectorOf_ok (no : Int) (last : Bool) (t : ByteArray) : Ev (fun k => impl_SectorOf.f k no last t) (secOf no last t) := by
  unfold secOf
  simp only [impl_SectorOf.f]
  refine Ev.bnd1 (impl_isNo_eq _) ?_
  by_cases g0 : 0 ≤ no ∧ no ≤ 399
  · refine Ev.pos (decide_eq_true g0) ?_
    by_cases g1 : t.size ≤ 10
    · rw [if_pos ⟨g0, g1⟩]; exact Ev.neg (by omega) (Ev.bnd (impl_sector_ev no last t g1) (Ev.ret _))
    · rw [if_neg (fun h => g1 h.2)]; exact Ev.pos (by omega) (Ev.ret _)
  · rw [if_neg (fun h => g0 h.1)]; exact Ev.neg (by rw [decide_eq_false g0]; simp) (Ev.ret _)
theorem spec_SectorOf_ok (no : Int) (last : Bool) (t : ByteArray) : Ev (fun k => spec_SectorOf.f k no last t) (secOf no last t) := by
  unfold secOf
  simp only [spec_SectorOf.f]
  refine Ev.bnd1 (spec_in_eq _ _ _) ?_
  by_cases g0 : 0 ≤ no ∧ no ≤ 399
  · refine Ev.pos (decide_eq_true g0) ?_
    by_cases g1 : t.size ≤ 10
    · rw [if_pos ⟨g0, g1⟩]; exact Ev.neg (by omega) (Ev.bnd (spec_l13Sector_ev no last t g1) (Ev.ret _))
    · rw [if_neg (fun h => g1 h.2)]; exact Ev.pos (by omega) (Ev.ret _)
  · rw [if_neg (fun h => g0 h.1)]; exact Ev.neg (by rw [decide_eq_false g0]; simp) (Ev.ret _)
theorem secHead_size (no : Int) (last : Bool) (t : ByteArray) (h : t.size ≤ 10) : (secHead no last t).size = 13 := by
  unfold secHead
  rw [ByteArray.size_append, ByteArray.size_append, son3, sonr]
  omega
theorem sectorB_size (no : Int) (last : Bool) (t : ByteArray) (h : t.size ≤ 10) : (sectorB no last t).size = 16 := by
  unfold sectorB
  rw [ByteArray.size_append, secHead_size _ _ _ h, son3]
theorem sectorB_data (no : Int) (last : Bool) (t : ByteArray) : (sectorB no last t).data.toList = ((secHead no last t).data.toList ++ (strOfNums (cs (secHead no last t))).data.toList) ++ [1] := by
  unfold sectorB
  rw [data_app, List.append_assoc]
  congr 1
theorem sectorB_bo (no : Int) (last : Bool) (t : ByteArray) : ∃ post, bytesOf (sectorB no last t) = (wrap64 (Int.tdiv no 256)) % 256 :: (Int.tmod no 256) % 256 :: (if last = true then ((t.size : Int) + 128) % 256 else (t.size : Int) % 256) :: (bytesOf t ++ post) := by
  unfold sectorB secHead
  refine ⟨bytesOf (strOfNums (List.replicate (10 - t.size) 0)) ++ bytesOf (strOfNums [(wrap64 (Int.tdiv (crc (secHead no last t)) 256)) % 256, (Int.tmod (crc (secHead no last t)) 256) % 256, 1]), ?_⟩
  rw [bo_append, bo_append, bo_append, bo_son [(wrap64 (Int.tdiv no 256)) % 256, (Int.tmod no 256) % 256, (if last = true then ((t.size : Int) + 128) % 256 else (t.size : Int) % 256)]]
  · unfold secHead
    simp
  · intro x hx
    simp only [List.mem_cons, List.not_mem_nil, or_false] at hx
    rcases hx with rfl | rfl | rfl
    · omega
    · omega
    · split <;> omega
theorem sectorB_2 (no : Int) (last : Bool) (t : ByteArray) (h : t.size ≤ 10) : bt (sectorB no last t) 2 = if last = true then (t.size : Int) + 128 else (t.size : Int) := by
  obtain ⟨post, e⟩ := sectorB_bo no last t
  rw [bo_bt, e]
  show (if last = true then ((t.size : Int) + 128) % 256 else (t.size : Int) % 256) = _
  split <;> omega
theorem sectorB_back (no : Int) (last : Bool) (t : ByteArray) (hn : 0 ≤ no ∧ no ≤ 399) (h : t.size ≤ 10) : readSector no (sectorB no last t) = (t, last, true) := by
  have e2 := sectorB_2 no last t h
  have em : Int.tmod (bt (sectorB no last t) 2) 128 = (t.size : Int) := by
    rw [e2, Int.tmod_eq_emod_of_nonneg (by split <;> omega)]
    split <;> omega
  have el : decide (bt (sectorB no last t) 2 ≥ 128) = last := by
    rw [e2]
    cases last with
    | true => simp; omega
    | false => simp; omega
  have ex : (sectorB no last t).extract 3 ((3 + (t.size : Int)).toNat) = t := by
    apply bo_inj
    obtain ⟨post, e⟩ := sectorB_bo no last t
    rw [bo_extract, e, show (3 + (t.size : Int)).toNat = t.size + 3 by omega]
    simp only [List.take_succ_cons, List.drop_succ_cons, List.drop_zero]
    rw [List.take_append_of_le_length (by rw [bo_size]; omega), List.take_of_length_le (by rw [bo_size]; omega)]
  unfold readSector
  rw [if_pos ⟨hn, sectorB_size no last t h⟩, em, el, ex, if_neg (by omega), if_pos rfl]
theorem readSector_true (no : Int) (x : ByteArray) (h : (readSector no x).2.2 = true) : ∃ last t, t.size ≤ 10 ∧ 0 ≤ no ∧ no ≤ 399 ∧ sectorB no last t = x := by
  unfold readSector at h
  split at h
  · rename_i g
    split at h
    · cases h
    · rename_i g2
      split at h
      · rename_i g3
        exact ⟨_, _, ex_size x _ (tmod128 x) (by omega), g.1.1, g.1.2, g3⟩
      · cases h
  · cases h
theorem read_next (no : Int) (last : Bool) (t : ByteArray) (hn : 0 ≤ no ∧ no ≤ 399) : (readSector (no + 1) (sectorB no last t)).2.2 = false := by
  cases h : (readSector (no + 1) (sectorB no last t)).2.2 with
  | false => rfl
  | true =>
    obtain ⟨last', t', ht', h0, h1, e⟩ := readSector_true _ _ h
    obtain ⟨p1, e1⟩ := sectorB_bo no last t
    obtain ⟨p2, e2⟩ := sectorB_bo (no + 1) last' t'
    rw [e, e1] at e2
    injection e2 with a b
    injection b with b c
    rw [Int.tdiv_eq_ediv_of_nonneg hn.1, Int.tdiv_eq_ediv_of_nonneg h0, w64 (by omega) (by omega), w64 (by omega) (by omega)] at a
    rw [Int.tmod_eq_emod_of_nonneg hn.1, Int.tmod_eq_emod_of_nonneg h0] at b
    omega
theorem read_flip (no : Int) (last : Bool) (t : ByteArray) (h : t.size ≤ 10) (j : Nat) (hj : j < 16) (y : Int) (h1 : 1 ≤ y) (h2 : y ≤ 255) : (readSector no (laws_FnSectors.flip (sectorB no last t) j y)).2.2 = false := by
  cases hh : (readSector no (laws_FnSectors.flip (sectorB no last t) j y)).2.2 with
  | false => rfl
  | true =>
    obtain ⟨last', t', ht', h0, h3, e⟩ := readSector_true _ _ hh
    have hx := sectorB_size no last t h
    have hne := flip_ne (sectorB no last t) j (by omega) y h1 h2
    unfold laws_FnSectors.flip at e
    generalize hv : Go.bits .xor .u8 ((bytesOf (sectorB no last t)).getD j 0) y = v at e hne
    have e2 := congrArg (fun z => z.data.toList) e
    rw [flip_data, sectorB_data, sectorB_data] at e2
    rw [sectorB_data] at hne
    have hs := secHead_size no last t h
    have hs' := secHead_size no last' t' ht'
    have hl : ∀ s : ByteArray, (strOfNums (cs s)).data.toList.length = 2 := fun s => by rw [cs_data]; rfl
    have hL : ((secHead no last t).data.toList ++ (strOfNums (cs (secHead no last t))).data.toList).length = 15 := by rw [List.length_append, data_length, hs, hl]
    by_cases g : j < 15
    · rw [List.set_append_left _ _ (by omega)] at e2
      have e3 := (List.append_inj' e2 rfl).1
      refine False.elim (change (secHead no last t) (secHead no last' t') j (UInt8.ofNat v.toNat) (by omega) (by omega) ?_ e3)
      intro b hb
      refine hne b ?_
      rw [List.getElem?_append_left (by omega)]
      exact hb
    · have hj15 : j = 15 := by omega
      subst hj15
      rw [List.set_append_right _ _ (by omega), hL] at e2
      have e3 := (List.append_inj' e2 (by simp)).2
      simp only [Nat.sub_self, List.set_cons_zero] at e3
      injection e3 with e4
      exact absurd e4 (hne 1 (by rw [List.getElem?_append_right (by omega), hL]; rfl))
theorem among_ok (l : List Int) (hl : ∀ x ∈ l, 0 ≤ x ∧ x ≤ 255) (a sd : Int) (xs : List Int) (h0 : 0 ≤ a) (h1 : a ≤ 4611686018427387000) (hx : 1 ≤ xs.length ∧ xs.length ≤ 1000) : ∃ p a' sd', spec_l1Cur_among.f l a sd xs = some (rd xs p, a', sd') ∧ a ≤ a' ∧ a' ≤ a + 2 := by
  obtain ⟨p, a1, s1, e1, hp0, hp1, ha1, ha2⟩ := pick_ok l hl a sd (xs.length : Int) h0 h1 (by omega)
  have := hp1 (by omega)
  refine ⟨p, a1, s1, ?_, ha1, ha2⟩
  unfold spec_l1Cur_among.f
  rw [e1]
  simp only [Option.bind_some]
  rw [if_pos hp0, if_pos this]
theorem of_ok (l : List Int) (hl : ∀ x ∈ l, 0 ≤ x ∧ x ≤ 255) (a sd : Int) (xs : List ByteArray) (h0 : 0 ≤ a) (h1 : a ≤ 4611686018427387000) (hx : 1 ≤ xs.length ∧ xs.length ≤ 1000) : ∃ p a' sd', spec_l1Cur_of.f l a sd xs = some (rdOf ByteArray.empty xs p, a', sd') ∧ a ≤ a' ∧ a' ≤ a + 2 := by
  obtain ⟨p, a1, s1, e1, hp0, hp1, ha1, ha2⟩ := pick_ok l hl a sd (xs.length : Int) h0 h1 (by omega)
  have := hp1 (by omega)
  refine ⟨p, a1, s1, ?_, ha1, ha2⟩
  unfold spec_l1Cur_of.f
  rw [e1]
  simp only [Option.bind_some]
  rw [if_pos hp0, if_pos this]
theorem draw_sector (l : List Int) (hl : ∀ x ∈ l, 0 ≤ x ∧ x ≤ 255) : ∃ no last t, spec_DrawSectorOf.f l = some (no, last, t) ∧ -1 ≤ no ∧ no ≤ 400 ∧ t.size ≤ 11 := by
  obtain ⟨p, a1, s1, e1, ha1, ha1'⟩ := among_ok l hl 0 0 [0, 1, 7, 300, 399, 400, -1] (by omega) (by omega) ⟨by simp, by simp⟩
  obtain ⟨last, a2, s2, e2, ha2, ha2'⟩ := one_ok l hl a1 s1 2 (by omega) (by omega) (by omega)
  obtain ⟨q, a3, s3, e3, _⟩ := of_ok l hl a2 s2 [(⟨#[]⟩ : ByteArray), (⟨#[97]⟩ : ByteArray), (⟨#[116, 101, 110, 32, 98, 121, 116, 101, 115, 46]⟩ : ByteArray), (⟨#[101, 108, 101, 118, 101, 110, 32, 98, 121, 116, 101]⟩ : ByteArray)] (by omega) (by omega) ⟨by simp, by simp⟩
  have hr : -1 ≤ rd [0, 1, 7, 300, 399, 400, -1] p ∧ rd [0, 1, 7, 300, 399, 400, -1] p ≤ 400 := by
    unfold rd
    exact getD_all (P := fun z : Int => -1 ≤ z ∧ z ≤ 400) _ _ _ (by decide) (by omega)
  have ht : (rdOf ByteArray.empty [(⟨#[]⟩ : ByteArray), (⟨#[97]⟩ : ByteArray), (⟨#[116, 101, 110, 32, 98, 121, 116, 101, 115, 46]⟩ : ByteArray), (⟨#[101, 108, 101, 118, 101, 110, 32, 98, 121, 116, 101]⟩ : ByteArray)] q).size ≤ 11 := by
    unfold rdOf
    refine getD_all (P := fun z : ByteArray => z.size ≤ 11) _ _ _ ?_ (by decide)
    intro x hx
    simp only [List.mem_cons, List.not_mem_nil, or_false] at hx
    rcases hx with rfl | rfl | rfl | rfl <;> decide
  refine ⟨_, last, _, ?_, hr.1, hr.2, ht⟩
  unfold spec_DrawSectorOf.f
  rw [e1]
  simp only [Option.bind_some, e2, e3]
theorem secOf_size (no : Int) (last : Bool) (t : ByteArray) : (secOf no last t).1.size ≤ 16 := by
  unfold secOf
  split
  · rename_i g; rw [sectorB_size _ _ _ g.2]; omega
  · exact Nat.zero_le _
theorem draw_read (l : List Int) (hl : ∀ x ∈ l, 0 ≤ x ∧ x ≤ 255) : ∃ no u, Ev (fun k => spec_DrawReadSector.f k l) (no, u) := by
  obtain ⟨no, last, t, e, _⟩ := draw_sector l hl
  obtain ⟨b, a2, sd2, e2, ha2, ha2'⟩ := one_ok l hl 0 0 4 (by omega) (by omega) (by omega)
  have hs := secOf_size no last t
  simp only [spec_DrawReadSector.f]
  cases b with
  | false => exact ⟨no, _, Ev.bnd1 e (Ev.bnd (spec_SectorOf_ok no last t) (Ev.bnd1 e2 (Ev.neg (by simp) (Ev.ret _))))⟩
  | true =>
    obtain ⟨u, a3, sd3, e3, hu, _⟩ := spoilt_ok l hl (secOf no last t).1 ⟨#[97, 0]⟩ ⟨by decide, by decide⟩ a2 sd2 (by omega) (by omega) (by omega)
    exact ⟨no, u, Ev.bnd1 e (Ev.bnd (spec_SectorOf_ok no last t) (Ev.bnd1 e2 (Ev.pos rfl (Ev.bnd e3 (Ev.ret _)))))⟩
theorem big_total (l0 l1 : List Int) : ∃ bg, laws_big.f l0 l1 = some bg := by
  unfold laws_big.f
  split
  · exact ⟨_, rfl⟩
  · exact ⟨_, rfl⟩
theorem FnSectors : laws_FnSectors.Pure := by
  intro l0 l1 _ hl0 hw0 _ hl1 hw1
  have h0 := wf8 l0 hw0
  have h1 := wf8 l1 hw1
  obtain ⟨bg, hb⟩ := big_total l0 l1
  obtain ⟨no, last, t, es, hno, hno', ht⟩ := draw_sector l0 h0
  obtain ⟨n, u, eu⟩ := draw_read l1 h1
  obtain ⟨m, em, hm0, hm1⟩ := numberOf_ok l1 h1 (by omega)
  have e1 := impl_SectorOf_ok no last t
  have e2 := spec_SectorOf_ok no last t
  have e7 := impl_ReadSector_ev n u
  have e8 := spec_ReadSector_ev n u
  have e5 := impl_ReadSector_ev no (secOf no last t).1
  have e6 := impl_ReadSector_ev no (laws_FnSectors.flip (secOf no last t).1 (m % 16).toNat (1 + m % 255))
  have e9 := impl_ReadSector_ev (no + 1) (secOf no last t).1
  obtain ⟨k2, f2⟩ := eu
  obtain ⟨k3, f3⟩ := em
  obtain ⟨k4, f4⟩ := e1
  obtain ⟨k5, f5⟩ := e2
  obtain ⟨k8, f8⟩ := e5
  obtain ⟨k9, f9⟩ := e6
  obtain ⟨k10, f10⟩ := e7
  obtain ⟨k11, f11⟩ := e8
  obtain ⟨k12, f12⟩ := e9
  obtain ⟨K, hK2, hK3, hK4, hK5, hK8, hK9, hK10, hK11, hK12⟩ : ∃ K, k2 ≤ K ∧ k3 ≤ K ∧ k4 ≤ K ∧ k5 ≤ K ∧ k8 ≤ K ∧ k9 ≤ K ∧ k10 ≤ K ∧ k11 ≤ K ∧ k12 ≤ K := ⟨k2 + k3 + k4 + k5 + k8 + k9 + k10 + k11 + k12, by omega, by omega, by omega, by omega, by omega, by omega, by omega, by omega, by omega⟩
  refine ⟨K, bg, hb, fun _ => ⟨no, last, t, (secOf no last t).1, (secOf no last t).2, n, u, (readSector n u).1, (readSector n u).2.1, (readSector n u).2.2, ⟨es, f4 K hK4, f5 K hK5, ?_, f2 K hK2, f10 K hK10, f11 K hK11⟩⟩⟩
  intro hok
  have g : (0 ≤ no ∧ no ≤ 399) ∧ t.size ≤ 10 := by
    unfold secOf at hok
    split at hok
    · assumption
    · cases hok
  have ex : (secOf no last t).1 = sectorB no last t := by unfold secOf; rw [if_pos g]
  have f8' := f8 K hK8
  have f9' := f9 K hK9
  have f12' := f12 K hK12
  simp only at f8' f9' f12'
  rw [ex] at f8' f9' f12' ⊢
  rw [sectorB_back no last t g.1 g.2] at f8'
  refine ⟨m, _, _, _, _, ⟨f8', sectorB_size no last t g.2, f3 K hK3, ⟨hm0, by omega⟩, ⟨g.1.1, by omega⟩, f9'.trans (congrArg some (Prod.ext rfl (Prod.ext rfl (read_flip no last t g.2 _ (by omega) _ (by omega) (by omega))))), f12'.trans (congrArg some (Prod.ext rfl (Prod.ext rfl (read_next no last t g.1))))⟩⟩

end Go.Proofs.Ytgklbcgocgomdaa.Pure
