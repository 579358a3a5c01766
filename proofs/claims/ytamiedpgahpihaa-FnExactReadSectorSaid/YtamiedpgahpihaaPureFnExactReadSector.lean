/- The program's ReadSector returns what the reference's returns, for all arguments.
Conditions: none beyond what the row itself says. -/
import Derived.Test.YtamiedpgahpihaaQFnExactReadSectorx4
namespace Go.Proofs.Ytamiedpgahpihaa.Pure
open Go.RowKit Go.Proofs.Ytamiedpgahpihaa.QFnExactReadSector Go.Proofs.YtamiedpgahpihaaW.PrintWords Go.Proofs.YtamiedpgahpihaaW.PrintLast Go.Proofs.YtamiedpgahpihaaW.PrintMore
set_option linter.unusedVariables false
set_option linter.unusedSimpArgs false

theorem w64 {x : Int} (h0 : -9223372036854775808 ≤ x) (h1 : x ≤ 9223372036854775807) : wrap64 x = x := by
  unfold wrap64; omega
theorem wf64 {a : Int} (h : (Lit.int .i64 a).wf = true) : -9223372036854775808 ≤ a ∧ a ≤ 9223372036854775807 := by
  simp only [Lit.wf, IntKind.min, IntKind.max, IntKind.signed, IntKind.bits, Bool.and_eq_true, decide_eq_true_eq, if_true] at h
  omega

theorem Ev.succ {α : Type} {g : Nat → Option α} {r : α} (h : Ev (fun k => g (k + 1)) r) : Ev g r := Ev.step (fun _ => rfl) h
theorem Ev.pos {α : Type} {c : Prop} [Decidable c] {a b : Nat → Option α} {r : α} (h : c) (e : Ev (fun k => a k) r) : Ev (fun k => if c then a k else b k) r := Ev.congr (fun _ => if_pos h) e
theorem Ev.neg {α : Type} {c : Prop} [Decidable c] {a b : Nat → Option α} {r : α} (h : ¬ c) (e : Ev (fun k => b k) r) : Ev (fun k => if c then a k else b k) r := Ev.congr (fun _ => if_neg h) e
theorem Ev.bnd {α β : Type} {g : Nat → Option α} {f : Nat → α → Option β} {a : α} {r : β} (h : Ev (fun k => g k) a) (k : Ev (fun n => f n a) r) : Ev (fun n => (g n).bind (fun x => f n x)) r := Ev.bind h k
theorem Ev.bnd1 {α β : Type} {g : Option α} {f : Nat → α → Option β} {a : α} {r : β} (h : g = some a) (k : Ev (fun n => f n a) r) : Ev (fun n => g.bind (fun x => f n x)) r := by
  rw [h]; exact k
theorem Ev.ret {α : Type} (r : α) : Ev (fun _ => some r) r := Ev.now r
theorem Ev.eq {α : Type} {g : Nat → Option α} {r r' : α} (h : Ev g r) (e : r = r') : Ev g r' := e ▸ h
theorem Ev.all {α : Type} {g : Nat → Option α} {r : α} (h : Ev (fun k => g k) r) : ∃ k, g k = some r := h.rounds
theorem rd_mid (pre : List Int) (x : Int) (post : List Int) : rd (pre ++ x :: post) (pre.length : Int) = x := by
  unfold rd; simp
theorem rd_nat (xs : List Int) (i : Nat) (h : i < xs.length) : rd xs (i : Int) = xs[i] := by
  unfold rd; simp [List.getD_eq_getElem?_getD, List.getElem?_eq_getElem h]

theorem son_append (xs ys : List Int) : strOfNums xs ++ strOfNums ys = strOfNums (xs ++ ys) := by
  apply ByteArray.ext
  simp [strOfNums]
theorem son_nil : (⟨#[]⟩ : ByteArray) = strOfNums [] := by simp [strOfNums]
/-- The base-128 digits of a number, as bytes. -/
def vbytes (n : Nat) : List Int := if n < 128 then [(n : Int)] else ((n % 128 + 128 : Nat) : Int) :: vbytes (n / 128)
termination_by n
decreasing_by omega
theorem vbytes_lt {n : Nat} (h : n < 128) : vbytes n = [(n : Int)] := by rw [vbytes, if_pos h]
theorem vbytes_ge {n : Nat} (h : ¬ n < 128) : vbytes n = ((n % 128 + 128 : Nat) : Int) :: vbytes (n / 128) := by rw [vbytes, if_neg h]
theorem vbytes_pos (n : Nat) : 0 < (vbytes n).length := by
  rw [vbytes]; split <;> simp
theorem vbytes_len (n : Nat) : (vbytes n).length ≤ n + 1 := by
  induction n using Nat.strongRecOn with
  | _ n ih =>
    by_cases h : n < 128
    · rw [vbytes_lt h]; simp
    · rw [vbytes_ge h]
      have := ih (n / 128) (by omega)
      simp only [List.length_cons]
      omega
theorem tdiv_nat (n m : Nat) : Int.tdiv (n : Int) (m : Int) = ((n / m : Nat) : Int) := rfl
theorem tmod_nat (n m : Nat) : Int.tmod (n : Int) (m : Int) = ((n % m : Nat) : Int) := rfl

/-! Strings as lists of numbers. -/
theorem bo_size (s : ByteArray) : (bytesOf s).length = s.size := by
  unfold bytesOf; rw [List.length_map, data_length]
theorem bo_range (s : ByteArray) : ∀ x ∈ bytesOf s, 0 ≤ x ∧ x ≤ 255 := by
  intro x hx
  unfold bytesOf at hx
  obtain ⟨b, _, rfl⟩ := List.mem_map.1 hx
  have := b.toNat_lt
  omega
theorem bo_son (xs : List Int) (h : ∀ x ∈ xs, 0 ≤ x ∧ x ≤ 255) : bytesOf (strOfNums xs) = xs := by
  unfold bytesOf
  rw [strOfNums_data, List.map_map]
  conv => rhs; rw [← List.map_id xs]
  apply List.map_congr_left
  intro x hx
  have := h x hx
  simp only [Function.comp_apply, id_eq, UInt8.toNat_ofNat']
  omega
theorem son_bo (s : ByteArray) : strOfNums (bytesOf s) = s := by
  apply ByteArray.ext
  apply Array.toList_inj.1
  rw [strOfNums_data]
  unfold bytesOf
  rw [List.map_map]
  conv => rhs; rw [← List.map_id s.data.toList]
  apply List.map_congr_left
  intro x _
  simp
theorem bo_inj {a b : ByteArray} (h : bytesOf a = bytesOf b) : a = b := by rw [← son_bo a, ← son_bo b, h]
theorem toList_iff (a b : ByteArray) : a.toList = b.toList ↔ a = b := by
  rw [ByteArray.toList_eq, ByteArray.toList_eq]
  exact ⟨fun h => ByteArray.ext (Array.toList_inj.1 h), fun h => by rw [h]⟩
theorem son_inj {xs ys : List Int} (hx : ∀ x ∈ xs, 0 ≤ x ∧ x ≤ 255) (hy : ∀ x ∈ ys, 0 ≤ x ∧ x ≤ 255) (h : strOfNums xs = strOfNums ys) : xs = ys := by
  rw [← bo_son xs hx, ← bo_son ys hy, h]
theorem bo_append (a b : ByteArray) : bytesOf (a ++ b) = bytesOf a ++ bytesOf b := by
  unfold bytesOf; simp
theorem bo_extract (s : ByteArray) (a b : Nat) : bytesOf (s.extract a b) = ((bytesOf s).take b).drop a := by
  unfold bytesOf
  rw [ByteArray.data_extract, Array.toList_extract, List.extract_eq_take_drop, ← List.map_take, ← List.map_drop, List.drop_take]
theorem bo_bt (s : ByteArray) (i : Int) : bt s i = (bytesOf s).getD i.toNat 0 := by
  unfold bt bytesOf
  split
  · rename_i h
    rw [List.getD_eq_getElem?_getD, List.getElem?_map, List.getElem?_eq_getElem (by rw [data_length]; exact h)]
    rfl
  · rename_i h
    rw [List.getD_eq_getElem?_getD, List.getElem?_map, List.getElem?_eq_none (by rw [data_length]; omega)]
    rfl
theorem bo_empty : bytesOf (⟨#[]⟩ : ByteArray) = [] := rfl
theorem son_cut (s : ByteArray) (a : Int) (n : Nat) (h0 : 0 ≤ a) (h : a + n ≤ s.size) :
    strOfNums ((List.range n).map fun (j : Nat) => bt s (a + (j : Int))) = s.extract a.toNat (a + n).toNat := by
  apply bo_inj
  rw [bo_son _ (fun x hx => by obtain ⟨j, _, rfl⟩ := List.mem_map.1 hx; exact bt_range _ _), bo_extract]
  apply List.ext_getElem
  · simp only [List.length_map, List.length_range, List.length_drop, List.length_take, bo_size]; omega
  · intro j h1 h2
    simp only [List.length_map, List.length_range] at h1
    rw [List.getElem_map, List.getElem_range, List.getElem_drop, List.getElem_take, bo_bt, List.getD_eq_getElem?_getD, List.getElem?_eq_getElem (by rw [bo_size]; omega)]
    simp only [Option.getD_some]
    congr 1
    omega

theorem spec_in_eq (a lo hi : Int) : spec_l1In.f a lo hi = some (decide (lo ≤ a ∧ a ≤ hi)) := by
  unfold spec_l1In.f
  by_cases h1 : a ≥ lo
  · rw [if_pos h1]
    by_cases h2 : a ≤ hi
    · rw [decide_eq_true h2, decide_eq_true ⟨h1, h2⟩]
    · rw [decide_eq_false h2, decide_eq_false (fun h => h2 h.2)]
  · rw [if_neg h1, decide_eq_false (fun h => h1 h.1)]

/-- One of the eight steps of the checksum. -/
def sumBit (n : Int) : Int := if wrap64 (n * 2) ≥ 65536 then Go.bits .xor .i64 (wrap64 (n * 2)) 69665 else wrap64 (n * 2)
def sumIter : Nat → Int → Int
  | 0, n => n
  | e + 1, n => sumIter e (sumBit n)
def sumGo (s : ByteArray) : Nat → Int → Int → Int
  | 0, n, _ => n
  | d + 1, n, i => sumGo s d (sumIter 8 (Go.bits .xor .i64 n (wrap64 (256 * wrap64 (bt s i))))) (i + 1)
def crc (s : ByteArray) : Int := sumGo s s.size 65535 0

theorem spec_sum_l1 (s : ByteArray) (r i : Int) (e : Nat) : ∀ (n j : Int), 0 ≤ j → j + e = 8 → Ev (fun k => spec_l10Sum.l0 k s (sumIter e n) (wrap64 (i + 1))) r → Ev (fun k => spec_l10Sum.l1 k s n i j) r := by
  induction e with
  | zero =>
    intro n j h0 hj h
    refine Ev.step (fun k => ?_) h
    simp only [spec_l10Sum.l1]
    rw [if_neg (by omega)]
    rfl
  | succ e ih =>
    intro n j h0 hj h
    refine Ev.step (fun k => ?_) (ih (sumBit n) (j + 1) (by omega) (by omega) h)
    simp only [spec_l10Sum.l1]
    rw [if_pos (by omega), w64 (x := j + 1) (by omega) (by omega)]
    unfold sumBit
    split <;> rfl
theorem spec_sum_l0 (s : ByteArray) (hs : s.size ≤ 140737488351232) (d : Nat) : ∀ (n i : Int), 0 ≤ i → i + d = s.size → Ev (fun k => spec_l10Sum.l0 k s n i) (sumGo s d n i) := by
  induction d with
  | zero =>
    intro n i h0 hi
    refine Ev.step (fun k => ?_) (Ev.now _)
    simp only [spec_l10Sum.l0]
    rw [if_neg (by omega)]
    rfl
  | succ d ih =>
    intro n i h0 hi
    have h := ih (sumIter 8 (Go.bits .xor .i64 n (wrap64 (256 * wrap64 (bt s i))))) (i + 1) (by omega) (by omega)
    refine Ev.step (fun k => ?_) (spec_sum_l1 s _ i 8 (Go.bits .xor .i64 n (wrap64 (256 * wrap64 (bt s i)))) 0 (by omega) (by omega) (by rw [w64 (x := i + 1) (by omega) (by omega)]; exact h))
    simp only [spec_l10Sum.l0]
    rw [if_pos (by omega), if_pos h0]
theorem spec_sum (s : ByteArray) (hs : s.size ≤ 140737488351232) : Ev (fun k => spec_l10Sum.f k s) (crc s) :=
  spec_sum_l0 s hs s.size 65535 0 (by omega) (by omega)
theorem impl_sum_l1 (s : ByteArray) (r z i : Int) (e : Nat) : ∀ (n j : Int), 0 ≤ j → j + e = 8 → Ev (fun k => impl_sumOf.l0 k s (sumIter e n) z (wrap64 (i + 1))) r → Ev (fun k => impl_sumOf.l1 k s n z i j) r := by
  induction e with
  | zero =>
    intro n j h0 hj h
    refine Ev.step (fun k => ?_) h
    simp only [impl_sumOf.l1]
    rw [if_neg (by omega)]
    rfl
  | succ e ih =>
    intro n j h0 hj h
    refine Ev.step (fun k => ?_) (ih (sumBit n) (j + 1) (by omega) (by omega) h)
    simp only [impl_sumOf.l1]
    rw [if_pos (by omega), w64 (x := j + 1) (by omega) (by omega)]
    unfold sumBit
    split <;> rfl
theorem impl_sum_l0 (s : ByteArray) (hs : s.size ≤ 140737488351232) (d : Nat) : ∀ (n i : Int), 0 ≤ i → i + d = s.size → Ev (fun k => impl_sumOf.l0 k s n (s.size : Int) i) (sumGo s d n i) := by
  induction d with
  | zero =>
    intro n i h0 hi
    refine Ev.step (fun k => ?_) (Ev.now _)
    simp only [impl_sumOf.l0]
    rw [if_neg (by omega)]
    rfl
  | succ d ih =>
    intro n i h0 hi
    have h := ih (sumIter 8 (Go.bits .xor .i64 n (wrap64 (256 * wrap64 (bt s i))))) (i + 1) (by omega) (by omega)
    refine Ev.step (fun k => ?_) (impl_sum_l1 s _ (s.size : Int) i 8 (Go.bits .xor .i64 n (wrap64 (256 * wrap64 (bt s i)))) 0 (by omega) (by omega) (by rw [w64 (x := i + 1) (by omega) (by omega)]; exact h))
    simp only [impl_sumOf.l0]
    rw [if_pos (by omega), if_pos h0, if_pos (by omega)]
theorem impl_sum (s : ByteArray) (hs : s.size ≤ 140737488351232) : Ev (fun k => impl_sumOf.f k s) (crc s) :=
  impl_sum_l0 s hs s.size 65535 0 (by omega) (by omega)

/-! Sectors. -/
def secHead (no : Int) (last : Bool) (t : ByteArray) : ByteArray := strOfNums [(wrap64 (Int.tdiv no 256)) % 256, (Int.tmod no 256) % 256, (if last = true then ((t.size : Int) + 128) % 256 else (t.size : Int) % 256)] ++ t ++ strOfNums (List.replicate (10 - t.size) 0)
def sectorB (no : Int) (last : Bool) (t : ByteArray) : ByteArray := secHead no last t ++ strOfNums [(wrap64 (Int.tdiv (crc (secHead no last t)) 256)) % 256, (Int.tmod (crc (secHead no last t)) 256) % 256, 1]
theorem son3 (a b c : Int) : (strOfNums [a, b, c]).size = 3 := by rw [strOfNums_size]; rfl
theorem son2 (a b : Int) : (strOfNums [a, b]).size = 2 := by rw [strOfNums_size]; rfl
theorem sonr (n : Nat) : (strOfNums (List.replicate n 0)).size = n := by rw [strOfNums_size, List.length_replicate]
theorem spec_l13Sector_ev (no : Int) (last : Bool) (t : ByteArray) (h : t.size ≤ 10) : Ev (fun k => spec_l13Sector.f k no last t) (sectorB no last t) := by
  have e2 : wrap64 (10 - (t.size : Int)) = ((10 - t.size : Nat) : Int) := by rw [w64 (by omega) (by omega)]; omega
  have e1 : wrap64 ((t.size : Int) + 128) = (t.size : Int) + 128 := w64 (by omega) (by omega)
  have hz := spec_sum (secHead no last t) (by unfold secHead; rw [ByteArray.size_append, ByteArray.size_append, son3, sonr]; omega)
  cases last with
  | true =>
    have eh : secHead no true t = strOfNums [(wrap64 (Int.tdiv no 256)) % 256, (Int.tmod no 256) % 256, ((t.size : Int) + 128) % 256] ++ t ++ strOfNums (List.replicate (10 - t.size) 0) := rfl
    unfold sectorB
    rw [eh] at hz ⊢
    simp only [spec_l13Sector.f]
    rw [e1, e2, Int.toNat_natCast]
    clear e1 e2
    refine Ev.pos (by trivial) (Ev.bnd1 rfl (Ev.pos (by rw [son3]; omega) (Ev.pos (by omega) (Ev.pos (by omega) (Ev.bnd1 rfl (Ev.pos (by rw [ByteArray.size_append, son3, sonr]; omega) (Ev.bnd hz (Ev.bnd1 rfl (Ev.pos (by rw [ByteArray.size_append, ByteArray.size_append, son3, sonr, son3]; omega) (Ev.ret _))))))))))
  | false =>
    have eh : secHead no false t = strOfNums [(wrap64 (Int.tdiv no 256)) % 256, (Int.tmod no 256) % 256, (t.size : Int) % 256] ++ t ++ strOfNums (List.replicate (10 - t.size) 0) := rfl
    unfold sectorB
    rw [eh] at hz ⊢
    simp only [spec_l13Sector.f]
    rw [e2, Int.toNat_natCast]
    clear e1 e2
    refine Ev.neg (by simp) (Ev.bnd1 rfl (Ev.pos (by rw [son3]; omega) (Ev.pos (by omega) (Ev.pos (by omega) (Ev.bnd1 rfl (Ev.pos (by rw [ByteArray.size_append, son3, sonr]; omega) (Ev.bnd hz (Ev.bnd1 rfl (Ev.pos (by rw [ByteArray.size_append, ByteArray.size_append, son3, sonr, son3]; omega) (Ev.ret _))))))))))
theorem rep0 (n : Nat) (h : n ≤ 1000) : strings_Repeat.f (⟨#[0]⟩ : ByteArray) (n : Int) = some (strOfNums (List.replicate n 0)) := by
  unfold strings_Repeat.f
  rw [Int.toNat_natCast, if_pos ⟨by omega, by omega, by rw [show (⟨#[0]⟩ : ByteArray).size = 1 from rfl]; omega⟩]
  congr 1
  unfold strOfNums
  congr 2
  rw [List.map_replicate, show (⟨#[0]⟩ : ByteArray).data.toList = List.replicate 1 0 from rfl, Lib.repeatL_replicate, Nat.mul_one]
  rfl
theorem impl_summed_ev (s : ByteArray) (h : s.size ≤ 1000) : Ev (fun k => impl_summed.f k s) (s ++ strOfNums [(wrap64 (Int.tdiv (crc s) 256)) % 256, (Int.tmod (crc s) 256) % 256]) := by
  simp only [impl_summed.f]
  exact Ev.bnd (impl_sum s (by omega)) (Ev.bnd1 rfl (Ev.pos (by rw [son2]; omega) (Ev.ret _)))
theorem impl_sector_ev (no : Int) (last : Bool) (t : ByteArray) (h : t.size ≤ 10) : Ev (fun k => impl_sector.f k no last t) (sectorB no last t) := by
  have e2 : ∀ a b c : Int, wrap64 (13 - ((strOfNums [a, b, c] ++ t).size : Int)) = ((10 - t.size : Nat) : Int) := by
    intro a b c
    rw [ByteArray.size_append, son3, w64 (by omega) (by omega)]; omega
  have hz := impl_summed_ev (secHead no last t) (by unfold secHead; rw [ByteArray.size_append, ByteArray.size_append, son3, sonr]; omega)
  have hr := rep0 (10 - t.size) (by omega)
  have hone : ∀ (s : ByteArray) (a b : Int), s ++ strOfNums [a, b] ++ (⟨#[1]⟩ : ByteArray) = s ++ strOfNums [a, b, 1] := by
    intro s a b
    rw [show (⟨#[1]⟩ : ByteArray) = strOfNums [1] from rfl, ByteArray.append_assoc, son_append]
    rfl
  cases last with
  | true =>
    have eh : secHead no true t = strOfNums [(wrap64 (Int.tdiv no 256)) % 256, (Int.tmod no 256) % 256, ((t.size : Int) + 128) % 256] ++ t ++ strOfNums (List.replicate (10 - t.size) 0) := rfl
    unfold sectorB
    rw [← hone]
    rw [eh] at hz ⊢
    simp only [impl_sector.f]
    refine Ev.pos (by trivial) (Ev.bnd1 rfl (Ev.pos (by rw [son3]; omega) (Ev.bnd1 (by rw [e2]; exact hr) (Ev.pos (by rw [ByteArray.size_append, son3, sonr]; omega) (Ev.bnd hz (Ev.pos ?_ (Ev.ret _)))))))
    rw [ByteArray.size_append, ByteArray.size_append, ByteArray.size_append, son3, sonr, son2]; omega
  | false =>
    have eh : secHead no false t = strOfNums [(wrap64 (Int.tdiv no 256)) % 256, (Int.tmod no 256) % 256, (t.size : Int) % 256] ++ t ++ strOfNums (List.replicate (10 - t.size) 0) := rfl
    unfold sectorB
    rw [← hone]
    rw [eh] at hz ⊢
    simp only [impl_sector.f]
    refine Ev.neg (by simp) (Ev.bnd1 rfl (Ev.pos (by rw [son3]; omega) (Ev.bnd1 (by rw [e2]; exact hr) (Ev.pos (by rw [ByteArray.size_append, son3, sonr]; omega) (Ev.bnd hz (Ev.pos ?_ (Ev.ret _)))))))
    rw [ByteArray.size_append, ByteArray.size_append, ByteArray.size_append, son3, sonr, son2]; omega

theorem impl_isNo_eq (no : Int) : impl_isNo.f no = some (decide (0 ≤ no ∧ no ≤ 399)) := by
  unfold impl_isNo.f
  by_cases h : 0 ≤ no
  · rw [if_pos h]; congr 1; simp only [decide_eq_decide]; omega
  · rw [if_neg h, decide_eq_false (by omega)]

def readSector (no : Int) (x : ByteArray) : ByteArray × Bool × Bool :=
  if (0 ≤ no ∧ no ≤ 399) ∧ x.size = 16 then
    if Int.tmod (bt x 2) 128 > 10 then ((⟨#[]⟩ : ByteArray), false, false)
    else if sectorB no (decide (bt x 2 ≥ 128)) (x.extract 3 ((3 + Int.tmod (bt x 2) 128).toNat)) = x then (x.extract 3 ((3 + Int.tmod (bt x 2) 128).toNat), decide (bt x 2 ≥ 128), true)
    else ((⟨#[]⟩ : ByteArray), false, false)
  else ((⟨#[]⟩ : ByteArray), false, false)
theorem tmod128 (x : ByteArray) : 0 ≤ Int.tmod (bt x 2) 128 := by
  have h := bt_range x 2
  obtain ⟨n, hn⟩ : ∃ n : Nat, bt x 2 = n := ⟨(bt x 2).toNat, by omega⟩
  rw [hn, show Int.tmod (n : Int) 128 = ((n % 128 : Nat) : Int) from rfl]
  omega
theorem ex_size (x : ByteArray) (m : Int) (h0 : 0 ≤ m) (h1 : m ≤ 10) : (x.extract 3 ((3 + m).toNat)).size ≤ 10 := by
  rw [ByteArray.size_extract]
  omega
theorem readSector_size (no : Int) (x : ByteArray) : (readSector no x).1.size ≤ 10 := by
  unfold readSector
  split
  · split
    · exact Nat.zero_le _
    · rename_i h
      split
      · exact ex_size x _ (tmod128 x) (by omega)
      · exact Nat.zero_le _
  · exact Nat.zero_le _
theorem spec_ReadSector_ev (no : Int) (x : ByteArray) : Ev (fun k => spec_ReadSector.f k no x) (readSector no x) := by
  have hb := bt_range x 2
  have ew : wrap64 (bt x 2) = bt x 2 := w64 (by omega) (by omega)
  have ht := tmod128 x
  unfold readSector
  by_cases g0 : 0 ≤ no ∧ no ≤ 399
  · by_cases g1 : x.size = 16
    · rw [if_pos ⟨g0, g1⟩]
      simp only [spec_ReadSector.f]
      refine Ev.bnd1 (spec_in_eq _ _ _) (Ev.pos (decide_eq_true g0) (Ev.succ ?_))
      simp only [spec_ReadSector.j0]
      rw [ew]
      refine Ev.neg (by simp [g1]) (Ev.pos (by omega) ?_)
      by_cases g2 : Int.tmod (bt x 2) 128 > 10
      · rw [if_pos g2]; exact Ev.pos g2 (Ev.ret _)
      · rw [if_neg g2]
        rw [w64 (x := 3 + Int.tmod (bt x 2) 128) (by omega) (by omega)]
        have hs := spec_l13Sector_ev no (decide (bt x 2 ≥ 128)) (x.extract 3 ((3 + Int.tmod (bt x 2) 128).toNat)) (ex_size x _ ht (by omega))
        refine Ev.neg g2 (Ev.pos (by omega) (Ev.pos (by omega) (Ev.bnd hs ?_)))
        by_cases g3 : sectorB no (decide (bt x 2 ≥ 128)) (x.extract 3 ((3 + Int.tmod (bt x 2) 128).toNat)) = x
        · rw [if_pos g3]; exact Ev.pos ((toList_iff _ _).2 g3) (Ev.ret _)
        · rw [if_neg g3]; exact Ev.neg (fun h => g3 ((toList_iff _ _).1 h)) (Ev.ret _)
    · rw [if_neg (fun h => g1 h.2)]
      simp only [spec_ReadSector.f]
      refine Ev.bnd1 (spec_in_eq _ _ _) (Ev.pos (decide_eq_true g0) (Ev.succ ?_))
      simp only [spec_ReadSector.j0]
      exact Ev.pos (by simp only [bne_iff_ne, ne_eq]; omega) (Ev.ret _)
  · rw [if_neg (fun h => g0 h.1)]
    simp only [spec_ReadSector.f]
    refine Ev.bnd1 (spec_in_eq _ _ _) (Ev.neg (by rw [decide_eq_false g0]; simp) (Ev.succ ?_))
    simp only [spec_ReadSector.j0]
    exact Ev.pos (by trivial) (Ev.ret _)
theorem impl_ReadSector_ev (no : Int) (x : ByteArray) : Ev (fun k => impl_ReadSector.f k no x) (readSector no x) := by
  have hb := bt_range x 2
  have ew : wrap64 (bt x 2) = bt x 2 := w64 (by omega) (by omega)
  have ht := tmod128 x
  unfold readSector
  by_cases g0 : 0 ≤ no ∧ no ≤ 399
  · by_cases g1 : x.size = 16
    · rw [if_pos ⟨g0, g1⟩]
      simp only [impl_ReadSector.f]
      refine Ev.bnd1 (impl_isNo_eq _) (Ev.pos (decide_eq_true g0) (Ev.succ ?_))
      simp only [impl_ReadSector.j0]
      rw [ew]
      refine Ev.neg (by simp [g1]) (Ev.pos (by omega) ?_)
      by_cases g2 : Int.tmod (bt x 2) 128 > 10
      · rw [if_pos g2]; exact Ev.pos g2 (Ev.ret _)
      · rw [if_neg g2]
        rw [w64 (x := 3 + Int.tmod (bt x 2) 128) (by omega) (by omega)]
        have hs := impl_sector_ev no (decide (bt x 2 ≥ 128)) (x.extract 3 ((3 + Int.tmod (bt x 2) 128).toNat)) (ex_size x _ ht (by omega))
        refine Ev.neg g2 (Ev.pos (by omega) (Ev.pos (by omega) (Ev.bnd hs ?_)))
        by_cases g3 : sectorB no (decide (bt x 2 ≥ 128)) (x.extract 3 ((3 + Int.tmod (bt x 2) 128).toNat)) = x
        · rw [if_pos g3]; exact Ev.pos ((toList_iff _ _).2 g3) (Ev.ret _)
        · rw [if_neg g3]; exact Ev.neg (fun h => g3 ((toList_iff _ _).1 h)) (Ev.ret _)
    · rw [if_neg (fun h => g1 h.2)]
      simp only [impl_ReadSector.f]
      refine Ev.bnd1 (impl_isNo_eq _) (Ev.pos (decide_eq_true g0) (Ev.succ ?_))
      simp only [impl_ReadSector.j0]
      exact Ev.pos (by simp only [bne_iff_ne, ne_eq]; omega) (Ev.ret _)
  · rw [if_neg (fun h => g0 h.1)]
    simp only [impl_ReadSector.f]
    refine Ev.bnd1 (impl_isNo_eq _) (Ev.neg (by rw [decide_eq_false g0]; simp) (Ev.succ ?_))
    simp only [impl_ReadSector.j0]
    exact Ev.pos (by trivial) (Ev.ret _)

theorem FnExactReadSector : laws_FnExactReadSector.Pure := by
  intro no x _ _
  refine Ev.all ?_
  simp only [laws_FnExactReadSector.f]
  by_cases g : (x.size : Int) > 1048576
  · exact Ev.pos g (Ev.ret _)
  · exact Ev.neg g (Ev.bnd (spec_ReadSector_ev no x) (Ev.bnd (impl_ReadSector_ev no x) (Ev.pos rfl (Ev.neg (by simp) (Ev.neg (by simp) (Ev.ret _))))))

end Go.Proofs.Ytamiedpgahpihaa.Pure
