/- The program's UnpackBits returns what the reference's returns, for all arguments.
Conditions: none beyond what the row itself says. -/
import Derived.Test.YtddcceoneabaaaaQFnExactUnpackBitsx2
namespace Go.Proofs.Ytddcceoneabaaaa.Pure
open Go.RowKit Go.Proofs.Ytddcceoneabaaaa.QFnExactUnpackBits Go.Proofs.YtddcceoneabaaaaW.PrintWords Go.Proofs.YtddcceoneabaaaaW.PrintLast Go.Proofs.YtddcceoneabaaaaW.PrintMore
set_option linter.unusedVariables false
set_option linter.unusedSimpArgs false

theorem w64 {x : Int} (h0 : -9223372036854775808 ≤ x) (h1 : x ≤ 9223372036854775807) : wrap64 x = x := by
  unfold wrap64; omega
theorem wf64 {a : Int} (h : (Lit.int .i64 a).wf = true) : -9223372036854775808 ≤ a ∧ a ≤ 9223372036854775807 := by
  simp only [Lit.wf, IntKind.min, IntKind.max, IntKind.signed, IntKind.bits, Bool.and_eq_true, decide_eq_true_eq, if_true] at h
  omega

theorem Ev.succ {α : Type} {g : Nat → Option α} {r : α} (h : Ev (fun k => g (k + 1)) r) : Ev g r := Ev.step (fun _ => rfl) h
theorem Ev.pos {α : Type} {c : Prop} [Decidable c] {a b : Nat → Option α} {r : α} (h : c) (e : Ev (fun k => a k) r) : Ev (fun k => if c then a k else b k) r := Ev.congr (fun _ => if_pos h) e
theorem Ev.neg {α : Type} {c : Prop} [Decidable c] {a b : Nat → Option α} {r : α} (h : ¬ c) (e : Ev (fun k => b k) r) : Ev (fun k => if c then a k else b k) r := Ev.congr (fun _ => if_neg h) e
theorem Ev.bnd {α β : Type} {g : Nat → Option α} {f : Nat → α → Option β} {a : α} {r : β} (h : Ev (fun k => g k) a) (k : Ev (fun n => f n a) r) : Ev (fun n => (g n).bind (fun x => f n x)) r := Ev.bind h k
theorem Ev.bnd1 {α β : Type} {g : Option α} {f : Nat → α → Option β} {a : α} {r : β} (h : g = some a) (k : Ev (fun n => f n a) r) : Ev (fun n => g.bind (fun x => f n x)) r := by
  rw [h]; exact k
theorem Ev.ret {α : Type} (r : α) : Ev (fun _ => some r) r := Ev.now r
theorem Ev.eq {α : Type} {g : Nat → Option α} {r r' : α} (h : Ev g r) (e : r = r') : Ev g r' := e ▸ h
theorem Ev.all {α : Type} {g : Nat → Option α} {r : α} (h : Ev (fun k => g k) r) : ∃ k, g k = some r := h.rounds
theorem rd_mid (pre : List Int) (x : Int) (post : List Int) : rd (pre ++ x :: post) (pre.length : Int) = x := by
  unfold rd; simp
theorem rd_nat (xs : List Int) (i : Nat) (h : i < xs.length) : rd xs (i : Int) = xs[i] := by
  unfold rd; simp [List.getD_eq_getElem?_getD, List.getElem?_eq_getElem h]

theorem toList_iff (a b : ByteArray) : a.toList = b.toList ↔ a = b := by
  rw [ByteArray.toList_eq, ByteArray.toList_eq]
  exact ⟨fun h => ByteArray.ext (Array.toList_inj.1 h), fun h => by rw [h]⟩

theorem spec_in_eq (a lo hi : Int) : spec_l1In.f a lo hi = some (decide (lo ≤ a ∧ a ≤ hi)) := by
  unfold spec_l1In.f
  by_cases h1 : a ≥ lo
  · rw [if_pos h1]
    by_cases h2 : a ≤ hi
    · rw [decide_eq_true h2, decide_eq_true ⟨h1, h2⟩]
    · rw [decide_eq_false h2, decide_eq_false (fun h => h2 h.2)]
  · rw [if_neg h1, decide_eq_false (fun h => h1 h.1)]

/-! Packing bits into bytes. -/
def packX (i : Nat) (l : List Int) : List Int := if i % 8 = 0 then l ++ [0] else l
def packSet (s : ByteArray) (i : Nat) (x : List Int) : List Int := if bt s (i : Int) = 49 then x.set (i / 8) ((rd x ((i / 8 : Nat) : Int) + 2 ^ (7 - i % 8)) % 256) else x
/-- The bytes of the first `i` bits. -/
def packAt (s : ByteArray) : Nat → List Int
  | 0 => []
  | i + 1 => packSet s i (packX i (packAt s i))
theorem or_all : ∀ j : Fin 8, ∀ v : Fin 256, v.val % 2 ^ (8 - j.val) = 0 → bits .or .u8 ((v.val : Nat) : Int) (2 ^ (7 - j.val)) = ((v.val + 2 ^ (7 - j.val) : Nat) : Int) ∧ v.val + 2 ^ (7 - j.val) < 256 ∧ (v.val + 2 ^ (7 - j.val)) % 2 ^ (7 - j.val) = 0 ∧ v.val % 2 ^ (7 - j.val) = 0 := by decide +kernel
theorem sh_all : ∀ j : Fin 8, shr .u8 128 ((j.val : Nat) : Int) = 2 ^ (7 - j.val) := by decide +kernel
theorem or_step (j v : Nat) (hj : j < 8) (hv : v < 256) (hm : v % 2 ^ (8 - j) = 0) : bits .or .u8 (v : Int) (2 ^ (7 - j)) = ((v + 2 ^ (7 - j) : Nat) : Int) ∧ v + 2 ^ (7 - j) < 256 ∧ (v + 2 ^ (7 - j)) % 2 ^ (7 - j) = 0 ∧ v % 2 ^ (7 - j) = 0 := or_all ⟨j, hj⟩ ⟨v, hv⟩ hm
theorem sh128 (j : Nat) (hj : j < 8) : shr .u8 128 (j : Int) = 2 ^ (7 - j) := sh_all ⟨j, hj⟩
theorem rd_left (x y : List Int) (i : Nat) (h : i < x.length) : rd (x ++ y) (i : Int) = rd x (i : Int) := by
  unfold rd
  rw [Int.toNat_natCast, List.getD_eq_getElem?_getD, List.getD_eq_getElem?_getD, List.getElem?_append_left h]
theorem rd_set_self (x : List Int) (i : Nat) (v : Int) (h : i < x.length) : rd (x.set i v) (i : Int) = v := by
  unfold rd
  rw [Int.toNat_natCast, List.getD_eq_getElem?_getD, List.getElem?_set_self h]
  rfl
theorem rd_last0 (x : List Int) : rd (x ++ [0]) (x.length : Int) = 0 := by
  unfold rd
  rw [Int.toNat_natCast, List.getD_eq_getElem?_getD, List.getElem?_append_right (Nat.le_refl _), Nat.sub_self]
  rfl
theorem packX_inv (l : List Int) (i : Nat) (h1 : l.length = (i + 7) / 8) (h2 : i % 8 ≠ 0 → ∃ v : Nat, rd l ((i / 8 : Nat) : Int) = v ∧ v < 256 ∧ v % 2 ^ (8 - i % 8) = 0) :
    (packX i l).length = i / 8 + 1 ∧ ∃ v : Nat, rd (packX i l) ((i / 8 : Nat) : Int) = v ∧ v < 256 ∧ v % 2 ^ (8 - i % 8) = 0 := by
  unfold packX
  by_cases g : i % 8 = 0
  · rw [if_pos g]
    have e : i / 8 = l.length := by omega
    exact ⟨by simp; omega, 0, by rw [e, rd_last0]; rfl, by omega, Nat.zero_mod _⟩
  · rw [if_neg g]
    exact ⟨by omega, h2 g⟩
theorem pk_inv (s : ByteArray) (i : Nat) : (packAt s i).length = (i + 7) / 8 ∧ (i % 8 ≠ 0 → ∃ v : Nat, rd (packAt s i) ((i / 8 : Nat) : Int) = v ∧ v < 256 ∧ v % 2 ^ (8 - i % 8) = 0) := by
  induction i with
  | zero => exact ⟨rfl, fun h => absurd rfl h⟩
  | succ i ih =>
    obtain ⟨hx, v, hv, hv2, hm⟩ := packX_inv _ i ih.1 ih.2
    obtain ⟨_, o1, o2, o3⟩ := or_step (i % 8) v (by omega) hv2 hm
    simp only [packAt]
    generalize packX i (packAt s i) = x at hx hv
    unfold packSet
    by_cases g : bt s (i : Int) = 49
    · rw [if_pos g]
      refine ⟨by rw [List.length_set]; omega, fun g2 => ⟨v + 2 ^ (7 - i % 8), ?_, o1, ?_⟩⟩
      · rw [show (i + 1) / 8 = i / 8 by omega, rd_set_self _ _ _ (by omega), hv]
        have e : ((v : Int) + 2 ^ (7 - i % 8)) = ((v + 2 ^ (7 - i % 8) : Nat) : Int) := by simp
        rw [e]
        generalize v + 2 ^ (7 - i % 8) = z at o1
        omega
      · rw [show 8 - (i + 1) % 8 = 7 - i % 8 by omega]; exact o2
    · rw [if_neg g]
      refine ⟨by omega, fun g2 => ⟨v, ?_, hv2, ?_⟩⟩
      · rw [show (i + 1) / 8 = i / 8 by omega]; exact hv
      · rw [show 8 - (i + 1) % 8 = 7 - i % 8 by omega]; exact o3
theorem tm8 (i : Nat) : Int.tmod (i : Int) 8 = ((i % 8 : Nat) : Int) := rfl
theorem td8 (i : Nat) : Int.tdiv (i : Int) 8 = ((i / 8 : Nat) : Int) := rfl
theorem u64i (n : Nat) (h : n ≤ 1000) : IntKind.u64.wrap (n : Int) = (n : Int) := IntWalk.u64_in _ (by omega)
theorem spec_pack_l0 (s : ByteArray) (hs : s.size ≤ 8000) (d : Nat) : ∀ i, i + d = s.size → Ev (fun k => spec_l12Pack.l0 k s (packAt s i) (i : Int)) (strOfNums (packAt s s.size)) := by
  induction d with
  | zero =>
    intro i hi
    obtain rfl : i = s.size := by omega
    refine Ev.succ ?_
    simp only [spec_l12Pack.l0]
    exact Ev.neg (by omega) (Ev.ret _)
  | succ d ih =>
    intro i hi
    have h := ih (i + 1) (by omega)
    have hl := (pk_inv s i).1
    simp only [packAt] at h
    rw [Int.natCast_add, Int.natCast_one] at h
    refine Ev.succ ?_
    simp only [spec_l12Pack.l0]
    rw [tm8, td8, w64 (x := ((i / 8 : Nat) : Int)) (by omega) (by omega), w64 (x := (i : Int) + 1) (by omega) (by omega), u64i _ (by omega), sh128 _ (by omega)]
    unfold packSet packX at h
    refine Ev.pos (by omega) ?_
    by_cases g : i % 8 = 0
    · rw [if_pos g] at h
      refine Ev.pos (by omega) (Ev.pos (by omega) (Ev.bnd1 rfl (Ev.pos (by omega) ?_)))
      by_cases g2 : bt s (i : Int) = 49
      · rw [if_pos g2] at h
        refine Ev.pos g2 (Ev.pos (by omega) (Ev.pos (by simp; omega) (Ev.pos (by omega) ?_)))
        rw [Int.toNat_natCast]
        exact h
      · rw [if_neg g2] at h
        exact Ev.neg g2 h
    · rw [if_neg g] at h
      refine Ev.neg (by omega) (Ev.pos (by omega) ?_)
      by_cases g2 : bt s (i : Int) = 49
      · rw [if_pos g2] at h
        refine Ev.pos g2 (Ev.pos (by omega) (Ev.pos (by omega) (Ev.pos (by omega) ?_)))
        rw [Int.toNat_natCast]
        exact h
      · rw [if_neg g2] at h
        exact Ev.neg g2 h
theorem spec_pack_ev (s : ByteArray) (hs : s.size ≤ 8000) : Ev (fun k => spec_l12Pack.f k s) (strOfNums (packAt s s.size)) := by
  simp only [spec_l12Pack.f]
  exact spec_pack_l0 s hs s.size 0 (by omega)
theorem packX_rep (l : List Int) (i n : Nat) (h : i / 8 + 1 ≤ n) : l ++ List.replicate (n - (i + 7) / 8) 0 = packX i l ++ List.replicate (n - (i / 8 + 1)) 0 := by
  unfold packX
  by_cases g : i % 8 = 0
  · rw [if_pos g, show n - (i + 7) / 8 = (n - (i / 8 + 1)) + 1 by omega, List.replicate_succ, List.append_assoc]; rfl
  · rw [if_neg g, show (i + 7) / 8 = i / 8 + 1 by omega]
theorem impl_pack_l0 (s : ByteArray) (hs : s.size ≤ 8000) (d : Nat) : ∀ i, i + d = s.size → Ev (fun k => impl_packBits.l0 k s (packAt s i ++ List.replicate ((s.size + 7) / 8 - (i + 7) / 8) 0) (s.size : Int) (i : Int)) (strOfNums (packAt s s.size)) := by
  induction d with
  | zero =>
    intro i hi
    obtain rfl : i = s.size := by omega
    refine Ev.succ ?_
    simp only [impl_packBits.l0, Nat.sub_self, List.replicate_zero, List.append_nil]
    exact Ev.neg (by omega) (Ev.ret _)
  | succ d ih =>
    intro i hi
    have h := ih (i + 1) (by omega)
    obtain ⟨hx, v, hv, hv2, hm⟩ := packX_inv _ i (pk_inv s i).1 (pk_inv s i).2
    obtain ⟨o0, o1, _, _⟩ := or_step (i % 8) v (by omega) hv2 hm
    simp only [packAt] at h
    rw [Int.natCast_add, Int.natCast_one, show (i + 1 + 7) / 8 = i / 8 + 1 by omega] at h
    rw [packX_rep _ i _ (by omega)]
    generalize packX i (packAt s i) = x at hx hv h
    refine Ev.succ ?_
    simp only [impl_packBits.l0]
    rw [tm8, td8, w64 (x := ((i / 8 : Nat) : Int)) (by omega) (by omega), w64 (x := (i : Int) + 1) (by omega) (by omega), sh128 _ (by omega), rd_left _ _ _ (by omega), hv, o0, Int.toNat_natCast, List.set_append_left _ _ (by omega)]
    unfold packSet at h
    rw [hv] at h
    have e : ((v : Int) + 2 ^ (7 - i % 8)) % 256 = ((v + 2 ^ (7 - i % 8) : Nat) : Int) := by
      have e1 : ((v : Int) + 2 ^ (7 - i % 8)) = ((v + 2 ^ (7 - i % 8) : Nat) : Int) := by simp
      rw [e1]
      generalize v + 2 ^ (7 - i % 8) = z at o1
      omega
    rw [e] at h
    refine Ev.pos (by omega) (Ev.pos (by omega) (Ev.pos (by omega) ?_))
    by_cases g2 : bt s (i : Int) = 49
    · rw [if_pos g2] at h
      exact Ev.pos g2 (Ev.pos (by omega) (Ev.pos (by rw [List.length_append]; omega) (Ev.pos (by omega) h)))
    · rw [if_neg g2] at h
      exact Ev.neg g2 h
theorem impl_pack_ev (s : ByteArray) (hs : s.size ≤ 8000) : Ev (fun k => impl_packBits.f k s) (strOfNums (packAt s s.size)) := by
  simp only [impl_packBits.f]
  rw [w64 (x := (s.size : Int) + 7) (by omega) (by omega), show (s.size : Int) + 7 = ((s.size + 7 : Nat) : Int) from rfl, td8, w64 (x := (((s.size + 7) / 8 : Nat) : Int)) (by omega) (by omega), Int.toNat_natCast]
  refine Ev.pos (by omega) (Ev.pos (by omega) ?_)
  have h := impl_pack_l0 s hs s.size 0 (by omega)
  simpa [packAt] using h

def bitsS (t : ByteArray) (n : Nat) : ByteArray := ⟨(bitsTo t n).toArray⟩
theorem bitsS_size (t : ByteArray) (n : Nat) : (bitsS t n).size = n := by
  unfold bitsS
  rw [show ∀ a : Array UInt8, (⟨a⟩ : ByteArray).size = a.size from fun _ => rfl, List.size_toArray, bitsTo_length]
theorem bt_nat (t : ByteArray) (j : Nat) : bt t (j : Int) = (((t.data.toList.getD j 0).toNat : Nat) : Int) := by
  unfold bt
  rw [Int.toNat_natCast, List.getD_eq_getElem?_getD]
  by_cases h : j < t.size
  · rw [dif_pos h, List.getElem?_eq_getElem (by simpa using h)]
    rfl
  · rw [dif_neg h, List.getElem?_eq_none (by simpa using h)]
    rfl
theorem bitsS_succ (t : ByteArray) (i : Nat) : bitsS t i ++ strOfNums [(48 + (Go.bits .and .u8 (shr .u8 (bt t ((i / 8 : Nat) : Int)) ((7 - i % 8 : Nat) : Int)) 1)) % 256] = bitsS t (i + 1) := by
  have e : shr .u8 (bt t ((i / 8 : Nat) : Int)) ((7 - i % 8 : Nat) : Int) = (((t.data.toList.getD (i / 8) 0).toNat : Nat) : Int) / 2 ^ (7 - i % 8) := by
    unfold shr
    rw [bt_nat, Int.toNat_natCast, Nat.min_eq_left (by show 7 - i % 8 ≤ 8; omega)]
  rw [e, bit_val _ _ (UInt8.toNat_lt _)]
  change bitsS t i ++ strOfNums [((bitAt t i).toNat : Int)] = bitsS t (i + 1)
  have hs : (strOfNums [((bitAt t i).toNat : Int)]).data.toList = [bitAt t i] := by
    rw [strOfNums_data]
    generalize bitAt t i = c
    simp
  apply ByteArray.ext
  apply Array.toList_inj.1
  rw [ByteArray.data_append, Array.toList_append, hs]
  unfold bitsS
  rw [bitsTo_succ]
def unpacked (t : ByteArray) (n : Nat) : ByteArray × Bool := if strOfNums (packAt (bitsS t n) (bitsS t n).size) = t then (bitsS t n, true) else ((⟨#[]⟩ : ByteArray), false)
theorem spec_unpack_l0 (t : ByteArray) (n : Nat) (hn : n ≤ 4000) (hs : n ≤ 8 * t.size) (d : Nat) : ∀ i, i + d = n → Ev (fun k => spec_UnpackBits.l0 k t (n : Int) (bitsS t i) (i : Int)) (unpacked t n) := by
  induction d with
  | zero =>
    intro i hi
    obtain rfl : i = n := by omega
    refine Ev.succ ?_
    simp only [spec_UnpackBits.l0]
    refine Ev.neg (by omega) (Ev.bnd (spec_pack_ev _ (by rw [bitsS_size]; omega)) ?_)
    unfold unpacked
    by_cases g : strOfNums (packAt (bitsS t i) (bitsS t i).size) = t
    · rw [if_pos g]; exact Ev.pos ((toList_iff _ _).2 g) (Ev.ret _)
    · rw [if_neg g]; exact Ev.neg (fun h => g ((toList_iff _ _).1 h)) (Ev.ret _)
  | succ d ih =>
    intro i hi
    have h := ih (i + 1) (by omega)
    rw [Int.natCast_add, Int.natCast_one, ← bitsS_succ] at h
    refine Ev.succ ?_
    simp only [spec_UnpackBits.l0]
    rw [tm8, td8, w64 (x := ((i / 8 : Nat) : Int)) (by omega) (by omega), w64 (x := (i : Int) + 1) (by omega) (by omega), w64 (x := 7 - ((i % 8 : Nat) : Int)) (by omega) (by omega), show (7 - ((i % 8 : Nat) : Int)) = ((7 - i % 8 : Nat) : Int) by omega, u64i _ (by omega)]
    exact Ev.pos (by omega) (Ev.pos (by omega) (Ev.pos (by omega) (Ev.pos (by omega) (Ev.bnd1 rfl (Ev.pos (by rw [bitsS_size, strOfNums_size]; simp only [List.length_cons, List.length_nil]; omega) h)))))
def unpackBits (t : ByteArray) (m : Int) : ByteArray × Bool := if (0 ≤ m ∧ m ≤ 4000) ∧ t.size = (m.toNat + 7) / 8 then unpacked t m.toNat else ((⟨#[]⟩ : ByteArray), false)
theorem ne_iff (t : ByteArray) (n : Nat) (hn : n ≤ 4000) : ((t.size : Int) != wrap64 (Int.tdiv (wrap64 ((n : Int) + 7)) 8)) = !decide (t.size = (n + 7) / 8) := by
  rw [w64 (x := (n : Int) + 7) (by omega) (by omega), show (n : Int) + 7 = ((n + 7 : Nat) : Int) from rfl, td8, w64 (x := (((n + 7) / 8 : Nat) : Int)) (by omega) (by omega)]
  by_cases g : t.size = (n + 7) / 8
  · rw [decide_eq_true g, g]; simp
  · rw [decide_eq_false g]
    simp only [Bool.not_false, bne_iff_ne, ne_eq]
    omega
theorem spec_UnpackBits_ev (t : ByteArray) (m : Int) : Ev (fun k => spec_UnpackBits.f k t m) (unpackBits t m) := by
  unfold unpackBits
  simp only [spec_UnpackBits.f]
  refine Ev.bnd1 (spec_in_eq _ _ _) ?_
  have no : Ev (fun k => spec_UnpackBits.j0 k t m true) ((⟨#[]⟩ : ByteArray), false) := by
    refine Ev.succ ?_
    simp only [spec_UnpackBits.j0]
    exact Ev.pos (by trivial) (Ev.ret _)
  by_cases g : 0 ≤ m ∧ m ≤ 4000
  · obtain ⟨n, rfl⟩ : ∃ n : Nat, m = n := ⟨m.toNat, by omega⟩
    refine Ev.pos (decide_eq_true g) ?_
    rw [ne_iff t n (by omega), Int.toNat_natCast]
    by_cases g2 : t.size = (n + 7) / 8
    · rw [if_pos ⟨g, g2⟩, decide_eq_true g2]
      refine Ev.succ ?_
      simp only [spec_UnpackBits.j0]
      exact Ev.neg (by simp) (spec_unpack_l0 t n (by omega) (by omega) n 0 (by omega))
    · rw [if_neg (fun h => g2 h.2), decide_eq_false g2]
      exact no
  · rw [if_neg (fun h => g h.1)]
    exact Ev.neg (by rw [decide_eq_false g]; simp) no
theorem impl_UnpackBits_ev (t : ByteArray) (m : Int) : Ev (fun k => impl_UnpackBits.f k t m) (unpackBits t m) := by
  unfold unpackBits
  simp only [impl_UnpackBits.f]
  have no : Ev (fun k => impl_UnpackBits.j0 k t m true) ((⟨#[]⟩ : ByteArray), false) := by
    refine Ev.succ ?_
    simp only [impl_UnpackBits.j0]
    exact Ev.pos (by trivial) (Ev.ret _)
  by_cases g0 : m < 0
  · rw [if_neg (fun h => by have := h.1.1; omega)]; exact Ev.pos g0 no
  · refine Ev.neg g0 ?_
    by_cases g1 : m > 4000
    · rw [if_neg (fun h => by have := h.1.2; omega)]; exact Ev.pos g1 no
    · refine Ev.neg g1 ?_
      obtain ⟨n, rfl⟩ : ∃ n : Nat, m = n := ⟨m.toNat, by omega⟩
      rw [ne_iff t n (by omega), Int.toNat_natCast]
      by_cases g2 : t.size = (n + 7) / 8
      · rw [if_pos ⟨by omega, g2⟩, decide_eq_true g2]
        refine Ev.succ ?_
        simp only [impl_UnpackBits.j0]
        have hu : impl_unpackBits.f t (n : Int) = some (bitsS t n) := by
          unfold impl_unpackBits.f
          rw [if_pos ⟨by omega, by omega, by omega⟩]
          rfl
        refine Ev.neg (by simp) (Ev.bnd1 hu (Ev.bnd (impl_pack_ev _ (by rw [bitsS_size]; omega)) ?_))
        unfold unpacked
        by_cases g : strOfNums (packAt (bitsS t n) (bitsS t n).size) = t
        · rw [if_pos g]; exact Ev.pos ((toList_iff _ _).2 g) (Ev.ret _)
        · rw [if_neg g]; exact Ev.neg (fun h => g ((toList_iff _ _).1 h)) (Ev.ret _)
      · rw [if_neg (fun h => g2 h.2), decide_eq_false g2]
        exact no

theorem FnExactUnpackBits : laws_FnExactUnpackBits.Pure := by
  intro t m ht hm
  refine Ev.all ?_
  simp only [laws_FnExactUnpackBits.f]
  by_cases g : (t.size : Int) > 1048576
  · exact Ev.pos g (Ev.ret _)
  · exact Ev.neg g (Ev.bnd (spec_UnpackBits_ev t m) (Ev.bnd (impl_UnpackBits_ev t m) (Ev.pos rfl (Ev.neg (by simp) (Ev.ret _)))))

end Go.Proofs.Ytddcceoneabaaaa.Pure
