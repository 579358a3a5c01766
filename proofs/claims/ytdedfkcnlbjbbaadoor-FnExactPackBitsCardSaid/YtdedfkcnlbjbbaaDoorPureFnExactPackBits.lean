/- The program's PackBits returns what the reference's returns, for all arguments.
Conditions: what the row itself says (two tables of unicode/utf8 start as the program's text lays them; the card ties them). -/
import Derived.Test.YtdedfkcnlbjbbaaDoorQFnExactPackBitsx2
namespace Go.Proofs.YtdedfkcnlbjbbaaDoor.Pure
open Go.RowKit Go.Proofs.YtdedfkcnlbjbbaaDoor.QFnExactPackBits Go.Proofs.YtdedfkcnlbjbbaaDoorW.PrintWords Go.Proofs.YtdedfkcnlbjbbaaDoorW.PrintLast Go.Proofs.YtdedfkcnlbjbbaaDoorW.PrintMore
set_option linter.unusedVariables false
set_option linter.unusedSimpArgs false

theorem w64 {x : Int} (h0 : -9223372036854775808 ≤ x) (h1 : x ≤ 9223372036854775807) : wrap64 x = x := by
  unfold wrap64; omega
theorem wf64 {a : Int} (h : (Lit.int .i64 a).wf = true) : -9223372036854775808 ≤ a ∧ a ≤ 9223372036854775807 := by
  simp only [Lit.wf, IntKind.min, IntKind.max, IntKind.signed, IntKind.bits, Bool.and_eq_true, decide_eq_true_eq, if_true] at h
  omega

theorem Ev.succ {α : Type} {g : Nat → Option α} {r : α} (h : Ev (fun k => g (k + 1)) r) : Ev g r := Ev.step (fun _ => rfl) h
theorem Ev.pos {α : Type} {c : Prop} [Decidable c] {a b : Nat → Option α} {r : α} (h : c) (e : Ev (fun k => a k) r) : Ev (fun k => if c then a k else b k) r := Ev.congr (fun _ => if_pos h) e
theorem Ev.neg {α : Type} {c : Prop} [Decidable c] {a b : Nat → Option α} {r : α} (h : ¬ c) (e : Ev (fun k => b k) r) : Ev (fun k => if c then a k else b k) r := Ev.congr (fun _ => if_neg h) e
theorem Ev.bnd {α β : Type} {g : Nat → Option α} {f : Nat → α → Option β} {a : α} {r : β} (h : Ev (fun k => g k) a) (k : Ev (fun n => f n a) r) : Ev (fun n => (g n).bind (fun x => f n x)) r := Ev.bind h k
theorem Ev.bnd1 {α β : Type} {g : Option α} {f : Nat → α → Option β} {a : α} {r : β} (h : g = some a) (k : Ev (fun n => f n a) r) : Ev (fun n => g.bind (fun x => f n x)) r := by
  rw [h]; exact k
theorem Ev.ret {α : Type} (r : α) : Ev (fun _ => some r) r := Ev.now r
theorem Ev.eq {α : Type} {g : Nat → Option α} {r r' : α} (h : Ev g r) (e : r = r') : Ev g r' := e ▸ h
theorem Ev.all {α : Type} {g : Nat → Option α} {r : α} (h : Ev (fun k => g k) r) : ∃ k, g k = some r := h.rounds
theorem rd_mid (pre : List Int) (x : Int) (post : List Int) : rd (pre ++ x :: post) (pre.length : Int) = x := by
  unfold rd; simp
theorem rd_nat (xs : List Int) (i : Nat) (h : i < xs.length) : rd xs (i : Int) = xs[i] := by
  unfold rd; simp [List.getD_eq_getElem?_getD, List.getElem?_eq_getElem h]

theorem toList_iff (a b : ByteArray) : a.toList = b.toList ↔ a = b := by
  rw [ByteArray.toList_eq, ByteArray.toList_eq]
  exact ⟨fun h => ByteArray.ext (Array.toList_inj.1 h), fun h => by rw [h]⟩

/-! Packing bits into bytes. -/
def packX (i : Nat) (l : List Int) : List Int := if i % 8 = 0 then l ++ [0] else l
def packSet (s : ByteArray) (i : Nat) (x : List Int) : List Int := if bt s (i : Int) = 49 then x.set (i / 8) ((rd x ((i / 8 : Nat) : Int) + 2 ^ (7 - i % 8)) % 256) else x
/-- The bytes of the first `i` bits. -/
def packAt (s : ByteArray) : Nat → List Int
  | 0 => []
  | i + 1 => packSet s i (packX i (packAt s i))
theorem or_all : ∀ j : Fin 8, ∀ v : Fin 256, v.val % 2 ^ (8 - j.val) = 0 → bits .or .u8 ((v.val : Nat) : Int) (2 ^ (7 - j.val)) = ((v.val + 2 ^ (7 - j.val) : Nat) : Int) ∧ v.val + 2 ^ (7 - j.val) < 256 ∧ (v.val + 2 ^ (7 - j.val)) % 2 ^ (7 - j.val) = 0 ∧ v.val % 2 ^ (7 - j.val) = 0 := by decide +kernel
theorem sh_all : ∀ j : Fin 8, shr .u8 128 ((j.val : Nat) : Int) = 2 ^ (7 - j.val) := by decide +kernel
theorem or_step (j v : Nat) (hj : j < 8) (hv : v < 256) (hm : v % 2 ^ (8 - j) = 0) : bits .or .u8 (v : Int) (2 ^ (7 - j)) = ((v + 2 ^ (7 - j) : Nat) : Int) ∧ v + 2 ^ (7 - j) < 256 ∧ (v + 2 ^ (7 - j)) % 2 ^ (7 - j) = 0 ∧ v % 2 ^ (7 - j) = 0 := or_all ⟨j, hj⟩ ⟨v, hv⟩ hm
theorem sh128 (j : Nat) (hj : j < 8) : shr .u8 128 (j : Int) = 2 ^ (7 - j) := sh_all ⟨j, hj⟩
theorem rd_left (x y : List Int) (i : Nat) (h : i < x.length) : rd (x ++ y) (i : Int) = rd x (i : Int) := by
  unfold rd
  rw [Int.toNat_natCast, List.getD_eq_getElem?_getD, List.getD_eq_getElem?_getD, List.getElem?_append_left h]
theorem rd_set_self (x : List Int) (i : Nat) (v : Int) (h : i < x.length) : rd (x.set i v) (i : Int) = v := by
  unfold rd
  rw [Int.toNat_natCast, List.getD_eq_getElem?_getD, List.getElem?_set_self h]
  rfl
theorem rd_last0 (x : List Int) : rd (x ++ [0]) (x.length : Int) = 0 := by
  unfold rd
  rw [Int.toNat_natCast, List.getD_eq_getElem?_getD, List.getElem?_append_right (Nat.le_refl _), Nat.sub_self]
  rfl
theorem packX_inv (l : List Int) (i : Nat) (h1 : l.length = (i + 7) / 8) (h2 : i % 8 ≠ 0 → ∃ v : Nat, rd l ((i / 8 : Nat) : Int) = v ∧ v < 256 ∧ v % 2 ^ (8 - i % 8) = 0) :
    (packX i l).length = i / 8 + 1 ∧ ∃ v : Nat, rd (packX i l) ((i / 8 : Nat) : Int) = v ∧ v < 256 ∧ v % 2 ^ (8 - i % 8) = 0 := by
  unfold packX
  by_cases g : i % 8 = 0
  · rw [if_pos g]
    have e : i / 8 = l.length := by omega
    exact ⟨by simp; omega, 0, by rw [e, rd_last0]; rfl, by omega, Nat.zero_mod _⟩
  · rw [if_neg g]
    exact ⟨by omega, h2 g⟩
theorem pk_inv (s : ByteArray) (i : Nat) : (packAt s i).length = (i + 7) / 8 ∧ (i % 8 ≠ 0 → ∃ v : Nat, rd (packAt s i) ((i / 8 : Nat) : Int) = v ∧ v < 256 ∧ v % 2 ^ (8 - i % 8) = 0) := by
  induction i with
  | zero => exact ⟨rfl, fun h => absurd rfl h⟩
  | succ i ih =>
    obtain ⟨hx, v, hv, hv2, hm⟩ := packX_inv _ i ih.1 ih.2
    obtain ⟨_, o1, o2, o3⟩ := or_step (i % 8) v (by omega) hv2 hm
    simp only [packAt]
    generalize packX i (packAt s i) = x at hx hv
    unfold packSet
    by_cases g : bt s (i : Int) = 49
    · rw [if_pos g]
      refine ⟨by rw [List.length_set]; omega, fun g2 => ⟨v + 2 ^ (7 - i % 8), ?_, o1, ?_⟩⟩
      · rw [show (i + 1) / 8 = i / 8 by omega, rd_set_self _ _ _ (by omega), hv]
        have e : ((v : Int) + 2 ^ (7 - i % 8)) = ((v + 2 ^ (7 - i % 8) : Nat) : Int) := by simp
        rw [e]
        generalize v + 2 ^ (7 - i % 8) = z at o1
        omega
      · rw [show 8 - (i + 1) % 8 = 7 - i % 8 by omega]; exact o2
    · rw [if_neg g]
      refine ⟨by omega, fun g2 => ⟨v, ?_, hv2, ?_⟩⟩
      · rw [show (i + 1) / 8 = i / 8 by omega]; exact hv
      · rw [show 8 - (i + 1) % 8 = 7 - i % 8 by omega]; exact o3
theorem tm8 (i : Nat) : Int.tmod (i : Int) 8 = ((i % 8 : Nat) : Int) := rfl
theorem td8 (i : Nat) : Int.tdiv (i : Int) 8 = ((i / 8 : Nat) : Int) := rfl
theorem u64i (n : Nat) (h : n ≤ 1000) : IntKind.u64.wrap (n : Int) = (n : Int) := IntWalk.u64_in _ (by omega)
theorem spec_pack_l0 (s : ByteArray) (hs : s.size ≤ 8000) (d : Nat) : ∀ i, i + d = s.size → Ev (fun k => spec_l12Pack.l0 k s (packAt s i) (i : Int)) (strOfNums (packAt s s.size)) := by
  induction d with
  | zero =>
    intro i hi
    obtain rfl : i = s.size := by omega
    refine Ev.succ ?_
    simp only [spec_l12Pack.l0]
    exact Ev.neg (by omega) (Ev.ret _)
  | succ d ih =>
    intro i hi
    have h := ih (i + 1) (by omega)
    have hl := (pk_inv s i).1
    simp only [packAt] at h
    rw [Int.natCast_add, Int.natCast_one] at h
    refine Ev.succ ?_
    simp only [spec_l12Pack.l0]
    rw [tm8, td8, w64 (x := ((i / 8 : Nat) : Int)) (by omega) (by omega), w64 (x := (i : Int) + 1) (by omega) (by omega), u64i _ (by omega), sh128 _ (by omega)]
    unfold packSet packX at h
    refine Ev.pos (by omega) ?_
    by_cases g : i % 8 = 0
    · rw [if_pos g] at h
      refine Ev.pos (by omega) (Ev.pos (by omega) (Ev.bnd1 rfl (Ev.pos (by omega) ?_)))
      by_cases g2 : bt s (i : Int) = 49
      · rw [if_pos g2] at h
        refine Ev.pos g2 (Ev.pos (by omega) (Ev.pos (by simp; omega) (Ev.pos (by omega) ?_)))
        rw [Int.toNat_natCast]
        exact h
      · rw [if_neg g2] at h
        exact Ev.neg g2 h
    · rw [if_neg g] at h
      refine Ev.neg (by omega) (Ev.pos (by omega) ?_)
      by_cases g2 : bt s (i : Int) = 49
      · rw [if_pos g2] at h
        refine Ev.pos g2 (Ev.pos (by omega) (Ev.pos (by omega) (Ev.pos (by omega) ?_)))
        rw [Int.toNat_natCast]
        exact h
      · rw [if_neg g2] at h
        exact Ev.neg g2 h
theorem spec_pack_ev (s : ByteArray) (hs : s.size ≤ 8000) : Ev (fun k => spec_l12Pack.f k s) (strOfNums (packAt s s.size)) := by
  simp only [spec_l12Pack.f]
  exact spec_pack_l0 s hs s.size 0 (by omega)
theorem packX_rep (l : List Int) (i n : Nat) (h : i / 8 + 1 ≤ n) : l ++ List.replicate (n - (i + 7) / 8) 0 = packX i l ++ List.replicate (n - (i / 8 + 1)) 0 := by
  unfold packX
  by_cases g : i % 8 = 0
  · rw [if_pos g, show n - (i + 7) / 8 = (n - (i / 8 + 1)) + 1 by omega, List.replicate_succ, List.append_assoc]; rfl
  · rw [if_neg g, show (i + 7) / 8 = i / 8 + 1 by omega]
theorem impl_pack_l0 (s : ByteArray) (hs : s.size ≤ 8000) (d : Nat) : ∀ i, i + d = s.size → Ev (fun k => impl_packBits.l0 k s (packAt s i ++ List.replicate ((s.size + 7) / 8 - (i + 7) / 8) 0) (s.size : Int) (i : Int)) (strOfNums (packAt s s.size)) := by
  induction d with
  | zero =>
    intro i hi
    obtain rfl : i = s.size := by omega
    refine Ev.succ ?_
    simp only [impl_packBits.l0, Nat.sub_self, List.replicate_zero, List.append_nil]
    exact Ev.neg (by omega) (Ev.ret _)
  | succ d ih =>
    intro i hi
    have h := ih (i + 1) (by omega)
    obtain ⟨hx, v, hv, hv2, hm⟩ := packX_inv _ i (pk_inv s i).1 (pk_inv s i).2
    obtain ⟨o0, o1, _, _⟩ := or_step (i % 8) v (by omega) hv2 hm
    simp only [packAt] at h
    rw [Int.natCast_add, Int.natCast_one, show (i + 1 + 7) / 8 = i / 8 + 1 by omega] at h
    rw [packX_rep _ i _ (by omega)]
    generalize packX i (packAt s i) = x at hx hv h
    refine Ev.succ ?_
    simp only [impl_packBits.l0]
    rw [tm8, td8, w64 (x := ((i / 8 : Nat) : Int)) (by omega) (by omega), w64 (x := (i : Int) + 1) (by omega) (by omega), sh128 _ (by omega), rd_left _ _ _ (by omega), hv, o0, Int.toNat_natCast, List.set_append_left _ _ (by omega)]
    unfold packSet at h
    rw [hv] at h
    have e : ((v : Int) + 2 ^ (7 - i % 8)) % 256 = ((v + 2 ^ (7 - i % 8) : Nat) : Int) := by
      have e1 : ((v : Int) + 2 ^ (7 - i % 8)) = ((v + 2 ^ (7 - i % 8) : Nat) : Int) := by simp
      rw [e1]
      generalize v + 2 ^ (7 - i % 8) = z at o1
      omega
    rw [e] at h
    refine Ev.pos (by omega) (Ev.pos (by omega) (Ev.pos (by omega) ?_))
    by_cases g2 : bt s (i : Int) = 49
    · rw [if_pos g2] at h
      exact Ev.pos g2 (Ev.pos (by omega) (Ev.pos (by rw [List.length_append]; omega) (Ev.pos (by omega) h)))
    · rw [if_neg g2] at h
      exact Ev.neg g2 h
theorem impl_pack_ev (s : ByteArray) (hs : s.size ≤ 8000) : Ev (fun k => impl_packBits.f k s) (strOfNums (packAt s s.size)) := by
  simp only [impl_packBits.f]
  rw [w64 (x := (s.size : Int) + 7) (by omega) (by omega), show (s.size : Int) + 7 = ((s.size + 7 : Nat) : Int) from rfl, td8, w64 (x := (((s.size + 7) / 8 : Nat) : Int)) (by omega) (by omega), Int.toNat_natCast]
  refine Ev.pos (by omega) (Ev.pos (by omega) ?_)
  have h := impl_pack_l0 s hs s.size 0 (by omega)
  simpa [packAt] using h

/-! Texts of the signs 0 and 1. -/
def isBit (b : UInt8) : Bool := b == 48 || b == 49
def goodBits (s : ByteArray) : Bool := s.data.toList.all isBit && decide (s.size ≤ 4000)
theorem bt_get (s : ByteArray) (i : Nat) (h : i < s.data.toList.length) : bt s (i : Int) = ((s.data.toList[i]).toNat : Int) := by
  have h' : i < s.size := by rw [data_length] at h; exact h
  unfold bt
  rw [Int.toNat_natCast, dif_pos h']
  rfl
theorem isBit_iff (s : ByteArray) (i : Nat) (h : i < s.data.toList.length) : isBit (s.data.toList[i]) = true ↔ bt s (i : Int) = 48 ∨ bt s (i : Int) = 49 := by
  rw [bt_get s i h]
  generalize s.data.toList[i] = b
  unfold isBit
  rw [Bool.or_eq_true, beq_iff_eq, beq_iff_eq]
  constructor
  · rintro (rfl | rfl)
    · exact .inl rfl
    · exact .inr rfl
  · rintro (h | h)
    · exact .inl (UInt8.toNat_inj.1 (by show b.toNat = 48; omega))
    · exact .inr (UInt8.toNat_inj.1 (by show b.toNat = 49; omega))
theorem spec_isBits_l0 (s : ByteArray) (hs : s.size ≤ 140737488351232) (d : Nat) : ∀ i, i + d = s.size → Ev (fun k => spec_l12IsBits.l0 k s (i : Int)) ((s.data.toList.drop i).all isBit && decide (s.size ≤ 4000)) := by
  induction d with
  | zero =>
    intro i hi
    refine Ev.succ ?_
    simp only [spec_l12IsBits.l0]
    rw [List.drop_eq_nil_of_le (by rw [data_length]; omega), List.all_nil, Bool.true_and]
    exact Ev.eq (Ev.neg (by omega) (Ev.ret _)) (decide_eq_decide.2 (by omega))
  | succ d ih =>
    intro i hi
    have hl : i < s.data.toList.length := by rw [data_length]; omega
    have h := ih (i + 1) (by omega)
    have e : s.data.toList.drop i = s.data.toList[i] :: s.data.toList.drop (i + 1) := List.drop_eq_getElem_cons hl
    rw [e, List.all_cons]
    refine Ev.succ ?_
    simp only [spec_l12IsBits.l0]
    rw [w64 (x := (i : Int) + 1) (by omega) (by omega)]
    rw [Int.natCast_add, Int.natCast_one] at h
    refine Ev.pos (by omega) (Ev.pos (by omega) ?_)
    have hb := isBit_iff s i hl
    by_cases g1 : bt s (i : Int) = 48
    · rw [hb.2 (.inl g1), Bool.true_and]; exact Ev.pos g1 h
    · by_cases g2 : bt s (i : Int) = 49
      · rw [hb.2 (.inr g2), Bool.true_and]; exact Ev.neg g1 (Ev.pos g2 h)
      · have : isBit (s.data.toList[i]) = false := by
          cases hq : isBit (s.data.toList[i]) with
          | false => rfl
          | true => rcases hb.1 hq with h | h
                    · exact absurd h g1
                    · exact absurd h g2
        rw [this, Bool.false_and, Bool.false_and]
        exact Ev.neg g1 (Ev.neg g2 (Ev.ret _))
theorem spec_isBits_ev (s : ByteArray) (hs : s.size ≤ 140737488351232) : Ev (fun k => spec_l12IsBits.f k s) (goodBits s) := by
  have h := spec_isBits_l0 s hs s.size 0 (by omega)
  rw [List.drop_zero] at h
  exact h
theorem dropWhile_all {α : Type} (p : α → Bool) (l : List α) (h : ∀ x ∈ l.dropWhile p, p x = true) : l.dropWhile p = [] := by
  induction l with
  | nil => rfl
  | cons a l ih =>
    by_cases ha : p a = true
    · rw [List.dropWhile_cons_of_pos ha] at h ⊢
      exact ih h
    · rw [List.dropWhile_cons_of_neg ha] at h
      exact absurd (h a List.mem_cons_self) ha
theorem dropWhile_nil {α : Type} (p : α → Bool) (l : List α) : l.dropWhile p = [] ↔ ∀ x ∈ l, p x = true := by
  induction l with
  | nil => simp
  | cons a l ih =>
    by_cases ha : p a = true
    · rw [List.dropWhile_cons_of_pos ha, ih]; simp [ha]
    · rw [List.dropWhile_cons_of_neg ha]; simp [ha]
theorem trimS_nil (l : List UInt8) : Lib.trimS l [48, 49] = [] ↔ l.all isBit = true := by
  have hp : ∀ b : UInt8, [48, 49].contains b = isBit b := by
    intro b
    simp only [List.contains, List.elem, isBit]
    cases h1 : (b == 48) <;> cases h2 : (b == 49) <;> simp
  unfold Lib.trimS Lib.trimLeftS Lib.trimRightS
  rw [show (([48, 49] : List UInt8).contains ·) = isBit from funext hp]
  rw [List.all_eq_true]
  constructor
  · intro h
    have h1 := (dropWhile_nil _ _).1 h
    have h2 := dropWhile_all isBit l.reverse (fun x hx => h1 x (List.mem_reverse.2 hx))
    intro x hx
    exact (dropWhile_nil _ _).1 h2 x (List.mem_reverse.2 hx)
  · intro h
    have h2 := (dropWhile_nil isBit l.reverse).2 (fun x hx => h x (List.mem_reverse.1 hx))
    rw [h2]
    rfl
theorem impl_areBits_eq (s : ByteArray) (hs : s.size ≤ 140737488351232) : impl_areBits.f s = some (goodBits s) := by
  unfold impl_areBits.f goodBits
  by_cases g : (s.size : Int) ≤ 4000
  · rw [if_pos g, decide_eq_true (show s.size ≤ 4000 by omega), Bool.and_true]
    unfold strings_Trim.f
    rw [if_pos ⟨by omega, by decide, by decide⟩]
    simp only [Option.bind_some]
    congr 1
    have e := trimS_nil s.data.toList
    rw [ByteArray.toList_eq]
    show (Lib.trimS s.data.toList [48, 49] == []) = s.data.toList.all isBit
    cases hq : s.data.toList.all isBit with
    | true => rw [e.2 hq]; rfl
    | false =>
      cases hz : Lib.trimS s.data.toList [48, 49] with
      | nil => rw [e.1 hz] at hq; cases hq
      | cons a l => rfl
  · rw [if_neg g, decide_eq_false (show ¬ s.size ≤ 4000 by omega), Bool.and_false]

theorem FnExactPackBits : laws_FnExactPackBits.Pure := by
  intro s hs
  refine Ev.all ?_
  simp only [laws_FnExactPackBits.f]
  by_cases g : (s.size : Int) > 1048576
  · exact Ev.pos g (Ev.ret _)
  · refine Ev.neg g ?_
    have h1 := spec_isBits_ev s hs
    have h2 := impl_areBits_eq s hs
    cases hb : goodBits s with
    | false =>
      rw [hb] at h1 h2
      have e1 : Ev (fun k => spec_PackBits.f k s) ((⟨#[]⟩ : ByteArray), false) := by
        simp only [spec_PackBits.f]
        exact Ev.bnd h1 (Ev.neg (by simp) (Ev.ret _))
      have e2 : Ev (fun k => impl_PackBits.f k s) ((⟨#[]⟩ : ByteArray), false) := by
        simp only [impl_PackBits.f]
        exact Ev.bnd1 h2 (Ev.neg (by simp) (Ev.ret _))
      exact Ev.bnd e1 (Ev.bnd e2 (Ev.pos rfl (Ev.neg (by simp) (Ev.ret _))))
    | true =>
      rw [hb] at h1 h2
      have hz : s.size ≤ 4000 := by
        unfold goodBits at hb
        rw [Bool.and_eq_true] at hb
        exact of_decide_eq_true hb.2
      have e1 : Ev (fun k => spec_PackBits.f k s) (strOfNums (packAt s s.size), true) := by
        simp only [spec_PackBits.f]
        exact Ev.bnd h1 (Ev.pos rfl (Ev.bnd (spec_pack_ev s (by omega)) (Ev.ret _)))
      have e2 : Ev (fun k => impl_PackBits.f k s) (strOfNums (packAt s s.size), true) := by
        simp only [impl_PackBits.f]
        exact Ev.bnd1 h2 (Ev.pos rfl (Ev.bnd (impl_pack_ev s (by omega)) (Ev.ret _)))
      exact Ev.bnd e1 (Ev.bnd e2 (Ev.pos rfl (Ev.neg (by simp) (Ev.ret _))))

end Go.Proofs.YtdedfkcnlbjbbaaDoor.Pure
