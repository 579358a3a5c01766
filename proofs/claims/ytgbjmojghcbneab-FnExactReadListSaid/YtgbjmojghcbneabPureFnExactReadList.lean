/- The program's ReadList returns what the reference's returns, for all arguments.
Conditions: none beyond what the row itself says. -/
import Derived.Test.YtgbjmojghcbneabQFnExactReadListx4
namespace Go.Proofs.Ytgbjmojghcbneab.Pure
open Go.RowKit Go.Proofs.Ytgbjmojghcbneab.QFnExactReadList Go.Proofs.YtgbjmojghcbneabW.PrintWords Go.Proofs.YtgbjmojghcbneabW.PrintLast Go.Proofs.YtgbjmojghcbneabW.PrintMore
set_option linter.unusedVariables false
set_option linter.unusedSimpArgs false

theorem w64 {x : Int} (h0 : -9223372036854775808 ≤ x) (h1 : x ≤ 9223372036854775807) : wrap64 x = x := by
  unfold wrap64; omega
theorem wf64 {a : Int} (h : (Lit.int .i64 a).wf = true) : -9223372036854775808 ≤ a ∧ a ≤ 9223372036854775807 := by
  simp only [Lit.wf, IntKind.min, IntKind.max, IntKind.signed, IntKind.bits, Bool.and_eq_true, decide_eq_true_eq, if_true] at h
  omega

theorem Ev.succ {α : Type} {g : Nat → Option α} {r : α} (h : Ev (fun k => g (k + 1)) r) : Ev g r := Ev.step (fun _ => rfl) h
theorem Ev.pos {α : Type} {c : Prop} [Decidable c] {a b : Nat → Option α} {r : α} (h : c) (e : Ev (fun k => a k) r) : Ev (fun k => if c then a k else b k) r := Ev.congr (fun _ => if_pos h) e
theorem Ev.neg {α : Type} {c : Prop} [Decidable c] {a b : Nat → Option α} {r : α} (h : ¬ c) (e : Ev (fun k => b k) r) : Ev (fun k => if c then a k else b k) r := Ev.congr (fun _ => if_neg h) e
theorem Ev.bnd {α β : Type} {g : Nat → Option α} {f : Nat → α → Option β} {a : α} {r : β} (h : Ev (fun k => g k) a) (k : Ev (fun n => f n a) r) : Ev (fun n => (g n).bind (fun x => f n x)) r := Ev.bind h k
theorem Ev.bnd1 {α β : Type} {g : Option α} {f : Nat → α → Option β} {a : α} {r : β} (h : g = some a) (k : Ev (fun n => f n a) r) : Ev (fun n => g.bind (fun x => f n x)) r := by
  rw [h]; exact k
theorem Ev.ret {α : Type} (r : α) : Ev (fun _ => some r) r := Ev.now r
theorem Ev.eq {α : Type} {g : Nat → Option α} {r r' : α} (h : Ev g r) (e : r = r') : Ev g r' := e ▸ h
theorem Ev.all {α : Type} {g : Nat → Option α} {r : α} (h : Ev (fun k => g k) r) : ∃ k, g k = some r := h.rounds
theorem rd_mid (pre : List Int) (x : Int) (post : List Int) : rd (pre ++ x :: post) (pre.length : Int) = x := by
  unfold rd; simp
theorem rd_nat (xs : List Int) (i : Nat) (h : i < xs.length) : rd xs (i : Int) = xs[i] := by
  unfold rd; simp [List.getD_eq_getElem?_getD, List.getElem?_eq_getElem h]

theorem son_append (xs ys : List Int) : strOfNums xs ++ strOfNums ys = strOfNums (xs ++ ys) := by
  apply ByteArray.ext
  simp [strOfNums]
theorem son_nil : (⟨#[]⟩ : ByteArray) = strOfNums [] := by simp [strOfNums]
/-- The base-128 digits of a number, as bytes. -/
def vbytes (n : Nat) : List Int := if n < 128 then [(n : Int)] else ((n % 128 + 128 : Nat) : Int) :: vbytes (n / 128)
termination_by n
decreasing_by omega
theorem vbytes_lt {n : Nat} (h : n < 128) : vbytes n = [(n : Int)] := by rw [vbytes, if_pos h]
theorem vbytes_ge {n : Nat} (h : ¬ n < 128) : vbytes n = ((n % 128 + 128 : Nat) : Int) :: vbytes (n / 128) := by rw [vbytes, if_neg h]
theorem vbytes_pos (n : Nat) : 0 < (vbytes n).length := by
  rw [vbytes]; split <;> simp
theorem vbytes_len (n : Nat) : (vbytes n).length ≤ n + 1 := by
  induction n using Nat.strongRecOn with
  | _ n ih =>
    by_cases h : n < 128
    · rw [vbytes_lt h]; simp
    · rw [vbytes_ge h]
      have := ih (n / 128) (by omega)
      simp only [List.length_cons]
      omega
theorem tdiv_nat (n m : Nat) : Int.tdiv (n : Int) (m : Int) = ((n / m : Nat) : Int) := rfl
theorem tmod_nat (n m : Nat) : Int.tmod (n : Int) (m : Int) = ((n % m : Nat) : Int) := rfl

theorem varint_spec (n : Nat) : ∀ xs : List Int, xs.length + n ≤ 1099511627776 → Ev (fun k => spec_l10Varint.l0 k (n : Int) (strOfNums xs)) (strOfNums (xs ++ vbytes n)) := by
  induction n using Nat.strongRecOn with
  | _ n ih =>
    intro xs hl
    by_cases h : n < 128
    · refine Ev.step (f := fun _ => some (strOfNums (xs ++ vbytes n))) (fun k => ?_) (Ev.now _)
      simp only [spec_l10Varint.l0]
      rw [if_neg (by omega)]
      simp only [Option.bind_some]
      rw [if_pos (by simp only [strOfNums_size, List.length_cons, List.length_nil]; omega), son_append, vbytes_lt h]
      rw [show (n : Int) % 256 = n by omega]
    · refine Ev.step (f := fun k => spec_l10Varint.l0 k ((n / 128 : Nat) : Int) (strOfNums (xs ++ [((n % 128 + 128 : Nat) : Int)]))) (fun k => ?_) ?_
      · simp only [spec_l10Varint.l0]
        rw [if_pos (by omega)]
        simp only [Option.bind_some]
        rw [if_pos (by simp only [strOfNums_size, List.length_cons, List.length_nil]; omega), son_append]
        rw [show (128 : Int) = ((128 : Nat) : Int) from rfl, tdiv_nat, tmod_nat]
        rw [w64 (by omega) (by omega), w64 (by omega) (by omega)]
        rw [show (((n % 128 : Nat) : Int) + ((128 : Nat) : Int)) % 256 = ((n % 128 + 128 : Nat) : Int) by omega]
      · have := ih (n / 128) (by omega) (xs ++ [((n % 128 + 128 : Nat) : Int)]) (by simp only [List.length_append, List.length_cons, List.length_nil]; omega)
        rw [List.append_assoc, List.singleton_append, ← vbytes_ge h] at this
        exact this
theorem varint_spec_f (n : Nat) (h : n ≤ 1099511627776) : Ev (fun k => spec_l10Varint.f k (n : Int)) (strOfNums (vbytes n)) := by
  have := varint_spec n [] (by simpa using h)
  rw [← son_nil] at this
  exact this

/-! Strings as lists of numbers. -/
theorem bo_size (s : ByteArray) : (bytesOf s).length = s.size := by
  unfold bytesOf; rw [List.length_map, data_length]
theorem bo_range (s : ByteArray) : ∀ x ∈ bytesOf s, 0 ≤ x ∧ x ≤ 255 := by
  intro x hx
  unfold bytesOf at hx
  obtain ⟨b, _, rfl⟩ := List.mem_map.1 hx
  have := b.toNat_lt
  omega
theorem bo_son (xs : List Int) (h : ∀ x ∈ xs, 0 ≤ x ∧ x ≤ 255) : bytesOf (strOfNums xs) = xs := by
  unfold bytesOf
  rw [strOfNums_data, List.map_map]
  conv => rhs; rw [← List.map_id xs]
  apply List.map_congr_left
  intro x hx
  have := h x hx
  simp only [Function.comp_apply, id_eq, UInt8.toNat_ofNat']
  omega
theorem son_bo (s : ByteArray) : strOfNums (bytesOf s) = s := by
  apply ByteArray.ext
  apply Array.toList_inj.1
  rw [strOfNums_data]
  unfold bytesOf
  rw [List.map_map]
  conv => rhs; rw [← List.map_id s.data.toList]
  apply List.map_congr_left
  intro x _
  simp
theorem bo_inj {a b : ByteArray} (h : bytesOf a = bytesOf b) : a = b := by rw [← son_bo a, ← son_bo b, h]
theorem toList_iff (a b : ByteArray) : a.toList = b.toList ↔ a = b := by
  rw [ByteArray.toList_eq, ByteArray.toList_eq]
  exact ⟨fun h => ByteArray.ext (Array.toList_inj.1 h), fun h => by rw [h]⟩
theorem son_inj {xs ys : List Int} (hx : ∀ x ∈ xs, 0 ≤ x ∧ x ≤ 255) (hy : ∀ x ∈ ys, 0 ≤ x ∧ x ≤ 255) (h : strOfNums xs = strOfNums ys) : xs = ys := by
  rw [← bo_son xs hx, ← bo_son ys hy, h]
theorem bo_append (a b : ByteArray) : bytesOf (a ++ b) = bytesOf a ++ bytesOf b := by
  unfold bytesOf; simp
theorem bo_extract (s : ByteArray) (a b : Nat) : bytesOf (s.extract a b) = ((bytesOf s).take b).drop a := by
  unfold bytesOf
  rw [ByteArray.data_extract, Array.toList_extract, List.extract_eq_take_drop, ← List.map_take, ← List.map_drop, List.drop_take]
theorem bo_bt (s : ByteArray) (i : Int) : bt s i = (bytesOf s).getD i.toNat 0 := by
  unfold bt bytesOf
  split
  · rename_i h
    rw [List.getD_eq_getElem?_getD, List.getElem?_map, List.getElem?_eq_getElem (by rw [data_length]; exact h)]
    rfl
  · rename_i h
    rw [List.getD_eq_getElem?_getD, List.getElem?_map, List.getElem?_eq_none (by rw [data_length]; omega)]
    rfl
theorem bo_empty : bytesOf (⟨#[]⟩ : ByteArray) = [] := rfl
theorem son_cut (s : ByteArray) (a : Int) (n : Nat) (h0 : 0 ≤ a) (h : a + n ≤ s.size) :
    strOfNums ((List.range n).map fun (j : Nat) => bt s (a + (j : Int))) = s.extract a.toNat (a + n).toNat := by
  apply bo_inj
  rw [bo_son _ (fun x hx => by obtain ⟨j, _, rfl⟩ := List.mem_map.1 hx; exact bt_range _ _), bo_extract]
  apply List.ext_getElem
  · simp only [List.length_map, List.length_range, List.length_drop, List.length_take, bo_size]; omega
  · intro j h1 h2
    simp only [List.length_map, List.length_range] at h1
    rw [List.getElem_map, List.getElem_range, List.getElem_drop, List.getElem_take, bo_bt, List.getD_eq_getElem?_getD, List.getElem?_eq_getElem (by rw [bo_size]; omega)]
    simp only [Option.getD_some]
    congr 1
    omega

def pw (i : Nat) : Int := 128 ^ i
theorem pw_succ (i : Nat) : pw (i + 1) = 128 * pw i := by unfold pw; rw [Int.pow_succ]; omega
theorem pw_pos (i : Nat) : 1 ≤ pw i := by
  induction i with
  | zero => simp [pw]
  | succ i ih => rw [pw_succ]; omega
theorem pw_le {i : Nat} (h : i ≤ 4) : pw i ≤ 268435456 := by
  have : i = 0 ∨ i = 1 ∨ i = 2 ∨ i = 3 ∨ i = 4 := by omega
  rcases this with rfl | rfl | rfl | rfl | rfl <;> simp [pw]
theorem shl7 (x : Int) (i : Nat) (h0 : 0 ≤ x) (h1 : x ≤ 127) (hi : i ≤ 4) : shl .i64 x (7 * (i : Int)) = x * pw i := by
  have : i = 0 ∨ i = 1 ∨ i = 2 ∨ i = 3 ∨ i = 4 := by omega
  rcases this with rfl | rfl | rfl | rfl | rfl <;> (simp [pw, shl, IntKind.wrap, IntKind.bits, IntKind.signed]; omega)
/-- The value of base-128 digits, the least significant one first. -/
def pv : List Int → Int
  | [] => 0
  | b :: t => b % 128 + 128 * pv t
theorem pv_snoc (P : List Int) (b : Int) : pv (P ++ [b]) = pv P + b % 128 * pw P.length := by
  induction P with
  | nil => simp [pv, pw]
  | cons p t ih =>
    simp only [List.cons_append, pv, ih, List.length_cons, pw_succ]
    rw [Int.mul_add, Int.mul_left_comm]
    omega
theorem pv_nonneg (P : List Int) : 0 ≤ pv P := by
  induction P with
  | nil => simp [pv]
  | cons p t ih => simp only [pv]; omega
theorem pv_lt (P : List Int) : pv P < pw P.length := by
  induction P with
  | nil => simp [pv, pw]
  | cons p t ih => simp only [pv, List.length_cons, pw_succ]; omega
theorem pv_pos (P : List Int) (c : Int) (h : c % 128 ≠ 0) : 1 ≤ pv (P ++ [c]) := by
  induction P with
  | nil => simp only [List.nil_append, pv]; omega
  | cons p t ih => simp only [List.cons_append, pv]; omega
theorem canon (P : List Int) (c : Int) (hP : ∀ p ∈ P, 128 ≤ p ∧ p ≤ 255) (h0 : 0 ≤ c) (h1 : c < 128) (h : P = [] ∨ c ≠ 0) : vbytes (pv (P ++ [c])).toNat = P ++ [c] := by
  induction P with
  | nil =>
    simp only [List.nil_append, pv]
    rw [vbytes_lt (by omega)]
    congr 1
    omega
  | cons p t ih =>
    have hc : c ≠ 0 := by simpa using h
    have hp := hP p (by simp)
    have hv := pv_pos t c (by omega)
    have := ih (fun q hq => hP q (by simp [hq])) (.inr hc)
    simp only [List.cons_append, pv]
    rw [vbytes_ge (by omega), show (p % 128 + 128 * pv (t ++ [c])).toNat / 128 = (pv (t ++ [c])).toNat by omega, this]
    congr 1
    omega
theorem vbytes_last (n : Nat) : (vbytes n).getLast? = some 0 → n = 0 := by
  induction n using Nat.strongRecOn with
  | _ n ih =>
    intro h
    by_cases hn : n < 128
    · rw [vbytes_lt hn] at h
      simp at h
      omega
    · rw [vbytes_ge hn] at h
      have hne : vbytes (n / 128) ≠ [] := fun e => by have := vbytes_pos (n / 128); rw [e] at this; simp at this
      rw [List.getLast?_cons_of_ne_nil hne] at h
      have := ih (n / 128) (by omega) h
      omega
theorem canon_not (P : List Int) (n : Nat) (hP : P ≠ []) : vbytes n ≠ P ++ [0] := by
  intro h
  have h1 := vbytes_last n (by rw [h]; simp)
  subst h1
  rw [vbytes_lt (by omega)] at h
  have h2 := congrArg List.length h
  simp only [List.length_append, List.length_cons, List.length_nil] at h2
  have : 0 < P.length := List.length_pos_iff.2 hP
  omega
theorem vbytes_range (n : Nat) : ∀ x ∈ vbytes n, 0 ≤ x ∧ x ≤ 255 := by
  induction n using Nat.strongRecOn with
  | _ n ih =>
    by_cases hn : n < 128
    · rw [vbytes_lt hn]; intro x hx; simp at hx; omega
    · rw [vbytes_ge hn]
      intro x hx
      rcases List.mem_cons.1 hx with rfl | hx
      · omega
      · exact ih (n / 128) (by omega) x hx
/-- Reading a number at an index: d more bytes at most, i bytes read, whose value is n. -/
def rvGo (s : ByteArray) (a : Int) : Nat → Int → Nat → Int × Int × Bool
  | 0, _, _ => (0, 0, false)
  | d + 1, n, i =>
    if a + i < s.size then
      if bt s (a + i) < 128 then
        if (0 < i ∧ bt s (a + i) = 0) ∨ n + bt s (a + i) % 128 * pw i > 1073741823 then (0, 0, false)
        else (n + bt s (a + i) % 128 * pw i, a + i + 1, true)
      else rvGo s a d (n + bt s (a + i) % 128 * pw i) (i + 1)
    else (0, 0, false)
def rv (s : ByteArray) (a : Int) : Int × Int × Bool := rvGo s a 5 0 0
def pre (s : ByteArray) (a : Int) (i : Nat) : List Int := (List.range i).map fun (j : Nat) => bt s (a + (j : Int))
theorem pre_succ (s : ByteArray) (a : Int) (i : Nat) : pre s a (i + 1) = pre s a i ++ [bt s (a + i)] := by
  unfold pre; rw [List.range_succ, List.map_append]; rfl
theorem pre_len (s : ByteArray) (a : Int) (i : Nat) : (pre s a i).length = i := by simp [pre]
theorem step_facts (n x : Int) (i : Nat) (hi : i ≤ 4) (hn : 0 ≤ n) (hn2 : n < pw i) (hx : 0 ≤ x) (hx2 : x ≤ 255) :
    0 ≤ n + x % 128 * pw i ∧ n + x % 128 * pw i < pw (i + 1) ∧ n + x % 128 * pw i ≤ 34359738367 := by
  have h1 := pw_le hi
  have h2 := pw_pos i
  have h3 : 0 ≤ x % 128 * pw i := Int.mul_nonneg (by omega) (by omega)
  have h4 : x % 128 * pw i ≤ 127 * pw i := Int.mul_le_mul_of_nonneg_right (by omega) (by omega)
  rw [pw_succ]
  omega
theorem read_impl (s : ByteArray) (a : Int) (hs : s.size ≤ 140737488351232) (ha : 0 ≤ a) (ha2 : a ≤ s.size) (d : Nat) : ∀ (n : Int) (i : Nat), i + d = 5 → 0 ≤ n → n < pw i → Ev (fun k => impl_ReadVarint.l0 k s a n (i : Int)) (rvGo s a d n i) := by
  induction d with
  | zero =>
    intro n i hi hn hn2
    refine Ev.step (f := fun k => impl_ReadVarint.j2 k s a n (i : Int) false) (fun k => ?_) (Ev.step (f := fun _ => some (0, 0, false)) (fun k => ?_) (Ev.now _))
    · simp only [impl_ReadVarint.l0]
      rw [if_neg (by omega)]
    · simp [impl_ReadVarint.j2]
  | succ d ih =>
    intro n i hi hn hn2
    have hb := bt_range s (a + i)
    have hw : wrap64 (a + (i : Int)) = a + i := w64 (by omega) (by omega)
    refine Ev.step (f := fun k => impl_ReadVarint.j2 k s a n (i : Int) (decide (a + (i : Int) < s.size))) (fun k => ?_) ?_
    · simp only [impl_ReadVarint.l0]
      rw [if_pos (by omega), hw]
    · by_cases h1 : a + (i : Int) < s.size
      · obtain ⟨f1, f2, f3⟩ := step_facts n (bt s (a + i)) i (by omega) hn hn2 hb.1 hb.2
        have p1 : 0 ≤ a + (i : Int) := by omega
        have p2 : 0 ≤ 7 * (i : Int) := by omega
        have p3 : a ≤ a + (i : Int) + 1 := by omega
        have p4 : a + (i : Int) + 1 ≤ s.size := by omega
        have p5 : i + 1 + d = 5 := by omega
        have q1 : (i : Int) > 0 → 0 < i := fun h => by omega
        have q2 : 0 < i → (i : Int) > 0 := fun h => by omega
        have e1 : wrap64 (bt s (a + i)) = bt s (a + i) := w64 (by omega) (by omega)
        have e2 : wrap64 (7 * (i : Int)) = 7 * (i : Int) := w64 (by omega) (by omega)
        have e3 : Int.tmod (bt s (a + i)) 128 = bt s (a + i) % 128 := Int.tmod_eq_emod_of_nonneg hb.1
        have e4 : shl .i64 (bt s (a + i) % 128) (7 * (i : Int)) = bt s (a + i) % 128 * pw i := shl7 _ i (by omega) (by omega) (by omega)
        have e5 : wrap64 (n + bt s (a + i) % 128 * pw i) = n + bt s (a + i) % 128 * pw i := w64 (by omega) (by omega)
        have e6 : wrap64 (a + (i : Int) + 1) = a + i + 1 := w64 (by omega) (by omega)
        have e7 : wrap64 ((i : Int) + 1) = ((i + 1 : Nat) : Int) := by rw [w64 (by omega) (by omega)]; omega
        simp only [rvGo]
        rw [if_pos h1, decide_eq_true h1]
        by_cases h2 : bt s (a + i) < 128
        · rw [if_pos h2]
          refine Ev.step (f := fun _ => some _) (fun k => ?_) (Ev.now _)
          simp only [impl_ReadVarint.j2, hw, e1, e2, e3, e4, e5, e6, if_true]
          rw [if_pos p1, if_pos h1, if_pos p2, if_pos h2]
          by_cases h3 : (i : Int) > 0
          · rw [if_pos h3]
            by_cases h4 : bt s (a + i) = 0
            · rw [if_pos h4, if_pos (.inl ⟨q1 h3, h4⟩)]
            · rw [if_neg h4]
              by_cases h5 : n + bt s (a + i) % 128 * pw i > 1073741823
              · rw [if_pos h5, if_pos (.inr h5)]
              · rw [if_neg h5, if_neg (fun h => h.elim (fun h => h4 h.2) h5)]
          · rw [if_neg h3]
            by_cases h5 : n + bt s (a + i) % 128 * pw i > 1073741823
            · rw [if_pos h5, if_pos (.inr h5)]
            · rw [if_neg h5, if_neg (fun h => h.elim (fun h => h3 (q2 h.1)) h5)]
        · rw [if_neg h2]
          refine Ev.step (fun k => ?_) (ih _ (i + 1) p5 f1 f2)
          simp only [impl_ReadVarint.j2, hw, e1, e2, e3, e4, e5, e7, if_true]
          rw [if_pos p1, if_pos h1, if_pos p2, if_neg h2]
      · rw [decide_eq_false h1]
        simp only [rvGo]
        rw [if_neg h1]
        refine Ev.step (f := fun _ => some (0, 0, false)) (fun k => ?_) (Ev.now _)
        simp [impl_ReadVarint.j2]
theorem read_impl_f (s : ByteArray) (a : Int) (hs : s.size ≤ 100000) (ha : 0 ≤ a) (ha2 : a ≤ s.size) : Ev (fun k => impl_ReadVarint.f k s a) (rv s a) := by
  have h := read_impl s a (by omega) ha ha2 5 0 0 rfl (by omega) (by simp [pw])
  have : Ev (fun k => impl_ReadVarint.j0 k s a false) (rv s a) := by
    refine Ev.step (fun k => ?_) h
    simp [impl_ReadVarint.j0]
  refine Ev.congr (fun k => ?_) this
  simp only [impl_ReadVarint.f]
  rw [if_neg (by omega), decide_eq_false (show ¬ a < 0 by omega)]
theorem read_impl_far (s : ByteArray) (a : Int) (h : s.size > 100000 ∨ a < 0 ∨ (s.size : Int) ≤ a ∧ a ≤ 9223372036854775807) : Ev (fun k => impl_ReadVarint.f k s a) (0, 0, false) := by
  by_cases h1 : (s.size : Int) > 100000
  · refine Ev.congr (f := fun k => impl_ReadVarint.j0 k s a true) (fun k => by simp only [impl_ReadVarint.f]; rw [if_pos h1]) (Ev.step (f := fun _ => some (0, 0, false)) (fun k => by simp [impl_ReadVarint.j0]) (Ev.now _))
  · refine Ev.congr (f := fun k => impl_ReadVarint.j0 k s a (decide (a < 0))) (fun k => by simp only [impl_ReadVarint.f]; rw [if_neg h1]) ?_
    by_cases h2 : a < 0
    · rw [decide_eq_true h2]
      exact Ev.step (f := fun _ => some (0, 0, false)) (fun k => by simp [impl_ReadVarint.j0]) (Ev.now _)
    · rw [decide_eq_false h2]
      refine Ev.step (f := fun k => impl_ReadVarint.l0 k s a 0 0) (fun k => by simp [impl_ReadVarint.j0]) ?_
      refine Ev.step (f := fun k => impl_ReadVarint.j2 k s a 0 0 false) (fun k => ?_) (Ev.step (f := fun _ => some (0, 0, false)) (fun k => by simp [impl_ReadVarint.j2]) (Ev.now _))
      simp only [impl_ReadVarint.l0]
      rw [if_pos (by omega), w64 (by omega) (by omega), decide_eq_false (by omega)]
theorem read_spec (s : ByteArray) (a : Int) (hs : s.size ≤ 140737488351232) (ha : 0 ≤ a) (ha2 : a ≤ s.size) (d : Nat) : ∀ (n : Int) (i : Nat), i + d = 5 → (i : Int) + a ≤ s.size → n = pv (pre s a i) → (∀ p ∈ pre s a i, 128 ≤ p ∧ p ≤ 255) → Ev (fun k => spec_l10Read.l0 k s a n (i : Int)) (rvGo s a d n i) := by
  induction d with
  | zero =>
    intro n i hi hia hn hP
    refine Ev.step (f := fun k => spec_l10Read.j1 k s a n (i : Int) false) (fun k => ?_) (Ev.step (f := fun _ => some (0, 0, false)) (fun k => ?_) (Ev.now _))
    · simp only [spec_l10Read.l0]
      rw [if_neg (by omega)]
    · simp [spec_l10Read.j1]
  | succ d ih =>
    intro n i hi hia hn hP
    have hn0 : 0 ≤ n := by rw [hn]; exact pv_nonneg _
    have hn2 : n < pw i := by have := pv_lt (pre s a i); rw [pre_len] at this; omega
    have hb := bt_range s (a + i)
    have hw : wrap64 (a + (i : Int)) = a + i := w64 (by omega) (by omega)
    refine Ev.step (f := fun k => spec_l10Read.j1 k s a n (i : Int) (decide (a + (i : Int) < s.size))) (fun k => ?_) ?_
    · simp only [spec_l10Read.l0]
      rw [if_pos (by omega), hw]
    · by_cases h1 : a + (i : Int) < s.size
      · obtain ⟨f1, f2, f3⟩ := step_facts n (bt s (a + i)) i (by omega) hn0 hn2 hb.1 hb.2
        have p1 : 0 ≤ a + (i : Int) := by omega
        have p2 : 0 ≤ 7 * (i : Int) := by omega
        have p3 : a ≤ a + (i : Int) + 1 := by omega
        have p4 : a + (i : Int) + 1 ≤ s.size := by omega
        have p5 : i + 1 + d = 5 := by omega
        have q1 : (i : Int) > 0 → 0 < i := fun h => by omega
        have q2 : 0 < i → (i : Int) > 0 := fun h => by omega
        have p6 : ((i + 1 : Nat) : Int) + a ≤ s.size := by omega
        have p7 : a + ((i + 1 : Nat) : Int) ≤ s.size := by omega
        have p8 : a + (i : Int) + 1 = a + ((i + 1 : Nat) : Int) := by omega
        have q3 : i ≠ 0 → 0 < i := fun h => by omega
        have hv : n + bt s (a + i) % 128 * pw i = pv (pre s a (i + 1)) := by rw [pre_succ, pv_snoc, pre_len, hn]
        have e1 : wrap64 (bt s (a + i)) = bt s (a + i) := w64 (by omega) (by omega)
        have e2 : wrap64 (7 * (i : Int)) = 7 * (i : Int) := w64 (by omega) (by omega)
        have e2' : IntKind.u64.wrap (7 * (i : Int)) = 7 * (i : Int) := by simp [IntKind.wrap, IntKind.bits, IntKind.signed]; omega
        have e3 : Int.tmod (bt s (a + i)) 128 = bt s (a + i) % 128 := Int.tmod_eq_emod_of_nonneg hb.1
        have e4 : shl .i64 (bt s (a + i) % 128) (7 * (i : Int)) = bt s (a + i) % 128 * pw i := shl7 _ i (by omega) (by omega) (by omega)
        have e5 : wrap64 (n + bt s (a + i) % 128 * pw i) = n + bt s (a + i) % 128 * pw i := w64 (by omega) (by omega)
        have e6 : wrap64 (a + (i : Int) + 1) = a + i + 1 := w64 (by omega) (by omega)
        have e7 : wrap64 ((i : Int) + 1) = ((i + 1 : Nat) : Int) := by rw [w64 (by omega) (by omega)]; omega
        simp only [rvGo]
        rw [if_pos h1, decide_eq_true h1]
        by_cases h2 : bt s (a + i) < 128
        · rw [if_pos h2]
          by_cases h5 : n + bt s (a + i) % 128 * pw i > 1073741823
          · rw [if_pos (.inr h5)]
            refine Ev.step (f := fun _ => some _) (fun k => ?_) (Ev.now _)
            simp only [spec_l10Read.j1, hw, e1, e2, e2', e3, e4, e5, e6, if_true]
            rw [if_pos p1, if_pos h1, if_pos p2, if_pos h2, if_pos h5]
          · obtain ⟨N, hN⟩ : ∃ N : Nat, n + bt s (a + i) % 128 * pw i = N := ⟨_, (Int.toNat_of_nonneg f1).symm⟩
            have hN2 : N ≤ 1099511627776 := by rw [hN] at f3; clear e1 e2 e2' e3 e4 e5 e6 e7 hw; omega
            refine Ev.step (f := fun k => (spec_l10Varint.f k (N : Int)).bind fun t => if t.toList = (s.extract a.toNat (a + i + 1).toNat).toList then some ((N : Int), a + i + 1, true) else some (0, 0, false)) (fun k => ?_) ?_
            · simp only [spec_l10Read.j1, hw, e1, e2, e2', e3, e4, e5, e6, if_true]
              rw [if_pos p1, if_pos h1, if_pos p2, if_pos h2, if_neg h5, hN]
              simp only [if_pos ha, if_pos p3, if_pos p4]
            · refine Ev.bind (varint_spec_f N hN2) ?_
              have hcut : s.extract a.toNat (a + i + 1).toNat = strOfNums (pre s a (i + 1)) := by
                rw [p8]; exact (son_cut s a (i + 1) ha p7).symm
              have hNv : (pv (pre s a (i + 1))).toNat = N := by rw [← hv, hN]; rfl
              rw [hcut, hN]
              by_cases h4 : 0 < i ∧ bt s (a + i) = 0
              · rw [show (if (0 < i ∧ bt s (a + i) = 0) ∨ (N : Int) > 1073741823 then ((0 : Int), (0 : Int), false) else ((N : Int), a + i + 1, true)) = (0, 0, false) from if_pos (.inl h4)]
                have hne : ¬ (strOfNums (vbytes N)).toList = (strOfNums (pre s a (i + 1))).toList := by
                  rw [toList_iff]
                  intro h
                  have h6 := son_inj (vbytes_range N) (fun x hx => by obtain ⟨j, _, rfl⟩ := List.mem_map.1 hx; exact bt_range _ _) h
                  rw [pre_succ, h4.2] at h6
                  exact canon_not _ N (fun e => by have := pre_len s a i; rw [e] at this; exact absurd h4.1 (by rw [← this]; exact Nat.lt_irrefl 0)) h6
                simp only [if_neg hne]
                exact Ev.now _
              · rw [show (if (0 < i ∧ bt s (a + i) = 0) ∨ (N : Int) > 1073741823 then ((0 : Int), (0 : Int), false) else ((N : Int), a + i + 1, true)) = ((N : Int), a + i + 1, true) from if_neg (fun h => Or.elim h h4 (by rw [hN] at h5; exact h5))]
                have heq : (strOfNums (vbytes N)).toList = (strOfNums (pre s a (i + 1))).toList := by
                  rw [toList_iff, ← hNv, pre_succ, canon _ _ hP hb.1 h2 ?_]
                  by_cases hi0 : i = 0
                  · left; subst hi0; rfl
                  · right; exact fun h => h4 ⟨q3 hi0, h⟩
                simp only [if_pos heq]
                exact Ev.now _
        · rw [if_neg h2]
          refine Ev.step (fun k => ?_) (ih _ (i + 1) p5 p6 hv (fun p hp => ?_))
          · simp only [spec_l10Read.j1, hw, e1, e2, e2', e3, e4, e5, e7, if_true]
            rw [if_pos p1, if_pos h1, if_pos p2, if_neg h2]
          · rw [pre_succ] at hp
            rcases List.mem_append.1 hp with hp | hp
            · exact hP p hp
            · simp only [List.mem_singleton] at hp; rw [hp]; exact ⟨Int.not_lt.1 h2, hb.2⟩
      · rw [decide_eq_false h1]
        simp only [rvGo]
        rw [if_neg h1]
        refine Ev.step (f := fun _ => some (0, 0, false)) (fun k => ?_) (Ev.now _)
        simp [spec_l10Read.j1]
theorem read_spec_f (s : ByteArray) (a : Int) (hs : s.size ≤ 140737488351232) (ha : 0 ≤ a) (ha2 : a ≤ s.size) : Ev (fun k => spec_l10Read.f k s a) (rv s a) :=
  read_spec s a hs ha ha2 5 0 0 rfl (by omega) rfl (by simp [pre])

theorem rvGo_ok (s : ByteArray) (a : Int) (d : Nat) : ∀ (n : Int) (i : Nat), 0 ≤ n → (rvGo s a d n i = (0, 0, false)) ∨ (∃ v e, rvGo s a d n i = (v, e, true) ∧ 0 ≤ v ∧ v ≤ 1073741823 ∧ a + i < e ∧ e ≤ s.size) := by
  induction d with
  | zero => intro n i h; exact .inl rfl
  | succ d ih =>
    intro n i h
    simp only [rvGo]
    have hb := bt_range s (a + i)
    have hp := pw_pos i
    have hm : 0 ≤ bt s (a + i) % 128 * pw i := Int.mul_nonneg (by omega) (by omega)
    split
    · split
      · split
        · exact .inl rfl
        · rename_i h1 h2 h3
          right
          exact ⟨_, _, rfl, by omega, Int.not_lt.1 (fun h => h3 (.inr h)), by omega, by omega⟩
      · rcases ih (n + bt s (a + i) % 128 * pw i) (i + 1) (by omega) with h1 | ⟨v, e, h1, h2, h3, h4, h5⟩
        · exact .inl h1
        · exact .inr ⟨v, e, h1, h2, h3, by omega, h5⟩
    · exact .inl rfl
theorem rv_ok (s : ByteArray) (a : Int) : (rv s a = (0, 0, false)) ∨ (∃ v e, rv s a = (v, e, true) ∧ 0 ≤ v ∧ v ≤ 1073741823 ∧ a < e ∧ e ≤ s.size) := by
  rcases rvGo_ok s a 5 0 0 (by omega) with h | ⟨v, e, h1, h2, h3, h4, h5⟩
  · exact .inl h
  · exact .inr ⟨v, e, h1, h2, h3, by omega, h5⟩
def unz (n : Int) : Int := if n % 2 = 1 then -((n + 1) / 2) else n / 2
theorem unz_range {n : Int} (h0 : 0 ≤ n) (h1 : n ≤ 1073741823) : -536870912 ≤ unz n ∧ unz n ≤ 536870911 := by
  unfold unz; split <;> omega
theorem unz_expr {n : Int} (h0 : 0 ≤ n) (h1 : n ≤ 1073741823) : (if Int.tmod n 2 = 1 then wrap64 (Int.tdiv (wrap64 (-(wrap64 (n + 1)))) 2) else wrap64 (Int.tdiv n 2)) = unz n := by
  unfold unz
  rw [Int.tmod_eq_emod_of_nonneg h0, Int.tdiv_eq_ediv_of_nonneg h0, w64 (x := n + 1) (by omega) (by omega), w64 (x := -(n + 1)) (by omega) (by omega), Int.neg_tdiv, Int.tdiv_eq_ediv_of_nonneg (by omega), w64 (x := -((n + 1) / 2)) (by omega) (by omega), w64 (x := n / 2) (by omega) (by omega)]
theorem spec_unz {n : Int} (h0 : 0 ≤ n) (h1 : n ≤ 1073741823) : spec_l10UnZig.f n = some (unz n) := by
  rw [← unz_expr h0 h1]
  unfold spec_l10UnZig.f
  split <;> rfl
/-- Reading so many numbers of a list from an index on. -/
def rdGo (s : ByteArray) : Nat → Int → Int → List Int → List Int × Int × Bool
  | 0, a, _, acc => (acc, a, true)
  | d + 1, a, last, acc =>
    if (rv s a).2.2 = true ∧ (rv s a).1 ≠ 1073741823 then
      if -1073741823 ≤ last + unz (rv s a).1 ∧ last + unz (rv s a).1 ≤ 1073741823 then rdGo s d (rv s a).2.1 (last + unz (rv s a).1) (acc ++ [last + unz (rv s a).1])
      else ([], 0, false)
    else ([], 0, false)
def readList (s : ByteArray) (a : Int) : List Int × Int × Bool :=
  if (rv s a).2.2 = true ∧ (rv s a).1 ≤ 200 then rdGo s (rv s a).1.toNat (rv s a).2.1 0 [] else ([], 0, false)
theorem rdGo_len (s : ByteArray) (d : Nat) : ∀ (a last : Int) (acc : List Int), (rdGo s d a last acc).1.length ≤ acc.length + d := by
  induction d with
  | zero => intro a last acc; simp [rdGo]
  | succ d ih =>
    intro a last acc
    simp only [rdGo]
    split
    · split
      · have := ih (rv s a).2.1 (last + unz (rv s a).1) (acc ++ [last + unz (rv s a).1])
        simp only [List.length_append, List.length_cons, List.length_nil] at this
        omega
      · simp
    · simp
theorem readList_len (s : ByteArray) (a : Int) : (readList s a).1.length ≤ 200 := by
  unfold readList
  split
  · rename_i h
    have := rdGo_len s (rv s a).1.toNat (rv s a).2.1 0 []
    simp only [List.length_nil] at this
    omega
  · simp
theorem spec_rl_l0 (s : ByteArray) (hs : s.size ≤ 140737488351232) (d : Nat) : ∀ (a last : Int) (acc : List Int), 0 ≤ a → a ≤ s.size → -1073741823 ≤ last → last ≤ 1073741823 → acc.length + d ≤ 1000 →
    Ev (fun k => spec_l10ReadList.l0 k s a (d : Int) acc last) (rdGo s d a last acc) := by
  induction d with
  | zero =>
    intro a last acc ha ha2 hl hl2 hc
    refine Ev.succ ?_
    simp only [spec_l10ReadList.l0]
    exact Ev.neg (by omega) (Ev.ret _)
  | succ d ih =>
    intro a last acc ha ha2 hl hl2 hc
    refine Ev.succ ?_
    simp only [spec_l10ReadList.l0]
    refine Ev.pos (by omega) (Ev.bnd (read_spec_f s a hs ha ha2) ?_)
    simp only [rdGo]
    rcases rv_ok s a with h | ⟨v, e, h, h0, h1, h2, h3⟩
    · rw [h]
      refine Ev.neg (by simp) (Ev.succ ?_)
      simp only [spec_l10ReadList.j2]
      exact Ev.pos trivial (Ev.eq (Ev.ret _) (by simp))
    · rw [h]
      refine Ev.pos rfl (Ev.succ ?_)
      simp only [spec_l10ReadList.j2]
      by_cases g : v = 1073741823
      · subst g
        exact Ev.pos (by simp) (Ev.eq (Ev.ret _) (by simp))
      · refine Ev.neg (by simpa using g) (Ev.bnd1 (spec_unz h0 h1) ?_)
        have hu := unz_range h0 h1
        rw [w64 (x := last + unz v) (by omega) (by omega), if_pos ⟨trivial, g⟩]
        by_cases g1 : -1073741823 ≤ last + unz v ∧ last + unz v ≤ 1073741823
        · rw [if_pos g1]
          refine Ev.bnd1 (a := true) (by unfold spec_l1In.f; rw [if_pos g1.1, decide_eq_true g1.2]) ?_
          refine Ev.pos rfl (Ev.pos (by omega) ?_)
          rw [show wrap64 (((d + 1 : Nat) : Int) - 1) = (d : Int) by rw [w64 (by omega) (by omega)]; omega]
          exact ih e (last + unz v) (acc ++ [last + unz v]) (by omega) h3 g1.1 g1.2 (by simp only [List.length_append, List.length_cons, List.length_nil]; omega)
        · rw [if_neg g1]
          refine Ev.bnd1 (a := false) ?_ (Ev.neg (by simp) (Ev.ret _))
          unfold spec_l1In.f
          by_cases g2 : last + unz v ≥ -1073741823
          · rw [if_pos g2, decide_eq_false (by omega)]
          · rw [if_neg g2]
theorem spec_rl (s : ByteArray) (a : Int) (hs : s.size ≤ 140737488351232) (ha : 0 ≤ a) (ha2 : a ≤ s.size) : Ev (fun k => spec_l10ReadList.f k s a) (readList s a) := by
  simp only [spec_l10ReadList.f]
  refine Ev.bnd (read_spec_f s a hs ha ha2) ?_
  unfold readList
  rcases rv_ok s a with h | ⟨v, e, h, h0, h1, h2, h3⟩
  · rw [h]
    refine Ev.neg (by simp) (Ev.succ ?_)
    simp only [spec_l10ReadList.j0]
    exact Ev.pos trivial (Ev.eq (Ev.ret _) (by simp))
  · rw [h]
    refine Ev.pos rfl (Ev.succ ?_)
    simp only [spec_l10ReadList.j0]
    by_cases g : v ≤ 200
    · refine Ev.neg (by simpa using g) ?_
      rw [if_pos ⟨trivial, g⟩]
      have := spec_rl_l0 s hs v.toNat e 0 [] (by omega) h3 (by omega) (by omega) (by simp only [List.length_nil]; omega)
      rw [show ((v.toNat : Nat) : Int) = v by omega] at this
      exact this
    · refine Ev.pos (by simpa using g) (Ev.eq (Ev.ret _) ?_)
      rw [if_neg (fun h => g h.2)]

theorem impl_unz_in {n : Int} (h0 : 0 ≤ n) (h1 : n ≤ 1073741822) : Ev (fun k => impl_UnZig.f k n) (unz n, true) := by
  simp only [impl_UnZig.f]
  refine Ev.neg (by omega) ?_
  rw [decide_eq_false (by omega)]
  refine Ev.succ ?_
  simp only [impl_UnZig.j0]
  refine Ev.neg (by simp) ?_
  have e := unz_expr h0 (by omega)
  by_cases g : Int.tmod n 2 = 1
  · rw [if_pos g] at e
    exact Ev.pos g (Ev.eq (Ev.ret _) (by rw [e]))
  · rw [if_neg g] at e
    exact Ev.neg g (Ev.eq (Ev.ret _) (by rw [e]))
theorem impl_unz_out {n : Int} (h : n > 1073741822) : Ev (fun k => impl_UnZig.f k n) (0, false) := by
  simp only [impl_UnZig.f]
  refine Ev.neg (by omega) ?_
  rw [decide_eq_true h]
  refine Ev.succ ?_
  simp only [impl_UnZig.j0]
  exact Ev.pos trivial (Ev.ret _)
theorem impl_rl_l0 (s : ByteArray) (hs : s.size ≤ 100000) (m : Int) (hm : m ≤ 1000) (d : Nat) : ∀ (a last : Int) (acc : List Int) (i : Int), 0 ≤ i → i + d = m → 0 ≤ a → a ≤ s.size → -1073741823 ≤ last → last ≤ 1073741823 → acc.length + d ≤ 1000 →
    Ev (fun k => impl_ReadList.l0 k s a acc last m i) (rdGo s d a last acc) := by
  induction d with
  | zero =>
    intro a last acc i hi hi2 ha ha2 hl hl2 hc
    refine Ev.succ ?_
    simp only [impl_ReadList.l0]
    exact Ev.neg (by omega) (Ev.ret _)
  | succ d ih =>
    intro a last acc i hi hi2 ha ha2 hl hl2 hc
    refine Ev.succ ?_
    simp only [impl_ReadList.l0]
    refine Ev.pos (by omega) (Ev.bnd (read_impl_f s a hs ha ha2) ?_)
    simp only [rdGo]
    rcases rv_ok s a with h | ⟨v, e, h, h0, h1, h2, h3⟩
    · rw [h]
      exact Ev.neg (by simp) (Ev.eq (Ev.ret _) (by simp))
    · rw [h]
      refine Ev.pos rfl ?_
      by_cases g : v = 1073741823
      · subst g
        exact Ev.bnd (impl_unz_out (by omega)) (Ev.neg (by simp) (Ev.eq (Ev.ret _) (by simp)))
      · refine Ev.bnd (impl_unz_in h0 (by omega)) (Ev.pos rfl ?_)
        have hu := unz_range h0 h1
        simp only
        rw [w64 (x := last + unz v) (by omega) (by omega), if_pos ⟨trivial, g⟩]
        by_cases g1 : last + unz v < -1073741823
        · exact Ev.pos g1 (Ev.eq (Ev.ret _) (by rw [if_neg (by omega)]))
        · refine Ev.neg g1 ?_
          by_cases g2 : last + unz v > 1073741823
          · exact Ev.pos g2 (Ev.eq (Ev.ret _) (by rw [if_neg (by omega)]))
          · refine Ev.neg g2 (Ev.pos (by omega) ?_)
            rw [w64 (x := i + 1) (by omega) (by omega), if_pos ⟨by omega, by omega⟩]
            exact ih e (last + unz v) (acc ++ [last + unz v]) (i + 1) (by omega) (by omega) (by omega) h3 (by omega) (by omega) (by simp only [List.length_append, List.length_cons, List.length_nil]; omega)
theorem impl_rl (s : ByteArray) (a : Int) (hs : s.size ≤ 100000) (ha : 0 ≤ a) (ha2 : a ≤ s.size) : Ev (fun k => impl_ReadList.f k s a) (readList s a) := by
  simp only [impl_ReadList.f]
  refine Ev.bnd (read_impl_f s a hs ha ha2) ?_
  unfold readList
  rcases rv_ok s a with h | ⟨v, e, h, h0, h1, h2, h3⟩
  · rw [h]
    refine Ev.neg (by simp) (Ev.succ ?_)
    simp only [impl_ReadList.j0]
    exact Ev.pos trivial (Ev.eq (Ev.ret _) (by simp))
  · rw [h]
    refine Ev.pos rfl (Ev.succ ?_)
    simp only [impl_ReadList.j0]
    by_cases g : v ≤ 200
    · refine Ev.neg (by simpa using g) ?_
      rw [if_pos ⟨trivial, g⟩]
      exact impl_rl_l0 s hs v (by omega) v.toNat e 0 [] 0 (by omega) (by omega) (by omega) h3 (by omega) (by omega) (by simp only [List.length_nil]; omega)
    · refine Ev.pos (by simpa using g) (Ev.eq (Ev.ret _) ?_)
      rw [if_neg (fun h => g h.2)]
theorem impl_rl_far (s : ByteArray) (a : Int) (h : s.size > 100000 ∨ a < 0 ∨ (s.size : Int) ≤ a ∧ a ≤ 9223372036854775807) : Ev (fun k => impl_ReadList.f k s a) ([], 0, false) := by
  simp only [impl_ReadList.f]
  refine Ev.bnd (read_impl_far s a h) (Ev.neg (by simp) (Ev.succ ?_))
  simp only [impl_ReadList.j0]
  exact Ev.pos trivial (Ev.ret _)

theorem eqIntS_l0 (pa : List Int) : ∀ (pa' pb pb' : List Int), pa'.length = pb'.length → pa.length = pb.length → (pa' ++ pa).length ≤ 140737488351232 → Ev (fun k => laws_eqIntS.l0 k (pa' ++ pa) (pb' ++ pb) (pa'.length : Int)) (decide (pa = pb)) := by
  induction pa with
  | nil =>
    intro pa' pb pb' h1 h2 hl
    obtain rfl : pb = [] := List.eq_nil_of_length_eq_zero h2.symm
    refine Ev.succ ?_
    simp only [laws_eqIntS.l0]
    exact Ev.neg (by simp) (Ev.eq (Ev.ret _) (by simp))
  | cons x pa ih =>
    intro pa' pb pb' h1 h2 hl
    obtain ⟨y, pb, rfl⟩ : ∃ y t, pb = y :: t := by cases pb with | nil => simp at h2 | cons y t => exact ⟨y, t, rfl⟩
    have h := ih (pa' ++ [x]) pb (pb' ++ [y]) (by simpa using h1) (by simpa using h2) (by simpa using hl)
    simp only [List.length_append, List.length_cons, List.length_nil] at hl h2 h
    refine Ev.succ ?_
    simp only [laws_eqIntS.l0, List.length_append, List.length_cons]
    refine Ev.pos (by omega) (Ev.pos (by omega) (Ev.pos (by omega) ?_))
    rw [rd_mid, show (pa'.length : Int) = (pb'.length : Int) by omega, rd_mid]
    by_cases e : x = y
    · subst e
      refine Ev.pos rfl ?_
      rw [w64 (by omega) (by omega)]
      refine Ev.eq (Ev.congr (fun k => ?_) h) (by simp)
      simp [h1]
    · exact Ev.neg e (Ev.eq (Ev.ret _) (by simp [e]))
theorem eqIntS (a b : List Int) (h : a.length ≤ 140737488351232) : Ev (fun k => laws_eqIntS.f k a b) (decide (a = b)) := by
  simp only [laws_eqIntS.f]
  by_cases e : a.length = b.length
  · exact Ev.pos (by omega) (by simpa using eqIntS_l0 a [] b [] rfl e (by simpa using h))
  · exact Ev.neg (by omega) (Ev.eq (Ev.ret _) (by simp only [false_eq_decide_iff]; intro h; exact e (by rw [h])))
theorem eqIntS_self (a : List Int) (h : a.length ≤ 140737488351232) : Ev (fun k => laws_eqIntS.f k a a) true := Ev.eq (eqIntS a a h) (by simp)

def ups : Int → Nat → List Int
  | _, 0 => []
  | m, n + 1 => m :: ups (m + 1) n
theorem ups_len (n : Nat) : ∀ m, (ups m n).length = n := by
  induction n with
  | zero => intro m; rfl
  | succ n ih => intro m; simp [ups, ih]
theorem markIntS_l0 (post : List Int) : ∀ (pre : List Int) (m : Int), 0 ≤ m → m + post.length ≤ 4611686018427387904 → (pre ++ post).length ≤ 140737488351232 → Ev (fun k => laws_markIntS.l0 k (pre ++ post) m (pre.length : Int)) (m + post.length, pre ++ ups m post.length) := by
  induction post with
  | nil =>
    intro pre m h0 h1 hl
    refine Ev.succ ?_
    simp only [laws_markIntS.l0]
    exact Ev.neg (by simp) (Ev.eq (Ev.ret _) (by simp [ups]))
  | cons x post ih =>
    intro pre m h0 h1 hl
    simp only [List.length_append, List.length_cons] at hl h1
    have h := ih (pre ++ [m]) (m + 1) (by omega) (by omega) (by simp only [List.length_append, List.length_cons, List.length_nil]; omega)
    refine Ev.succ ?_
    simp only [laws_markIntS.l0]
    refine Ev.pos (by simp only [List.length_append, List.length_cons]; omega) (Ev.pos (by omega) ?_)
    rw [w64 (x := m + 1) (by omega) (by omega), w64 (by omega) (by omega)]
    have e : (pre ++ x :: post).set ((pre.length : Int)).toNat m = pre ++ [m] ++ post := by simp
    rw [e]
    refine Ev.eq (by simpa using h) ?_
    simp only [ups, List.length_cons, Prod.mk.injEq]
    exact ⟨by omega, trivial⟩
theorem markIntS (l : List Int) (m : Int) (h0 : 0 ≤ m) (h1 : m + l.length ≤ 4611686018427387904) (hl : l.length ≤ 140737488351232) : Ev (fun k => laws_markIntS.f k l m) (m + l.length, ups m l.length) := by
  simp only [laws_markIntS.f]
  simpa using markIntS_l0 l [] m h0 h1 (by simpa using hl)
theorem heldIntS_l0 (n : Nat) : ∀ (pre : List Int) (m : Int), 0 ≤ m → m + n ≤ 4611686018427387904 → pre.length + n ≤ 140737488351232 → Ev (fun k => laws_heldIntS.l0 k (pre ++ ups m n) m (pre.length : Int)) (m + n) := by
  induction n with
  | zero =>
    intro pre m h0 h1 hl
    refine Ev.succ ?_
    simp only [laws_heldIntS.l0]
    exact Ev.neg (by simp [ups]) (Ev.eq (Ev.ret _) (by simp))
  | succ n ih =>
    intro pre m h0 h1 hl
    have h := ih (pre ++ [m]) (m + 1) (by omega) (by omega) (by simp only [List.length_append, List.length_cons, List.length_nil]; omega)
    refine Ev.succ ?_
    simp only [laws_heldIntS.l0]
    refine Ev.pos (by simp only [List.length_append, ups_len]; omega) (Ev.pos (by omega) (Ev.pos (by simp only [ups]; exact rd_mid _ _ _) ?_))
    rw [w64 (x := m + 1) (by omega) (by omega), w64 (by omega) (by omega)]
    refine Ev.eq (by simpa [ups] using h) (by omega)
theorem heldIntS (n : Nat) (m : Int) (h0 : 0 ≤ m) (h1 : m + n ≤ 4611686018427387904) (hl : n ≤ 140737488351232) : Ev (fun k => laws_heldIntS.f k (ups m n) m) (m + n) := by
  simp only [laws_heldIntS.f]
  simpa using heldIntS_l0 n [] m h0 h1 (by simpa using hl)

theorem FnExactReadList : laws_FnExactReadList.Pure := by
  intro s a hs hw
  have hb := wf64 hw
  refine Ev.all ?_
  simp only [laws_FnExactReadList.f]
  by_cases g0 : (s.size : Int) > 1048576
  · exact Ev.pos g0 (Ev.ret _)
  · refine Ev.neg g0 ?_
    obtain ⟨r, hr, hs1, hi1⟩ : ∃ r : List Int × Int × Bool, r.1.length ≤ 200 ∧ Ev (fun k => spec_ReadList.f k s a) r ∧ Ev (fun k => impl_ReadList.f k s a) r := by
      by_cases g : s.size ≤ 100000 ∧ 0 ≤ a ∧ a ≤ s.size
      · refine ⟨readList s a, readList_len s a, ?_, impl_rl s a g.1 g.2.1 g.2.2⟩
        simp only [spec_ReadList.f]
        refine Ev.bnd1 (a := true) (by unfold spec_l10Text.f; rw [decide_eq_true (by omega)]) (Ev.pos rfl ?_)
        refine Ev.bnd1 (a := true) (by unfold spec_l1In.f; rw [if_pos g.2.1, decide_eq_true g.2.2]) (Ev.pos rfl ?_)
        exact Ev.bnd (spec_rl s a hs g.2.1 g.2.2) (Ev.ret _)
      · refine ⟨([], 0, false), by simp, ?_, impl_rl_far s a (by omega)⟩
        simp only [spec_ReadList.f]
        by_cases g1 : s.size ≤ 100000
        · refine Ev.bnd1 (a := true) (by unfold spec_l10Text.f; rw [decide_eq_true (by omega)]) (Ev.pos rfl ?_)
          refine Ev.bnd1 (a := false) ?_ (Ev.neg (by simp) (Ev.ret _))
          unfold spec_l1In.f
          by_cases g2 : a ≥ 0
          · rw [if_pos g2, decide_eq_false (by omega)]
          · rw [if_neg g2]
        · exact Ev.bnd1 (a := false) (by unfold spec_l10Text.f; rw [decide_eq_false (by omega)]) (Ev.neg (by simp) (Ev.ret _))
    refine Ev.bnd hs1 (Ev.bnd hi1 (Ev.bnd (eqIntS_self r.1 (by omega)) (Ev.pos rfl (Ev.pos rfl ?_))))
    refine Ev.succ ?_
    simp only [laws_FnExactReadList.j0]
    refine Ev.neg (by simp) ?_
    refine Ev.bnd (markIntS r.1 1 (by omega) (by omega) (by omega)) (Ev.bnd (heldIntS r.1.length 1 (by omega) (by omega) (by omega)) ?_)
    refine Ev.neg (by omega) (Ev.pos rfl ?_)
    refine Ev.bnd hi1 (Ev.bnd (eqIntS_self r.1 (by omega)) (Ev.pos rfl (Ev.pos rfl (Ev.succ ?_))))
    simp only [laws_FnExactReadList.j1]
    refine Ev.neg (by simp) (Ev.bnd (heldIntS r.1.length 1 (by omega) (by omega) (by omega)) ?_)
    exact Ev.neg (by omega) (Ev.pos rfl (Ev.ret _))

end Go.Proofs.Ytgbjmojghcbneab.Pure
