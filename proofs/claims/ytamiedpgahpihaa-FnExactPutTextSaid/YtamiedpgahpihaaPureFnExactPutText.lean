/- The program's PutText returns what the reference's returns, for all arguments, and what it returns is the caller's own.
Conditions: none beyond what the row itself says. -/
import Derived.Test.YtamiedpgahpihaaQFnExactPutTextx10
namespace Go.Proofs.Ytamiedpgahpihaa.Pure
open Go.RowKit Go.Proofs.Ytamiedpgahpihaa.QFnExactPutText Go.Proofs.YtamiedpgahpihaaW.PrintWords Go.Proofs.YtamiedpgahpihaaW.PrintLast Go.Proofs.YtamiedpgahpihaaW.PrintMore
set_option linter.unusedVariables false
set_option linter.unusedSimpArgs false

theorem w64 {x : Int} (h0 : -9223372036854775808 ≤ x) (h1 : x ≤ 9223372036854775807) : wrap64 x = x := by
  unfold wrap64; omega
theorem wf64 {a : Int} (h : (Lit.int .i64 a).wf = true) : -9223372036854775808 ≤ a ∧ a ≤ 9223372036854775807 := by
  simp only [Lit.wf, IntKind.min, IntKind.max, IntKind.signed, IntKind.bits, Bool.and_eq_true, decide_eq_true_eq, if_true] at h
  omega

theorem Ev.succ {α : Type} {g : Nat → Option α} {r : α} (h : Ev (fun k => g (k + 1)) r) : Ev g r := Ev.step (fun _ => rfl) h
theorem Ev.pos {α : Type} {c : Prop} [Decidable c] {a b : Nat → Option α} {r : α} (h : c) (e : Ev (fun k => a k) r) : Ev (fun k => if c then a k else b k) r := Ev.congr (fun _ => if_pos h) e
theorem Ev.neg {α : Type} {c : Prop} [Decidable c] {a b : Nat → Option α} {r : α} (h : ¬ c) (e : Ev (fun k => b k) r) : Ev (fun k => if c then a k else b k) r := Ev.congr (fun _ => if_neg h) e
theorem Ev.bnd {α β : Type} {g : Nat → Option α} {f : Nat → α → Option β} {a : α} {r : β} (h : Ev (fun k => g k) a) (k : Ev (fun n => f n a) r) : Ev (fun n => (g n).bind (fun x => f n x)) r := Ev.bind h k
theorem Ev.bnd1 {α β : Type} {g : Option α} {f : Nat → α → Option β} {a : α} {r : β} (h : g = some a) (k : Ev (fun n => f n a) r) : Ev (fun n => g.bind (fun x => f n x)) r := by
  rw [h]; exact k
theorem Ev.ret {α : Type} (r : α) : Ev (fun _ => some r) r := Ev.now r
theorem Ev.eq {α : Type} {g : Nat → Option α} {r r' : α} (h : Ev g r) (e : r = r') : Ev g r' := e ▸ h
theorem Ev.all {α : Type} {g : Nat → Option α} {r : α} (h : Ev (fun k => g k) r) : ∃ k, g k = some r := h.rounds
theorem rd_mid (pre : List Int) (x : Int) (post : List Int) : rd (pre ++ x :: post) (pre.length : Int) = x := by
  unfold rd; simp
theorem rd_nat (xs : List Int) (i : Nat) (h : i < xs.length) : rd xs (i : Int) = xs[i] := by
  unfold rd; simp [List.getD_eq_getElem?_getD, List.getElem?_eq_getElem h]

theorem son_append (xs ys : List Int) : strOfNums xs ++ strOfNums ys = strOfNums (xs ++ ys) := by
  apply ByteArray.ext
  simp [strOfNums]
theorem son_nil : (⟨#[]⟩ : ByteArray) = strOfNums [] := by simp [strOfNums]
/-- The base-128 digits of a number, as bytes. -/
def vbytes (n : Nat) : List Int := if n < 128 then [(n : Int)] else ((n % 128 + 128 : Nat) : Int) :: vbytes (n / 128)
termination_by n
decreasing_by omega
theorem vbytes_lt {n : Nat} (h : n < 128) : vbytes n = [(n : Int)] := by rw [vbytes, if_pos h]
theorem vbytes_ge {n : Nat} (h : ¬ n < 128) : vbytes n = ((n % 128 + 128 : Nat) : Int) :: vbytes (n / 128) := by rw [vbytes, if_neg h]
theorem vbytes_pos (n : Nat) : 0 < (vbytes n).length := by
  rw [vbytes]; split <;> simp
theorem vbytes_len (n : Nat) : (vbytes n).length ≤ n + 1 := by
  induction n using Nat.strongRecOn with
  | _ n ih =>
    by_cases h : n < 128
    · rw [vbytes_lt h]; simp
    · rw [vbytes_ge h]
      have := ih (n / 128) (by omega)
      simp only [List.length_cons]
      omega
theorem tdiv_nat (n m : Nat) : Int.tdiv (n : Int) (m : Int) = ((n / m : Nat) : Int) := rfl
theorem tmod_nat (n m : Nat) : Int.tmod (n : Int) (m : Int) = ((n % m : Nat) : Int) := rfl

/-! Strings as lists of numbers. -/
theorem bo_size (s : ByteArray) : (bytesOf s).length = s.size := by
  unfold bytesOf; rw [List.length_map, data_length]
theorem bo_range (s : ByteArray) : ∀ x ∈ bytesOf s, 0 ≤ x ∧ x ≤ 255 := by
  intro x hx
  unfold bytesOf at hx
  obtain ⟨b, _, rfl⟩ := List.mem_map.1 hx
  have := b.toNat_lt
  omega
theorem bo_son (xs : List Int) (h : ∀ x ∈ xs, 0 ≤ x ∧ x ≤ 255) : bytesOf (strOfNums xs) = xs := by
  unfold bytesOf
  rw [strOfNums_data, List.map_map]
  conv => rhs; rw [← List.map_id xs]
  apply List.map_congr_left
  intro x hx
  have := h x hx
  simp only [Function.comp_apply, id_eq, UInt8.toNat_ofNat']
  omega
theorem son_bo (s : ByteArray) : strOfNums (bytesOf s) = s := by
  apply ByteArray.ext
  apply Array.toList_inj.1
  rw [strOfNums_data]
  unfold bytesOf
  rw [List.map_map]
  conv => rhs; rw [← List.map_id s.data.toList]
  apply List.map_congr_left
  intro x _
  simp
theorem bo_inj {a b : ByteArray} (h : bytesOf a = bytesOf b) : a = b := by rw [← son_bo a, ← son_bo b, h]
theorem toList_iff (a b : ByteArray) : a.toList = b.toList ↔ a = b := by
  rw [ByteArray.toList_eq, ByteArray.toList_eq]
  exact ⟨fun h => ByteArray.ext (Array.toList_inj.1 h), fun h => by rw [h]⟩
theorem son_inj {xs ys : List Int} (hx : ∀ x ∈ xs, 0 ≤ x ∧ x ≤ 255) (hy : ∀ x ∈ ys, 0 ≤ x ∧ x ≤ 255) (h : strOfNums xs = strOfNums ys) : xs = ys := by
  rw [← bo_son xs hx, ← bo_son ys hy, h]
theorem bo_append (a b : ByteArray) : bytesOf (a ++ b) = bytesOf a ++ bytesOf b := by
  unfold bytesOf; simp
theorem bo_extract (s : ByteArray) (a b : Nat) : bytesOf (s.extract a b) = ((bytesOf s).take b).drop a := by
  unfold bytesOf
  rw [ByteArray.data_extract, Array.toList_extract, List.extract_eq_take_drop, ← List.map_take, ← List.map_drop, List.drop_take]
theorem bo_bt (s : ByteArray) (i : Int) : bt s i = (bytesOf s).getD i.toNat 0 := by
  unfold bt bytesOf
  split
  · rename_i h
    rw [List.getD_eq_getElem?_getD, List.getElem?_map, List.getElem?_eq_getElem (by rw [data_length]; exact h)]
    rfl
  · rename_i h
    rw [List.getD_eq_getElem?_getD, List.getElem?_map, List.getElem?_eq_none (by rw [data_length]; omega)]
    rfl
theorem bo_empty : bytesOf (⟨#[]⟩ : ByteArray) = [] := rfl
theorem son_cut (s : ByteArray) (a : Int) (n : Nat) (h0 : 0 ≤ a) (h : a + n ≤ s.size) :
    strOfNums ((List.range n).map fun (j : Nat) => bt s (a + (j : Int))) = s.extract a.toNat (a + n).toNat := by
  apply bo_inj
  rw [bo_son _ (fun x hx => by obtain ⟨j, _, rfl⟩ := List.mem_map.1 hx; exact bt_range _ _), bo_extract]
  apply List.ext_getElem
  · simp only [List.length_map, List.length_range, List.length_drop, List.length_take, bo_size]; omega
  · intro j h1 h2
    simp only [List.length_map, List.length_range] at h1
    rw [List.getElem_map, List.getElem_range, List.getElem_drop, List.getElem_take, bo_bt, List.getD_eq_getElem?_getD, List.getElem?_eq_getElem (by rw [bo_size]; omega)]
    simp only [Option.getD_some]
    congr 1
    omega

theorem rds_mid (pre : List ByteArray) (x : ByteArray) (post : List ByteArray) : rdOf ByteArray.empty (pre ++ x :: post) (pre.length : Int) = x := by
  unfold rdOf; simp
/-- How many strings and bytes there are. -/
def szs : List ByteArray → Nat
  | [] => 0
  | s :: t => s.size + szs t
theorem szStringS_l0 (post : List ByteArray) : ∀ (pre : List ByteArray) (a : Int), 0 ≤ a → a ≤ 1048576 → (∀ s ∈ post, s.size ≤ 9223372036854775807) → (pre ++ post).length ≤ 1048576 → Ev (fun k => laws_szStringS.l0 k (pre ++ post) a (pre.length : Int)) (if (szs post : Int) ≤ a then a - szs post else -1) := by
  induction post with
  | nil =>
    intro pre a h0 h1 hs hl
    refine Ev.succ ?_
    simp only [laws_szStringS.l0]
    refine Ev.neg (by simp) (Ev.eq (Ev.ret _) ?_)
    rw [if_pos (by simp only [szs]; omega)]
    simp [szs]
  | cons s post ih =>
    intro pre a h0 h1 hs hl
    have hsz := hs s (by simp)
    have hl' := hl
    simp only [List.length_append, List.length_cons] at hl
    refine Ev.succ ?_
    simp only [laws_szStringS.l0]
    refine Ev.pos (by simp only [List.length_append, List.length_cons]; omega) (Ev.pos (by omega) ?_)
    rw [rds_mid, w64 (x := a - (s.size : Int)) (by omega) (by omega), w64 (x := (pre.length : Int) + 1) (by omega) (by omega)]
    by_cases g : a - (s.size : Int) < 0
    · refine Ev.pos g (Ev.eq (Ev.ret _) ?_)
      rw [if_neg (by simp only [szs]; omega)]
    · refine Ev.neg g ?_
      have h := ih (pre ++ [s]) (a - s.size) (by omega) (by omega) (fun x hx => hs x (by simp [hx])) (by simpa using hl')
      have e : szs (s :: post) = s.size + szs post := rfl
      refine Ev.eq (by simpa using h) ?_
      by_cases g2 : (szs post : Int) ≤ a - s.size
      · rw [if_pos g2, if_pos (show ((szs (s :: post) : Nat) : Int) ≤ a by rw [e]; omega), e]; omega
      · rw [if_neg g2, if_neg (show ¬((szs (s :: post) : Nat) : Int) ≤ a by rw [e]; omega)]
theorem szStringS (l : List ByteArray) (a : Int) (h0 : 0 ≤ a) (h1 : a ≤ 1048576) (hl : l.length ≤ 9223372036854775807) (hs : ∀ s ∈ l, s.size ≤ 9223372036854775807) : Ev (fun k => laws_szStringS.f k l a) (if (l.length : Int) + szs l ≤ a then a - (l.length + szs l) else -1) := by
  simp only [laws_szStringS.f]
  rw [w64 (x := a - (l.length : Int)) (by omega) (by omega)]
  by_cases g : a - (l.length : Int) < 0
  · refine Ev.pos g (Ev.eq (Ev.ret _) ?_)
    rw [if_neg (by omega)]
  · refine Ev.neg g ?_
    have h := szStringS_l0 l [] (a - l.length) (by omega) (by omega) hs (by simp; omega)
    refine Ev.eq (by simpa using h) ?_
    by_cases g2 : (szs l : Int) ≤ a - l.length
    · rw [if_pos g2, if_pos (by omega)]; omega
    · rw [if_neg g2, if_neg (by omega)]
theorem toStringS_l0 (post : List ByteArray) : ∀ (pre rest : List ByteArray), rest.length = post.length → (pre ++ post).length ≤ 140737488351232 → Ev (fun k => laws_toStringS.l0 k (pre ++ post) (pre ++ rest) (pre.length : Int)) (pre ++ post) := by
  induction post with
  | nil =>
    intro pre rest hr hl
    obtain rfl : rest = [] := List.eq_nil_of_length_eq_zero hr
    refine Ev.succ ?_
    simp only [laws_toStringS.l0]
    exact Ev.neg (by simp) (Ev.ret _)
  | cons x post ih =>
    intro pre rest hr hl
    obtain ⟨y, rest, rfl⟩ : ∃ y t, rest = y :: t := by cases rest with | nil => simp at hr | cons y t => exact ⟨y, t, rfl⟩
    have h := ih (pre ++ [x]) rest (by simpa using hr) (by simpa using hl)
    simp only [List.length_append, List.length_cons, List.length_nil] at hl hr h
    refine Ev.succ ?_
    simp only [laws_toStringS.l0, List.length_append, List.length_cons]
    refine Ev.pos (by omega) (Ev.pos (by omega) (Ev.pos (by omega) ?_))
    rw [rds_mid, w64 (by omega) (by omega)]
    have e : (pre ++ y :: rest).set ((pre.length : Int)).toNat x = pre ++ [x] ++ rest := by simp
    rw [e]
    simpa using h
theorem toStringS (l : List ByteArray) (h : l.length ≤ 1048576) : Ev (fun k => laws_toStringS.f k l) l := by
  simp only [laws_toStringS.f]
  refine Ev.pos (by omega) (Ev.pos (by omega) ?_)
  have := toStringS_l0 l [] (List.replicate l.length (⟨#[]⟩ : ByteArray)) (by simp) (by simp; omega)
  simpa using this
theorem eqStringS_l0 (pa : List ByteArray) : ∀ (pa' pb pb' : List ByteArray), pa'.length = pb'.length → pa.length = pb.length → (pa' ++ pa).length ≤ 140737488351232 → Ev (fun k => laws_eqStringS.l0 k (pa' ++ pa) (pb' ++ pb) (pa'.length : Int)) (decide (pa = pb)) := by
  induction pa with
  | nil =>
    intro pa' pb pb' h1 h2 hl
    obtain rfl : pb = [] := List.eq_nil_of_length_eq_zero h2.symm
    refine Ev.succ ?_
    simp only [laws_eqStringS.l0]
    exact Ev.neg (by simp) (Ev.eq (Ev.ret _) (by simp))
  | cons x pa ih =>
    intro pa' pb pb' h1 h2 hl
    obtain ⟨y, pb, rfl⟩ : ∃ y t, pb = y :: t := by cases pb with | nil => simp at h2 | cons y t => exact ⟨y, t, rfl⟩
    have h := ih (pa' ++ [x]) pb (pb' ++ [y]) (by simpa using h1) (by simpa using h2) (by simpa using hl)
    simp only [List.length_append, List.length_cons, List.length_nil] at hl h2 h
    refine Ev.succ ?_
    simp only [laws_eqStringS.l0, List.length_append, List.length_cons]
    refine Ev.pos (by omega) (Ev.pos (by omega) (Ev.pos (by omega) ?_))
    rw [rds_mid, show (pa'.length : Int) = (pb'.length : Int) by omega, rds_mid]
    by_cases e : x = y
    · subst e
      refine Ev.pos rfl ?_
      rw [w64 (by omega) (by omega)]
      refine Ev.eq (Ev.congr (fun k => ?_) h) (by simp)
      simp [h1]
    · exact Ev.neg (fun h => e ((toList_iff _ _).1 h)) (Ev.eq (Ev.ret _) (by simp [e]))
theorem eqStringS (a b : List ByteArray) (h : a.length ≤ 140737488351232) : Ev (fun k => laws_eqStringS.f k a b) (decide (a = b)) := by
  simp only [laws_eqStringS.f]
  by_cases e : a.length = b.length
  · exact Ev.pos (by omega) (by simpa using eqStringS_l0 a [] b [] rfl e (by simpa using h))
  · exact Ev.neg (by omega) (Ev.eq (Ev.ret _) (by simp only [false_eq_decide_iff]; intro h; exact e (by rw [h])))
theorem eqStringS_self (a : List ByteArray) (h : a.length ≤ 140737488351232) : Ev (fun k => laws_eqStringS.f k a a) true := Ev.eq (eqStringS a a h) (by simp)

theorem szDisk (a b : List ByteArray) (ha : a.length ≤ maxLen ∧ ∀ s ∈ a, s.size ≤ maxLen) (hb : b.length ≤ maxLen ∧ ∀ s ∈ b, s.size ≤ maxLen) :
    ∃ r, Ev (fun k => laws_szDisk.f k a b 1048576) r ∧ (r < 0 ∨ a.length + b.length + szs a + szs b ≤ 1048576) := by
  have e : maxLen = 9223372036854775807 := rfl
  rw [e] at ha hb
  simp only [laws_szDisk.f]
  have h1 := szStringS a 1048576 (by omega) (by omega) ha.1 ha.2
  by_cases g : (a.length : Int) + szs a ≤ 1048576
  · rw [if_pos g] at h1
    have h2 := szStringS b (1048576 - (a.length + szs a)) (by omega) (by omega) hb.1 hb.2
    by_cases g2 : (b.length : Int) + szs b ≤ 1048576 - (a.length + szs a)
    · rw [if_pos g2] at h2
      exact ⟨_, Ev.bnd h1 (Ev.neg (by omega) (Ev.bnd h2 (Ev.neg (by omega) (Ev.ret _)))), .inr (by omega)⟩
    · rw [if_neg g2] at h2
      exact ⟨_, Ev.bnd h1 (Ev.neg (by omega) (Ev.bnd h2 (Ev.pos (by omega) (Ev.ret _)))), .inl (by omega)⟩
  · rw [if_neg g] at h1
    exact ⟨_, Ev.bnd h1 (Ev.pos (by omega) (Ev.ret _)), .inl (by omega)⟩
theorem toDisk (a b : List ByteArray) (ha : a.length ≤ 1048576) (hb : b.length ≤ 1048576) : Ev (fun k => laws_toDisk.f k a b) (a, b) := by
  simp only [laws_toDisk.f]
  exact Ev.bnd (toStringS a ha) (Ev.bnd (toStringS b hb) (Ev.ret _))
theorem eqDisk_self (a b : List ByteArray) (ha : a.length ≤ 1048576) (hb : b.length ≤ 1048576) : Ev (fun k => laws_eqDisk.f k a b a b) true := by
  simp only [laws_eqDisk.f]
  exact Ev.bnd (eqStringS_self a (by omega)) (Ev.pos rfl (Ev.bnd (eqStringS_self b (by omega)) (Ev.pos rfl (Ev.ret _))))

theorem grow_s (n : Int) (h0 : 0 ≤ n) (h1 : n ≤ 8000000000000) : slices_Grow_string_string.f n = some [] := by
  unfold slices_Grow_string_string.f
  rw [if_neg (by omega), w64 (by omega) (by omega)]
  by_cases g : n > 0
  · rw [if_pos g, if_pos h0, if_pos (by simp only [List.length_nil]; omega)]
    simp only [Option.bind_some]
    rw [if_pos (by omega)]
    rfl
  · rw [if_neg g]
theorem rdls_mid (pre : List (List ByteArray)) (x : List ByteArray) (post : List (List ByteArray)) : rd_L2 (pre ++ x :: post) (pre.length : Int) = x := by
  unfold rd_L2; simp
theorem concat_s_l1 (post : List (List ByteArray)) : ∀ (pre : List (List ByteArray)) (acc : List ByteArray), acc.length + post.flatten.length ≤ 8000000000000 → (pre ++ post).length ≤ 1048576 → Ev (fun k => slices_Concat_string_string.l1 k acc (pre ++ post) ((pre ++ post).length : Int) (pre.length : Int)) (acc ++ post.flatten) := by
  induction post with
  | nil =>
    intro pre acc h hl
    refine Ev.succ ?_
    simp only [slices_Concat_string_string.l1]
    exact Ev.neg (by simp) (Ev.eq (Ev.ret _) (by simp))
  | cons x post ih =>
    intro pre acc h hl
    simp only [List.flatten_cons, List.length_append, List.length_cons] at h hl
    have h2 := ih (pre ++ [x]) (acc ++ x) (by simp only [List.length_append]; omega) (by simp only [List.length_append, List.length_cons, List.length_nil]; omega)
    refine Ev.succ ?_
    simp only [slices_Concat_string_string.l1]
    refine Ev.pos (by simp only [List.length_append, List.length_cons]; omega) (Ev.pos (by omega) (Ev.pos (by simp only [List.length_append, List.length_cons]; omega) ?_))
    rw [rdls_mid]
    refine Ev.pos (by omega) ?_
    rw [w64 (by omega) (by omega)]
    refine Ev.eq (by simpa using h2) (by simp)
theorem concat_s_l0 (x0 : List (List ByteArray)) (hx : x0.flatten.length ≤ 8000000000000) (hxl : x0.length ≤ 1048576) (post : List (List ByteArray)) : ∀ (pre : List (List ByteArray)) (s : Int), 0 ≤ s → s + post.flatten.length ≤ 8000000000000 → (pre ++ post).length ≤ 1048576 → Ev (fun k => slices_Concat_string_string.l0 k x0 s (pre ++ post) ((pre ++ post).length : Int) (pre.length : Int)) x0.flatten := by
  induction post with
  | nil =>
    intro pre s h0 h1 hl
    refine Ev.succ ?_
    simp only [slices_Concat_string_string.l0]
    refine Ev.neg (by simp) (Ev.bnd1 (grow_s s h0 (by simpa using h1)) ?_)
    simpa using concat_s_l1 x0 [] [] (by simpa using hx) (by simpa using hxl)
  | cons x post ih =>
    intro pre s h0 h1 hl
    simp only [List.flatten_cons, List.length_append, List.length_cons] at h1 hl
    have h2 := ih (pre ++ [x]) (s + x.length) (by omega) (by omega) (by simp only [List.length_append, List.length_cons, List.length_nil]; omega)
    refine Ev.succ ?_
    simp only [slices_Concat_string_string.l0]
    refine Ev.pos (by simp only [List.length_append, List.length_cons]; omega) (Ev.pos (by omega) (Ev.pos (by simp only [List.length_append, List.length_cons]; omega) ?_))
    rw [rdls_mid, w64 (x := s + (x.length : Int)) (by omega) (by omega), w64 (x := (pre.length : Int) + 1) (by omega) (by omega)]
    refine Ev.neg (by omega) ?_
    simpa using h2
theorem concat_s (x0 : List (List ByteArray)) (hx : x0.flatten.length ≤ 8000000000000) (hxl : x0.length ≤ 1048576) : Ev (fun k => slices_Concat_string_string.f k x0) x0.flatten := by
  simp only [slices_Concat_string_string.f]
  simpa using concat_s_l0 x0 hx hxl x0 [] 0 (by omega) (by omega) (by simpa using hxl)

theorem anyO_not {α : Type} (f : α → Option Bool) (p : α → Bool) (l : List α) (h : ∀ x ∈ l, f x = some (!p x)) : anyO f l = some (!l.all p) := by
  induction l with
  | nil => rfl
  | cons x t ih =>
    simp only [anyO]
    rw [h x (by simp), Option.bind_some]
    cases hp : p x with
    | true => simp [hp, ih (fun y hy => h y (by simp [hy]))]
    | false => simp [hp]

def goodDisk (a b : List ByteArray) : Bool := decide (a.length + b.length ≤ 400) && (a ++ b).all fun s => s.size == 16
theorem spec_gd_l0 (x3 : List ByteArray) (post : List ByteArray) : ∀ pre : List ByteArray, (pre ++ post).length ≤ 1048576 → Ev (fun k => spec_GoodDisk.l0 k x3 (pre ++ post) ((pre ++ post).length : Int) (pre.length : Int)) (if post.all (fun s => s.size == 16) = true then decide ((x3.length : Int) ≤ 400) else false) := by
  induction post with
  | nil =>
    intro pre hl
    refine Ev.succ ?_
    simp only [spec_GoodDisk.l0]
    exact Ev.neg (by simp) (Ev.eq (Ev.ret _) (by simp))
  | cons s post ih =>
    intro pre hl
    have h := ih (pre ++ [s]) (by simpa using hl)
    simp only [List.length_append, List.length_cons] at hl
    refine Ev.succ ?_
    simp only [spec_GoodDisk.l0]
    refine Ev.pos (by simp only [List.length_append, List.length_cons]; omega) (Ev.pos (by omega) (Ev.pos (by simp only [List.length_append, List.length_cons]; omega) ?_))
    rw [rds_mid, w64 (by omega) (by omega)]
    by_cases g : s.size = 16
    · refine Ev.pos (by omega) ?_
      refine Ev.eq (by simpa using h) (by simp [g])
    · exact Ev.neg (by omega) (Ev.eq (Ev.ret _) (by simp [g]))
theorem spec_GoodDisk_ev (a b : List ByteArray) (ha : a.length + b.length ≤ 1048576) : Ev (fun k => spec_GoodDisk.f k a b) (goodDisk a b) := by
  simp only [spec_GoodDisk.f]
  refine Ev.bnd1 rfl (Ev.pos (by simp only [List.length_nil]; omega) (Ev.bnd1 rfl (Ev.pos (by simp only [List.nil_append]; omega) (Ev.bnd1 rfl ?_))))
  have h := spec_gd_l0 ([] ++ a ++ b) ([] ++ a ++ b) [] (by simpa using ha)
  refine Ev.eq (Ev.congr (fun k => rfl) h) ?_
  unfold goodDisk
  simp only [List.nil_append, List.length_append, List.all_append]
  by_cases g1 : (a.all (fun s => s.size == 16) && b.all fun s => s.size == 16) = true
  · rw [if_pos g1, g1, Bool.and_true]; congr 1; simp only [eq_iff_iff]; omega
  · rw [if_neg g1]; simp only [Bool.not_eq_true] at g1; rw [g1, Bool.and_false]
theorem impl_GoodDisk_any (l : List ByteArray) : impl_GoodDisk_1_any.f l = some (!l.all fun s => s.size == 16) := by
  unfold impl_GoodDisk_1_any.f
  refine anyO_not _ _ _ (fun s _ => ?_)
  unfold impl_GoodDisk_1.f
  congr 1
  by_cases e : s.size = 16
  · simp [e]
  · have e2 : ((s.size : Int) == 16) = false := by simp; omega
    simp [bne, e, e2]
theorem impl_GoodDisk_ev (a b : List ByteArray) (ha : a.length + b.length ≤ 1048576) : Ev (fun k => impl_GoodDisk.f k a b) (goodDisk a b) := by
  have e0 : wrap64 ((a.length : Int) + (b.length : Int)) = (a.length : Int) + (b.length : Int) := w64 (by omega) (by omega)
  have h := concat_s [a, b] (by simp; omega) (by simp)
  have hf : [a, b].flatten = a ++ b := by simp
  rw [hf] at h
  refine Ev.bnd1 (show impl_Disk_size.f a b = some ((a.length : Int) + (b.length : Int)) by unfold impl_Disk_size.f; rw [e0]) ?_
  clear e0
  unfold goodDisk
  by_cases g : a.length + b.length ≤ 400
  · refine Ev.pos (by omega) (Ev.bnd h (Ev.bnd1 (impl_GoodDisk_any (a ++ b)) (Ev.eq (Ev.ret _) ?_)))
    rw [decide_eq_true g, Bool.not_not, Bool.true_and]
  · refine Ev.neg (by omega) (Ev.eq (Ev.ret _) ?_)
    rw [decide_eq_false g, Bool.false_and]

/-! The laws' marks over strings. -/
theorem markText_l0 (n : Nat) : ∀ acc : ByteArray, acc.size + n ≤ 8000000 → ∃ r, Ev (fun k => laws_markText.l0 k (n : Int) acc) r := by
  induction n using Nat.strongRecOn with
  | _ n ih =>
    intro acc ha
    by_cases g : n = 0
    · subst g
      refine ⟨(⟨#[109]⟩ : ByteArray) ++ acc, Ev.succ ?_⟩
      simp only [laws_markText.l0]
      exact Ev.neg (by omega) (Ev.pos (by omega) (Ev.ret _))
    · have e1 : wrap64 (Int.tdiv (n : Int) 10) = ((n / 10 : Nat) : Int) := by
        rw [show Int.tdiv (n : Int) 10 = ((n / 10 : Nat) : Int) from rfl, w64 (by omega) (by omega)]
      obtain ⟨r, h⟩ := ih (n / 10) (by omega) (strOfNums [(wrap64 (48 + (Int.tmod (n : Int) 10))) % 256] ++ acc) (by rw [ByteArray.size_append, strOfNums_size, List.length_cons, List.length_nil]; omega)
      refine ⟨r, Ev.succ ?_⟩
      simp only [laws_markText.l0]
      rw [e1]
      clear e1
      exact Ev.pos (by omega) (Ev.bnd1 rfl (Ev.pos (by rw [strOfNums_size, List.length_cons, List.length_nil]; omega) h))
theorem markText_ex : ∃ t : Int → ByteArray, ∀ m, 0 ≤ m → m ≤ 4000000 → Ev (fun k => laws_markText.f k m) (t m) := by
  have h : ∀ m : Int, ∃ r, 0 ≤ m → m ≤ 4000000 → Ev (fun k => laws_markText.f k m) r := by
    intro m
    by_cases g0 : 0 ≤ m ∧ m ≤ 4000000
    · obtain ⟨n, rfl⟩ : ∃ n : Nat, m = n := ⟨m.toNat, by omega⟩
      by_cases g : n = 0
      · refine ⟨(⟨#[109, 48]⟩ : ByteArray), fun _ _ => ?_⟩
        simp only [laws_markText.f]
        exact Ev.pos (by omega) (Ev.ret _)
      · obtain ⟨r, hr⟩ := markText_l0 n (⟨#[]⟩ : ByteArray) (by rw [show (⟨#[]⟩ : ByteArray).size = 0 from rfl]; omega)
        refine ⟨r, fun _ _ => ?_⟩
        simp only [laws_markText.f]
        exact Ev.neg (by omega) hr
    · exact ⟨ByteArray.empty, fun h0 h1 => absurd ⟨h0, h1⟩ g0⟩
  exact ⟨fun m => Classical.choose (h m), fun m => Classical.choose_spec (h m)⟩
def upt (t : Int → ByteArray) : Int → Nat → List ByteArray
  | _, 0 => []
  | m, n + 1 => t m :: upt t (m + 1) n
theorem upt_len (t : Int → ByteArray) (n : Nat) : ∀ m, (upt t m n).length = n := by
  induction n with
  | zero => intro m; rfl
  | succ n ih => intro m; simp [upt, ih]
theorem markStringS_l0 (t : Int → ByteArray) (ht : ∀ m, 0 ≤ m → m ≤ 4000000 → Ev (fun k => laws_markText.f k m) (t m)) (post : List ByteArray) : ∀ (pre : List ByteArray) (m : Int), 0 ≤ m → m + post.length ≤ 4000000 → (pre ++ post).length ≤ 4000000 → Ev (fun k => laws_markStringS.l0 k (pre ++ post) m (pre.length : Int)) (m + post.length, pre ++ upt t m post.length) := by
  induction post with
  | nil =>
    intro pre m h0 h1 hl
    refine Ev.succ ?_
    simp only [laws_markStringS.l0]
    exact Ev.neg (by simp) (Ev.eq (Ev.ret _) (by simp [upt]))
  | cons x post ih =>
    intro pre m h0 h1 hl
    simp only [List.length_append, List.length_cons] at hl h1
    have h := ih (pre ++ [t m]) (m + 1) (by omega) (by omega) (by simp only [List.length_append, List.length_cons, List.length_nil]; omega)
    refine Ev.succ ?_
    simp only [laws_markStringS.l0]
    refine Ev.pos (by simp only [List.length_append, List.length_cons]; omega) (Ev.bnd (ht m h0 (by omega)) (Ev.pos (by omega) ?_))
    rw [w64 (x := m + 1) (by omega) (by omega), w64 (by omega) (by omega)]
    have e : (pre ++ x :: post).set ((pre.length : Int)).toNat (t m) = pre ++ [t m] ++ post := by simp
    rw [e]
    refine Ev.eq (by simpa using h) ?_
    simp only [upt, List.length_cons, Prod.mk.injEq]
    exact ⟨by omega, trivial⟩
theorem markStringS (t : Int → ByteArray) (ht : ∀ m, 0 ≤ m → m ≤ 4000000 → Ev (fun k => laws_markText.f k m) (t m)) (l : List ByteArray) (m : Int) (h0 : 0 ≤ m) (h1 : m + l.length ≤ 4000000) : Ev (fun k => laws_markStringS.f k l m) (m + l.length, upt t m l.length) := by
  simp only [laws_markStringS.f]
  simpa using markStringS_l0 t ht l [] m h0 h1 (by simp only [List.nil_append]; omega)
theorem heldStringS_l0 (t : Int → ByteArray) (ht : ∀ m, 0 ≤ m → m ≤ 4000000 → Ev (fun k => laws_markText.f k m) (t m)) (n : Nat) : ∀ (pre : List ByteArray) (m : Int), 0 ≤ m → m + n ≤ 4000000 → pre.length + n ≤ 4000000 → Ev (fun k => laws_heldStringS.l0 k (pre ++ upt t m n) m (pre.length : Int)) (m + n) := by
  induction n with
  | zero =>
    intro pre m h0 h1 hl
    refine Ev.succ ?_
    simp only [laws_heldStringS.l0]
    exact Ev.neg (by simp [upt]) (Ev.eq (Ev.ret _) (by simp))
  | succ n ih =>
    intro pre m h0 h1 hl
    have h := ih (pre ++ [t m]) (m + 1) (by omega) (by omega) (by simp only [List.length_append, List.length_cons, List.length_nil]; omega)
    refine Ev.succ ?_
    simp only [laws_heldStringS.l0]
    refine Ev.pos (by simp only [List.length_append, upt_len]; omega) (Ev.pos (by omega) (Ev.bnd (ht m h0 (by omega)) (Ev.pos (by simp only [upt]; rw [rds_mid]) ?_)))
    rw [w64 (x := m + 1) (by omega) (by omega), w64 (by omega) (by omega)]
    refine Ev.eq (by simpa [upt] using h) (by omega)
theorem heldStringS (t : Int → ByteArray) (ht : ∀ m, 0 ≤ m → m ≤ 4000000 → Ev (fun k => laws_markText.f k m) (t m)) (n : Nat) (m : Int) (h0 : 0 ≤ m) (h1 : m + n ≤ 4000000) : Ev (fun k => laws_heldStringS.f k (upt t m n) m) (m + n) := by
  simp only [laws_heldStringS.f]
  simpa using heldStringS_l0 t ht n [] m h0 h1 (by simp only [List.length_nil]; omega)

theorem markDisk (t : Int → ByteArray) (ht : ∀ m, 0 ≤ m → m ≤ 4000000 → Ev (fun k => laws_markText.f k m) (t m)) (a b : List ByteArray) (h : a.length + b.length ≤ 1048576) :
    Ev (fun k => laws_markDisk.f k a b 1) (1 + (a.length : Int) + b.length, upt t 1 a.length, upt t (1 + a.length) b.length) := by
  simp only [laws_markDisk.f]
  exact Ev.bnd (markStringS t ht a 1 (by omega) (by omega)) (Ev.bnd (markStringS t ht b (1 + (a.length : Int)) (by omega) (by omega)) (Ev.ret _))

theorem heldDisk (t : Int → ByteArray) (ht : ∀ m, 0 ≤ m → m ≤ 4000000 → Ev (fun k => laws_markText.f k m) (t m)) (n m : Nat) (h : n + m ≤ 1048576) :
    Ev (fun k => laws_heldDisk.f k (upt t 1 n) (upt t (1 + (n : Int)) m) 1) (1 + (n : Int) + m) := by
  simp only [laws_heldDisk.f]
  exact Ev.bnd (heldStringS t ht n 1 (by omega) (by omega)) (Ev.neg (by omega) (Ev.bnd (heldStringS t ht m (1 + (n : Int)) (by omega) (by omega)) (Ev.neg (by omega) (Ev.ret _))))

theorem spec_in_eq (a lo hi : Int) : spec_l1In.f a lo hi = some (decide (lo ≤ a ∧ a ≤ hi)) := by
  unfold spec_l1In.f
  by_cases h1 : a ≥ lo
  · rw [if_pos h1]
    by_cases h2 : a ≤ hi
    · rw [decide_eq_true h2, decide_eq_true ⟨h1, h2⟩]
    · rw [decide_eq_false h2, decide_eq_false (fun h => h2 h.2)]
  · rw [if_neg h1, decide_eq_false (fun h => h1 h.1)]

/-- One of the eight steps of the checksum. -/
def sumBit (n : Int) : Int := if wrap64 (n * 2) ≥ 65536 then Go.bits .xor .i64 (wrap64 (n * 2)) 69665 else wrap64 (n * 2)
def sumIter : Nat → Int → Int
  | 0, n => n
  | e + 1, n => sumIter e (sumBit n)
def sumGo (s : ByteArray) : Nat → Int → Int → Int
  | 0, n, _ => n
  | d + 1, n, i => sumGo s d (sumIter 8 (Go.bits .xor .i64 n (wrap64 (256 * wrap64 (bt s i))))) (i + 1)
def crc (s : ByteArray) : Int := sumGo s s.size 65535 0

theorem spec_sum_l1 (s : ByteArray) (r i : Int) (e : Nat) : ∀ (n j : Int), 0 ≤ j → j + e = 8 → Ev (fun k => spec_l10Sum.l0 k s (sumIter e n) (wrap64 (i + 1))) r → Ev (fun k => spec_l10Sum.l1 k s n i j) r := by
  induction e with
  | zero =>
    intro n j h0 hj h
    refine Ev.step (fun k => ?_) h
    simp only [spec_l10Sum.l1]
    rw [if_neg (by omega)]
    rfl
  | succ e ih =>
    intro n j h0 hj h
    refine Ev.step (fun k => ?_) (ih (sumBit n) (j + 1) (by omega) (by omega) h)
    simp only [spec_l10Sum.l1]
    rw [if_pos (by omega), w64 (x := j + 1) (by omega) (by omega)]
    unfold sumBit
    split <;> rfl
theorem spec_sum_l0 (s : ByteArray) (hs : s.size ≤ 140737488351232) (d : Nat) : ∀ (n i : Int), 0 ≤ i → i + d = s.size → Ev (fun k => spec_l10Sum.l0 k s n i) (sumGo s d n i) := by
  induction d with
  | zero =>
    intro n i h0 hi
    refine Ev.step (fun k => ?_) (Ev.now _)
    simp only [spec_l10Sum.l0]
    rw [if_neg (by omega)]
    rfl
  | succ d ih =>
    intro n i h0 hi
    have h := ih (sumIter 8 (Go.bits .xor .i64 n (wrap64 (256 * wrap64 (bt s i))))) (i + 1) (by omega) (by omega)
    refine Ev.step (fun k => ?_) (spec_sum_l1 s _ i 8 (Go.bits .xor .i64 n (wrap64 (256 * wrap64 (bt s i)))) 0 (by omega) (by omega) (by rw [w64 (x := i + 1) (by omega) (by omega)]; exact h))
    simp only [spec_l10Sum.l0]
    rw [if_pos (by omega), if_pos h0]
theorem spec_sum (s : ByteArray) (hs : s.size ≤ 140737488351232) : Ev (fun k => spec_l10Sum.f k s) (crc s) :=
  spec_sum_l0 s hs s.size 65535 0 (by omega) (by omega)
theorem impl_sum_l1 (s : ByteArray) (r z i : Int) (e : Nat) : ∀ (n j : Int), 0 ≤ j → j + e = 8 → Ev (fun k => impl_sumOf.l0 k s (sumIter e n) z (wrap64 (i + 1))) r → Ev (fun k => impl_sumOf.l1 k s n z i j) r := by
  induction e with
  | zero =>
    intro n j h0 hj h
    refine Ev.step (fun k => ?_) h
    simp only [impl_sumOf.l1]
    rw [if_neg (by omega)]
    rfl
  | succ e ih =>
    intro n j h0 hj h
    refine Ev.step (fun k => ?_) (ih (sumBit n) (j + 1) (by omega) (by omega) h)
    simp only [impl_sumOf.l1]
    rw [if_pos (by omega), w64 (x := j + 1) (by omega) (by omega)]
    unfold sumBit
    split <;> rfl
theorem impl_sum_l0 (s : ByteArray) (hs : s.size ≤ 140737488351232) (d : Nat) : ∀ (n i : Int), 0 ≤ i → i + d = s.size → Ev (fun k => impl_sumOf.l0 k s n (s.size : Int) i) (sumGo s d n i) := by
  induction d with
  | zero =>
    intro n i h0 hi
    refine Ev.step (fun k => ?_) (Ev.now _)
    simp only [impl_sumOf.l0]
    rw [if_neg (by omega)]
    rfl
  | succ d ih =>
    intro n i h0 hi
    have h := ih (sumIter 8 (Go.bits .xor .i64 n (wrap64 (256 * wrap64 (bt s i))))) (i + 1) (by omega) (by omega)
    refine Ev.step (fun k => ?_) (impl_sum_l1 s _ (s.size : Int) i 8 (Go.bits .xor .i64 n (wrap64 (256 * wrap64 (bt s i)))) 0 (by omega) (by omega) (by rw [w64 (x := i + 1) (by omega) (by omega)]; exact h))
    simp only [impl_sumOf.l0]
    rw [if_pos (by omega), if_pos h0, if_pos (by omega)]
theorem impl_sum (s : ByteArray) (hs : s.size ≤ 140737488351232) : Ev (fun k => impl_sumOf.f k s) (crc s) :=
  impl_sum_l0 s hs s.size 65535 0 (by omega) (by omega)

/-! Sectors. -/
def secHead (no : Int) (last : Bool) (t : ByteArray) : ByteArray := strOfNums [(wrap64 (Int.tdiv no 256)) % 256, (Int.tmod no 256) % 256, (if last = true then ((t.size : Int) + 128) % 256 else (t.size : Int) % 256)] ++ t ++ strOfNums (List.replicate (10 - t.size) 0)
def sectorB (no : Int) (last : Bool) (t : ByteArray) : ByteArray := secHead no last t ++ strOfNums [(wrap64 (Int.tdiv (crc (secHead no last t)) 256)) % 256, (Int.tmod (crc (secHead no last t)) 256) % 256, 1]
theorem son3 (a b c : Int) : (strOfNums [a, b, c]).size = 3 := by rw [strOfNums_size]; rfl
theorem son2 (a b : Int) : (strOfNums [a, b]).size = 2 := by rw [strOfNums_size]; rfl
theorem sonr (n : Nat) : (strOfNums (List.replicate n 0)).size = n := by rw [strOfNums_size, List.length_replicate]
theorem spec_l13Sector_ev (no : Int) (last : Bool) (t : ByteArray) (h : t.size ≤ 10) : Ev (fun k => spec_l13Sector.f k no last t) (sectorB no last t) := by
  have e2 : wrap64 (10 - (t.size : Int)) = ((10 - t.size : Nat) : Int) := by rw [w64 (by omega) (by omega)]; omega
  have e1 : wrap64 ((t.size : Int) + 128) = (t.size : Int) + 128 := w64 (by omega) (by omega)
  have hz := spec_sum (secHead no last t) (by unfold secHead; rw [ByteArray.size_append, ByteArray.size_append, son3, sonr]; omega)
  cases last with
  | true =>
    have eh : secHead no true t = strOfNums [(wrap64 (Int.tdiv no 256)) % 256, (Int.tmod no 256) % 256, ((t.size : Int) + 128) % 256] ++ t ++ strOfNums (List.replicate (10 - t.size) 0) := rfl
    unfold sectorB
    rw [eh] at hz ⊢
    simp only [spec_l13Sector.f]
    rw [e1, e2, Int.toNat_natCast]
    clear e1 e2
    refine Ev.pos (by trivial) (Ev.bnd1 rfl (Ev.pos (by rw [son3]; omega) (Ev.pos (by omega) (Ev.pos (by omega) (Ev.bnd1 rfl (Ev.pos (by rw [ByteArray.size_append, son3, sonr]; omega) (Ev.bnd hz (Ev.bnd1 rfl (Ev.pos (by rw [ByteArray.size_append, ByteArray.size_append, son3, sonr, son3]; omega) (Ev.ret _))))))))))
  | false =>
    have eh : secHead no false t = strOfNums [(wrap64 (Int.tdiv no 256)) % 256, (Int.tmod no 256) % 256, (t.size : Int) % 256] ++ t ++ strOfNums (List.replicate (10 - t.size) 0) := rfl
    unfold sectorB
    rw [eh] at hz ⊢
    simp only [spec_l13Sector.f]
    rw [e2, Int.toNat_natCast]
    clear e1 e2
    refine Ev.neg (by simp) (Ev.bnd1 rfl (Ev.pos (by rw [son3]; omega) (Ev.pos (by omega) (Ev.pos (by omega) (Ev.bnd1 rfl (Ev.pos (by rw [ByteArray.size_append, son3, sonr]; omega) (Ev.bnd hz (Ev.bnd1 rfl (Ev.pos (by rw [ByteArray.size_append, ByteArray.size_append, son3, sonr, son3]; omega) (Ev.ret _))))))))))
theorem rep0 (n : Nat) (h : n ≤ 1000) : strings_Repeat.f (⟨#[0]⟩ : ByteArray) (n : Int) = some (strOfNums (List.replicate n 0)) := by
  unfold strings_Repeat.f
  rw [Int.toNat_natCast, if_pos ⟨by omega, by omega, by rw [show (⟨#[0]⟩ : ByteArray).size = 1 from rfl]; omega⟩]
  congr 1
  unfold strOfNums
  congr 2
  rw [List.map_replicate, show (⟨#[0]⟩ : ByteArray).data.toList = List.replicate 1 0 from rfl, Lib.repeatL_replicate, Nat.mul_one]
  rfl
theorem impl_summed_ev (s : ByteArray) (h : s.size ≤ 1000) : Ev (fun k => impl_summed.f k s) (s ++ strOfNums [(wrap64 (Int.tdiv (crc s) 256)) % 256, (Int.tmod (crc s) 256) % 256]) := by
  simp only [impl_summed.f]
  exact Ev.bnd (impl_sum s (by omega)) (Ev.bnd1 rfl (Ev.pos (by rw [son2]; omega) (Ev.ret _)))
theorem impl_sector_ev (no : Int) (last : Bool) (t : ByteArray) (h : t.size ≤ 10) : Ev (fun k => impl_sector.f k no last t) (sectorB no last t) := by
  have e2 : ∀ a b c : Int, wrap64 (13 - ((strOfNums [a, b, c] ++ t).size : Int)) = ((10 - t.size : Nat) : Int) := by
    intro a b c
    rw [ByteArray.size_append, son3, w64 (by omega) (by omega)]; omega
  have hz := impl_summed_ev (secHead no last t) (by unfold secHead; rw [ByteArray.size_append, ByteArray.size_append, son3, sonr]; omega)
  have hr := rep0 (10 - t.size) (by omega)
  have hone : ∀ (s : ByteArray) (a b : Int), s ++ strOfNums [a, b] ++ (⟨#[1]⟩ : ByteArray) = s ++ strOfNums [a, b, 1] := by
    intro s a b
    rw [show (⟨#[1]⟩ : ByteArray) = strOfNums [1] from rfl, ByteArray.append_assoc, son_append]
    rfl
  cases last with
  | true =>
    have eh : secHead no true t = strOfNums [(wrap64 (Int.tdiv no 256)) % 256, (Int.tmod no 256) % 256, ((t.size : Int) + 128) % 256] ++ t ++ strOfNums (List.replicate (10 - t.size) 0) := rfl
    unfold sectorB
    rw [← hone]
    rw [eh] at hz ⊢
    simp only [impl_sector.f]
    refine Ev.pos (by trivial) (Ev.bnd1 rfl (Ev.pos (by rw [son3]; omega) (Ev.bnd1 (by rw [e2]; exact hr) (Ev.pos (by rw [ByteArray.size_append, son3, sonr]; omega) (Ev.bnd hz (Ev.pos ?_ (Ev.ret _)))))))
    rw [ByteArray.size_append, ByteArray.size_append, ByteArray.size_append, son3, sonr, son2]; omega
  | false =>
    have eh : secHead no false t = strOfNums [(wrap64 (Int.tdiv no 256)) % 256, (Int.tmod no 256) % 256, (t.size : Int) % 256] ++ t ++ strOfNums (List.replicate (10 - t.size) 0) := rfl
    unfold sectorB
    rw [← hone]
    rw [eh] at hz ⊢
    simp only [impl_sector.f]
    refine Ev.neg (by simp) (Ev.bnd1 rfl (Ev.pos (by rw [son3]; omega) (Ev.bnd1 (by rw [e2]; exact hr) (Ev.pos (by rw [ByteArray.size_append, son3, sonr]; omega) (Ev.bnd hz (Ev.pos ?_ (Ev.ret _)))))))
    rw [ByteArray.size_append, ByteArray.size_append, ByteArray.size_append, son3, sonr, son2]; omega

theorem impl_isNo_eq (no : Int) : impl_isNo.f no = some (decide (0 ≤ no ∧ no ≤ 399)) := by
  unfold impl_isNo.f
  by_cases h : 0 ≤ no
  · rw [if_pos h]; congr 1; simp only [decide_eq_decide]; omega
  · rw [if_neg h, decide_eq_false (by omega)]

def readSector (no : Int) (x : ByteArray) : ByteArray × Bool × Bool :=
  if (0 ≤ no ∧ no ≤ 399) ∧ x.size = 16 then
    if Int.tmod (bt x 2) 128 > 10 then ((⟨#[]⟩ : ByteArray), false, false)
    else if sectorB no (decide (bt x 2 ≥ 128)) (x.extract 3 ((3 + Int.tmod (bt x 2) 128).toNat)) = x then (x.extract 3 ((3 + Int.tmod (bt x 2) 128).toNat), decide (bt x 2 ≥ 128), true)
    else ((⟨#[]⟩ : ByteArray), false, false)
  else ((⟨#[]⟩ : ByteArray), false, false)
theorem tmod128 (x : ByteArray) : 0 ≤ Int.tmod (bt x 2) 128 := by
  have h := bt_range x 2
  obtain ⟨n, hn⟩ : ∃ n : Nat, bt x 2 = n := ⟨(bt x 2).toNat, by omega⟩
  rw [hn, show Int.tmod (n : Int) 128 = ((n % 128 : Nat) : Int) from rfl]
  omega
theorem ex_size (x : ByteArray) (m : Int) (h0 : 0 ≤ m) (h1 : m ≤ 10) : (x.extract 3 ((3 + m).toNat)).size ≤ 10 := by
  rw [ByteArray.size_extract]
  omega
theorem readSector_size (no : Int) (x : ByteArray) : (readSector no x).1.size ≤ 10 := by
  unfold readSector
  split
  · split
    · exact Nat.zero_le _
    · rename_i h
      split
      · exact ex_size x _ (tmod128 x) (by omega)
      · exact Nat.zero_le _
  · exact Nat.zero_le _
theorem spec_ReadSector_ev (no : Int) (x : ByteArray) : Ev (fun k => spec_ReadSector.f k no x) (readSector no x) := by
  have hb := bt_range x 2
  have ew : wrap64 (bt x 2) = bt x 2 := w64 (by omega) (by omega)
  have ht := tmod128 x
  unfold readSector
  by_cases g0 : 0 ≤ no ∧ no ≤ 399
  · by_cases g1 : x.size = 16
    · rw [if_pos ⟨g0, g1⟩]
      simp only [spec_ReadSector.f]
      refine Ev.bnd1 (spec_in_eq _ _ _) (Ev.pos (decide_eq_true g0) (Ev.succ ?_))
      simp only [spec_ReadSector.j0]
      rw [ew]
      refine Ev.neg (by simp [g1]) (Ev.pos (by omega) ?_)
      by_cases g2 : Int.tmod (bt x 2) 128 > 10
      · rw [if_pos g2]; exact Ev.pos g2 (Ev.ret _)
      · rw [if_neg g2]
        rw [w64 (x := 3 + Int.tmod (bt x 2) 128) (by omega) (by omega)]
        have hs := spec_l13Sector_ev no (decide (bt x 2 ≥ 128)) (x.extract 3 ((3 + Int.tmod (bt x 2) 128).toNat)) (ex_size x _ ht (by omega))
        refine Ev.neg g2 (Ev.pos (by omega) (Ev.pos (by omega) (Ev.bnd hs ?_)))
        by_cases g3 : sectorB no (decide (bt x 2 ≥ 128)) (x.extract 3 ((3 + Int.tmod (bt x 2) 128).toNat)) = x
        · rw [if_pos g3]; exact Ev.pos ((toList_iff _ _).2 g3) (Ev.ret _)
        · rw [if_neg g3]; exact Ev.neg (fun h => g3 ((toList_iff _ _).1 h)) (Ev.ret _)
    · rw [if_neg (fun h => g1 h.2)]
      simp only [spec_ReadSector.f]
      refine Ev.bnd1 (spec_in_eq _ _ _) (Ev.pos (decide_eq_true g0) (Ev.succ ?_))
      simp only [spec_ReadSector.j0]
      exact Ev.pos (by simp only [bne_iff_ne, ne_eq]; omega) (Ev.ret _)
  · rw [if_neg (fun h => g0 h.1)]
    simp only [spec_ReadSector.f]
    refine Ev.bnd1 (spec_in_eq _ _ _) (Ev.neg (by rw [decide_eq_false g0]; simp) (Ev.succ ?_))
    simp only [spec_ReadSector.j0]
    exact Ev.pos (by trivial) (Ev.ret _)
theorem impl_ReadSector_ev (no : Int) (x : ByteArray) : Ev (fun k => impl_ReadSector.f k no x) (readSector no x) := by
  have hb := bt_range x 2
  have ew : wrap64 (bt x 2) = bt x 2 := w64 (by omega) (by omega)
  have ht := tmod128 x
  unfold readSector
  by_cases g0 : 0 ≤ no ∧ no ≤ 399
  · by_cases g1 : x.size = 16
    · rw [if_pos ⟨g0, g1⟩]
      simp only [impl_ReadSector.f]
      refine Ev.bnd1 (impl_isNo_eq _) (Ev.pos (decide_eq_true g0) (Ev.succ ?_))
      simp only [impl_ReadSector.j0]
      rw [ew]
      refine Ev.neg (by simp [g1]) (Ev.pos (by omega) ?_)
      by_cases g2 : Int.tmod (bt x 2) 128 > 10
      · rw [if_pos g2]; exact Ev.pos g2 (Ev.ret _)
      · rw [if_neg g2]
        rw [w64 (x := 3 + Int.tmod (bt x 2) 128) (by omega) (by omega)]
        have hs := impl_sector_ev no (decide (bt x 2 ≥ 128)) (x.extract 3 ((3 + Int.tmod (bt x 2) 128).toNat)) (ex_size x _ ht (by omega))
        refine Ev.neg g2 (Ev.pos (by omega) (Ev.pos (by omega) (Ev.bnd hs ?_)))
        by_cases g3 : sectorB no (decide (bt x 2 ≥ 128)) (x.extract 3 ((3 + Int.tmod (bt x 2) 128).toNat)) = x
        · rw [if_pos g3]; exact Ev.pos ((toList_iff _ _).2 g3) (Ev.ret _)
        · rw [if_neg g3]; exact Ev.neg (fun h => g3 ((toList_iff _ _).1 h)) (Ev.ret _)
    · rw [if_neg (fun h => g1 h.2)]
      simp only [impl_ReadSector.f]
      refine Ev.bnd1 (impl_isNo_eq _) (Ev.pos (decide_eq_true g0) (Ev.succ ?_))
      simp only [impl_ReadSector.j0]
      exact Ev.pos (by simp only [bne_iff_ne, ne_eq]; omega) (Ev.ret _)
  · rw [if_neg (fun h => g0 h.1)]
    simp only [impl_ReadSector.f]
    refine Ev.bnd1 (impl_isNo_eq _) (Ev.neg (by rw [decide_eq_false g0]; simp) (Ev.succ ?_))
    simp only [impl_ReadSector.j0]
    exact Ev.pos (by trivial) (Ev.ret _)

/-- The texts in a row of sectors, and the number of sectors of complete ones. -/
def textsGo : List ByteArray → Int → List ByteArray → Int → ByteArray → List ByteArray × Int
  | [], _, out, used, _ => (out, used)
  | x :: l, i, out, used, part =>
    if (readSector i x).2.2 = true then
      if (readSector i x).2.1 = true then textsGo l (i + 1) (out ++ [part ++ (readSector i x).1]) (i + 1) (⟨#[]⟩ : ByteArray)
      else textsGo l (i + 1) out used (part ++ (readSector i x).1)
    else (out, used)
theorem textsGo_len (l : List ByteArray) : ∀ i out used part, (textsGo l i out used part).1.length ≤ out.length + l.length := by
  induction l with
  | nil => intro i out used part; simp [textsGo]
  | cons x l ih =>
    intro i out used part
    simp only [textsGo]
    split
    · split
      · have := ih (i + 1) (out ++ [part ++ (readSector i x).1]) (i + 1) (⟨#[]⟩ : ByteArray)
        simp only [List.length_append, List.length_cons, List.length_nil] at this ⊢
        omega
      · have := ih (i + 1) out used (part ++ (readSector i x).1)
        simp only [List.length_cons]
        omega
    · simp only [List.length_cons]; omega
theorem spec_l13Texts_l0 (post : List ByteArray) : ∀ (pre out : List ByteArray) (used : Int) (part : ByteArray), (pre ++ post).length ≤ 1048576 → out.length + post.length ≤ 10000000 → part.size + 10 * post.length ≤ 1000000000 →
    Ev (fun k => spec_l13Texts.l0 k out used part (pre ++ post) ((pre ++ post).length : Int) (pre.length : Int)) (textsGo post (pre.length : Int) out used part) := by
  induction post with
  | nil =>
    intro pre out used part hl ho hp
    refine Ev.succ ?_
    simp only [spec_l13Texts.l0, textsGo]
    exact Ev.neg (by simp) (Ev.ret _)
  | cons x post ih =>
    intro pre out used part hl ho hp
    have hl' := hl
    simp only [List.length_append, List.length_cons] at hl ho hp
    have hz := readSector_size (pre.length : Int) x
    have hc : ((pre ++ [x]).length : Int) = (pre.length : Int) + 1 := by simp
    refine Ev.succ ?_
    simp only [spec_l13Texts.l0, textsGo]
    refine Ev.pos (by simp only [List.length_append, List.length_cons]; omega) (Ev.pos (by omega) (Ev.pos (by simp only [List.length_append, List.length_cons]; omega) ?_))
    rw [rds_mid, w64 (x := (pre.length : Int) + 1) (by omega) (by omega)]
    refine Ev.bnd (spec_ReadSector_ev _ _) ?_
    by_cases g : (readSector (pre.length : Int) x).2.2 = true
    · rw [if_pos g]
      refine Ev.pos g (Ev.pos (by omega) ?_)
      by_cases g2 : (readSector (pre.length : Int) x).2.1 = true
      · rw [if_pos g2]
        refine Ev.pos g2 (Ev.pos (by omega) ?_)
        have h := ih (pre ++ [x]) (out ++ [part ++ (readSector (pre.length : Int) x).1]) ((pre.length : Int) + 1) (⟨#[]⟩ : ByteArray) (by simpa using hl') (by simp only [List.length_append, List.length_cons, List.length_nil]; omega) (by rw [show (⟨#[]⟩ : ByteArray).size = 0 from rfl]; omega)
        rw [hc] at h
        exact Ev.congr (fun k => by simp) h
      · rw [if_neg g2]
        refine Ev.neg g2 ?_
        have h := ih (pre ++ [x]) out used (part ++ (readSector (pre.length : Int) x).1) (by simpa using hl') (by omega) (by rw [ByteArray.size_append]; omega)
        rw [hc] at h
        exact Ev.congr (fun k => by simp) h
    · rw [if_neg g]
      exact Ev.neg g (Ev.ret _)
theorem impl_texts_l0 (post : List ByteArray) : ∀ (pre out : List ByteArray) (used : Int) (part : ByteArray), (pre ++ post).length ≤ 1048576 → out.length + post.length ≤ 10000000 → part.size + 10 * post.length ≤ 1000000000 →
    Ev (fun k => impl_Disk_texts.l0 k out part used (pre ++ post) ((pre ++ post).length : Int) (pre.length : Int)) (textsGo post (pre.length : Int) out used part) := by
  induction post with
  | nil =>
    intro pre out used part hl ho hp
    refine Ev.succ ?_
    simp only [impl_Disk_texts.l0, textsGo]
    exact Ev.neg (by simp) (Ev.ret _)
  | cons x post ih =>
    intro pre out used part hl ho hp
    have hl' := hl
    simp only [List.length_append, List.length_cons] at hl ho hp
    have hz := readSector_size (pre.length : Int) x
    have hc : ((pre ++ [x]).length : Int) = (pre.length : Int) + 1 := by simp
    refine Ev.succ ?_
    simp only [impl_Disk_texts.l0, textsGo]
    refine Ev.pos (by simp only [List.length_append, List.length_cons]; omega) (Ev.pos (by omega) (Ev.pos (by simp only [List.length_append, List.length_cons]; omega) ?_))
    rw [rds_mid, w64 (x := (pre.length : Int) + 1) (by omega) (by omega)]
    refine Ev.bnd (impl_ReadSector_ev _ _) ?_
    by_cases g : (readSector (pre.length : Int) x).2.2 = true
    · rw [if_pos g]
      refine Ev.pos g (Ev.pos (by omega) ?_)
      by_cases g2 : (readSector (pre.length : Int) x).2.1 = true
      · rw [if_pos g2]
        refine Ev.pos g2 (Ev.pos (by omega) ?_)
        have h := ih (pre ++ [x]) (out ++ [part ++ (readSector (pre.length : Int) x).1]) ((pre.length : Int) + 1) (⟨#[]⟩ : ByteArray) (by simpa using hl') (by simp only [List.length_append, List.length_cons, List.length_nil]; omega) (by rw [show (⟨#[]⟩ : ByteArray).size = 0 from rfl]; omega)
        rw [hc] at h
        exact Ev.congr (fun k => by simp) h
      · rw [if_neg g2]
        refine Ev.neg g2 ?_
        have h := ih (pre ++ [x]) out used (part ++ (readSector (pre.length : Int) x).1) (by simpa using hl') (by omega) (by rw [ByteArray.size_append]; omega)
        rw [hc] at h
        exact Ev.congr (fun k => by simp) h
    · rw [if_neg g]
      exact Ev.neg g (Ev.ret _)
theorem spec_l13Texts_ev (l : List ByteArray) (hl : l.length ≤ 1048576) : Ev (fun k => spec_l13Texts.f k l) (textsGo l 0 [] 0 (⟨#[]⟩ : ByteArray)) := by
  simp only [spec_l13Texts.f]
  exact spec_l13Texts_l0 l [] [] 0 (⟨#[]⟩ : ByteArray) (by simpa using hl) (by simp only [List.length_nil]; omega) (by rw [show (⟨#[]⟩ : ByteArray).size = 0 from rfl]; omega)
theorem impl_texts_ev (a b : List ByteArray) (ha : a.length + b.length ≤ 1048576) : Ev (fun k => impl_Disk_texts.f k a b) (textsGo (a ++ b) 0 [] 0 (⟨#[]⟩ : ByteArray)) := by
  have h := concat_s [a, b] (by simp; omega) (by simp)
  have hf : [a, b].flatten = a ++ b := by simp
  rw [hf] at h
  simp only [impl_Disk_texts.f]
  have hl : (a ++ b).length ≤ 1048576 := by rw [List.length_append]; omega
  exact Ev.bnd h (impl_texts_l0 (a ++ b) [] [] 0 (⟨#[]⟩ : ByteArray) (by simpa using hl) (by simp only [List.length_nil]; omega) (by rw [show (⟨#[]⟩ : ByteArray).size = 0 from rfl]; omega))
def textsOn (a b : List ByteArray) : List ByteArray × Int × Bool :=
  if goodDisk a b = true then ((textsGo (a ++ b) 0 [] 0 (⟨#[]⟩ : ByteArray)).1, (textsGo (a ++ b) 0 [] 0 (⟨#[]⟩ : ByteArray)).2, true) else ([], 0, false)
theorem textsOn_len (a b : List ByteArray) : (textsOn a b).1.length ≤ a.length + b.length := by
  unfold textsOn
  split
  · have := textsGo_len (a ++ b) 0 [] 0 (⟨#[]⟩ : ByteArray)
    simp only [List.length_append, List.length_nil] at this
    simp only; omega
  · simp

theorem textsGo_used (l : List ByteArray) : ∀ i out used part, 0 ≤ used → used ≤ i → 0 ≤ (textsGo l i out used part).2 ∧ (textsGo l i out used part).2 ≤ i + l.length := by
  induction l with
  | nil => intro i out used part h0 h1; simp only [textsGo, List.length_nil]; omega
  | cons x l ih =>
    intro i out used part h0 h1
    simp only [textsGo, List.length_cons]
    split
    · split
      · have := ih (i + 1) (out ++ [part ++ (readSector i x).1]) (i + 1) (⟨#[]⟩ : ByteArray) (by omega) (by omega)
        omega
      · have := ih (i + 1) out used (part ++ (readSector i x).1) h0 (by omega)
        omega
    · simp only; omega

theorem l13All_eq (a b : List ByteArray) (ha : a.length + b.length ≤ 1048576) : spec_l13All.f a b = some (a ++ b) := by
  unfold spec_l13All.f
  rw [Option.bind_some, if_pos (by simp only [List.length_nil]; omega), Option.bind_some, if_pos (by simp only [List.nil_append]; omega), List.nil_append]

/-! The sectors of a text that is put on a disk: `n` full ones, then the last. -/
def putN : Nat → Int → ByteArray → List ByteArray
  | 0, no, t => [sectorB no true t]
  | n + 1, no, t => sectorB no false (t.extract 0 10) :: putN n (no + 1) (t.extract 10 t.size)
theorem putN_len (n : Nat) : ∀ no t, (putN n no t).length = n + 1 := by
  induction n with
  | zero => intro no t; rfl
  | succ n ih => intro no t; simp only [putN, List.length_cons, ih]
theorem ex10 (t : ByteArray) : (t.extract 10 t.size).size = t.size - 10 := by rw [ByteArray.size_extract]; omega
theorem spec_put (n : Nat) : ∀ (no : Int) (t : ByteArray) (acc : List ByteArray), t.size ≤ 10 * (n + 1) → (n = 0 ∨ 10 * n < t.size) → 0 ≤ no → no + acc.length + n ≤ 100000 → Ev (fun k => spec_l13Put.l0 k no t acc) (acc ++ putN n (no + acc.length) t) := by
  induction n with
  | zero =>
    intro no t acc h1 h2 h0 h3
    refine Ev.succ ?_
    simp only [spec_l13Put.l0, putN]
    rw [w64 (x := no + (acc.length : Int)) (by omega) (by omega)]
    exact Ev.neg (by omega) (Ev.bnd (spec_l13Sector_ev _ true t (by omega)) (Ev.pos (by omega) (Ev.ret _)))
  | succ n ih =>
    intro no t acc h1 h2 h0 h3
    have e : ∀ s : ByteArray, no + ((acc ++ [s]).length : Int) = no + (acc.length : Int) + 1 := fun s => by simp only [List.length_append, List.length_cons, List.length_nil]; omega
    have h := ih no (t.extract 10 t.size) (acc ++ [sectorB (no + acc.length) false (t.extract 0 10)]) (by rw [ex10]; omega) (by rw [ex10]; omega) h0 (by rw [e]; omega)
    rw [e] at h
    refine Ev.succ ?_
    simp only [spec_l13Put.l0, putN]
    rw [w64 (x := no + (acc.length : Int)) (by omega) (by omega)]
    exact Ev.pos (by omega) (Ev.pos (by omega) (Ev.pos (by omega) (Ev.bnd (spec_l13Sector_ev _ false _ (by rw [ByteArray.size_extract]; omega)) (Ev.pos (by omega) (Ev.eq h (by rw [List.append_assoc]; rfl))))))
theorem size_eq (a b : List ByteArray) (h : a.length + b.length ≤ 2000000) : impl_Disk_size.f a b = some ((a.length : Int) + b.length) := by
  unfold impl_Disk_size.f
  rw [w64 (by omega) (by omega)]
theorem ne_nil (t : ByteArray) (h : 0 < t.size) : (t.toList != ([] : List UInt8)) = true := by
  rw [ByteArray.toList_eq, bne_iff_ne]
  intro e
  have h2 : t.data.toList.length = 0 := by rw [e]; rfl
  rw [Array.length_toList] at h2
  have h3 : t.size = t.data.size := rfl
  omega
theorem is_nil (t : ByteArray) (h : t.size = 0) : (t.toList != ([] : List UInt8)) = false := by
  have h2 : t.data.toList = [] := List.eq_nil_of_length_eq_zero (by rw [Array.length_toList]; exact h)
  rw [ByteArray.toList_eq, h2]
  rfl
theorem impl_put (n : Nat) : ∀ (t : ByteArray) (a b : List ByteArray), t.size ≤ 10 * (n + 1) → (n = 0 ∨ 10 * n < t.size) → a.length + b.length ≤ 400 →
    Ev (fun k => impl_PutText.j2 k t true a b) (if a.length + b.length + n + 1 ≤ 400 then (a, b ++ putN n ((a.length : Int) + b.length) t, true) else ([], [], false)) := by
  induction n with
  | zero =>
    intro t a b h1 h2 h3
    have hz := size_eq a b (by omega)
    have hm : mn (t.size : Int) 10 = (t.size : Int) := by unfold mn; rw [if_neg (by omega)]
    refine Ev.succ ?_
    simp only [impl_PutText.j2, putN, hm]
    rw [Int.toNat_natCast, ByteArray.extract_zero_size]
    refine Ev.pos (by trivial) (Ev.bnd1 hz ?_)
    by_cases g : a.length + b.length = 400
    · rw [if_neg (by omega)]
      exact Ev.pos (by omega) (Ev.ret _)
    · rw [if_pos (by omega)]
      refine Ev.neg (by omega) (Ev.bnd1 hz (Ev.pos (by omega) (Ev.pos (by omega) ?_)))
      rw [beq_self_eq_true]
      refine Ev.bnd (impl_sector_ev _ true t (by omega)) (Ev.pos (by omega) (Ev.succ ?_))
      simp only [impl_PutText.l0]
      refine Ev.neg (by simp) (Ev.succ ?_)
      simp only [impl_PutText.j2]
      rw [is_nil (t.extract t.size t.size) (by rw [ByteArray.size_extract]; omega)]
      exact Ev.neg (by simp) (Ev.ret _)
  | succ n ih =>
    intro t a b h1 h2 h3
    have hz := size_eq a b (by omega)
    have hm : mn (t.size : Int) 10 = 10 := by unfold mn; rw [if_pos (by omega)]
    refine Ev.succ ?_
    simp only [impl_PutText.j2, putN, hm]
    refine Ev.pos (by trivial) (Ev.bnd1 hz ?_)
    by_cases g : a.length + b.length = 400
    · rw [if_neg (by omega)]
      exact Ev.pos (by omega) (Ev.ret _)
    · have e : ∀ s : ByteArray, ((b ++ [s]).length : Int) = (b.length : Int) + 1 := fun s => by simp only [List.length_append, List.length_cons, List.length_nil]; omega
      have e' : ∀ s : ByteArray, (b ++ [s]).length = b.length + 1 := fun s => by simp only [List.length_append, List.length_cons, List.length_nil]
      have h := ih (t.extract 10 t.size) a (b ++ [sectorB ((a.length : Int) + b.length) false (t.extract 0 10)]) (by rw [ex10]; omega) (by rw [ex10]; omega) (by rw [e']; omega)
      rw [e, e'] at h
      refine Ev.neg (by omega) (Ev.bnd1 hz (Ev.pos (by omega) (Ev.pos (by omega) ?_)))
      rw [show ((10 : Int) == (t.size : Int)) = false from by rw [beq_eq_false_iff_ne]; omega]
      refine Ev.bnd (impl_sector_ev _ false _ (by rw [show Int.toNat 10 = 10 from rfl, ByteArray.size_extract]; omega)) (Ev.pos (by omega) (Ev.succ ?_))
      simp only [impl_PutText.l0, show Int.toNat 10 = 10 from rfl]
      refine Ev.neg (by simp) ?_
      rw [ne_nil (t.extract 10 t.size) (by rw [ex10]; omega)]
      refine Ev.eq h ?_
      by_cases c : a.length + (b.length + 1) + n + 1 ≤ 400
      · rw [if_pos c, if_pos (by omega), List.append_assoc, ← Int.add_assoc]; rfl
      · rw [if_neg c, if_neg (by omega)]
def putText (a b : List ByteArray) (t : ByteArray) : List ByteArray × List ByteArray × Bool :=
  if goodDisk a b = true ∧ t.size ≤ 1000 ∧ (textsGo (a ++ b) 0 [] 0 (⟨#[]⟩ : ByteArray)).2 = (a.length : Int) + b.length ∧ a.length + b.length + (t.size - 1) / 10 + 1 ≤ 400 then (a, b ++ putN ((t.size - 1) / 10) ((a.length : Int) + b.length) t, true) else ([], [], false)
theorem good400 (a b : List ByteArray) (g : goodDisk a b = true) : a.length + b.length ≤ 400 := by
  unfold goodDisk at g
  rw [Bool.and_eq_true, decide_eq_true_eq] at g
  exact g.1
theorem putText_len (a b : List ByteArray) (t : ByteArray) : (putText a b t).1.length + (putText a b t).2.1.length ≤ 400 := by
  unfold putText
  split
  · rename_i h; simp only [List.length_append, putN_len]; omega
  · simp
theorem own_eq (a b : List ByteArray) (ha : a.length + b.length ≤ 1048576) : spec_l13Own.f a b = some (a, b) := by
  unfold spec_l13Own.f
  rw [Option.bind_some, if_pos (by simp only [List.length_nil]; omega), Option.bind_some, if_pos (by simp only [List.length_nil]; omega), List.nil_append, List.nil_append]
theorem spec_put_no (a b : List ByteArray) (t : ByteArray) : Ev (fun k => spec_PutText.j0 k t true a b) ([], [], false) := by
  refine Ev.succ ?_
  simp only [spec_PutText.j0]
  exact Ev.pos (by trivial) (Ev.ret _)
theorem spec_put_no1 (a b : List ByteArray) (t : ByteArray) (u : Int) : Ev (fun k => spec_PutText.j1 k t u true a b) ([], [], false) := by
  refine Ev.succ ?_
  simp only [spec_PutText.j1]
  exact Ev.pos (by trivial) (Ev.ret _)
theorem tdiv10 (n : Nat) : Int.tdiv (n : Int) 10 = ((n / 10 : Nat) : Int) := rfl
theorem spec_PutText_ev (a b : List ByteArray) (ha : a.length + b.length ≤ 1048576) (t : ByteArray) : Ev (fun k => spec_PutText.f k a b t) (putText a b t) := by
  unfold putText
  simp only [spec_PutText.f]
  refine Ev.bnd (spec_GoodDisk_ev a b ha) ?_
  by_cases g : goodDisk a b = true
  · refine Ev.pos g ?_
    by_cases g1 : (t.size : Int) > 1000
    · rw [if_neg (fun h => by have := h.2.1; omega), decide_eq_true g1]; exact spec_put_no a b t
    · rw [decide_eq_false g1]
      have h4 := good400 a b g
      have hu := textsGo_used (a ++ b) 0 [] 0 (⟨#[]⟩ : ByteArray) (by omega) (by omega)
      have ht := spec_l13Texts_ev (a ++ b) (by rw [List.length_append]; omega)
      refine Ev.succ ?_
      simp only [spec_PutText.j0]
      refine Ev.neg (by simp) (Ev.bnd1 (l13All_eq a b ha) (Ev.bnd ht ?_))
      generalize (textsGo (a ++ b) 0 [] 0 (⟨#[]⟩ : ByteArray)).2 = u at hu
      rw [List.length_append] at hu ⊢
      by_cases g2 : u < ((a.length + b.length : Nat) : Int)
      · rw [if_neg (fun h => by have := h.2.2.1; omega)]
        exact Ev.pos g2 (spec_put_no1 a b t u)
      · refine Ev.neg g2 ?_
        obtain rfl : u = ((a.length + b.length : Nat) : Int) := by omega
        rw [w64 (x := (t.size : Int) + 9) (by omega) (by omega), show (t.size : Int) + 9 = ((t.size + 9 : Nat) : Int) from rfl, tdiv10, w64 (x := (((t.size + 9) / 10 : Nat) : Int)) (by omega) (by omega), w64 (by omega) (by omega)]
        by_cases g3 : ((a.length + b.length : Nat) : Int) + (((t.size + 9) / 10 : Nat) : Int) > 400
        · rw [if_neg (fun h => by have := h.2.2.2; omega)]
          exact Ev.pos g3 (spec_put_no1 a b t _)
        · refine Ev.neg g3 ?_
          by_cases g4 : a.length + b.length = 400
          · rw [if_neg (fun h => by have := h.2.2.2; omega), g4]
            exact spec_put_no1 a b t 400
          · rw [if_pos ⟨g, by omega, by omega, by omega⟩, show (((a.length + b.length : Nat) : Int) == 400) = false from by rw [beq_eq_false_iff_ne]; omega]
            refine Ev.succ ?_
            simp only [spec_PutText.j1]
            have hp := spec_put ((t.size - 1) / 10) ((a.length + b.length : Nat) : Int) t [] (by omega) (by omega) (by omega) (by simp only [List.length_nil]; omega)
            rw [List.nil_append, List.length_nil, Int.natCast_zero, Int.add_zero] at hp
            refine Ev.neg (by simp) (Ev.bnd1 (own_eq a b ha) (Ev.bnd (a := putN ((t.size - 1) / 10) ((a.length + b.length : Nat) : Int) t) ?_ (Ev.pos ?_ (Ev.ret _))))
            · simp only [spec_l13Put.f]; exact hp
            · rw [putN_len]; simp only; omega
  · rw [if_neg (fun h => g h.1)]
    exact Ev.neg g (spec_put_no a b t)
theorem impl_put_no (a b : List ByteArray) (t : ByteArray) : Ev (fun k => impl_PutText.j0 k t true a b) ([], [], false) := by
  refine Ev.succ ?_
  simp only [impl_PutText.j0]
  exact Ev.pos (by trivial) (Ev.ret _)
theorem clone_eq (a : List ByteArray) (h : a.length ≤ 1048576) : slices_Clone_string_string.f a = some a := by
  unfold slices_Clone_string_string.f
  exact if_pos (by omega)
theorem impl_PutText_ev (a b : List ByteArray) (ha : a.length + b.length ≤ 1048576) (t : ByteArray) : Ev (fun k => impl_PutText.f k a b t) (putText a b t) := by
  unfold putText
  simp only [impl_PutText.f]
  refine Ev.bnd (impl_GoodDisk_ev a b ha) ?_
  by_cases g : goodDisk a b = true
  · refine Ev.pos g ?_
    by_cases g1 : (t.size : Int) > 1000
    · rw [if_neg (fun h => by have := h.2.1; omega), decide_eq_true g1]; exact impl_put_no a b t
    · rw [decide_eq_false g1]
      have h4 := good400 a b g
      refine Ev.succ ?_
      simp only [impl_PutText.j0]
      refine Ev.neg (by simp) (Ev.bnd (impl_texts_ev a b ha) (Ev.bnd1 (size_eq a b (by omega)) ?_))
      by_cases g2 : (textsGo (a ++ b) 0 [] 0 (⟨#[]⟩ : ByteArray)).2 = (a.length : Int) + b.length
      · refine Ev.pos g2 ?_
        have hc : impl_Disk_copied.f a b = some (a, b) := by
          unfold impl_Disk_copied.f
          rw [clone_eq a (by omega), Option.bind_some, clone_eq b (by omega), Option.bind_some]
        refine Ev.bnd1 hc (Ev.succ ?_)
        simp only [impl_PutText.l0]
        refine Ev.pos (by trivial) (Ev.eq (impl_put ((t.size - 1) / 10) t a b (by omega) (by omega) h4) ?_)
        by_cases g3 : a.length + b.length + (t.size - 1) / 10 + 1 ≤ 400
        · rw [if_pos g3, if_pos ⟨g, by omega, g2, g3⟩]
        · rw [if_neg g3, if_neg (fun h => g3 h.2.2.2)]
      · rw [if_neg (fun h => g2 h.2.2.1)]
        exact Ev.neg g2 (Ev.ret _)
  · rw [if_neg (fun h => g h.1)]
    exact Ev.neg g (impl_put_no a b t)

theorem FnExactPutText : laws_FnExactPutText.Pure := by
  intro a b s ha hb hsz
  refine Ev.all ?_
  simp only [laws_FnExactPutText.f]
  by_cases g0 : (s.size : Int) > 1048576
  · exact Ev.pos g0 (Ev.ret _)
  refine Ev.neg g0 ?_
  obtain ⟨r, h1, h2⟩ := szDisk a b ha hb
  refine Ev.bnd h1 ?_
  by_cases g : r < 0
  · exact Ev.pos g (Ev.ret _)
  · refine Ev.neg g ?_
    have hl : a.length + b.length ≤ 1048576 := by omega
    obtain ⟨t, ht⟩ := markText_ex
    have ht0 := toDisk a b (by omega) (by omega)
    have hs := spec_PutText_ev a b hl s
    have hi := impl_PutText_ev a b hl s
    have hlen := putText_len a b s
    generalize putText a b s = d at hs hi hlen
    obtain ⟨da, db, dc⟩ := d
    simp only at hlen
    have e1 := eqDisk_self da db (by omega) (by omega)
    have e2 := eqDisk_self a b (by omega) (by omega)
    have m1 := markDisk t ht a b hl
    have m2 := markDisk t ht da db (by omega)
    have k2 := heldDisk t ht da.length db.length (by omega)
    refine Ev.bnd ht0 (Ev.bnd hs (Ev.bnd ht0 (Ev.bnd hi (Ev.bnd e1 (Ev.pos rfl (Ev.succ ?_))))))
    simp only [laws_FnExactPutText.j0]
    refine Ev.neg (by simp) (Ev.bnd ht0 (Ev.bnd e2 (Ev.pos rfl (Ev.bnd m1 (Ev.neg (by omega) (Ev.bnd e1 (Ev.pos rfl (Ev.succ ?_))))))))
    simp only [laws_FnExactPutText.j1]
    refine Ev.neg (by simp) (Ev.bnd m2 (Ev.bnd k2 (Ev.neg (by omega) (Ev.pos rfl (Ev.bnd ht0 (Ev.bnd hi (Ev.bnd e1 (Ev.pos rfl (Ev.succ ?_)))))))))
    simp only [laws_FnExactPutText.j2]
    exact Ev.neg (by simp) (Ev.bnd k2 (Ev.neg (by omega) (Ev.pos rfl (Ev.ret _))))

end Go.Proofs.Ytamiedpgahpihaa.Pure
