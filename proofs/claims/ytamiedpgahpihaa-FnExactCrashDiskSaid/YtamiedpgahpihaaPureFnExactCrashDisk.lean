/- The program's CrashDisk returns what the reference's returns, for all arguments, and what it returns is the caller's own.
Conditions: none beyond what the row itself says. -/
import Derived.Test.YtamiedpgahpihaaQFnExactCrashDiskx6
namespace Go.Proofs.Ytamiedpgahpihaa.Pure
open Go.RowKit Go.Proofs.Ytamiedpgahpihaa.QFnExactCrashDisk Go.Proofs.YtamiedpgahpihaaW.PrintWords Go.Proofs.YtamiedpgahpihaaW.PrintLast Go.Proofs.YtamiedpgahpihaaW.PrintMore
set_option linter.unusedVariables false
set_option linter.unusedSimpArgs false

theorem w64 {x : Int} (h0 : -9223372036854775808 ≤ x) (h1 : x ≤ 9223372036854775807) : wrap64 x = x := by
  unfold wrap64; omega
theorem wf64 {a : Int} (h : (Lit.int .i64 a).wf = true) : -9223372036854775808 ≤ a ∧ a ≤ 9223372036854775807 := by
  simp only [Lit.wf, IntKind.min, IntKind.max, IntKind.signed, IntKind.bits, Bool.and_eq_true, decide_eq_true_eq, if_true] at h
  omega

theorem Ev.succ {α : Type} {g : Nat → Option α} {r : α} (h : Ev (fun k => g (k + 1)) r) : Ev g r := Ev.step (fun _ => rfl) h
theorem Ev.pos {α : Type} {c : Prop} [Decidable c] {a b : Nat → Option α} {r : α} (h : c) (e : Ev (fun k => a k) r) : Ev (fun k => if c then a k else b k) r := Ev.congr (fun _ => if_pos h) e
theorem Ev.neg {α : Type} {c : Prop} [Decidable c] {a b : Nat → Option α} {r : α} (h : ¬ c) (e : Ev (fun k => b k) r) : Ev (fun k => if c then a k else b k) r := Ev.congr (fun _ => if_neg h) e
theorem Ev.bnd {α β : Type} {g : Nat → Option α} {f : Nat → α → Option β} {a : α} {r : β} (h : Ev (fun k => g k) a) (k : Ev (fun n => f n a) r) : Ev (fun n => (g n).bind (fun x => f n x)) r := Ev.bind h k
theorem Ev.bnd1 {α β : Type} {g : Option α} {f : Nat → α → Option β} {a : α} {r : β} (h : g = some a) (k : Ev (fun n => f n a) r) : Ev (fun n => g.bind (fun x => f n x)) r := by
  rw [h]; exact k
theorem Ev.ret {α : Type} (r : α) : Ev (fun _ => some r) r := Ev.now r
theorem Ev.eq {α : Type} {g : Nat → Option α} {r r' : α} (h : Ev g r) (e : r = r') : Ev g r' := e ▸ h
theorem Ev.all {α : Type} {g : Nat → Option α} {r : α} (h : Ev (fun k => g k) r) : ∃ k, g k = some r := h.rounds
theorem rd_mid (pre : List Int) (x : Int) (post : List Int) : rd (pre ++ x :: post) (pre.length : Int) = x := by
  unfold rd; simp
theorem rd_nat (xs : List Int) (i : Nat) (h : i < xs.length) : rd xs (i : Int) = xs[i] := by
  unfold rd; simp [List.getD_eq_getElem?_getD, List.getElem?_eq_getElem h]

theorem toList_iff (a b : ByteArray) : a.toList = b.toList ↔ a = b := by
  rw [ByteArray.toList_eq, ByteArray.toList_eq]
  exact ⟨fun h => ByteArray.ext (Array.toList_inj.1 h), fun h => by rw [h]⟩

theorem rds_mid (pre : List ByteArray) (x : ByteArray) (post : List ByteArray) : rdOf ByteArray.empty (pre ++ x :: post) (pre.length : Int) = x := by
  unfold rdOf; simp
/-- How many strings and bytes there are. -/
def szs : List ByteArray → Nat
  | [] => 0
  | s :: t => s.size + szs t
theorem szStringS_l0 (post : List ByteArray) : ∀ (pre : List ByteArray) (a : Int), 0 ≤ a → a ≤ 1048576 → (∀ s ∈ post, s.size ≤ 9223372036854775807) → (pre ++ post).length ≤ 1048576 → Ev (fun k => laws_szStringS.l0 k (pre ++ post) a (pre.length : Int)) (if (szs post : Int) ≤ a then a - szs post else -1) := by
  induction post with
  | nil =>
    intro pre a h0 h1 hs hl
    refine Ev.succ ?_
    simp only [laws_szStringS.l0]
    refine Ev.neg (by simp) (Ev.eq (Ev.ret _) ?_)
    rw [if_pos (by simp only [szs]; omega)]
    simp [szs]
  | cons s post ih =>
    intro pre a h0 h1 hs hl
    have hsz := hs s (by simp)
    have hl' := hl
    simp only [List.length_append, List.length_cons] at hl
    refine Ev.succ ?_
    simp only [laws_szStringS.l0]
    refine Ev.pos (by simp only [List.length_append, List.length_cons]; omega) (Ev.pos (by omega) ?_)
    rw [rds_mid, w64 (x := a - (s.size : Int)) (by omega) (by omega), w64 (x := (pre.length : Int) + 1) (by omega) (by omega)]
    by_cases g : a - (s.size : Int) < 0
    · refine Ev.pos g (Ev.eq (Ev.ret _) ?_)
      rw [if_neg (by simp only [szs]; omega)]
    · refine Ev.neg g ?_
      have h := ih (pre ++ [s]) (a - s.size) (by omega) (by omega) (fun x hx => hs x (by simp [hx])) (by simpa using hl')
      have e : szs (s :: post) = s.size + szs post := rfl
      refine Ev.eq (by simpa using h) ?_
      by_cases g2 : (szs post : Int) ≤ a - s.size
      · rw [if_pos g2, if_pos (show ((szs (s :: post) : Nat) : Int) ≤ a by rw [e]; omega), e]; omega
      · rw [if_neg g2, if_neg (show ¬((szs (s :: post) : Nat) : Int) ≤ a by rw [e]; omega)]
theorem szStringS (l : List ByteArray) (a : Int) (h0 : 0 ≤ a) (h1 : a ≤ 1048576) (hl : l.length ≤ 9223372036854775807) (hs : ∀ s ∈ l, s.size ≤ 9223372036854775807) : Ev (fun k => laws_szStringS.f k l a) (if (l.length : Int) + szs l ≤ a then a - (l.length + szs l) else -1) := by
  simp only [laws_szStringS.f]
  rw [w64 (x := a - (l.length : Int)) (by omega) (by omega)]
  by_cases g : a - (l.length : Int) < 0
  · refine Ev.pos g (Ev.eq (Ev.ret _) ?_)
    rw [if_neg (by omega)]
  · refine Ev.neg g ?_
    have h := szStringS_l0 l [] (a - l.length) (by omega) (by omega) hs (by simp; omega)
    refine Ev.eq (by simpa using h) ?_
    by_cases g2 : (szs l : Int) ≤ a - l.length
    · rw [if_pos g2, if_pos (by omega)]; omega
    · rw [if_neg g2, if_neg (by omega)]
theorem toStringS_l0 (post : List ByteArray) : ∀ (pre rest : List ByteArray), rest.length = post.length → (pre ++ post).length ≤ 140737488351232 → Ev (fun k => laws_toStringS.l0 k (pre ++ post) (pre ++ rest) (pre.length : Int)) (pre ++ post) := by
  induction post with
  | nil =>
    intro pre rest hr hl
    obtain rfl : rest = [] := List.eq_nil_of_length_eq_zero hr
    refine Ev.succ ?_
    simp only [laws_toStringS.l0]
    exact Ev.neg (by simp) (Ev.ret _)
  | cons x post ih =>
    intro pre rest hr hl
    obtain ⟨y, rest, rfl⟩ : ∃ y t, rest = y :: t := by cases rest with | nil => simp at hr | cons y t => exact ⟨y, t, rfl⟩
    have h := ih (pre ++ [x]) rest (by simpa using hr) (by simpa using hl)
    simp only [List.length_append, List.length_cons, List.length_nil] at hl hr h
    refine Ev.succ ?_
    simp only [laws_toStringS.l0, List.length_append, List.length_cons]
    refine Ev.pos (by omega) (Ev.pos (by omega) (Ev.pos (by omega) ?_))
    rw [rds_mid, w64 (by omega) (by omega)]
    have e : (pre ++ y :: rest).set ((pre.length : Int)).toNat x = pre ++ [x] ++ rest := by simp
    rw [e]
    simpa using h
theorem toStringS (l : List ByteArray) (h : l.length ≤ 1048576) : Ev (fun k => laws_toStringS.f k l) l := by
  simp only [laws_toStringS.f]
  refine Ev.pos (by omega) (Ev.pos (by omega) ?_)
  have := toStringS_l0 l [] (List.replicate l.length (⟨#[]⟩ : ByteArray)) (by simp) (by simp; omega)
  simpa using this
theorem eqStringS_l0 (pa : List ByteArray) : ∀ (pa' pb pb' : List ByteArray), pa'.length = pb'.length → pa.length = pb.length → (pa' ++ pa).length ≤ 140737488351232 → Ev (fun k => laws_eqStringS.l0 k (pa' ++ pa) (pb' ++ pb) (pa'.length : Int)) (decide (pa = pb)) := by
  induction pa with
  | nil =>
    intro pa' pb pb' h1 h2 hl
    obtain rfl : pb = [] := List.eq_nil_of_length_eq_zero h2.symm
    refine Ev.succ ?_
    simp only [laws_eqStringS.l0]
    exact Ev.neg (by simp) (Ev.eq (Ev.ret _) (by simp))
  | cons x pa ih =>
    intro pa' pb pb' h1 h2 hl
    obtain ⟨y, pb, rfl⟩ : ∃ y t, pb = y :: t := by cases pb with | nil => simp at h2 | cons y t => exact ⟨y, t, rfl⟩
    have h := ih (pa' ++ [x]) pb (pb' ++ [y]) (by simpa using h1) (by simpa using h2) (by simpa using hl)
    simp only [List.length_append, List.length_cons, List.length_nil] at hl h2 h
    refine Ev.succ ?_
    simp only [laws_eqStringS.l0, List.length_append, List.length_cons]
    refine Ev.pos (by omega) (Ev.pos (by omega) (Ev.pos (by omega) ?_))
    rw [rds_mid, show (pa'.length : Int) = (pb'.length : Int) by omega, rds_mid]
    by_cases e : x = y
    · subst e
      refine Ev.pos rfl ?_
      rw [w64 (by omega) (by omega)]
      refine Ev.eq (Ev.congr (fun k => ?_) h) (by simp)
      simp [h1]
    · exact Ev.neg (fun h => e ((toList_iff _ _).1 h)) (Ev.eq (Ev.ret _) (by simp [e]))
theorem eqStringS (a b : List ByteArray) (h : a.length ≤ 140737488351232) : Ev (fun k => laws_eqStringS.f k a b) (decide (a = b)) := by
  simp only [laws_eqStringS.f]
  by_cases e : a.length = b.length
  · exact Ev.pos (by omega) (by simpa using eqStringS_l0 a [] b [] rfl e (by simpa using h))
  · exact Ev.neg (by omega) (Ev.eq (Ev.ret _) (by simp only [false_eq_decide_iff]; intro h; exact e (by rw [h])))
theorem eqStringS_self (a : List ByteArray) (h : a.length ≤ 140737488351232) : Ev (fun k => laws_eqStringS.f k a a) true := Ev.eq (eqStringS a a h) (by simp)

theorem szDisk (a b : List ByteArray) (ha : a.length ≤ maxLen ∧ ∀ s ∈ a, s.size ≤ maxLen) (hb : b.length ≤ maxLen ∧ ∀ s ∈ b, s.size ≤ maxLen) :
    ∃ r, Ev (fun k => laws_szDisk.f k a b 1048576) r ∧ (r < 0 ∨ a.length + b.length + szs a + szs b ≤ 1048576) := by
  have e : maxLen = 9223372036854775807 := rfl
  rw [e] at ha hb
  simp only [laws_szDisk.f]
  have h1 := szStringS a 1048576 (by omega) (by omega) ha.1 ha.2
  by_cases g : (a.length : Int) + szs a ≤ 1048576
  · rw [if_pos g] at h1
    have h2 := szStringS b (1048576 - (a.length + szs a)) (by omega) (by omega) hb.1 hb.2
    by_cases g2 : (b.length : Int) + szs b ≤ 1048576 - (a.length + szs a)
    · rw [if_pos g2] at h2
      exact ⟨_, Ev.bnd h1 (Ev.neg (by omega) (Ev.bnd h2 (Ev.neg (by omega) (Ev.ret _)))), .inr (by omega)⟩
    · rw [if_neg g2] at h2
      exact ⟨_, Ev.bnd h1 (Ev.neg (by omega) (Ev.bnd h2 (Ev.pos (by omega) (Ev.ret _)))), .inl (by omega)⟩
  · rw [if_neg g] at h1
    exact ⟨_, Ev.bnd h1 (Ev.pos (by omega) (Ev.ret _)), .inl (by omega)⟩
theorem toDisk (a b : List ByteArray) (ha : a.length ≤ 1048576) (hb : b.length ≤ 1048576) : Ev (fun k => laws_toDisk.f k a b) (a, b) := by
  simp only [laws_toDisk.f]
  exact Ev.bnd (toStringS a ha) (Ev.bnd (toStringS b hb) (Ev.ret _))
theorem eqDisk_self (a b : List ByteArray) (ha : a.length ≤ 1048576) (hb : b.length ≤ 1048576) : Ev (fun k => laws_eqDisk.f k a b a b) true := by
  simp only [laws_eqDisk.f]
  exact Ev.bnd (eqStringS_self a (by omega)) (Ev.pos rfl (Ev.bnd (eqStringS_self b (by omega)) (Ev.pos rfl (Ev.ret _))))

theorem grow_s (n : Int) (h0 : 0 ≤ n) (h1 : n ≤ 8000000000000) : slices_Grow_string_string.f n = some [] := by
  unfold slices_Grow_string_string.f
  rw [if_neg (by omega), w64 (by omega) (by omega)]
  by_cases g : n > 0
  · rw [if_pos g, if_pos h0, if_pos (by simp only [List.length_nil]; omega)]
    simp only [Option.bind_some]
    rw [if_pos (by omega)]
    rfl
  · rw [if_neg g]
theorem rdls_mid (pre : List (List ByteArray)) (x : List ByteArray) (post : List (List ByteArray)) : rd_L2 (pre ++ x :: post) (pre.length : Int) = x := by
  unfold rd_L2; simp
theorem concat_s_l1 (post : List (List ByteArray)) : ∀ (pre : List (List ByteArray)) (acc : List ByteArray), acc.length + post.flatten.length ≤ 8000000000000 → (pre ++ post).length ≤ 1048576 → Ev (fun k => slices_Concat_string_string.l1 k acc (pre ++ post) ((pre ++ post).length : Int) (pre.length : Int)) (acc ++ post.flatten) := by
  induction post with
  | nil =>
    intro pre acc h hl
    refine Ev.succ ?_
    simp only [slices_Concat_string_string.l1]
    exact Ev.neg (by simp) (Ev.eq (Ev.ret _) (by simp))
  | cons x post ih =>
    intro pre acc h hl
    simp only [List.flatten_cons, List.length_append, List.length_cons] at h hl
    have h2 := ih (pre ++ [x]) (acc ++ x) (by simp only [List.length_append]; omega) (by simp only [List.length_append, List.length_cons, List.length_nil]; omega)
    refine Ev.succ ?_
    simp only [slices_Concat_string_string.l1]
    refine Ev.pos (by simp only [List.length_append, List.length_cons]; omega) (Ev.pos (by omega) (Ev.pos (by simp only [List.length_append, List.length_cons]; omega) ?_))
    rw [rdls_mid]
    refine Ev.pos (by omega) ?_
    rw [w64 (by omega) (by omega)]
    refine Ev.eq (by simpa using h2) (by simp)
theorem concat_s_l0 (x0 : List (List ByteArray)) (hx : x0.flatten.length ≤ 8000000000000) (hxl : x0.length ≤ 1048576) (post : List (List ByteArray)) : ∀ (pre : List (List ByteArray)) (s : Int), 0 ≤ s → s + post.flatten.length ≤ 8000000000000 → (pre ++ post).length ≤ 1048576 → Ev (fun k => slices_Concat_string_string.l0 k x0 s (pre ++ post) ((pre ++ post).length : Int) (pre.length : Int)) x0.flatten := by
  induction post with
  | nil =>
    intro pre s h0 h1 hl
    refine Ev.succ ?_
    simp only [slices_Concat_string_string.l0]
    refine Ev.neg (by simp) (Ev.bnd1 (grow_s s h0 (by simpa using h1)) ?_)
    simpa using concat_s_l1 x0 [] [] (by simpa using hx) (by simpa using hxl)
  | cons x post ih =>
    intro pre s h0 h1 hl
    simp only [List.flatten_cons, List.length_append, List.length_cons] at h1 hl
    have h2 := ih (pre ++ [x]) (s + x.length) (by omega) (by omega) (by simp only [List.length_append, List.length_cons, List.length_nil]; omega)
    refine Ev.succ ?_
    simp only [slices_Concat_string_string.l0]
    refine Ev.pos (by simp only [List.length_append, List.length_cons]; omega) (Ev.pos (by omega) (Ev.pos (by simp only [List.length_append, List.length_cons]; omega) ?_))
    rw [rdls_mid, w64 (x := s + (x.length : Int)) (by omega) (by omega), w64 (x := (pre.length : Int) + 1) (by omega) (by omega)]
    refine Ev.neg (by omega) ?_
    simpa using h2
theorem concat_s (x0 : List (List ByteArray)) (hx : x0.flatten.length ≤ 8000000000000) (hxl : x0.length ≤ 1048576) : Ev (fun k => slices_Concat_string_string.f k x0) x0.flatten := by
  simp only [slices_Concat_string_string.f]
  simpa using concat_s_l0 x0 hx hxl x0 [] 0 (by omega) (by omega) (by simpa using hxl)

theorem anyO_not {α : Type} (f : α → Option Bool) (p : α → Bool) (l : List α) (h : ∀ x ∈ l, f x = some (!p x)) : anyO f l = some (!l.all p) := by
  induction l with
  | nil => rfl
  | cons x t ih =>
    simp only [anyO]
    rw [h x (by simp), Option.bind_some]
    cases hp : p x with
    | true => simp [hp, ih (fun y hy => h y (by simp [hy]))]
    | false => simp [hp]

def goodDisk (a b : List ByteArray) : Bool := decide (a.length + b.length ≤ 400) && (a ++ b).all fun s => s.size == 16
theorem spec_gd_l0 (x3 : List ByteArray) (post : List ByteArray) : ∀ pre : List ByteArray, (pre ++ post).length ≤ 1048576 → Ev (fun k => spec_GoodDisk.l0 k x3 (pre ++ post) ((pre ++ post).length : Int) (pre.length : Int)) (if post.all (fun s => s.size == 16) = true then decide ((x3.length : Int) ≤ 400) else false) := by
  induction post with
  | nil =>
    intro pre hl
    refine Ev.succ ?_
    simp only [spec_GoodDisk.l0]
    exact Ev.neg (by simp) (Ev.eq (Ev.ret _) (by simp))
  | cons s post ih =>
    intro pre hl
    have h := ih (pre ++ [s]) (by simpa using hl)
    simp only [List.length_append, List.length_cons] at hl
    refine Ev.succ ?_
    simp only [spec_GoodDisk.l0]
    refine Ev.pos (by simp only [List.length_append, List.length_cons]; omega) (Ev.pos (by omega) (Ev.pos (by simp only [List.length_append, List.length_cons]; omega) ?_))
    rw [rds_mid, w64 (by omega) (by omega)]
    by_cases g : s.size = 16
    · refine Ev.pos (by omega) ?_
      refine Ev.eq (by simpa using h) (by simp [g])
    · exact Ev.neg (by omega) (Ev.eq (Ev.ret _) (by simp [g]))
theorem spec_GoodDisk_ev (a b : List ByteArray) (ha : a.length + b.length ≤ 1048576) : Ev (fun k => spec_GoodDisk.f k a b) (goodDisk a b) := by
  simp only [spec_GoodDisk.f]
  refine Ev.bnd1 rfl (Ev.pos (by simp only [List.length_nil]; omega) (Ev.bnd1 rfl (Ev.pos (by simp only [List.nil_append]; omega) (Ev.bnd1 rfl ?_))))
  have h := spec_gd_l0 ([] ++ a ++ b) ([] ++ a ++ b) [] (by simpa using ha)
  refine Ev.eq (Ev.congr (fun k => rfl) h) ?_
  unfold goodDisk
  simp only [List.nil_append, List.length_append, List.all_append]
  by_cases g1 : (a.all (fun s => s.size == 16) && b.all fun s => s.size == 16) = true
  · rw [if_pos g1, g1, Bool.and_true]; congr 1; simp only [eq_iff_iff]; omega
  · rw [if_neg g1]; simp only [Bool.not_eq_true] at g1; rw [g1, Bool.and_false]
theorem impl_GoodDisk_any (l : List ByteArray) : impl_GoodDisk_1_any.f l = some (!l.all fun s => s.size == 16) := by
  unfold impl_GoodDisk_1_any.f
  refine anyO_not _ _ _ (fun s _ => ?_)
  unfold impl_GoodDisk_1.f
  congr 1
  by_cases e : s.size = 16
  · simp [e]
  · have e2 : ((s.size : Int) == 16) = false := by simp; omega
    simp [bne, e, e2]
theorem impl_GoodDisk_ev (a b : List ByteArray) (ha : a.length + b.length ≤ 1048576) : Ev (fun k => impl_GoodDisk.f k a b) (goodDisk a b) := by
  have e0 : wrap64 ((a.length : Int) + (b.length : Int)) = (a.length : Int) + (b.length : Int) := w64 (by omega) (by omega)
  have h := concat_s [a, b] (by simp; omega) (by simp)
  have hf : [a, b].flatten = a ++ b := by simp
  rw [hf] at h
  refine Ev.bnd1 (show impl_Disk_size.f a b = some ((a.length : Int) + (b.length : Int)) by unfold impl_Disk_size.f; rw [e0]) ?_
  clear e0
  unfold goodDisk
  by_cases g : a.length + b.length ≤ 400
  · refine Ev.pos (by omega) (Ev.bnd h (Ev.bnd1 (impl_GoodDisk_any (a ++ b)) (Ev.eq (Ev.ret _) ?_)))
    rw [decide_eq_true g, Bool.not_not, Bool.true_and]
  · refine Ev.neg (by omega) (Ev.eq (Ev.ret _) ?_)
    rw [decide_eq_false g, Bool.false_and]

/-! The laws' marks over strings. -/
theorem markText_l0 (n : Nat) : ∀ acc : ByteArray, acc.size + n ≤ 8000000 → ∃ r, Ev (fun k => laws_markText.l0 k (n : Int) acc) r := by
  induction n using Nat.strongRecOn with
  | _ n ih =>
    intro acc ha
    by_cases g : n = 0
    · subst g
      refine ⟨(⟨#[109]⟩ : ByteArray) ++ acc, Ev.succ ?_⟩
      simp only [laws_markText.l0]
      exact Ev.neg (by omega) (Ev.pos (by omega) (Ev.ret _))
    · have e1 : wrap64 (Int.tdiv (n : Int) 10) = ((n / 10 : Nat) : Int) := by
        rw [show Int.tdiv (n : Int) 10 = ((n / 10 : Nat) : Int) from rfl, w64 (by omega) (by omega)]
      obtain ⟨r, h⟩ := ih (n / 10) (by omega) (strOfNums [(wrap64 (48 + (Int.tmod (n : Int) 10))) % 256] ++ acc) (by rw [ByteArray.size_append, strOfNums_size, List.length_cons, List.length_nil]; omega)
      refine ⟨r, Ev.succ ?_⟩
      simp only [laws_markText.l0]
      rw [e1]
      clear e1
      exact Ev.pos (by omega) (Ev.bnd1 rfl (Ev.pos (by rw [strOfNums_size, List.length_cons, List.length_nil]; omega) h))
theorem markText_ex : ∃ t : Int → ByteArray, ∀ m, 0 ≤ m → m ≤ 4000000 → Ev (fun k => laws_markText.f k m) (t m) := by
  have h : ∀ m : Int, ∃ r, 0 ≤ m → m ≤ 4000000 → Ev (fun k => laws_markText.f k m) r := by
    intro m
    by_cases g0 : 0 ≤ m ∧ m ≤ 4000000
    · obtain ⟨n, rfl⟩ : ∃ n : Nat, m = n := ⟨m.toNat, by omega⟩
      by_cases g : n = 0
      · refine ⟨(⟨#[109, 48]⟩ : ByteArray), fun _ _ => ?_⟩
        simp only [laws_markText.f]
        exact Ev.pos (by omega) (Ev.ret _)
      · obtain ⟨r, hr⟩ := markText_l0 n (⟨#[]⟩ : ByteArray) (by rw [show (⟨#[]⟩ : ByteArray).size = 0 from rfl]; omega)
        refine ⟨r, fun _ _ => ?_⟩
        simp only [laws_markText.f]
        exact Ev.neg (by omega) hr
    · exact ⟨ByteArray.empty, fun h0 h1 => absurd ⟨h0, h1⟩ g0⟩
  exact ⟨fun m => Classical.choose (h m), fun m => Classical.choose_spec (h m)⟩
def upt (t : Int → ByteArray) : Int → Nat → List ByteArray
  | _, 0 => []
  | m, n + 1 => t m :: upt t (m + 1) n
theorem upt_len (t : Int → ByteArray) (n : Nat) : ∀ m, (upt t m n).length = n := by
  induction n with
  | zero => intro m; rfl
  | succ n ih => intro m; simp [upt, ih]
theorem markStringS_l0 (t : Int → ByteArray) (ht : ∀ m, 0 ≤ m → m ≤ 4000000 → Ev (fun k => laws_markText.f k m) (t m)) (post : List ByteArray) : ∀ (pre : List ByteArray) (m : Int), 0 ≤ m → m + post.length ≤ 4000000 → (pre ++ post).length ≤ 4000000 → Ev (fun k => laws_markStringS.l0 k (pre ++ post) m (pre.length : Int)) (m + post.length, pre ++ upt t m post.length) := by
  induction post with
  | nil =>
    intro pre m h0 h1 hl
    refine Ev.succ ?_
    simp only [laws_markStringS.l0]
    exact Ev.neg (by simp) (Ev.eq (Ev.ret _) (by simp [upt]))
  | cons x post ih =>
    intro pre m h0 h1 hl
    simp only [List.length_append, List.length_cons] at hl h1
    have h := ih (pre ++ [t m]) (m + 1) (by omega) (by omega) (by simp only [List.length_append, List.length_cons, List.length_nil]; omega)
    refine Ev.succ ?_
    simp only [laws_markStringS.l0]
    refine Ev.pos (by simp only [List.length_append, List.length_cons]; omega) (Ev.bnd (ht m h0 (by omega)) (Ev.pos (by omega) ?_))
    rw [w64 (x := m + 1) (by omega) (by omega), w64 (by omega) (by omega)]
    have e : (pre ++ x :: post).set ((pre.length : Int)).toNat (t m) = pre ++ [t m] ++ post := by simp
    rw [e]
    refine Ev.eq (by simpa using h) ?_
    simp only [upt, List.length_cons, Prod.mk.injEq]
    exact ⟨by omega, trivial⟩
theorem markStringS (t : Int → ByteArray) (ht : ∀ m, 0 ≤ m → m ≤ 4000000 → Ev (fun k => laws_markText.f k m) (t m)) (l : List ByteArray) (m : Int) (h0 : 0 ≤ m) (h1 : m + l.length ≤ 4000000) : Ev (fun k => laws_markStringS.f k l m) (m + l.length, upt t m l.length) := by
  simp only [laws_markStringS.f]
  simpa using markStringS_l0 t ht l [] m h0 h1 (by simp only [List.nil_append]; omega)
theorem heldStringS_l0 (t : Int → ByteArray) (ht : ∀ m, 0 ≤ m → m ≤ 4000000 → Ev (fun k => laws_markText.f k m) (t m)) (n : Nat) : ∀ (pre : List ByteArray) (m : Int), 0 ≤ m → m + n ≤ 4000000 → pre.length + n ≤ 4000000 → Ev (fun k => laws_heldStringS.l0 k (pre ++ upt t m n) m (pre.length : Int)) (m + n) := by
  induction n with
  | zero =>
    intro pre m h0 h1 hl
    refine Ev.succ ?_
    simp only [laws_heldStringS.l0]
    exact Ev.neg (by simp [upt]) (Ev.eq (Ev.ret _) (by simp))
  | succ n ih =>
    intro pre m h0 h1 hl
    have h := ih (pre ++ [t m]) (m + 1) (by omega) (by omega) (by simp only [List.length_append, List.length_cons, List.length_nil]; omega)
    refine Ev.succ ?_
    simp only [laws_heldStringS.l0]
    refine Ev.pos (by simp only [List.length_append, upt_len]; omega) (Ev.pos (by omega) (Ev.bnd (ht m h0 (by omega)) (Ev.pos (by simp only [upt]; rw [rds_mid]) ?_)))
    rw [w64 (x := m + 1) (by omega) (by omega), w64 (by omega) (by omega)]
    refine Ev.eq (by simpa [upt] using h) (by omega)
theorem heldStringS (t : Int → ByteArray) (ht : ∀ m, 0 ≤ m → m ≤ 4000000 → Ev (fun k => laws_markText.f k m) (t m)) (n : Nat) (m : Int) (h0 : 0 ≤ m) (h1 : m + n ≤ 4000000) : Ev (fun k => laws_heldStringS.f k (upt t m n) m) (m + n) := by
  simp only [laws_heldStringS.f]
  simpa using heldStringS_l0 t ht n [] m h0 h1 (by simp only [List.length_nil]; omega)

theorem markDisk (t : Int → ByteArray) (ht : ∀ m, 0 ≤ m → m ≤ 4000000 → Ev (fun k => laws_markText.f k m) (t m)) (a b : List ByteArray) (h : a.length + b.length ≤ 1048576) :
    Ev (fun k => laws_markDisk.f k a b 1) (1 + (a.length : Int) + b.length, upt t 1 a.length, upt t (1 + a.length) b.length) := by
  simp only [laws_markDisk.f]
  exact Ev.bnd (markStringS t ht a 1 (by omega) (by omega)) (Ev.bnd (markStringS t ht b (1 + (a.length : Int)) (by omega) (by omega)) (Ev.ret _))

theorem heldDisk (t : Int → ByteArray) (ht : ∀ m, 0 ≤ m → m ≤ 4000000 → Ev (fun k => laws_markText.f k m) (t m)) (n m : Nat) (h : n + m ≤ 1048576) :
    Ev (fun k => laws_heldDisk.f k (upt t 1 n) (upt t (1 + (n : Int)) m) 1) (1 + (n : Int) + m) := by
  simp only [laws_heldDisk.f]
  exact Ev.bnd (heldStringS t ht n 1 (by omega) (by omega)) (Ev.neg (by omega) (Ev.bnd (heldStringS t ht m (1 + (n : Int)) (by omega) (by omega)) (Ev.neg (by omega) (Ev.ret _))))

theorem spec_in_eq (a lo hi : Int) : spec_l1In.f a lo hi = some (decide (lo ≤ a ∧ a ≤ hi)) := by
  unfold spec_l1In.f
  by_cases h1 : a ≥ lo
  · rw [if_pos h1]
    by_cases h2 : a ≤ hi
    · rw [decide_eq_true h2, decide_eq_true ⟨h1, h2⟩]
    · rw [decide_eq_false h2, decide_eq_false (fun h => h2 h.2)]
  · rw [if_neg h1, decide_eq_false (fun h => h1 h.1)]

theorem sonr (n : Nat) : (strOfNums (List.replicate n 0)).size = n := by rw [strOfNums_size, List.length_replicate]
theorem rep0 (n : Nat) (h : n ≤ 1000) : strings_Repeat.f (⟨#[0]⟩ : ByteArray) (n : Int) = some (strOfNums (List.replicate n 0)) := by
  unfold strings_Repeat.f
  rw [Int.toNat_natCast, if_pos ⟨by omega, by omega, by rw [show (⟨#[0]⟩ : ByteArray).size = 1 from rfl]; omega⟩]
  congr 1
  unfold strOfNums
  congr 2
  rw [List.map_replicate, show (⟨#[0]⟩ : ByteArray).data.toList = List.replicate 1 0 from rfl, Lib.repeatL_replicate, Nat.mul_one]
  rfl

def crashed (a b : List ByteArray) (m n : Nat) : List ByteArray := if 0 < n then (if m < b.length then a ++ b.take m ++ [(rdOf ByteArray.empty b (m : Int)).extract 0 n ++ strOfNums (List.replicate (16 - n) 0)] else a ++ b.take m) else a ++ b.take m
def crashDisk (a b : List ByteArray) (x y : Int) : List ByteArray × List ByteArray × Bool := if goodDisk a b = true ∧ (0 ≤ x ∧ x ≤ b.length) ∧ 0 ≤ y ∧ y ≤ 16 then (crashed a b x.toNat y.toNat, [], true) else ([], [], false)
theorem good16 (a b : List ByteArray) (g : goodDisk a b = true) (m : Nat) (h : m < b.length) : (rdOf ByteArray.empty b (m : Int)).size = 16 := by
  unfold goodDisk at g
  rw [Bool.and_eq_true] at g
  have := List.all_eq_true.1 g.2 b[m] (by simp)
  unfold rdOf
  simpa [List.getD_eq_getElem?_getD, List.getElem?_eq_getElem h] using this
theorem w16 (n : Nat) (h : n ≤ 16) : wrap64 (16 - (n : Int)) = ((16 - n : Nat) : Int) := by
  rw [w64 (by omega) (by omega)]; omega
theorem spec_crash (a b : List ByteArray) (ha : a.length + b.length ≤ 1048576) (m n : Nat) (hm : m ≤ b.length) (hn : n ≤ 16) (hs : m < b.length → (rdOf ByteArray.empty b (m : Int)).size = 16) : Ev (fun k => spec_CrashDisk.j0 k m n false a b) (crashed a b m n, [], true) := by
  have ht : (b.take m).length = m := by rw [List.length_take]; omega
  refine Ev.succ ?_
  simp only [spec_CrashDisk.j0, Int.toNat_natCast]
  rw [w16 n hn]
  refine Ev.neg (by simp) (Ev.bnd1 rfl (Ev.pos (by simp only [List.length_nil]; omega) (Ev.bnd1 rfl (Ev.pos (by omega) (Ev.pos (by omega) (Ev.pos (by simp only [List.nil_append]; omega) (Ev.bnd1 rfl ?_)))))))
  unfold crashed
  by_cases g : 0 < n
  · rw [if_pos g]
    by_cases g2 : m < b.length
    · rw [if_pos g2]
      have h16 := hs g2
      simp only [Int.toNat_natCast]
      refine Ev.pos (by omega) (Ev.pos (by omega) (Ev.pos (by omega) (Ev.pos (by omega) (Ev.pos (by omega) (Ev.pos (by omega) (Ev.bnd1 rfl (Ev.pos ?_ (Ev.pos ?_ (Ev.eq (Ev.ret _) (by simp))))))))))
      · rw [ByteArray.size_extract, sonr]; omega
      · simp only [List.length_append, List.length_nil]; omega
    · rw [if_neg g2]
      exact Ev.pos (by omega) (Ev.neg (by omega) (Ev.eq (Ev.ret _) (by simp)))
  · rw [if_neg g]
    exact Ev.neg (by omega) (Ev.eq (Ev.ret _) (by simp))
theorem spec_crash_no (a b : List ByteArray) (x y : Int) : Ev (fun k => spec_CrashDisk.j0 k x y true a b) ([], [], false) := by
  refine Ev.succ ?_
  simp only [spec_CrashDisk.j0]
  exact Ev.pos (by trivial) (Ev.ret _)
theorem spec_CrashDisk_ev (a b : List ByteArray) (ha : a.length + b.length ≤ 1048576) (x y : Int) : Ev (fun k => spec_CrashDisk.f k a b x y) (crashDisk a b x y) := by
  have no := spec_crash_no a b x y
  unfold crashDisk
  simp only [spec_CrashDisk.f]
  refine Ev.bnd (spec_GoodDisk_ev a b ha) ?_
  by_cases g : goodDisk a b = true
  · refine Ev.pos g (Ev.bnd1 (spec_in_eq _ _ _) ?_)
    by_cases gx : 0 ≤ x ∧ x ≤ (b.length : Int)
    · refine Ev.pos (decide_eq_true gx) (Ev.bnd1 (spec_in_eq _ _ _) ?_)
      by_cases gy : 0 ≤ y ∧ y ≤ 16
      · rw [if_pos ⟨g, gx, gy⟩, decide_eq_true gy]
        obtain ⟨m, rfl⟩ : ∃ m : Nat, x = m := ⟨x.toNat, by omega⟩
        obtain ⟨n, rfl⟩ : ∃ n : Nat, y = n := ⟨y.toNat, by omega⟩
        simp only [Int.toNat_natCast]
        exact spec_crash a b ha m n (by omega) (by omega) (good16 a b g m)
      · rw [if_neg (fun h => gy h.2.2), decide_eq_false gy]
        exact no
    · rw [if_neg (fun h => gx h.2.1)]
      exact Ev.neg (by rw [decide_eq_false gx]; simp) no
  · rw [if_neg (fun h => g h.1)]
    exact Ev.neg g no
theorem impl_crash (a b : List ByteArray) (ha : a.length + b.length ≤ 1048576) (m n : Nat) (hm : m ≤ b.length) (hn : n ≤ 16) (hs : m < b.length → (rdOf ByteArray.empty b (m : Int)).size = 16) : Ev (fun k => impl_CrashDisk.j0 k m n false a b) (crashed a b m n, [], true) := by
  have ht : (b.take m).length = m := by rw [List.length_take]; omega
  have hc := concat_s [a, b.take m] (by simp; omega) (by simp)
  rw [show [a, b.take m].flatten = a ++ b.take m by simp] at hc
  refine Ev.succ ?_
  simp only [impl_CrashDisk.j0, Int.toNat_natCast]
  rw [w16 n hn]
  refine Ev.neg (by simp) (Ev.pos (by omega) (Ev.pos (by omega) (Ev.bnd hc ?_)))
  unfold crashed
  by_cases g : 0 < n
  · rw [if_pos g]
    by_cases g2 : m < b.length
    · rw [if_pos g2]
      have h16 := hs g2
      refine Ev.pos (by omega) (Ev.pos (by omega) (Ev.pos (by omega) (Ev.pos (by omega) (Ev.bnd1 (rep0 _ (by omega)) (Ev.pos ?_ (Ev.pos ?_ (Ev.ret _)))))))
      · rw [ByteArray.size_extract, sonr]; omega
      · simp only [List.length_append]; omega
    · rw [if_neg g2]
      exact Ev.pos (by omega) (Ev.neg (by omega) (Ev.ret _))
  · rw [if_neg g]
    exact Ev.neg (by omega) (Ev.ret _)
theorem impl_crash_no (a b : List ByteArray) (x y : Int) : Ev (fun k => impl_CrashDisk.j0 k x y true a b) ([], [], false) := by
  refine Ev.succ ?_
  simp only [impl_CrashDisk.j0]
  exact Ev.pos (by trivial) (Ev.ret _)
theorem impl_CrashDisk_ev (a b : List ByteArray) (ha : a.length + b.length ≤ 1048576) (x y : Int) : Ev (fun k => impl_CrashDisk.f k a b x y) (crashDisk a b x y) := by
  have no := impl_crash_no a b x y
  unfold crashDisk
  simp only [impl_CrashDisk.f]
  refine Ev.bnd (impl_GoodDisk_ev a b ha) ?_
  by_cases g : goodDisk a b = true
  · refine Ev.pos g ?_
    by_cases g1 : x < 0
    · rw [if_neg (fun h => by have := h.2.1.1; omega)]; exact Ev.pos g1 no
    · refine Ev.neg g1 ?_
      by_cases g2 : x > (b.length : Int)
      · rw [if_neg (fun h => by have := h.2.1.2; omega)]; exact Ev.pos g2 no
      · refine Ev.neg g2 ?_
        by_cases g3 : y < 0
        · rw [if_neg (fun h => by have := h.2.2.1; omega)]; exact Ev.pos g3 no
        · refine Ev.neg g3 ?_
          by_cases g4 : y > 16
          · rw [if_neg (fun h => by have := h.2.2.2; omega), decide_eq_true g4]; exact no
          · rw [if_pos ⟨g, ⟨by omega, by omega⟩, by omega, by omega⟩, decide_eq_false g4]
            obtain ⟨m, rfl⟩ : ∃ m : Nat, x = m := ⟨x.toNat, by omega⟩
            obtain ⟨n, rfl⟩ : ∃ n : Nat, y = n := ⟨y.toNat, by omega⟩
            simp only [Int.toNat_natCast]
            exact impl_crash a b ha m n (by omega) (by omega) (good16 a b g m)
  · rw [if_neg (fun h => g h.1)]
    exact Ev.neg g no
theorem crashDisk_len (a b : List ByteArray) (x y : Int) : (crashDisk a b x y).1.length + (crashDisk a b x y).2.1.length ≤ a.length + b.length := by
  unfold crashDisk crashed
  split
  · split
    · split <;> simp <;> omega
    · simp; omega
  · simp

theorem FnExactCrashDisk : laws_FnExactCrashDisk.Pure := by
  intro a b x y ha hb _ _
  refine Ev.all ?_
  simp only [laws_FnExactCrashDisk.f]
  obtain ⟨r, h1, h2⟩ := szDisk a b ha hb
  refine Ev.bnd h1 ?_
  by_cases g : r < 0
  · exact Ev.pos g (Ev.ret _)
  · refine Ev.neg g ?_
    have hl : a.length + b.length ≤ 1048576 := by omega
    obtain ⟨t, ht⟩ := markText_ex
    have ht0 := toDisk a b (by omega) (by omega)
    have hs := spec_CrashDisk_ev a b hl x y
    have hi := impl_CrashDisk_ev a b hl x y
    have hlen := crashDisk_len a b x y
    generalize crashDisk a b x y = d at hs hi hlen
    obtain ⟨da, db, dc⟩ := d
    simp only at hlen
    have e1 := eqDisk_self da db (by omega) (by omega)
    have e2 := eqDisk_self a b (by omega) (by omega)
    have m1 := markDisk t ht a b hl
    have m2 := markDisk t ht da db (by omega)
    have k2 := heldDisk t ht da.length db.length (by omega)
    refine Ev.bnd ht0 (Ev.bnd hs (Ev.bnd ht0 (Ev.bnd hi (Ev.bnd e1 (Ev.pos rfl (Ev.succ ?_))))))
    simp only [laws_FnExactCrashDisk.j0]
    refine Ev.neg (by simp) (Ev.bnd ht0 (Ev.bnd e2 (Ev.pos rfl (Ev.bnd m1 (Ev.neg (by omega) (Ev.bnd e1 (Ev.pos rfl (Ev.succ ?_))))))))
    simp only [laws_FnExactCrashDisk.j1]
    refine Ev.neg (by simp) (Ev.bnd m2 (Ev.bnd k2 (Ev.neg (by omega) (Ev.pos rfl (Ev.bnd ht0 (Ev.bnd hi (Ev.bnd e1 (Ev.pos rfl (Ev.succ ?_)))))))))
    simp only [laws_FnExactCrashDisk.j2]
    exact Ev.neg (by simp) (Ev.bnd k2 (Ev.neg (by omega) (Ev.pos rfl (Ev.ret _))))

end Go.Proofs.Ytamiedpgahpihaa.Pure
