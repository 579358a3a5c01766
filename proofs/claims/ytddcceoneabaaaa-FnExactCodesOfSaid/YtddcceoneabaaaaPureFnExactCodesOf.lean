/- The program's CodesOf returns what the reference's returns, for all arguments, and what it returns is the caller's own.
Conditions: none beyond what the row itself says. -/
import Derived.Test.YtddcceoneabaaaaQFnExactCodesOfx5
namespace Go.Proofs.Ytddcceoneabaaaa.Pure
open Go.RowKit Go.Proofs.Ytddcceoneabaaaa.QFnExactCodesOf Go.Proofs.YtddcceoneabaaaaW.PrintWords Go.Proofs.YtddcceoneabaaaaW.PrintLast Go.Proofs.YtddcceoneabaaaaW.PrintMore
set_option linter.unusedVariables false
set_option linter.unusedSimpArgs false

theorem w64 {x : Int} (h0 : -9223372036854775808 ≤ x) (h1 : x ≤ 9223372036854775807) : wrap64 x = x := by
  unfold wrap64; omega
theorem wf64 {a : Int} (h : (Lit.int .i64 a).wf = true) : -9223372036854775808 ≤ a ∧ a ≤ 9223372036854775807 := by
  simp only [Lit.wf, IntKind.min, IntKind.max, IntKind.signed, IntKind.bits, Bool.and_eq_true, decide_eq_true_eq, if_true] at h
  omega

theorem Ev.succ {α : Type} {g : Nat → Option α} {r : α} (h : Ev (fun k => g (k + 1)) r) : Ev g r := Ev.step (fun _ => rfl) h
theorem Ev.pos {α : Type} {c : Prop} [Decidable c] {a b : Nat → Option α} {r : α} (h : c) (e : Ev (fun k => a k) r) : Ev (fun k => if c then a k else b k) r := Ev.congr (fun _ => if_pos h) e
theorem Ev.neg {α : Type} {c : Prop} [Decidable c] {a b : Nat → Option α} {r : α} (h : ¬ c) (e : Ev (fun k => b k) r) : Ev (fun k => if c then a k else b k) r := Ev.congr (fun _ => if_neg h) e
theorem Ev.bnd {α β : Type} {g : Nat → Option α} {f : Nat → α → Option β} {a : α} {r : β} (h : Ev (fun k => g k) a) (k : Ev (fun n => f n a) r) : Ev (fun n => (g n).bind (fun x => f n x)) r := Ev.bind h k
theorem Ev.bnd1 {α β : Type} {g : Option α} {f : Nat → α → Option β} {a : α} {r : β} (h : g = some a) (k : Ev (fun n => f n a) r) : Ev (fun n => g.bind (fun x => f n x)) r := by
  rw [h]; exact k
theorem Ev.ret {α : Type} (r : α) : Ev (fun _ => some r) r := Ev.now r
theorem Ev.eq {α : Type} {g : Nat → Option α} {r r' : α} (h : Ev g r) (e : r = r') : Ev g r' := e ▸ h
theorem Ev.all {α : Type} {g : Nat → Option α} {r : α} (h : Ev (fun k => g k) r) : ∃ k, g k = some r := h.rounds
theorem rd_mid (pre : List Int) (x : Int) (post : List Int) : rd (pre ++ x :: post) (pre.length : Int) = x := by
  unfold rd; simp
theorem rd_nat (xs : List Int) (i : Nat) (h : i < xs.length) : rd xs (i : Int) = xs[i] := by
  unfold rd; simp [List.getD_eq_getElem?_getD, List.getElem?_eq_getElem h]

theorem toIntS_l0 (post : List Int) : ∀ (pre rest : List Int), rest.length = post.length → (pre ++ post).length ≤ 140737488351232 → Ev (fun k => laws_toIntS.l0 k (pre ++ post) (pre ++ rest) (pre.length : Int)) (pre ++ post) := by
  induction post with
  | nil =>
    intro pre rest hr hl
    obtain rfl : rest = [] := List.eq_nil_of_length_eq_zero hr
    refine Ev.succ ?_
    simp only [laws_toIntS.l0]
    exact Ev.neg (by simp) (Ev.ret _)
  | cons x post ih =>
    intro pre rest hr hl
    obtain ⟨y, rest, rfl⟩ : ∃ y t, rest = y :: t := by cases rest with | nil => simp at hr | cons y t => exact ⟨y, t, rfl⟩
    have h := ih (pre ++ [x]) rest (by simpa using hr) (by simpa using hl)
    simp only [List.length_append, List.length_cons, List.length_nil] at hl hr h
    refine Ev.succ ?_
    simp only [laws_toIntS.l0, List.length_append, List.length_cons]
    refine Ev.pos (by omega) (Ev.pos (by omega) (Ev.pos (by omega) ?_))
    rw [rd_mid, w64 (by omega) (by omega)]
    have e : (pre ++ y :: rest).set ((pre.length : Int)).toNat x = pre ++ [x] ++ rest := by simp
    rw [e]
    simpa using h
theorem toIntS (l : List Int) (h : l.length * 8 ≤ 140737488351232) : Ev (fun k => laws_toIntS.f k l) l := by
  simp only [laws_toIntS.f]
  refine Ev.pos (by omega) (Ev.pos (by omega) ?_)
  have := toIntS_l0 l [] (List.replicate l.length 0) (by simp) (by simp; omega)
  simpa using this

theorem eqIntS_l0 (pa : List Int) : ∀ (pa' pb pb' : List Int), pa'.length = pb'.length → pa.length = pb.length → (pa' ++ pa).length ≤ 140737488351232 → Ev (fun k => laws_eqIntS.l0 k (pa' ++ pa) (pb' ++ pb) (pa'.length : Int)) (decide (pa = pb)) := by
  induction pa with
  | nil =>
    intro pa' pb pb' h1 h2 hl
    obtain rfl : pb = [] := List.eq_nil_of_length_eq_zero h2.symm
    refine Ev.succ ?_
    simp only [laws_eqIntS.l0]
    exact Ev.neg (by simp) (Ev.eq (Ev.ret _) (by simp))
  | cons x pa ih =>
    intro pa' pb pb' h1 h2 hl
    obtain ⟨y, pb, rfl⟩ : ∃ y t, pb = y :: t := by cases pb with | nil => simp at h2 | cons y t => exact ⟨y, t, rfl⟩
    have h := ih (pa' ++ [x]) pb (pb' ++ [y]) (by simpa using h1) (by simpa using h2) (by simpa using hl)
    simp only [List.length_append, List.length_cons, List.length_nil] at hl h2 h
    refine Ev.succ ?_
    simp only [laws_eqIntS.l0, List.length_append, List.length_cons]
    refine Ev.pos (by omega) (Ev.pos (by omega) (Ev.pos (by omega) ?_))
    rw [rd_mid, show (pa'.length : Int) = (pb'.length : Int) by omega, rd_mid]
    by_cases e : x = y
    · subst e
      refine Ev.pos rfl ?_
      rw [w64 (by omega) (by omega)]
      refine Ev.eq (Ev.congr (fun k => ?_) h) (by simp)
      simp [h1]
    · exact Ev.neg e (Ev.eq (Ev.ret _) (by simp [e]))
theorem eqIntS (a b : List Int) (h : a.length ≤ 140737488351232) : Ev (fun k => laws_eqIntS.f k a b) (decide (a = b)) := by
  simp only [laws_eqIntS.f]
  by_cases e : a.length = b.length
  · exact Ev.pos (by omega) (by simpa using eqIntS_l0 a [] b [] rfl e (by simpa using h))
  · exact Ev.neg (by omega) (Ev.eq (Ev.ret _) (by simp only [false_eq_decide_iff]; intro h; exact e (by rw [h])))
theorem eqIntS_self (a : List Int) (h : a.length ≤ 140737488351232) : Ev (fun k => laws_eqIntS.f k a a) true := Ev.eq (eqIntS a a h) (by simp)

theorem spec_in_eq (a lo hi : Int) : spec_l1In.f a lo hi = some (decide (lo ≤ a ∧ a ≤ hi)) := by
  unfold spec_l1In.f
  by_cases h1 : a ≥ lo
  · rw [if_pos h1]
    by_cases h2 : a ≤ hi
    · rw [decide_eq_true h2, decide_eq_true ⟨h1, h2⟩]
    · rw [decide_eq_false h2, decide_eq_false (fun h => h2 h.2)]
  · rw [if_neg h1, decide_eq_false (fun h => h1 h.1)]
def inAll (lo hi : Int) (l : List Int) : Bool := l.all fun x => decide (lo ≤ x ∧ x ≤ hi)
theorem spec_l1All_l0 (lo hi : Int) (post : List Int) : ∀ pre : List Int, (pre ++ post).length ≤ 140737488351232 → Ev (fun k => spec_l1All.l0 k lo hi (pre ++ post) ((pre ++ post).length : Int) (pre.length : Int)) (inAll lo hi post) := by
  induction post with
  | nil =>
    intro pre hl
    refine Ev.succ ?_
    simp only [spec_l1All.l0]
    exact Ev.neg (by simp) (Ev.ret _)
  | cons x post ih =>
    intro pre hl
    have h := ih (pre ++ [x]) (by simpa using hl)
    simp only [List.length_append, List.length_cons] at hl
    refine Ev.succ ?_
    simp only [spec_l1All.l0]
    refine Ev.pos (by simp only [List.length_append, List.length_cons]; omega) (Ev.pos (by omega) (Ev.pos (by simp only [List.length_append, List.length_cons]; omega) ?_))
    rw [rd_mid]
    refine Ev.bnd1 (spec_in_eq _ _ _) ?_
    by_cases hx : lo ≤ x ∧ x ≤ hi
    · rw [decide_eq_true hx]
      refine Ev.pos rfl ?_
      rw [w64 (by omega) (by omega)]
      refine Ev.eq (by simpa using h) ?_
      simp [inAll, hx]
    · rw [decide_eq_false hx]
      exact Ev.neg (by simp) (Ev.eq (Ev.ret _) (by simp only [inAll, List.all_cons, decide_eq_false hx, Bool.false_and]))
theorem spec_l1All_ev (lo hi : Int) (l : List Int) (hl : l.length ≤ 140737488351232) : Ev (fun k => spec_l1All.f k l lo hi) (inAll lo hi l) := by
  simp only [spec_l1All.f]
  simpa using spec_l1All_l0 lo hi l [] (by simpa using hl)
theorem inAll_mem {lo hi : Int} {l : List Int} (h : inAll lo hi l = true) : ∀ x ∈ l, lo ≤ x ∧ x ≤ hi := by
  intro x hx
  unfold inAll at h
  simpa using List.all_eq_true.1 h x hx

theorem anyO_not {α : Type} (f : α → Option Bool) (p : α → Bool) (l : List α) (h : ∀ x ∈ l, f x = some (!p x)) : anyO f l = some (!l.all p) := by
  induction l with
  | nil => rfl
  | cons x t ih =>
    simp only [anyO]
    rw [h x (by simp), Option.bind_some]
    cases hp : p x with
    | true => simp [hp, ih (fun y hy => h y (by simp [hy]))]
    | false => simp [hp]

def within (m : Int) (l : List Int) : Bool := decide (l.length ≤ 12) && inAll 0 m l
theorem impl_aw1 (a m : Int) : impl_areWithin_1.f a m = some (!decide (0 ≤ a ∧ a ≤ m)) := by
  unfold impl_areWithin_1.f
  by_cases h : a < 0
  · rw [if_pos h, decide_eq_false (fun h2 => absurd h2.1 (by omega))]; rfl
  · rw [if_neg h]
    by_cases h2 : a > m
    · rw [decide_eq_true h2, decide_eq_false (fun h3 => absurd h3.2 (by omega))]; rfl
    · rw [decide_eq_false h2, decide_eq_true ⟨by omega, by omega⟩]; rfl
theorem impl_areWithin_eq (l : List Int) (m : Int) : impl_areWithin.f l m = some (within m l) := by
  unfold impl_areWithin.f within
  by_cases h : l.length ≤ 12
  · rw [if_pos (by omega), decide_eq_true h]
    unfold impl_areWithin_1_any.f
    rw [anyO_not _ (fun x => decide (0 ≤ x ∧ x ≤ m)) l (fun x _ => impl_aw1 x m)]
    simp [inAll]
  · rw [if_neg (by omega), decide_eq_false h]; rfl

theorem shr_4096 (n : Int) : 0 ≤ shr .i64 4096 n ∧ shr .i64 4096 n ≤ 4096 := by
  unfold shr
  have h : (0 : Int) ≤ 2 ^ min n.toNat (IntKind.bits .i64) := Int.pow_nonneg (by omega)
  exact ⟨Int.ediv_nonneg (by omega) h, Int.ediv_le_self _ (by omega)⟩
theorem u64_id {n : Int} (h0 : 0 ≤ n) (h1 : n ≤ 9223372036854775807) : IntKind.u64.wrap n = n := by
  simp [IntKind.wrap, IntKind.bits, IntKind.signed]; omega
/-- The sum of 4096 / 2^n over the lengths that are not 0, behind a sum. -/
def kr : Int → List Int → Int
  | s, [] => s
  | s, n :: t => kr (if n > 0 then s + shr .i64 4096 n else s) t
theorem spec_kraft_l0 (post : List Int) : ∀ (pre : List Int) (s : Int), 0 ≤ s → s + post.length * 4096 ≤ 1000000000000 → inAll 0 12 post = true → (pre ++ post).length ≤ 140737488351232 → Ev (fun k => spec_l11Kraft.l0 k s (pre ++ post) ((pre ++ post).length : Int) (pre.length : Int)) (kr s post) := by
  induction post with
  | nil =>
    intro pre s h0 h1 hp hl
    refine Ev.succ ?_
    simp only [spec_l11Kraft.l0]
    exact Ev.neg (by simp) (Ev.ret _)
  | cons n post ih =>
    intro pre s h0 h1 hp hl
    have hn := inAll_mem hp n (by simp)
    have hp' : inAll 0 12 post = true := by simp only [inAll, List.all_cons, Bool.and_eq_true] at hp; exact hp.2
    have hl' : (pre ++ [n] ++ post).length ≤ 140737488351232 := by simpa using hl
    simp only [List.length_append, List.length_cons] at hl h1
    have hs := shr_4096 n
    refine Ev.succ ?_
    simp only [spec_l11Kraft.l0]
    refine Ev.pos (by simp only [List.length_append, List.length_cons]; omega) (Ev.pos (by omega) (Ev.pos (by simp only [List.length_append, List.length_cons]; omega) ?_))
    rw [w64 (x := (pre.length : Int) + 1) (by omega) (by omega)]
    by_cases g : n > 0
    · refine Ev.pos (by rw [rd_mid]; exact g) ?_
      rw [rd_mid, u64_id (by omega) (by omega)]
      refine Ev.pos (by omega) ?_
      rw [w64 (x := s + shr .i64 4096 n) (by omega) (by omega)]
      have h := ih (pre ++ [n]) (s + shr .i64 4096 n) (by omega) (by omega) hp' hl'
      simp only [kr, if_pos g]
      simpa using h
    · refine Ev.neg (by rw [rd_mid]; exact g) ?_
      have h := ih (pre ++ [n]) s (by omega) (by omega) hp' hl'
      simp only [kr, if_neg g]
      simpa using h
theorem within_facts {m : Int} {l : List Int} (h : within m l = true) : l.length ≤ 12 ∧ inAll 0 m l = true := by
  simpa [within] using h
theorem spec_kraft (l : List Int) (h : within 12 l = true) : Ev (fun k => spec_l11Kraft.f k l) (kr 0 l) := by
  obtain ⟨h1, h2⟩ := within_facts h
  simp only [spec_l11Kraft.f]
  simpa using spec_kraft_l0 l [] 0 (by omega) (by omega) h2 (by simp; omega)
theorem spec_lengths (l : List Int) (hl : l.length ≤ 140737488351232) : Ev (fun k => spec_l11Lengths.f k l) (within 12 l) := by
  simp only [spec_l11Lengths.f]
  by_cases h : l.length ≤ 12
  · exact Ev.pos (by omega) (Ev.bnd (spec_l1All_ev 0 12 l hl) (Ev.eq (Ev.ret _) (by simp [within, h])))
  · exact Ev.neg (by omega) (Ev.eq (Ev.ret _) (by simp [within, h]))

theorem impl_kraft_l0 (post : List Int) : ∀ (pre : List Int) (s : Int), 0 ≤ s → s + post.length * 4096 ≤ 1000000000000 → inAll 0 12 post = true → (pre ++ post).length ≤ 140737488351232 → Ev (fun k => impl_KraftOf.l0 k s (pre ++ post) ((pre ++ post).length : Int) (pre.length : Int)) (kr s post, true) := by
  induction post with
  | nil =>
    intro pre s h0 h1 hp hl
    refine Ev.succ ?_
    simp only [impl_KraftOf.l0]
    exact Ev.neg (by simp) (Ev.ret _)
  | cons n post ih =>
    intro pre s h0 h1 hp hl
    have hn := inAll_mem hp n (by simp)
    have hp' : inAll 0 12 post = true := by simp only [inAll, List.all_cons, Bool.and_eq_true] at hp; exact hp.2
    have hl' : (pre ++ [n] ++ post).length ≤ 140737488351232 := by simpa using hl
    simp only [List.length_append, List.length_cons] at hl h1
    have hs := shr_4096 n
    refine Ev.succ ?_
    simp only [impl_KraftOf.l0]
    refine Ev.pos (by simp only [List.length_append, List.length_cons]; omega) (Ev.pos (by omega) (Ev.pos (by simp only [List.length_append, List.length_cons]; omega) ?_))
    rw [w64 (x := (pre.length : Int) + 1) (by omega) (by omega)]
    by_cases g : n > 0
    · refine Ev.pos (by rw [rd_mid]; exact g) ?_
      rw [rd_mid]
      refine Ev.pos (by omega) ?_
      rw [w64 (x := s + shr .i64 4096 n) (by omega) (by omega)]
      have h := ih (pre ++ [n]) (s + shr .i64 4096 n) (by omega) (by omega) hp' hl'
      simp only [kr, if_pos g]
      simpa using h
    · refine Ev.neg (by rw [rd_mid]; exact g) ?_
      have h := ih (pre ++ [n]) s (by omega) (by omega) hp' hl'
      simp only [kr, if_neg g]
      simpa using h
def kraftOf (l : List Int) : Int × Bool := if within 12 l = true then (kr 0 l, true) else (0, false)
theorem impl_KraftOf_ev (l : List Int) : Ev (fun k => impl_KraftOf.f k l) (kraftOf l) := by
  simp only [impl_KraftOf.f, impl_areWithin_eq, Option.bind_some, kraftOf]
  by_cases h : within 12 l = true
  · rw [if_pos h]
    obtain ⟨h1, h2⟩ := within_facts h
    exact Ev.pos h (by simpa using impl_kraft_l0 l [] 0 (by omega) (by omega) h2 (by simp; omega))
  · rw [if_neg h]
    exact Ev.neg h (Ev.ret _)

def goodLengths (l : List Int) : Bool := within 12 l && decide (kr 0 l ≤ 4096)
theorem spec_GoodLengths_ev (l : List Int) (hl : l.length ≤ 140737488351232) : Ev (fun k => spec_GoodLengths.f k l) (goodLengths l) := by
  simp only [spec_GoodLengths.f, goodLengths]
  refine Ev.bnd (spec_lengths l hl) ?_
  by_cases h : within 12 l = true
  · exact Ev.pos h (Ev.bnd (spec_kraft l h) (Ev.eq (Ev.ret _) (by rw [h]; rfl)))
  · exact Ev.neg h (Ev.eq (Ev.ret _) (by simp [h]))
theorem impl_GoodLengths_ev (l : List Int) : Ev (fun k => impl_GoodLengths.f k l) (goodLengths l) := by
  simp only [impl_GoodLengths.f, goodLengths]
  refine Ev.bnd (impl_KraftOf_ev l) ?_
  unfold kraftOf
  by_cases h : within 12 l = true
  · rw [if_pos h]
    exact Ev.pos rfl (Ev.eq (Ev.ret _) (by rw [h]; rfl))
  · rw [if_neg h]
    exact Ev.neg (by simp) (Ev.eq (Ev.ret _) (by simp [h]))

theorem toList_iff (a b : ByteArray) : a.toList = b.toList ↔ a = b := by
  rw [ByteArray.toList_eq, ByteArray.toList_eq]
  exact ⟨fun h => ByteArray.ext (Array.toList_inj.1 h), fun h => by rw [h]⟩

theorem rds_mid (pre : List ByteArray) (x : ByteArray) (post : List ByteArray) : rdOf ByteArray.empty (pre ++ x :: post) (pre.length : Int) = x := by
  unfold rdOf; simp
/-- How many strings and bytes there are. -/
theorem eqStringS_l0 (pa : List ByteArray) : ∀ (pa' pb pb' : List ByteArray), pa'.length = pb'.length → pa.length = pb.length → (pa' ++ pa).length ≤ 140737488351232 → Ev (fun k => laws_eqStringS.l0 k (pa' ++ pa) (pb' ++ pb) (pa'.length : Int)) (decide (pa = pb)) := by
  induction pa with
  | nil =>
    intro pa' pb pb' h1 h2 hl
    obtain rfl : pb = [] := List.eq_nil_of_length_eq_zero h2.symm
    refine Ev.succ ?_
    simp only [laws_eqStringS.l0]
    exact Ev.neg (by simp) (Ev.eq (Ev.ret _) (by simp))
  | cons x pa ih =>
    intro pa' pb pb' h1 h2 hl
    obtain ⟨y, pb, rfl⟩ : ∃ y t, pb = y :: t := by cases pb with | nil => simp at h2 | cons y t => exact ⟨y, t, rfl⟩
    have h := ih (pa' ++ [x]) pb (pb' ++ [y]) (by simpa using h1) (by simpa using h2) (by simpa using hl)
    simp only [List.length_append, List.length_cons, List.length_nil] at hl h2 h
    refine Ev.succ ?_
    simp only [laws_eqStringS.l0, List.length_append, List.length_cons]
    refine Ev.pos (by omega) (Ev.pos (by omega) (Ev.pos (by omega) ?_))
    rw [rds_mid, show (pa'.length : Int) = (pb'.length : Int) by omega, rds_mid]
    by_cases e : x = y
    · subst e
      refine Ev.pos rfl ?_
      rw [w64 (by omega) (by omega)]
      refine Ev.eq (Ev.congr (fun k => ?_) h) (by simp)
      simp [h1]
    · exact Ev.neg (fun h => e ((toList_iff _ _).1 h)) (Ev.eq (Ev.ret _) (by simp [e]))
theorem eqStringS (a b : List ByteArray) (h : a.length ≤ 140737488351232) : Ev (fun k => laws_eqStringS.f k a b) (decide (a = b)) := by
  simp only [laws_eqStringS.f]
  by_cases e : a.length = b.length
  · exact Ev.pos (by omega) (by simpa using eqStringS_l0 a [] b [] rfl e (by simpa using h))
  · exact Ev.neg (by omega) (Ev.eq (Ev.ret _) (by simp only [false_eq_decide_iff]; intro h; exact e (by rw [h])))
theorem eqStringS_self (a : List ByteArray) (h : a.length ≤ 140737488351232) : Ev (fun k => laws_eqStringS.f k a a) true := Ev.eq (eqStringS a a h) (by simp)

/-! The laws' marks over strings. -/
theorem markText_l0 (n : Nat) : ∀ acc : ByteArray, acc.size + n ≤ 8000000 → ∃ r, Ev (fun k => laws_markText.l0 k (n : Int) acc) r := by
  induction n using Nat.strongRecOn with
  | _ n ih =>
    intro acc ha
    by_cases g : n = 0
    · subst g
      refine ⟨(⟨#[109]⟩ : ByteArray) ++ acc, Ev.succ ?_⟩
      simp only [laws_markText.l0]
      exact Ev.neg (by omega) (Ev.pos (by omega) (Ev.ret _))
    · have e1 : wrap64 (Int.tdiv (n : Int) 10) = ((n / 10 : Nat) : Int) := by
        rw [show Int.tdiv (n : Int) 10 = ((n / 10 : Nat) : Int) from rfl, w64 (by omega) (by omega)]
      obtain ⟨r, h⟩ := ih (n / 10) (by omega) (strOfNums [(wrap64 (48 + (Int.tmod (n : Int) 10))) % 256] ++ acc) (by rw [ByteArray.size_append, strOfNums_size, List.length_cons, List.length_nil]; omega)
      refine ⟨r, Ev.succ ?_⟩
      simp only [laws_markText.l0]
      rw [e1]
      clear e1
      exact Ev.pos (by omega) (Ev.bnd1 rfl (Ev.pos (by rw [strOfNums_size, List.length_cons, List.length_nil]; omega) h))
theorem markText_ex : ∃ t : Int → ByteArray, ∀ m, 0 ≤ m → m ≤ 4000000 → Ev (fun k => laws_markText.f k m) (t m) := by
  have h : ∀ m : Int, ∃ r, 0 ≤ m → m ≤ 4000000 → Ev (fun k => laws_markText.f k m) r := by
    intro m
    by_cases g0 : 0 ≤ m ∧ m ≤ 4000000
    · obtain ⟨n, rfl⟩ : ∃ n : Nat, m = n := ⟨m.toNat, by omega⟩
      by_cases g : n = 0
      · refine ⟨(⟨#[109, 48]⟩ : ByteArray), fun _ _ => ?_⟩
        simp only [laws_markText.f]
        exact Ev.pos (by omega) (Ev.ret _)
      · obtain ⟨r, hr⟩ := markText_l0 n (⟨#[]⟩ : ByteArray) (by rw [show (⟨#[]⟩ : ByteArray).size = 0 from rfl]; omega)
        refine ⟨r, fun _ _ => ?_⟩
        simp only [laws_markText.f]
        exact Ev.neg (by omega) hr
    · exact ⟨ByteArray.empty, fun h0 h1 => absurd ⟨h0, h1⟩ g0⟩
  exact ⟨fun m => Classical.choose (h m), fun m => Classical.choose_spec (h m)⟩
def upt (t : Int → ByteArray) : Int → Nat → List ByteArray
  | _, 0 => []
  | m, n + 1 => t m :: upt t (m + 1) n
theorem upt_len (t : Int → ByteArray) (n : Nat) : ∀ m, (upt t m n).length = n := by
  induction n with
  | zero => intro m; rfl
  | succ n ih => intro m; simp [upt, ih]
theorem markStringS_l0 (t : Int → ByteArray) (ht : ∀ m, 0 ≤ m → m ≤ 4000000 → Ev (fun k => laws_markText.f k m) (t m)) (post : List ByteArray) : ∀ (pre : List ByteArray) (m : Int), 0 ≤ m → m + post.length ≤ 4000000 → (pre ++ post).length ≤ 4000000 → Ev (fun k => laws_markStringS.l0 k (pre ++ post) m (pre.length : Int)) (m + post.length, pre ++ upt t m post.length) := by
  induction post with
  | nil =>
    intro pre m h0 h1 hl
    refine Ev.succ ?_
    simp only [laws_markStringS.l0]
    exact Ev.neg (by simp) (Ev.eq (Ev.ret _) (by simp [upt]))
  | cons x post ih =>
    intro pre m h0 h1 hl
    simp only [List.length_append, List.length_cons] at hl h1
    have h := ih (pre ++ [t m]) (m + 1) (by omega) (by omega) (by simp only [List.length_append, List.length_cons, List.length_nil]; omega)
    refine Ev.succ ?_
    simp only [laws_markStringS.l0]
    refine Ev.pos (by simp only [List.length_append, List.length_cons]; omega) (Ev.bnd (ht m h0 (by omega)) (Ev.pos (by omega) ?_))
    rw [w64 (x := m + 1) (by omega) (by omega), w64 (by omega) (by omega)]
    have e : (pre ++ x :: post).set ((pre.length : Int)).toNat (t m) = pre ++ [t m] ++ post := by simp
    rw [e]
    refine Ev.eq (by simpa using h) ?_
    simp only [upt, List.length_cons, Prod.mk.injEq]
    exact ⟨by omega, trivial⟩
theorem markStringS (t : Int → ByteArray) (ht : ∀ m, 0 ≤ m → m ≤ 4000000 → Ev (fun k => laws_markText.f k m) (t m)) (l : List ByteArray) (m : Int) (h0 : 0 ≤ m) (h1 : m + l.length ≤ 4000000) : Ev (fun k => laws_markStringS.f k l m) (m + l.length, upt t m l.length) := by
  simp only [laws_markStringS.f]
  simpa using markStringS_l0 t ht l [] m h0 h1 (by simp only [List.nil_append]; omega)
theorem heldStringS_l0 (t : Int → ByteArray) (ht : ∀ m, 0 ≤ m → m ≤ 4000000 → Ev (fun k => laws_markText.f k m) (t m)) (n : Nat) : ∀ (pre : List ByteArray) (m : Int), 0 ≤ m → m + n ≤ 4000000 → pre.length + n ≤ 4000000 → Ev (fun k => laws_heldStringS.l0 k (pre ++ upt t m n) m (pre.length : Int)) (m + n) := by
  induction n with
  | zero =>
    intro pre m h0 h1 hl
    refine Ev.succ ?_
    simp only [laws_heldStringS.l0]
    exact Ev.neg (by simp [upt]) (Ev.eq (Ev.ret _) (by simp))
  | succ n ih =>
    intro pre m h0 h1 hl
    have h := ih (pre ++ [t m]) (m + 1) (by omega) (by omega) (by simp only [List.length_append, List.length_cons, List.length_nil]; omega)
    refine Ev.succ ?_
    simp only [laws_heldStringS.l0]
    refine Ev.pos (by simp only [List.length_append, upt_len]; omega) (Ev.pos (by omega) (Ev.bnd (ht m h0 (by omega)) (Ev.pos (by simp only [upt]; rw [rds_mid]) ?_)))
    rw [w64 (x := m + 1) (by omega) (by omega), w64 (by omega) (by omega)]
    refine Ev.eq (by simpa [upt] using h) (by omega)
theorem heldStringS (t : Int → ByteArray) (ht : ∀ m, 0 ≤ m → m ≤ 4000000 → Ev (fun k => laws_markText.f k m) (t m)) (n : Nat) (m : Int) (h0 : 0 ≤ m) (h1 : m + n ≤ 4000000) : Ev (fun k => laws_heldStringS.f k (upt t m n) m) (m + n) := by
  simp only [laws_heldStringS.f]
  simpa using heldStringS_l0 t ht n [] m h0 h1 (by simp only [List.length_nil]; omega)

def ups : Int → Nat → List Int
  | _, 0 => []
  | m, n + 1 => m :: ups (m + 1) n
theorem ups_len (n : Nat) : ∀ m, (ups m n).length = n := by
  induction n with
  | zero => intro m; rfl
  | succ n ih => intro m; simp [ups, ih]
theorem markIntS_l0 (post : List Int) : ∀ (pre : List Int) (m : Int), 0 ≤ m → m + post.length ≤ 4611686018427387904 → (pre ++ post).length ≤ 140737488351232 → Ev (fun k => laws_markIntS.l0 k (pre ++ post) m (pre.length : Int)) (m + post.length, pre ++ ups m post.length) := by
  induction post with
  | nil =>
    intro pre m h0 h1 hl
    refine Ev.succ ?_
    simp only [laws_markIntS.l0]
    exact Ev.neg (by simp) (Ev.eq (Ev.ret _) (by simp [ups]))
  | cons x post ih =>
    intro pre m h0 h1 hl
    simp only [List.length_append, List.length_cons] at hl h1
    have h := ih (pre ++ [m]) (m + 1) (by omega) (by omega) (by simp only [List.length_append, List.length_cons, List.length_nil]; omega)
    refine Ev.succ ?_
    simp only [laws_markIntS.l0]
    refine Ev.pos (by simp only [List.length_append, List.length_cons]; omega) (Ev.pos (by omega) ?_)
    rw [w64 (x := m + 1) (by omega) (by omega), w64 (by omega) (by omega)]
    have e : (pre ++ x :: post).set ((pre.length : Int)).toNat m = pre ++ [m] ++ post := by simp
    rw [e]
    refine Ev.eq (by simpa using h) ?_
    simp only [ups, List.length_cons, Prod.mk.injEq]
    exact ⟨by omega, trivial⟩
theorem markIntS (l : List Int) (m : Int) (h0 : 0 ≤ m) (h1 : m + l.length ≤ 4611686018427387904) (hl : l.length ≤ 140737488351232) : Ev (fun k => laws_markIntS.f k l m) (m + l.length, ups m l.length) := by
  simp only [laws_markIntS.f]
  simpa using markIntS_l0 l [] m h0 h1 (by simpa using hl)

/-! Codes. -/
def baL (l : List UInt8) : ByteArray := ⟨l.toArray⟩
theorem baL_data (l : List UInt8) : (baL l).data.toList = l := rfl
theorem baL_size (l : List UInt8) : (baL l).size = l.length := by
  rw [show (baL l).size = (baL l).data.size from rfl, ← Array.length_toList, baL_data]
theorem ba_ext {a b : ByteArray} (h : a.data.toList = b.data.toList) : a = b := ByteArray.ext (Array.toList_inj.1 h)
theorem cbyte_half (n m : Nat) : cbyte (n : Int) (m + 1) = cbyte ((n / 2 : Nat) : Int) m := by
  unfold cbyte
  rw [Int.toNat_natCast, Int.toNat_natCast, Nat.div_div_eq_div_mul, Nat.pow_succ, Nat.mul_comm]
theorem cbits_half (n m : Nat) : cbits (n : Int) (m + 1) = cbits ((n / 2 : Nat) : Int) m ++ [cbyte (n : Int) 0] := by
  induction m with
  | zero => rfl
  | succ m ih => rw [cbits, ih, cbyte_half, cbits]; rfl
theorem low_bit (n : Nat) : (strOfNums [(wrap64 (48 + (Int.tmod (n : Int) 2))) % 256]).data.toList = [cbyte (n : Int) 0] := by
  rw [show Int.tmod (n : Int) 2 = ((n % 2 : Nat) : Int) from rfl, w64 (by omega) (by omega), strOfNums_data]
  unfold cbyte
  rw [Int.toNat_natCast, Nat.pow_zero, Nat.div_one, List.map_cons, List.map_nil]
  have h : n % 2 < 2 := Nat.mod_lt _ (by omega)
  generalize n % 2 = y at h ⊢
  congr 2
  omega
theorem spec_bits (m : Nat) : ∀ (n : Nat) (acc : ByteArray), n ≤ 1000000 → acc.size + m ≤ 1000 → Ev (fun k => spec_l11Bits.l0 k (n : Int) (m : Int) acc) (baL (cbits (n : Int) m) ++ acc) := by
  induction m with
  | zero =>
    intro n acc hn ha
    refine Ev.succ ?_
    simp only [spec_l11Bits.l0]
    refine Ev.neg (by omega) (Ev.eq (Ev.ret _) (ba_ext ?_))
    rw [ByteArray.data_append, Array.toList_append, baL_data]; rfl
  | succ m ih =>
    intro n acc hn ha
    have h := ih (n / 2) (strOfNums [(wrap64 (48 + (Int.tmod (n : Int) 2))) % 256] ++ acc) (by omega) (by rw [ByteArray.size_append, strOfNums_size, List.length_cons, List.length_nil]; omega)
    refine Ev.succ ?_
    simp only [spec_l11Bits.l0]
    rw [show Int.tdiv (n : Int) 2 = ((n / 2 : Nat) : Int) from rfl, w64 (x := ((n / 2 : Nat) : Int)) (by omega) (by omega), w64 (x := ((m + 1 : Nat) : Int) - 1) (by omega) (by omega), show ((m + 1 : Nat) : Int) - 1 = (m : Int) by omega]
    refine Ev.pos (by omega) (Ev.bnd1 rfl (Ev.pos (by rw [strOfNums_size, List.length_cons, List.length_nil]; omega) (Ev.eq h (ba_ext ?_))))
    rw [ByteArray.data_append, ByteArray.data_append, ByteArray.data_append, Array.toList_append, Array.toList_append, Array.toList_append, low_bit, baL_data, baL_data, cbits_half, List.append_assoc]
/-- The reference's next code, by the program's last one. -/
def nx (code size : Int) : Int := if size > 0 then code + 1 else code
def nextCode (long : Nat) (code size : Int) : Int := if size > 0 then (code + 1) * 2 ^ ((long : Int) - size).toNat else code
theorem next_eq (long : Nat) (code size : Int) (h0 : 0 ≤ size) (hz : size = 0 → code = 0) : nextCode long code size = nx code size * 2 ^ ((long : Int) - size).toNat := by
  unfold nextCode nx
  by_cases g : size > 0
  · rw [if_pos g, if_pos g]
  · rw [if_neg g, if_neg g, hz (by omega)]; simp
theorem next_le (long : Nat) (code size : Int) (c : Nat) (h0 : 0 ≤ size) (hl : size ≤ long) (hz : size = 0 → code = 0) (hn : nx code size ≤ (c : Int) * 2 ^ size.toNat) : nextCode long code size ≤ (c : Int) * 2 ^ long := by
  rw [next_eq long code size h0 hz]
  have h := Int.mul_le_mul_of_nonneg_right hn (show (0 : Int) ≤ 2 ^ ((long : Int) - size).toNat from Int.le_of_lt (Int.pow_pos (by decide)))
  rw [Int.mul_assoc, ← Int.pow_add, show size.toNat + ((long : Int) - size).toNat = long by omega] at h
  exact h
theorem pow_le12 (long : Nat) (h : long ≤ 12) : (2 : Int) ^ long ≤ 4096 ∧ 1 ≤ (2 : Int) ^ long := by
  have := (show ∀ n : Fin 13, (2 : Int) ^ n.val ≤ 4096 ∧ 1 ≤ (2 : Int) ^ n.val by decide) ⟨long, by omega⟩
  exact this
theorem shl_small (n : Int) (m : Int) (h0 : 0 ≤ m) (h1 : m ≤ 12) (hn : 0 ≤ n * 2 ^ m.toNat) (hb : n * 2 ^ m.toNat ≤ 1000000) : shl .i64 n m = n * 2 ^ m.toNat := by
  unfold shl
  rw [Nat.min_eq_left (by show m.toNat ≤ 64; omega), i64_w, w64 (by omega) (by omega)]
theorem cin_put (long : Nat) (i : Nat) (code size : Int) (outs : List ByteArray) (hc : 0 ≤ nextCode long code size) (hc1 : nextCode long code size ≤ 1000000) (hl : size ≤ long) : cstep (long : Int) (long : Int) i (code, size, outs) = some (nextCode long code size, (long : Int), outs.set i (baL (cbits (nextCode long code size) long))) := by
  unfold cstep
  rw [if_pos rfl]
  unfold nextCode at hc hc1 ⊢
  by_cases g : size > 0
  · rw [if_pos g] at hc hc1 ⊢
    rw [if_pos g]
    unfold cput
    rw [if_pos ⟨⟨hc, hc1⟩, hl⟩, Int.toNat_natCast]; rfl
  · rw [if_neg g] at hc hc1 ⊢
    rw [if_neg g]
    unfold cput
    rw [if_pos ⟨⟨hc, hc1⟩, hl⟩, Int.toNat_natCast]; rfl
theorem codes_in (x0 : List Int) (hx : x0.length ≤ 12) (long : Nat) (h1 : 1 ≤ long) (h12 : long ≤ 12) (post : List Int) : ∀ (pre : List Int) (code size : Int) (outs : List ByteArray) (c : Nat), pre ++ post = x0 → outs.length = x0.length →
    0 ≤ code → 0 ≤ size → size ≤ long → (size = 0 → code = 0) → nx code size ≤ (c : Int) * 2 ^ size.toNat → c + post.length ≤ 144 →
    ∃ s' : Int × Int × List ByteArray, cin long post pre.length (code, size, outs) = some s' ∧ s'.2.2.length = x0.length ∧ 0 ≤ s'.1 ∧ 0 ≤ s'.2.1 ∧ s'.2.1 ≤ long ∧ (s'.2.1 = 0 → s'.1 = 0) ∧ nx s'.1 s'.2.1 ≤ ((c + post.length : Nat) : Int) * 2 ^ s'.2.1.toNat ∧
      ∀ r, Ev (fun k => spec_l11Codes.l0 k x0 s'.2.2 (nx s'.1 s'.2.1) s'.2.1 ((long : Int) + 1)) r → Ev (fun k => spec_l11Codes.l1 k x0 outs (nx code size) size (long : Int) (pre ++ post) ((pre ++ post).length : Int) (pre.length : Int)) r := by
  induction post with
  | nil =>
    intro pre code size outs c he ho hc hs hsl hz hn hcc
    refine ⟨(code, size, outs), rfl, ho, hc, hs, hsl, hz, hn, fun r hr => Ev.succ ?_⟩
    simp only [spec_l11Codes.l1]
    rw [w64 (x := (long : Int) + 1) (by omega) (by omega)]
    exact Ev.neg (by simp) hr
  | cons x post ih =>
    intro pre code size outs c he ho hc hs hsl hz hn hcc
    have hlen : pre.length + (post.length + 1) = x0.length := by rw [← he]; simp
    simp only [List.length_cons] at hcc
    have he' : (pre ++ [x]) ++ post = x0 := by rw [← he]; simp
    have hpl : (pre ++ [x]).length = pre.length + 1 := by simp
    have hpw := pow_le12 long h12
    by_cases g : x = (long : Int)
    · subst g
      have hle := next_le long code size c hs hsl hz hn
      have h0 : 0 ≤ nextCode long code size := by
        unfold nextCode
        split
        · exact Int.mul_nonneg (by omega) (Int.le_of_lt (Int.pow_pos (by decide)))
        · exact hc
      have hle2 : (c : Int) * 2 ^ long ≤ 144 * 4096 := Int.mul_le_mul (by omega) hpw.1 (by omega) (by omega)
      have hb : nextCode long code size ≤ 1000000 := by omega
      have hput := cin_put long pre.length code size outs h0 hb hsl
      have hnx : nx (nextCode long code size) (long : Int) = nextCode long code size + 1 := by unfold nx; rw [if_pos (by omega)]
      have hsh := next_eq long code size hs hz
      have hn2 : nx (nextCode long code size) (long : Int) ≤ ((c + 1 : Nat) : Int) * 2 ^ ((long : Int)).toNat := by
        rw [hnx, Int.toNat_natCast, Int.natCast_add, Int.natCast_one, Int.add_mul, Int.one_mul]
        omega
      obtain ⟨s', e, p1, p2, p3, p4, p5, p6, p7⟩ := ih (pre ++ [(long : Int)]) (nextCode long code size) (long : Int) (outs.set pre.length (baL (cbits (nextCode long code size) long))) (c + 1) he' (by rw [List.length_set]; exact ho) h0 (by omega) (by omega) (by omega) hn2 (by omega)
      rw [hpl] at e
      refine ⟨s', by rw [cin, hput, Option.bind_some]; exact e, p1, p2, p3, p4, p5, by rw [show c + ((long : Int) :: post).length = c + 1 + post.length from by simp only [List.length_cons]; omega]; exact p6, fun r hr => ?_⟩
      have h := p7 r hr
      rw [hnx, hpl, List.append_assoc, List.singleton_append] at h
      have hbits := spec_bits long (nextCode long code size).toNat (⟨#[]⟩ : ByteArray) (by omega) (by show 0 + long ≤ 1000; omega)
      rw [Int.toNat_of_nonneg h0] at hbits
      refine Ev.succ ?_
      simp only [spec_l11Codes.l1, List.length_append, List.length_cons]
      rw [rd_mid, w64 (x := (long : Int) - size) (by omega) (by omega), IntWalk.u64_in _ (by omega), shl_small _ _ (by omega) (by omega) (by omega) (by omega), ← hsh, w64 (x := nextCode long code size + 1) (by omega) (by omega), w64 (x := (pre.length : Int) + 1) (by omega) (by omega), Int.toNat_natCast]
      refine Ev.pos (by omega) (Ev.pos (by omega) (Ev.pos (by omega) (Ev.pos rfl (Ev.pos (by omega) (Ev.bnd (a := baL (cbits (nextCode long code size) long)) ?_ (Ev.pos (by omega) ?_))))))
      · simp only [spec_l11Bits.f]
        exact Ev.eq hbits (ba_ext (by rw [ByteArray.data_append, Array.toList_append]; show _ ++ [] = _; rw [List.append_nil]))
      · simpa using h
    · obtain ⟨s', e, p1, p2, p3, p4, p5, p6, p7⟩ := ih (pre ++ [x]) code size outs c he' ho hc hs hsl hz hn (by omega)
      rw [hpl] at e
      have hpos : (0 : Int) ≤ 2 ^ s'.2.1.toNat := Int.le_of_lt (Int.pow_pos (by decide))
      refine ⟨s', by rw [cin, cstep, if_neg g, Option.bind_some]; exact e, p1, p2, p3, p4, p5, ?_, fun r hr => ?_⟩
      · rw [show c + (x :: post).length = (c + post.length) + 1 by simp only [List.length_cons]; omega, Int.natCast_add, Int.natCast_one, Int.add_mul, Int.one_mul]
        omega
      · have h := p7 r hr
        rw [hpl, List.append_assoc, List.singleton_append] at h
        refine Ev.succ ?_
        simp only [spec_l11Codes.l1, List.length_append, List.length_cons]
        rw [rd_mid, w64 (x := (pre.length : Int) + 1) (by omega) (by omega)]
        exact Ev.pos (by omega) (Ev.pos (by omega) (Ev.pos (by omega) (Ev.neg g (by simpa using h))))
theorem codes_out (x0 : List Int) (hx : x0.length ≤ 12) (f : Nat) : ∀ (long : Nat) (code size : Int) (outs : List ByteArray) (c : Nat), long + f = 13 → 1 ≤ long → outs.length = x0.length → 0 ≤ code → 0 ≤ size → size ≤ long → (size = 0 → code = 0) → nx code size ≤ (c : Int) * 2 ^ size.toNat → c + f * 12 ≤ 144 →
    ∃ fin : Int × Int × List ByteArray, cout x0 f long (code, size, outs) = some fin ∧ fin.2.2.length = x0.length ∧ Ev (fun k => spec_l11Codes.l0 k x0 outs (nx code size) size (long : Int)) fin.2.2 := by
  induction f with
  | zero =>
    intro long code size outs c hf h1 ho hc hs hsl hz hn hcc
    refine ⟨(code, size, outs), rfl, ho, Ev.succ ?_⟩
    simp only [spec_l11Codes.l0]
    exact Ev.neg (by omega) (Ev.ret _)
  | succ f ih =>
    intro long code size outs c hf h1 ho hc hs hsl hz hn hcc
    obtain ⟨s', e, p1, p2, p3, p4, p5, p6, p7⟩ := codes_in x0 hx long h1 (by omega) x0 [] code size outs c rfl ho hc hs hsl hz hn (by omega)
    obtain ⟨sc, ss, so⟩ := s'
    simp only at p1 p2 p3 p4 p5 p6 p7
    obtain ⟨fin, e2, q1, q2⟩ := ih (long + 1) sc ss so (c + x0.length) (by omega) (by omega) p1 p2 p3 (by omega) p5 p6 (by omega)
    rw [Int.natCast_add, Int.natCast_one] at e2 q2
    refine ⟨fin, by rw [cout]; rw [List.length_nil] at e; rw [e, Option.bind_some]; exact e2, q1, Ev.succ ?_⟩
    have h := p7 _ q2
    simp only [spec_l11Codes.l0]
    exact Ev.pos (by omega) (by simpa using h)
theorem codes_ev (l : List Int) (h : l.length ≤ 12) : ∃ fin : Int × Int × List ByteArray, cout l 12 1 (0, 0, List.replicate l.length ⟨#[]⟩) = some fin ∧ impl_codes.f l = some fin.2.2 ∧ fin.2.2.length = l.length ∧ Ev (fun k => spec_l11Codes.f k l) fin.2.2 := by
  obtain ⟨fin, e, hl, hs⟩ := codes_out l h 12 1 0 0 (List.replicate l.length (⟨#[]⟩ : ByteArray)) 0 rfl (by omega) (by simp) (by omega) (by omega) (by omega) (fun _ => rfl) (by simp [nx]) (by omega)
  refine ⟨fin, e, ?_, hl, ?_⟩
  · unfold impl_codes.f
    rw [if_pos (by omega)]
    have e' : cout l 12 1 (0, 0, List.replicate l.length ⟨#[]⟩) = some fin := e
    rw [e', Option.map_some]
  · simp only [spec_l11Codes.f]
    refine Ev.pos (by omega) (Ev.pos (by omega) ?_)
    rw [Int.toNat_natCast]
    exact hs

theorem codesOf_ex (l : List Int) (hl : l.length ≤ 1048576) : ∃ (r : List ByteArray) (b : Bool), r.length ≤ 12 ∧ Ev (fun k => spec_CodesOf.f k l) (r, b) ∧ Ev (fun k => impl_CodesOf.f k l) (r, b) := by
  by_cases g : goodLengths l = true
  · have hw : within 12 l = true := by unfold goodLengths at g; rw [Bool.and_eq_true] at g; exact g.1
    have h12 := (within_facts hw).1
    obtain ⟨fin, _, hi, hlen, hs⟩ := codes_ev l h12
    refine ⟨fin.2.2, true, by omega, ?_, ?_⟩
    · simp only [spec_CodesOf.f]
      exact Ev.bnd (spec_GoodLengths_ev l (by omega)) (Ev.pos g (Ev.bnd hs (Ev.ret _)))
    · simp only [impl_CodesOf.f]
      exact Ev.bnd (impl_GoodLengths_ev l) (Ev.pos g (Ev.bnd1 hi (Ev.ret _)))
  · refine ⟨[], false, by simp, ?_, ?_⟩
    · simp only [spec_CodesOf.f]
      exact Ev.bnd (spec_GoodLengths_ev l (by omega)) (Ev.neg g (Ev.ret _))
    · simp only [impl_CodesOf.f]
      exact Ev.bnd (impl_GoodLengths_ev l) (Ev.neg g (Ev.ret _))

theorem FnExactCodesOf : laws_FnExactCodesOf.Pure := by
  intro l _ hl hw
  refine Ev.all ?_
  simp only [laws_FnExactCodesOf.f]
  by_cases g : (l.length : Int) > 1048576
  · exact Ev.pos g (Ev.ret _)
  · refine Ev.neg g ?_
    obtain ⟨r, b, hr, hs, hi⟩ := codesOf_ex l (by omega)
    obtain ⟨t, ht⟩ := markText_ex
    have ht0 := toIntS l hl
    have e1 := eqStringS_self r (by omega)
    have e2 := eqIntS_self l (by omega)
    have m1 := markIntS l 1 (by omega) (by omega) (by omega)
    have m2 := markStringS t ht r 1 (by omega) (by omega)
    have k2 := heldStringS t ht r.length 1 (by omega) (by omega)
    refine Ev.bnd ht0 (Ev.bnd hs (Ev.bnd ht0 (Ev.bnd hi (Ev.bnd e1 (Ev.pos rfl (Ev.succ ?_))))))
    simp only [laws_FnExactCodesOf.j0]
    refine Ev.neg (by simp) (Ev.bnd ht0 (Ev.bnd e2 (Ev.pos rfl (Ev.bnd m1 (Ev.neg (by omega) (Ev.bnd e1 (Ev.pos rfl (Ev.succ ?_))))))))
    simp only [laws_FnExactCodesOf.j1]
    refine Ev.neg (by simp) (Ev.bnd m2 (Ev.bnd k2 (Ev.neg (by omega) (Ev.pos rfl (Ev.bnd ht0 (Ev.bnd hi (Ev.bnd e1 (Ev.pos rfl (Ev.succ ?_)))))))))
    simp only [laws_FnExactCodesOf.j2]
    exact Ev.neg (by simp) (Ev.bnd k2 (Ev.neg (by omega) (Ev.pos rfl (Ev.ret _))))

end Go.Proofs.Ytddcceoneabaaaa.Pure
