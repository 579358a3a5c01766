/- The program's EncodeBy returns what the reference's returns, for all arguments.
Conditions: none beyond what the row itself says. -/
import Derived.Test.YtddcceoneabaaaaQFnExactEncodeByx4
namespace Go.Proofs.Ytddcceoneabaaaa.Pure
open Go.RowKit Go.Proofs.Ytddcceoneabaaaa.QFnExactEncodeBy Go.Proofs.YtddcceoneabaaaaW.PrintWords Go.Proofs.YtddcceoneabaaaaW.PrintLast Go.Proofs.YtddcceoneabaaaaW.PrintMore
set_option linter.unusedVariables false
set_option linter.unusedSimpArgs false

theorem w64 {x : Int} (h0 : -9223372036854775808 ≤ x) (h1 : x ≤ 9223372036854775807) : wrap64 x = x := by
  unfold wrap64; omega
theorem wf64 {a : Int} (h : (Lit.int .i64 a).wf = true) : -9223372036854775808 ≤ a ∧ a ≤ 9223372036854775807 := by
  simp only [Lit.wf, IntKind.min, IntKind.max, IntKind.signed, IntKind.bits, Bool.and_eq_true, decide_eq_true_eq, if_true] at h
  omega

theorem Ev.succ {α : Type} {g : Nat → Option α} {r : α} (h : Ev (fun k => g (k + 1)) r) : Ev g r := Ev.step (fun _ => rfl) h
theorem Ev.pos {α : Type} {c : Prop} [Decidable c] {a b : Nat → Option α} {r : α} (h : c) (e : Ev (fun k => a k) r) : Ev (fun k => if c then a k else b k) r := Ev.congr (fun _ => if_pos h) e
theorem Ev.neg {α : Type} {c : Prop} [Decidable c] {a b : Nat → Option α} {r : α} (h : ¬ c) (e : Ev (fun k => b k) r) : Ev (fun k => if c then a k else b k) r := Ev.congr (fun _ => if_neg h) e
theorem Ev.bnd {α β : Type} {g : Nat → Option α} {f : Nat → α → Option β} {a : α} {r : β} (h : Ev (fun k => g k) a) (k : Ev (fun n => f n a) r) : Ev (fun n => (g n).bind (fun x => f n x)) r := Ev.bind h k
theorem Ev.bnd1 {α β : Type} {g : Option α} {f : Nat → α → Option β} {a : α} {r : β} (h : g = some a) (k : Ev (fun n => f n a) r) : Ev (fun n => g.bind (fun x => f n x)) r := by
  rw [h]; exact k
theorem Ev.ret {α : Type} (r : α) : Ev (fun _ => some r) r := Ev.now r
theorem Ev.eq {α : Type} {g : Nat → Option α} {r r' : α} (h : Ev g r) (e : r = r') : Ev g r' := e ▸ h
theorem Ev.all {α : Type} {g : Nat → Option α} {r : α} (h : Ev (fun k => g k) r) : ∃ k, g k = some r := h.rounds
theorem rd_mid (pre : List Int) (x : Int) (post : List Int) : rd (pre ++ x :: post) (pre.length : Int) = x := by
  unfold rd; simp
theorem rd_nat (xs : List Int) (i : Nat) (h : i < xs.length) : rd xs (i : Int) = xs[i] := by
  unfold rd; simp [List.getD_eq_getElem?_getD, List.getElem?_eq_getElem h]

theorem toIntS_l0 (post : List Int) : ∀ (pre rest : List Int), rest.length = post.length → (pre ++ post).length ≤ 140737488351232 → Ev (fun k => laws_toIntS.l0 k (pre ++ post) (pre ++ rest) (pre.length : Int)) (pre ++ post) := by
  induction post with
  | nil =>
    intro pre rest hr hl
    obtain rfl : rest = [] := List.eq_nil_of_length_eq_zero hr
    refine Ev.succ ?_
    simp only [laws_toIntS.l0]
    exact Ev.neg (by simp) (Ev.ret _)
  | cons x post ih =>
    intro pre rest hr hl
    obtain ⟨y, rest, rfl⟩ : ∃ y t, rest = y :: t := by cases rest with | nil => simp at hr | cons y t => exact ⟨y, t, rfl⟩
    have h := ih (pre ++ [x]) rest (by simpa using hr) (by simpa using hl)
    simp only [List.length_append, List.length_cons, List.length_nil] at hl hr h
    refine Ev.succ ?_
    simp only [laws_toIntS.l0, List.length_append, List.length_cons]
    refine Ev.pos (by omega) (Ev.pos (by omega) (Ev.pos (by omega) ?_))
    rw [rd_mid, w64 (by omega) (by omega)]
    have e : (pre ++ y :: rest).set ((pre.length : Int)).toNat x = pre ++ [x] ++ rest := by simp
    rw [e]
    simpa using h
theorem toIntS (l : List Int) (h : l.length * 8 ≤ 140737488351232) : Ev (fun k => laws_toIntS.f k l) l := by
  simp only [laws_toIntS.f]
  refine Ev.pos (by omega) (Ev.pos (by omega) ?_)
  have := toIntS_l0 l [] (List.replicate l.length 0) (by simp) (by simp; omega)
  simpa using this

theorem eqIntS_l0 (pa : List Int) : ∀ (pa' pb pb' : List Int), pa'.length = pb'.length → pa.length = pb.length → (pa' ++ pa).length ≤ 140737488351232 → Ev (fun k => laws_eqIntS.l0 k (pa' ++ pa) (pb' ++ pb) (pa'.length : Int)) (decide (pa = pb)) := by
  induction pa with
  | nil =>
    intro pa' pb pb' h1 h2 hl
    obtain rfl : pb = [] := List.eq_nil_of_length_eq_zero h2.symm
    refine Ev.succ ?_
    simp only [laws_eqIntS.l0]
    exact Ev.neg (by simp) (Ev.eq (Ev.ret _) (by simp))
  | cons x pa ih =>
    intro pa' pb pb' h1 h2 hl
    obtain ⟨y, pb, rfl⟩ : ∃ y t, pb = y :: t := by cases pb with | nil => simp at h2 | cons y t => exact ⟨y, t, rfl⟩
    have h := ih (pa' ++ [x]) pb (pb' ++ [y]) (by simpa using h1) (by simpa using h2) (by simpa using hl)
    simp only [List.length_append, List.length_cons, List.length_nil] at hl h2 h
    refine Ev.succ ?_
    simp only [laws_eqIntS.l0, List.length_append, List.length_cons]
    refine Ev.pos (by omega) (Ev.pos (by omega) (Ev.pos (by omega) ?_))
    rw [rd_mid, show (pa'.length : Int) = (pb'.length : Int) by omega, rd_mid]
    by_cases e : x = y
    · subst e
      refine Ev.pos rfl ?_
      rw [w64 (by omega) (by omega)]
      refine Ev.eq (Ev.congr (fun k => ?_) h) (by simp)
      simp [h1]
    · exact Ev.neg e (Ev.eq (Ev.ret _) (by simp [e]))
theorem eqIntS (a b : List Int) (h : a.length ≤ 140737488351232) : Ev (fun k => laws_eqIntS.f k a b) (decide (a = b)) := by
  simp only [laws_eqIntS.f]
  by_cases e : a.length = b.length
  · exact Ev.pos (by omega) (by simpa using eqIntS_l0 a [] b [] rfl e (by simpa using h))
  · exact Ev.neg (by omega) (Ev.eq (Ev.ret _) (by simp only [false_eq_decide_iff]; intro h; exact e (by rw [h])))
theorem eqIntS_self (a : List Int) (h : a.length ≤ 140737488351232) : Ev (fun k => laws_eqIntS.f k a a) true := Ev.eq (eqIntS a a h) (by simp)

theorem spec_in_eq (a lo hi : Int) : spec_l1In.f a lo hi = some (decide (lo ≤ a ∧ a ≤ hi)) := by
  unfold spec_l1In.f
  by_cases h1 : a ≥ lo
  · rw [if_pos h1]
    by_cases h2 : a ≤ hi
    · rw [decide_eq_true h2, decide_eq_true ⟨h1, h2⟩]
    · rw [decide_eq_false h2, decide_eq_false (fun h => h2 h.2)]
  · rw [if_neg h1, decide_eq_false (fun h => h1 h.1)]
def inAll (lo hi : Int) (l : List Int) : Bool := l.all fun x => decide (lo ≤ x ∧ x ≤ hi)
theorem spec_l1All_l0 (lo hi : Int) (post : List Int) : ∀ pre : List Int, (pre ++ post).length ≤ 140737488351232 → Ev (fun k => spec_l1All.l0 k lo hi (pre ++ post) ((pre ++ post).length : Int) (pre.length : Int)) (inAll lo hi post) := by
  induction post with
  | nil =>
    intro pre hl
    refine Ev.succ ?_
    simp only [spec_l1All.l0]
    exact Ev.neg (by simp) (Ev.ret _)
  | cons x post ih =>
    intro pre hl
    have h := ih (pre ++ [x]) (by simpa using hl)
    simp only [List.length_append, List.length_cons] at hl
    refine Ev.succ ?_
    simp only [spec_l1All.l0]
    refine Ev.pos (by simp only [List.length_append, List.length_cons]; omega) (Ev.pos (by omega) (Ev.pos (by simp only [List.length_append, List.length_cons]; omega) ?_))
    rw [rd_mid]
    refine Ev.bnd1 (spec_in_eq _ _ _) ?_
    by_cases hx : lo ≤ x ∧ x ≤ hi
    · rw [decide_eq_true hx]
      refine Ev.pos rfl ?_
      rw [w64 (by omega) (by omega)]
      refine Ev.eq (by simpa using h) ?_
      simp [inAll, hx]
    · rw [decide_eq_false hx]
      exact Ev.neg (by simp) (Ev.eq (Ev.ret _) (by simp only [inAll, List.all_cons, decide_eq_false hx, Bool.false_and]))
theorem spec_l1All_ev (lo hi : Int) (l : List Int) (hl : l.length ≤ 140737488351232) : Ev (fun k => spec_l1All.f k l lo hi) (inAll lo hi l) := by
  simp only [spec_l1All.f]
  simpa using spec_l1All_l0 lo hi l [] (by simpa using hl)
theorem inAll_mem {lo hi : Int} {l : List Int} (h : inAll lo hi l = true) : ∀ x ∈ l, lo ≤ x ∧ x ≤ hi := by
  intro x hx
  unfold inAll at h
  simpa using List.all_eq_true.1 h x hx

theorem anyO_not {α : Type} (f : α → Option Bool) (p : α → Bool) (l : List α) (h : ∀ x ∈ l, f x = some (!p x)) : anyO f l = some (!l.all p) := by
  induction l with
  | nil => rfl
  | cons x t ih =>
    simp only [anyO]
    rw [h x (by simp), Option.bind_some]
    cases hp : p x with
    | true => simp [hp, ih (fun y hy => h y (by simp [hy]))]
    | false => simp [hp]

def within (m : Int) (l : List Int) : Bool := decide (l.length ≤ 12) && inAll 0 m l
theorem impl_aw1 (a m : Int) : impl_areWithin_1.f a m = some (!decide (0 ≤ a ∧ a ≤ m)) := by
  unfold impl_areWithin_1.f
  by_cases h : a < 0
  · rw [if_pos h, decide_eq_false (fun h2 => absurd h2.1 (by omega))]; rfl
  · rw [if_neg h]
    by_cases h2 : a > m
    · rw [decide_eq_true h2, decide_eq_false (fun h3 => absurd h3.2 (by omega))]; rfl
    · rw [decide_eq_false h2, decide_eq_true ⟨by omega, by omega⟩]; rfl
theorem impl_areWithin_eq (l : List Int) (m : Int) : impl_areWithin.f l m = some (within m l) := by
  unfold impl_areWithin.f within
  by_cases h : l.length ≤ 12
  · rw [if_pos (by omega), decide_eq_true h]
    unfold impl_areWithin_1_any.f
    rw [anyO_not _ (fun x => decide (0 ≤ x ∧ x ≤ m)) l (fun x _ => impl_aw1 x m)]
    simp [inAll]
  · rw [if_neg (by omega), decide_eq_false h]; rfl

theorem shr_4096 (n : Int) : 0 ≤ shr .i64 4096 n ∧ shr .i64 4096 n ≤ 4096 := by
  unfold shr
  have h : (0 : Int) ≤ 2 ^ min n.toNat (IntKind.bits .i64) := Int.pow_nonneg (by omega)
  exact ⟨Int.ediv_nonneg (by omega) h, Int.ediv_le_self _ (by omega)⟩
theorem u64_id {n : Int} (h0 : 0 ≤ n) (h1 : n ≤ 9223372036854775807) : IntKind.u64.wrap n = n := by
  simp [IntKind.wrap, IntKind.bits, IntKind.signed]; omega
/-- The sum of 4096 / 2^n over the lengths that are not 0, behind a sum. -/
def kr : Int → List Int → Int
  | s, [] => s
  | s, n :: t => kr (if n > 0 then s + shr .i64 4096 n else s) t
theorem spec_kraft_l0 (post : List Int) : ∀ (pre : List Int) (s : Int), 0 ≤ s → s + post.length * 4096 ≤ 1000000000000 → inAll 0 12 post = true → (pre ++ post).length ≤ 140737488351232 → Ev (fun k => spec_l11Kraft.l0 k s (pre ++ post) ((pre ++ post).length : Int) (pre.length : Int)) (kr s post) := by
  induction post with
  | nil =>
    intro pre s h0 h1 hp hl
    refine Ev.succ ?_
    simp only [spec_l11Kraft.l0]
    exact Ev.neg (by simp) (Ev.ret _)
  | cons n post ih =>
    intro pre s h0 h1 hp hl
    have hn := inAll_mem hp n (by simp)
    have hp' : inAll 0 12 post = true := by simp only [inAll, List.all_cons, Bool.and_eq_true] at hp; exact hp.2
    have hl' : (pre ++ [n] ++ post).length ≤ 140737488351232 := by simpa using hl
    simp only [List.length_append, List.length_cons] at hl h1
    have hs := shr_4096 n
    refine Ev.succ ?_
    simp only [spec_l11Kraft.l0]
    refine Ev.pos (by simp only [List.length_append, List.length_cons]; omega) (Ev.pos (by omega) (Ev.pos (by simp only [List.length_append, List.length_cons]; omega) ?_))
    rw [w64 (x := (pre.length : Int) + 1) (by omega) (by omega)]
    by_cases g : n > 0
    · refine Ev.pos (by rw [rd_mid]; exact g) ?_
      rw [rd_mid, u64_id (by omega) (by omega)]
      refine Ev.pos (by omega) ?_
      rw [w64 (x := s + shr .i64 4096 n) (by omega) (by omega)]
      have h := ih (pre ++ [n]) (s + shr .i64 4096 n) (by omega) (by omega) hp' hl'
      simp only [kr, if_pos g]
      simpa using h
    · refine Ev.neg (by rw [rd_mid]; exact g) ?_
      have h := ih (pre ++ [n]) s (by omega) (by omega) hp' hl'
      simp only [kr, if_neg g]
      simpa using h
theorem within_facts {m : Int} {l : List Int} (h : within m l = true) : l.length ≤ 12 ∧ inAll 0 m l = true := by
  simpa [within] using h
theorem spec_kraft (l : List Int) (h : within 12 l = true) : Ev (fun k => spec_l11Kraft.f k l) (kr 0 l) := by
  obtain ⟨h1, h2⟩ := within_facts h
  simp only [spec_l11Kraft.f]
  simpa using spec_kraft_l0 l [] 0 (by omega) (by omega) h2 (by simp; omega)
theorem spec_lengths (l : List Int) (hl : l.length ≤ 140737488351232) : Ev (fun k => spec_l11Lengths.f k l) (within 12 l) := by
  simp only [spec_l11Lengths.f]
  by_cases h : l.length ≤ 12
  · exact Ev.pos (by omega) (Ev.bnd (spec_l1All_ev 0 12 l hl) (Ev.eq (Ev.ret _) (by simp [within, h])))
  · exact Ev.neg (by omega) (Ev.eq (Ev.ret _) (by simp [within, h]))

theorem impl_kraft_l0 (post : List Int) : ∀ (pre : List Int) (s : Int), 0 ≤ s → s + post.length * 4096 ≤ 1000000000000 → inAll 0 12 post = true → (pre ++ post).length ≤ 140737488351232 → Ev (fun k => impl_KraftOf.l0 k s (pre ++ post) ((pre ++ post).length : Int) (pre.length : Int)) (kr s post, true) := by
  induction post with
  | nil =>
    intro pre s h0 h1 hp hl
    refine Ev.succ ?_
    simp only [impl_KraftOf.l0]
    exact Ev.neg (by simp) (Ev.ret _)
  | cons n post ih =>
    intro pre s h0 h1 hp hl
    have hn := inAll_mem hp n (by simp)
    have hp' : inAll 0 12 post = true := by simp only [inAll, List.all_cons, Bool.and_eq_true] at hp; exact hp.2
    have hl' : (pre ++ [n] ++ post).length ≤ 140737488351232 := by simpa using hl
    simp only [List.length_append, List.length_cons] at hl h1
    have hs := shr_4096 n
    refine Ev.succ ?_
    simp only [impl_KraftOf.l0]
    refine Ev.pos (by simp only [List.length_append, List.length_cons]; omega) (Ev.pos (by omega) (Ev.pos (by simp only [List.length_append, List.length_cons]; omega) ?_))
    rw [w64 (x := (pre.length : Int) + 1) (by omega) (by omega)]
    by_cases g : n > 0
    · refine Ev.pos (by rw [rd_mid]; exact g) ?_
      rw [rd_mid]
      refine Ev.pos (by omega) ?_
      rw [w64 (x := s + shr .i64 4096 n) (by omega) (by omega)]
      have h := ih (pre ++ [n]) (s + shr .i64 4096 n) (by omega) (by omega) hp' hl'
      simp only [kr, if_pos g]
      simpa using h
    · refine Ev.neg (by rw [rd_mid]; exact g) ?_
      have h := ih (pre ++ [n]) s (by omega) (by omega) hp' hl'
      simp only [kr, if_neg g]
      simpa using h
def kraftOf (l : List Int) : Int × Bool := if within 12 l = true then (kr 0 l, true) else (0, false)
theorem impl_KraftOf_ev (l : List Int) : Ev (fun k => impl_KraftOf.f k l) (kraftOf l) := by
  simp only [impl_KraftOf.f, impl_areWithin_eq, Option.bind_some, kraftOf]
  by_cases h : within 12 l = true
  · rw [if_pos h]
    obtain ⟨h1, h2⟩ := within_facts h
    exact Ev.pos h (by simpa using impl_kraft_l0 l [] 0 (by omega) (by omega) h2 (by simp; omega))
  · rw [if_neg h]
    exact Ev.neg h (Ev.ret _)

def goodLengths (l : List Int) : Bool := within 12 l && decide (kr 0 l ≤ 4096)
theorem spec_GoodLengths_ev (l : List Int) (hl : l.length ≤ 140737488351232) : Ev (fun k => spec_GoodLengths.f k l) (goodLengths l) := by
  simp only [spec_GoodLengths.f, goodLengths]
  refine Ev.bnd (spec_lengths l hl) ?_
  by_cases h : within 12 l = true
  · exact Ev.pos h (Ev.bnd (spec_kraft l h) (Ev.eq (Ev.ret _) (by rw [h]; rfl)))
  · exact Ev.neg h (Ev.eq (Ev.ret _) (by simp [h]))
theorem impl_GoodLengths_ev (l : List Int) : Ev (fun k => impl_GoodLengths.f k l) (goodLengths l) := by
  simp only [impl_GoodLengths.f, goodLengths]
  refine Ev.bnd (impl_KraftOf_ev l) ?_
  unfold kraftOf
  by_cases h : within 12 l = true
  · rw [if_pos h]
    exact Ev.pos rfl (Ev.eq (Ev.ret _) (by rw [h]; rfl))
  · rw [if_neg h]
    exact Ev.neg (by simp) (Ev.eq (Ev.ret _) (by simp [h]))

theorem toList_iff (a b : ByteArray) : a.toList = b.toList ↔ a = b := by
  rw [ByteArray.toList_eq, ByteArray.toList_eq]
  exact ⟨fun h => ByteArray.ext (Array.toList_inj.1 h), fun h => by rw [h]⟩

/-! Codes. -/
def baL (l : List UInt8) : ByteArray := ⟨l.toArray⟩
theorem baL_data (l : List UInt8) : (baL l).data.toList = l := rfl
theorem baL_size (l : List UInt8) : (baL l).size = l.length := by
  rw [show (baL l).size = (baL l).data.size from rfl, ← Array.length_toList, baL_data]
theorem ba_ext {a b : ByteArray} (h : a.data.toList = b.data.toList) : a = b := ByteArray.ext (Array.toList_inj.1 h)
theorem cbyte_half (n m : Nat) : cbyte (n : Int) (m + 1) = cbyte ((n / 2 : Nat) : Int) m := by
  unfold cbyte
  rw [Int.toNat_natCast, Int.toNat_natCast, Nat.div_div_eq_div_mul, Nat.pow_succ, Nat.mul_comm]
theorem cbits_half (n m : Nat) : cbits (n : Int) (m + 1) = cbits ((n / 2 : Nat) : Int) m ++ [cbyte (n : Int) 0] := by
  induction m with
  | zero => rfl
  | succ m ih => rw [cbits, ih, cbyte_half, cbits]; rfl
theorem low_bit (n : Nat) : (strOfNums [(wrap64 (48 + (Int.tmod (n : Int) 2))) % 256]).data.toList = [cbyte (n : Int) 0] := by
  rw [show Int.tmod (n : Int) 2 = ((n % 2 : Nat) : Int) from rfl, w64 (by omega) (by omega), strOfNums_data]
  unfold cbyte
  rw [Int.toNat_natCast, Nat.pow_zero, Nat.div_one, List.map_cons, List.map_nil]
  have h : n % 2 < 2 := Nat.mod_lt _ (by omega)
  generalize n % 2 = y at h ⊢
  congr 2
  omega
theorem spec_bits (m : Nat) : ∀ (n : Nat) (acc : ByteArray), n ≤ 1000000 → acc.size + m ≤ 1000 → Ev (fun k => spec_l11Bits.l0 k (n : Int) (m : Int) acc) (baL (cbits (n : Int) m) ++ acc) := by
  induction m with
  | zero =>
    intro n acc hn ha
    refine Ev.succ ?_
    simp only [spec_l11Bits.l0]
    refine Ev.neg (by omega) (Ev.eq (Ev.ret _) (ba_ext ?_))
    rw [ByteArray.data_append, Array.toList_append, baL_data]; rfl
  | succ m ih =>
    intro n acc hn ha
    have h := ih (n / 2) (strOfNums [(wrap64 (48 + (Int.tmod (n : Int) 2))) % 256] ++ acc) (by omega) (by rw [ByteArray.size_append, strOfNums_size, List.length_cons, List.length_nil]; omega)
    refine Ev.succ ?_
    simp only [spec_l11Bits.l0]
    rw [show Int.tdiv (n : Int) 2 = ((n / 2 : Nat) : Int) from rfl, w64 (x := ((n / 2 : Nat) : Int)) (by omega) (by omega), w64 (x := ((m + 1 : Nat) : Int) - 1) (by omega) (by omega), show ((m + 1 : Nat) : Int) - 1 = (m : Int) by omega]
    refine Ev.pos (by omega) (Ev.bnd1 rfl (Ev.pos (by rw [strOfNums_size, List.length_cons, List.length_nil]; omega) (Ev.eq h (ba_ext ?_))))
    rw [ByteArray.data_append, ByteArray.data_append, ByteArray.data_append, Array.toList_append, Array.toList_append, Array.toList_append, low_bit, baL_data, baL_data, cbits_half, List.append_assoc]
/-- The reference's next code, by the program's last one. -/
def nx (code size : Int) : Int := if size > 0 then code + 1 else code
def nextCode (long : Nat) (code size : Int) : Int := if size > 0 then (code + 1) * 2 ^ ((long : Int) - size).toNat else code
theorem next_eq (long : Nat) (code size : Int) (h0 : 0 ≤ size) (hz : size = 0 → code = 0) : nextCode long code size = nx code size * 2 ^ ((long : Int) - size).toNat := by
  unfold nextCode nx
  by_cases g : size > 0
  · rw [if_pos g, if_pos g]
  · rw [if_neg g, if_neg g, hz (by omega)]; simp
theorem next_le (long : Nat) (code size : Int) (c : Nat) (h0 : 0 ≤ size) (hl : size ≤ long) (hz : size = 0 → code = 0) (hn : nx code size ≤ (c : Int) * 2 ^ size.toNat) : nextCode long code size ≤ (c : Int) * 2 ^ long := by
  rw [next_eq long code size h0 hz]
  have h := Int.mul_le_mul_of_nonneg_right hn (show (0 : Int) ≤ 2 ^ ((long : Int) - size).toNat from Int.le_of_lt (Int.pow_pos (by decide)))
  rw [Int.mul_assoc, ← Int.pow_add, show size.toNat + ((long : Int) - size).toNat = long by omega] at h
  exact h
theorem pow_le12 (long : Nat) (h : long ≤ 12) : (2 : Int) ^ long ≤ 4096 ∧ 1 ≤ (2 : Int) ^ long := by
  have := (show ∀ n : Fin 13, (2 : Int) ^ n.val ≤ 4096 ∧ 1 ≤ (2 : Int) ^ n.val by decide) ⟨long, by omega⟩
  exact this
theorem shl_small (n : Int) (m : Int) (h0 : 0 ≤ m) (h1 : m ≤ 12) (hn : 0 ≤ n * 2 ^ m.toNat) (hb : n * 2 ^ m.toNat ≤ 1000000) : shl .i64 n m = n * 2 ^ m.toNat := by
  unfold shl
  rw [Nat.min_eq_left (by show m.toNat ≤ 64; omega), i64_w, w64 (by omega) (by omega)]
theorem cin_put (long : Nat) (i : Nat) (code size : Int) (outs : List ByteArray) (hc : 0 ≤ nextCode long code size) (hc1 : nextCode long code size ≤ 1000000) (hl : size ≤ long) : cstep (long : Int) (long : Int) i (code, size, outs) = some (nextCode long code size, (long : Int), outs.set i (baL (cbits (nextCode long code size) long))) := by
  unfold cstep
  rw [if_pos rfl]
  unfold nextCode at hc hc1 ⊢
  by_cases g : size > 0
  · rw [if_pos g] at hc hc1 ⊢
    rw [if_pos g]
    unfold cput
    rw [if_pos ⟨⟨hc, hc1⟩, hl⟩, Int.toNat_natCast]; rfl
  · rw [if_neg g] at hc hc1 ⊢
    rw [if_neg g]
    unfold cput
    rw [if_pos ⟨⟨hc, hc1⟩, hl⟩, Int.toNat_natCast]; rfl
theorem codes_in (x0 : List Int) (hx : x0.length ≤ 12) (long : Nat) (h1 : 1 ≤ long) (h12 : long ≤ 12) (post : List Int) : ∀ (pre : List Int) (code size : Int) (outs : List ByteArray) (c : Nat), pre ++ post = x0 → outs.length = x0.length →
    0 ≤ code → 0 ≤ size → size ≤ long → (size = 0 → code = 0) → nx code size ≤ (c : Int) * 2 ^ size.toNat → c + post.length ≤ 144 →
    ∃ s' : Int × Int × List ByteArray, cin long post pre.length (code, size, outs) = some s' ∧ s'.2.2.length = x0.length ∧ 0 ≤ s'.1 ∧ 0 ≤ s'.2.1 ∧ s'.2.1 ≤ long ∧ (s'.2.1 = 0 → s'.1 = 0) ∧ nx s'.1 s'.2.1 ≤ ((c + post.length : Nat) : Int) * 2 ^ s'.2.1.toNat ∧
      ∀ r, Ev (fun k => spec_l11Codes.l0 k x0 s'.2.2 (nx s'.1 s'.2.1) s'.2.1 ((long : Int) + 1)) r → Ev (fun k => spec_l11Codes.l1 k x0 outs (nx code size) size (long : Int) (pre ++ post) ((pre ++ post).length : Int) (pre.length : Int)) r := by
  induction post with
  | nil =>
    intro pre code size outs c he ho hc hs hsl hz hn hcc
    refine ⟨(code, size, outs), rfl, ho, hc, hs, hsl, hz, hn, fun r hr => Ev.succ ?_⟩
    simp only [spec_l11Codes.l1]
    rw [w64 (x := (long : Int) + 1) (by omega) (by omega)]
    exact Ev.neg (by simp) hr
  | cons x post ih =>
    intro pre code size outs c he ho hc hs hsl hz hn hcc
    have hlen : pre.length + (post.length + 1) = x0.length := by rw [← he]; simp
    simp only [List.length_cons] at hcc
    have he' : (pre ++ [x]) ++ post = x0 := by rw [← he]; simp
    have hpl : (pre ++ [x]).length = pre.length + 1 := by simp
    have hpw := pow_le12 long h12
    by_cases g : x = (long : Int)
    · subst g
      have hle := next_le long code size c hs hsl hz hn
      have h0 : 0 ≤ nextCode long code size := by
        unfold nextCode
        split
        · exact Int.mul_nonneg (by omega) (Int.le_of_lt (Int.pow_pos (by decide)))
        · exact hc
      have hle2 : (c : Int) * 2 ^ long ≤ 144 * 4096 := Int.mul_le_mul (by omega) hpw.1 (by omega) (by omega)
      have hb : nextCode long code size ≤ 1000000 := by omega
      have hput := cin_put long pre.length code size outs h0 hb hsl
      have hnx : nx (nextCode long code size) (long : Int) = nextCode long code size + 1 := by unfold nx; rw [if_pos (by omega)]
      have hsh := next_eq long code size hs hz
      have hn2 : nx (nextCode long code size) (long : Int) ≤ ((c + 1 : Nat) : Int) * 2 ^ ((long : Int)).toNat := by
        rw [hnx, Int.toNat_natCast, Int.natCast_add, Int.natCast_one, Int.add_mul, Int.one_mul]
        omega
      obtain ⟨s', e, p1, p2, p3, p4, p5, p6, p7⟩ := ih (pre ++ [(long : Int)]) (nextCode long code size) (long : Int) (outs.set pre.length (baL (cbits (nextCode long code size) long))) (c + 1) he' (by rw [List.length_set]; exact ho) h0 (by omega) (by omega) (by omega) hn2 (by omega)
      rw [hpl] at e
      refine ⟨s', by rw [cin, hput, Option.bind_some]; exact e, p1, p2, p3, p4, p5, by rw [show c + ((long : Int) :: post).length = c + 1 + post.length from by simp only [List.length_cons]; omega]; exact p6, fun r hr => ?_⟩
      have h := p7 r hr
      rw [hnx, hpl, List.append_assoc, List.singleton_append] at h
      have hbits := spec_bits long (nextCode long code size).toNat (⟨#[]⟩ : ByteArray) (by omega) (by show 0 + long ≤ 1000; omega)
      rw [Int.toNat_of_nonneg h0] at hbits
      refine Ev.succ ?_
      simp only [spec_l11Codes.l1, List.length_append, List.length_cons]
      rw [rd_mid, w64 (x := (long : Int) - size) (by omega) (by omega), IntWalk.u64_in _ (by omega), shl_small _ _ (by omega) (by omega) (by omega) (by omega), ← hsh, w64 (x := nextCode long code size + 1) (by omega) (by omega), w64 (x := (pre.length : Int) + 1) (by omega) (by omega), Int.toNat_natCast]
      refine Ev.pos (by omega) (Ev.pos (by omega) (Ev.pos (by omega) (Ev.pos rfl (Ev.pos (by omega) (Ev.bnd (a := baL (cbits (nextCode long code size) long)) ?_ (Ev.pos (by omega) ?_))))))
      · simp only [spec_l11Bits.f]
        exact Ev.eq hbits (ba_ext (by rw [ByteArray.data_append, Array.toList_append]; show _ ++ [] = _; rw [List.append_nil]))
      · simpa using h
    · obtain ⟨s', e, p1, p2, p3, p4, p5, p6, p7⟩ := ih (pre ++ [x]) code size outs c he' ho hc hs hsl hz hn (by omega)
      rw [hpl] at e
      have hpos : (0 : Int) ≤ 2 ^ s'.2.1.toNat := Int.le_of_lt (Int.pow_pos (by decide))
      refine ⟨s', by rw [cin, cstep, if_neg g, Option.bind_some]; exact e, p1, p2, p3, p4, p5, ?_, fun r hr => ?_⟩
      · rw [show c + (x :: post).length = (c + post.length) + 1 by simp only [List.length_cons]; omega, Int.natCast_add, Int.natCast_one, Int.add_mul, Int.one_mul]
        omega
      · have h := p7 r hr
        rw [hpl, List.append_assoc, List.singleton_append] at h
        refine Ev.succ ?_
        simp only [spec_l11Codes.l1, List.length_append, List.length_cons]
        rw [rd_mid, w64 (x := (pre.length : Int) + 1) (by omega) (by omega)]
        exact Ev.pos (by omega) (Ev.pos (by omega) (Ev.pos (by omega) (Ev.neg g (by simpa using h))))
theorem codes_out (x0 : List Int) (hx : x0.length ≤ 12) (f : Nat) : ∀ (long : Nat) (code size : Int) (outs : List ByteArray) (c : Nat), long + f = 13 → 1 ≤ long → outs.length = x0.length → 0 ≤ code → 0 ≤ size → size ≤ long → (size = 0 → code = 0) → nx code size ≤ (c : Int) * 2 ^ size.toNat → c + f * 12 ≤ 144 →
    ∃ fin : Int × Int × List ByteArray, cout x0 f long (code, size, outs) = some fin ∧ fin.2.2.length = x0.length ∧ Ev (fun k => spec_l11Codes.l0 k x0 outs (nx code size) size (long : Int)) fin.2.2 := by
  induction f with
  | zero =>
    intro long code size outs c hf h1 ho hc hs hsl hz hn hcc
    refine ⟨(code, size, outs), rfl, ho, Ev.succ ?_⟩
    simp only [spec_l11Codes.l0]
    exact Ev.neg (by omega) (Ev.ret _)
  | succ f ih =>
    intro long code size outs c hf h1 ho hc hs hsl hz hn hcc
    obtain ⟨s', e, p1, p2, p3, p4, p5, p6, p7⟩ := codes_in x0 hx long h1 (by omega) x0 [] code size outs c rfl ho hc hs hsl hz hn (by omega)
    obtain ⟨sc, ss, so⟩ := s'
    simp only at p1 p2 p3 p4 p5 p6 p7
    obtain ⟨fin, e2, q1, q2⟩ := ih (long + 1) sc ss so (c + x0.length) (by omega) (by omega) p1 p2 p3 (by omega) p5 p6 (by omega)
    rw [Int.natCast_add, Int.natCast_one] at e2 q2
    refine ⟨fin, by rw [cout]; rw [List.length_nil] at e; rw [e, Option.bind_some]; exact e2, q1, Ev.succ ?_⟩
    have h := p7 _ q2
    simp only [spec_l11Codes.l0]
    exact Ev.pos (by omega) (by simpa using h)
theorem codes_ev (l : List Int) (h : l.length ≤ 12) : ∃ fin : Int × Int × List ByteArray, cout l 12 1 (0, 0, List.replicate l.length ⟨#[]⟩) = some fin ∧ impl_codes.f l = some fin.2.2 ∧ fin.2.2.length = l.length ∧ Ev (fun k => spec_l11Codes.f k l) fin.2.2 := by
  obtain ⟨fin, e, hl, hs⟩ := codes_out l h 12 1 0 0 (List.replicate l.length (⟨#[]⟩ : ByteArray)) 0 rfl (by omega) (by simp) (by omega) (by omega) (by omega) (fun _ => rfl) (by simp [nx]) (by omega)
  refine ⟨fin, e, ?_, hl, ?_⟩
  · unfold impl_codes.f
    rw [if_pos (by omega)]
    have e' : cout l 12 1 (0, 0, List.replicate l.length ⟨#[]⟩) = some fin := e
    rw [e', Option.map_some]
  · simp only [spec_l11Codes.f]
    refine Ev.pos (by omega) (Ev.pos (by omega) ?_)
    rw [Int.toNat_natCast]
    exact hs

/-- Where the loops over the codes stand, by the codes' sizes. -/
def okAt (x0 : List Int) (long : Int) (i : Nat) (outs : List ByteArray) : Prop := outs.length = x0.length ∧ ∀ j, j < x0.length → (outs.getD j ByteArray.empty).size = if 1 ≤ x0.getD j 0 ∧ (x0.getD j 0 < long ∨ (x0.getD j 0 = long ∧ j < i)) then (x0.getD j 0).toNat else 0
theorem getD_set (outs : List ByteArray) (i j : Nat) (v : ByteArray) (h : i < outs.length) : (outs.set i v).getD j ByteArray.empty = if j = i then v else outs.getD j ByteArray.empty := by
  rw [List.getD_eq_getElem?_getD, List.getD_eq_getElem?_getD]
  by_cases g : j = i
  · subst g
    rw [if_pos rfl, List.getElem?_set_self h]; rfl
  · rw [if_neg g, List.getElem?_set_ne (fun h => g h.symm)]
theorem cput_ok (x0 : List Int) (long : Int) (i : Nat) (outs : List ByteArray) (hi : i < x0.length) (hx : x0.getD i 0 = long) (h1 : 1 ≤ long) (h : okAt x0 long i outs) (code size : Int) (s' : Int × Int × List ByteArray) (e : cput long i code size outs = some s') : okAt x0 long (i + 1) s'.2.2 := by
  unfold cput at e
  split at e
  · obtain rfl := Option.some.inj e
    refine ⟨by simp only [List.length_set]; exact h.1, fun j hj => ?_⟩
    simp only
    rw [getD_set _ _ _ _ (by rw [h.1]; exact hi)]
    by_cases g : j = i
    · subst g
      rw [if_pos rfl, hx, if_pos ⟨h1, .inr ⟨rfl, by omega⟩⟩]
      rw [show (⟨(cbits code long.toNat).toArray⟩ : ByteArray) = baL (cbits code long.toNat) from rfl, baL_size, cbits_length]
    · rw [if_neg g, h.2 j hj]
      have c : (1 ≤ x0.getD j 0 ∧ (x0.getD j 0 < long ∨ (x0.getD j 0 = long ∧ j < i))) ↔ (1 ≤ x0.getD j 0 ∧ (x0.getD j 0 < long ∨ (x0.getD j 0 = long ∧ j < i + 1))) := by omega
      simp only [c]
  · cases e
theorem cin_ok (x0 : List Int) (long : Int) (h1 : 1 ≤ long) (post : List Int) : ∀ (pre : List Int) (s s' : Int × Int × List ByteArray), pre ++ post = x0 → okAt x0 long pre.length s.2.2 → cin long post pre.length s = some s' → okAt x0 long x0.length s'.2.2 := by
  induction post with
  | nil =>
    intro pre s s' he h e
    simp only [cin, Option.some.injEq] at e
    subst e
    rw [List.append_nil] at he
    rw [← he] at h ⊢
    exact h
  | cons x post ih =>
    intro pre s s' he h e
    have hlt : pre.length < x0.length := by rw [← he]; simp
    have hx : x0.getD pre.length 0 = x := by rw [← he]; simp
    rw [cin] at e
    obtain ⟨s2, e1, e2⟩ := Option.bind_eq_some_iff.1 e
    have hl : (pre ++ [x]).length = pre.length + 1 := by simp
    rw [← hl] at e2
    refine ih (pre ++ [x]) s2 s' (by rw [← he]; simp) ?_ e2
    rw [hl]
    unfold cstep at e1
    split at e1
    · rename_i g
      have hx2 := hx.trans g
      split at e1
      · exact cput_ok x0 long pre.length s.2.2 hlt hx2 h1 h _ _ s2 e1
      · exact cput_ok x0 long pre.length s.2.2 hlt hx2 h1 h _ _ s2 e1
    · rename_i g
      obtain rfl := Option.some.inj e1
      refine ⟨h.1, fun j hj => ?_⟩
      rw [h.2 j hj]
      have c : (1 ≤ x0.getD j 0 ∧ (x0.getD j 0 < long ∨ (x0.getD j 0 = long ∧ j < pre.length))) ↔ (1 ≤ x0.getD j 0 ∧ (x0.getD j 0 < long ∨ (x0.getD j 0 = long ∧ j < pre.length + 1))) := by
        by_cases gj : j = pre.length
        · subst gj; rw [hx]; omega
        · omega
      simp only [c]
theorem cout_ok (x0 : List Int) (f : Nat) : ∀ (long : Int) (s s' : Int × Int × List ByteArray), 1 ≤ long → okAt x0 long 0 s.2.2 → cout x0 f long s = some s' → okAt x0 (long + f) 0 s'.2.2 := by
  induction f with
  | zero =>
    intro long s s' h1 h e
    simp only [cout, Option.some.injEq] at e
    subst e
    simpa using h
  | succ f ih =>
    intro long s s' h1 h e
    rw [cout] at e
    obtain ⟨s2, e1, e2⟩ := Option.bind_eq_some_iff.1 e
    have h2 := cin_ok x0 long h1 x0 [] s s2 rfl h e1
    have h3 := ih (long + 1) s2 s' (by omega) ⟨h2.1, fun j hj => by
      rw [h2.2 j hj]
      have c : (1 ≤ x0.getD j 0 ∧ (x0.getD j 0 < long ∨ (x0.getD j 0 = long ∧ j < x0.length))) ↔ (1 ≤ x0.getD j 0 ∧ (x0.getD j 0 < long + 1 ∨ (x0.getD j 0 = long + 1 ∧ j < 0))) := by omega
      simp only [c]⟩ e2
    rw [show long + ((f + 1 : Nat) : Int) = long + 1 + f by omega]
    exact h3
theorem codes_sizes (l : List Int) (h : inAll 0 12 l = true) (fin : Int × Int × List ByteArray) (e : cout l 12 1 (0, 0, List.replicate l.length ⟨#[]⟩) = some fin) (j : Nat) (hj : j < l.length) : (((fin.2.2.getD j ByteArray.empty).size : Nat) : Int) = l.getD j 0 := by
  have h0 : okAt l 1 0 (List.replicate l.length (⟨#[]⟩ : ByteArray)) := by
    refine ⟨by simp, fun j hj => ?_⟩
    rw [if_neg (by omega), List.getD_eq_getElem?_getD, List.getElem?_replicate, if_pos hj]; rfl
  have h2 := (cout_ok l 12 1 _ fin (by omega) h0 e).2 j hj
  have hm := inAll_mem h (l.getD j 0) (by rw [List.getD_eq_getElem?_getD, List.getElem?_eq_getElem hj]; exact List.getElem_mem hj)
  rw [h2]
  by_cases g : 1 ≤ l.getD j 0
  · rw [if_pos ⟨g, by left; omega⟩]; omega
  · rw [if_neg (fun h => g h.1)]; omega
theorem ne_nil (t : ByteArray) : t.toList = ([] : List UInt8) ↔ t.size = 0 := by
  rw [ByteArray.toList_eq, show t.size = t.data.size from rfl, ← Array.length_toList]
  exact ⟨fun h => by rw [h]; rfl, fun h => List.eq_nil_of_length_eq_zero h⟩
def enc (l : List Int) (ws : List ByteArray) : List Int → ByteArray → ByteArray × Bool
  | [], acc => (acc, true)
  | k :: t, acc => if (0 ≤ k ∧ k < (l.length : Int)) ∧ l.getD k.toNat 0 ≠ 0 then enc l ws t (acc ++ ws.getD k.toNat ByteArray.empty) else ((⟨#[]⟩ : ByteArray), false)
theorem spec_enc (l : List Int) (ws : List ByteArray) (hl : l.length ≤ 12) (hw : ws.length = l.length) (hs : ∀ j, j < l.length → (((ws.getD j ByteArray.empty).size : Nat) : Int) = l.getD j 0) (hm : inAll 0 12 l = true) (post : List Int) : ∀ (pre : List Int) (acc : ByteArray), (pre ++ post).length ≤ 1000 → acc.size + 12 * post.length ≤ 20000 →
    Ev (fun k => spec_l11Encode.l0 k l ws acc (pre ++ post) ((pre ++ post).length : Int) (pre.length : Int)) (enc l ws post acc) := by
  induction post with
  | nil =>
    intro pre acc h1 h2
    refine Ev.succ ?_
    simp only [spec_l11Encode.l0]
    exact Ev.neg (by simp) (Ev.ret _)
  | cons x post ih =>
    intro pre acc h1 h2
    have h1' := h1
    simp only [List.length_append, List.length_cons] at h1 h2
    refine Ev.succ ?_
    simp only [spec_l11Encode.l0, enc, List.length_append, List.length_cons]
    rw [rd_mid, w64 (x := (pre.length : Int) + 1) (by omega) (by omega), w64 (x := (l.length : Int) - 1) (by omega) (by omega)]
    refine Ev.pos (by omega) (Ev.pos (by omega) (Ev.pos (by omega) (Ev.bnd1 (spec_in_eq _ _ _) ?_)))
    by_cases g : 0 ≤ x ∧ x < (l.length : Int)
    · obtain ⟨j, rfl⟩ : ∃ j : Nat, x = j := ⟨x.toNat, by omega⟩
      have hj : j < l.length := by omega
      have hsj := hs j hj
      have hmj := inAll_mem hm (l.getD j 0) (by rw [List.getD_eq_getElem?_getD, List.getElem?_eq_getElem hj]; exact List.getElem_mem hj)
      rw [Int.toNat_natCast, show rd l (j : Int) = l.getD j 0 from rfl, show rdOf ByteArray.empty ws (j : Int) = ws.getD j ByteArray.empty from rfl]
      refine Ev.pos (decide_eq_true (by omega)) (Ev.pos (by omega) (Ev.pos (by omega) ?_))
      by_cases g2 : l.getD j 0 = 0
      · rw [if_neg (fun h => h.2 g2)]
        exact Ev.pos g2 (Ev.ret _)
      · rw [if_pos ⟨g, g2⟩]
        have h := ih (pre ++ [(j : Int)]) (acc ++ ws.getD j ByteArray.empty) (by simpa using h1') (by rw [ByteArray.size_append]; omega)
        exact Ev.neg g2 (Ev.pos (by omega) (Ev.pos (by omega) (by simpa using h)))
    · rw [if_neg (fun h => g h.1)]
      exact Ev.neg (by rw [decide_eq_false (by omega)]; simp) (Ev.ret _)
theorem impl_enc (l : List Int) (ws : List ByteArray) (hl : l.length ≤ 12) (hw : ws.length = l.length) (hs : ∀ j, j < l.length → (((ws.getD j ByteArray.empty).size : Nat) : Int) = l.getD j 0) (hm : inAll 0 12 l = true) (post : List Int) : ∀ (pre : List Int) (acc : ByteArray), (pre ++ post).length ≤ 1000 → acc.size + 12 * post.length ≤ 20000 →
    Ev (fun k => impl_EncodeBy.l0 k ws acc (pre ++ post) ((pre ++ post).length : Int) (pre.length : Int)) (enc l ws post acc) := by
  induction post with
  | nil =>
    intro pre acc h1 h2
    refine Ev.succ ?_
    simp only [impl_EncodeBy.l0]
    exact Ev.neg (by simp) (Ev.ret _)
  | cons x post ih =>
    intro pre acc h1 h2
    have h1' := h1
    simp only [List.length_append, List.length_cons] at h1 h2
    refine Ev.succ ?_
    simp only [impl_EncodeBy.l0, enc, List.length_append, List.length_cons]
    rw [rd_mid, w64 (x := (pre.length : Int) + 1) (by omega) (by omega)]
    refine Ev.pos (by omega) (Ev.pos (by omega) (Ev.pos (by omega) ?_))
    by_cases g1 : x < 0
    · rw [if_neg (fun h => by have := h.1.1; omega)]
      exact Ev.pos g1 (Ev.ret _)
    · refine Ev.neg g1 ?_
      by_cases g3 : x ≥ (ws.length : Int)
      · rw [if_neg (fun h => by have := h.1.2; omega)]
        exact Ev.pos g3 (Ev.ret _)
      · obtain ⟨j, rfl⟩ : ∃ j : Nat, x = j := ⟨x.toNat, by omega⟩
        have hj : j < l.length := by omega
        have hsj := hs j hj
        have hmj := inAll_mem hm (l.getD j 0) (by rw [List.getD_eq_getElem?_getD, List.getElem?_eq_getElem hj]; exact List.getElem_mem hj)
        rw [Int.toNat_natCast, show rdOf ByteArray.empty ws (j : Int) = ws.getD j ByteArray.empty from rfl]
        refine Ev.neg g3 (Ev.pos (by omega) (Ev.pos (by omega) ?_))
        by_cases g2 : l.getD j 0 = 0
        · rw [if_neg (fun h => h.2 g2)]
          exact Ev.pos ((ne_nil _).2 (by omega)) (Ev.ret _)
        · rw [if_pos ⟨⟨by omega, by omega⟩, g2⟩]
          have h := ih (pre ++ [(j : Int)]) (acc ++ ws.getD j ByteArray.empty) (by simpa using h1') (by rw [ByteArray.size_append]; omega)
          exact Ev.neg (fun h => g2 (by have := (ne_nil _).1 h; omega)) (Ev.pos (by omega) (by simpa using h))
theorem encode_ex (l m : List Int) (hl : l.length ≤ 1048576) (hm : m.length ≤ 1048576) : ∃ r : ByteArray × Bool, Ev (fun k => spec_EncodeBy.f k l m) r ∧ Ev (fun k => impl_EncodeBy.f k l m) r := by
  have no : Ev (fun k => impl_EncodeBy.j0 k l m true) ((⟨#[]⟩ : ByteArray), false) := by
    refine Ev.succ ?_
    simp only [impl_EncodeBy.j0]
    exact Ev.pos (by trivial) (Ev.ret _)
  by_cases g : goodLengths l = true
  · have hw : within 12 l = true := by unfold goodLengths at g; rw [Bool.and_eq_true] at g; exact g.1
    have h12 := within_facts hw
    obtain ⟨fin, e, hi, hlen, hs⟩ := codes_ev l h12.1
    have hsz := codes_sizes l h12.2 fin e
    by_cases g2 : (m.length : Int) > 200
    · refine ⟨((⟨#[]⟩ : ByteArray), false), ?_, ?_⟩
      · simp only [spec_EncodeBy.f]
        exact Ev.bnd (spec_GoodLengths_ev l (by omega)) (Ev.pos g (Ev.pos g2 (Ev.ret _)))
      · simp only [impl_EncodeBy.f]
        refine Ev.bnd (impl_GoodLengths_ev l) (Ev.pos g ?_)
        rw [decide_eq_true g2]
        exact no
    · refine ⟨enc l fin.2.2 m (⟨#[]⟩ : ByteArray), ?_, ?_⟩
      · simp only [spec_EncodeBy.f, spec_l11Encode.f]
        have h := spec_enc l fin.2.2 h12.1 hlen hsz h12.2 m [] (⟨#[]⟩ : ByteArray) (by simp only [List.nil_append]; omega) (by show 0 + 12 * m.length ≤ 20000; omega)
        exact Ev.bnd (spec_GoodLengths_ev l (by omega)) (Ev.pos g (Ev.neg g2 (Ev.bnd (a := enc l fin.2.2 m (⟨#[]⟩ : ByteArray)) (Ev.bnd hs (by simpa using h)) (Ev.ret _))))
      · simp only [impl_EncodeBy.f]
        refine Ev.bnd (impl_GoodLengths_ev l) (Ev.pos g ?_)
        rw [decide_eq_false g2]
        have h := impl_enc l fin.2.2 h12.1 hlen hsz h12.2 m [] (⟨#[]⟩ : ByteArray) (by simp only [List.nil_append]; omega) (by show 0 + 12 * m.length ≤ 20000; omega)
        refine Ev.succ ?_
        simp only [impl_EncodeBy.j0]
        exact Ev.neg (by simp) (Ev.bnd1 hi (by simpa using h))
  · refine ⟨((⟨#[]⟩ : ByteArray), false), ?_, ?_⟩
    · simp only [spec_EncodeBy.f]
      exact Ev.bnd (spec_GoodLengths_ev l (by omega)) (Ev.neg g (Ev.ret _))
    · simp only [impl_EncodeBy.f]
      exact Ev.bnd (impl_GoodLengths_ev l) (Ev.neg g no)

theorem FnExactEncodeBy : laws_FnExactEncodeBy.Pure := by
  intro l m _ hl _ _ hm _
  refine Ev.all ?_
  simp only [laws_FnExactEncodeBy.f]
  by_cases g : (l.length : Int) > 1048576
  · exact Ev.pos g (Ev.ret _)
  · refine Ev.neg g ?_
    by_cases g2 : (m.length : Int) > 1048576
    · exact Ev.pos g2 (Ev.ret _)
    · refine Ev.neg g2 ?_
      obtain ⟨r, hs, hi⟩ := encode_ex l m (by omega) (by omega)
      have t1 := toIntS l hl
      have t2 := toIntS m hm
      refine Ev.bnd t1 (Ev.bnd t2 (Ev.bnd hs (Ev.bnd t1 (Ev.bnd t2 (Ev.bnd hi (Ev.pos rfl (Ev.succ ?_)))))))
      simp only [laws_FnExactEncodeBy.j0]
      exact Ev.neg (by simp) (Ev.bnd t1 (Ev.bnd (eqIntS_self l (by omega)) (Ev.pos rfl (Ev.bnd t2 (Ev.bnd (eqIntS_self m (by omega)) (Ev.pos rfl (Ev.ret _)))))))

end Go.Proofs.Ytddcceoneabaaaa.Pure
