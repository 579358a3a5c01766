/- The program's DecodeBy returns what the reference's returns, for all arguments.
Conditions: what the row itself says (two tables of unicode/utf8 start as the program's text lays them; the card ties them). -/
import Derived.Test.YtcggidlledjgkaaDoorQFnExactDecodeByx5
namespace Go.Proofs.YtcggidlledjgkaaDoor.Pure
open Go.RowKit Go.Proofs.YtcggidlledjgkaaDoor.QFnExactDecodeBy Go.Proofs.YtcggidlledjgkaaDoorW.PrintWords Go.Proofs.YtcggidlledjgkaaDoorW.PrintLast Go.Proofs.YtcggidlledjgkaaDoorW.PrintMore
set_option linter.unusedVariables false
set_option linter.unusedSimpArgs false

theorem w64 {x : Int} (h0 : -9223372036854775808 ≤ x) (h1 : x ≤ 9223372036854775807) : wrap64 x = x := by
  unfold wrap64; omega
theorem wf64 {a : Int} (h : (Lit.int .i64 a).wf = true) : -9223372036854775808 ≤ a ∧ a ≤ 9223372036854775807 := by
  simp only [Lit.wf, IntKind.min, IntKind.max, IntKind.signed, IntKind.bits, Bool.and_eq_true, decide_eq_true_eq, if_true] at h
  omega

theorem Ev.succ {α : Type} {g : Nat → Option α} {r : α} (h : Ev (fun k => g (k + 1)) r) : Ev g r := Ev.step (fun _ => rfl) h
theorem Ev.pos {α : Type} {c : Prop} [Decidable c] {a b : Nat → Option α} {r : α} (h : c) (e : Ev (fun k => a k) r) : Ev (fun k => if c then a k else b k) r := Ev.congr (fun _ => if_pos h) e
theorem Ev.neg {α : Type} {c : Prop} [Decidable c] {a b : Nat → Option α} {r : α} (h : ¬ c) (e : Ev (fun k => b k) r) : Ev (fun k => if c then a k else b k) r := Ev.congr (fun _ => if_neg h) e
theorem Ev.bnd {α β : Type} {g : Nat → Option α} {f : Nat → α → Option β} {a : α} {r : β} (h : Ev (fun k => g k) a) (k : Ev (fun n => f n a) r) : Ev (fun n => (g n).bind (fun x => f n x)) r := Ev.bind h k
theorem Ev.bnd1 {α β : Type} {g : Option α} {f : Nat → α → Option β} {a : α} {r : β} (h : g = some a) (k : Ev (fun n => f n a) r) : Ev (fun n => g.bind (fun x => f n x)) r := by
  rw [h]; exact k
theorem Ev.ret {α : Type} (r : α) : Ev (fun _ => some r) r := Ev.now r
theorem Ev.eq {α : Type} {g : Nat → Option α} {r r' : α} (h : Ev g r) (e : r = r') : Ev g r' := e ▸ h
theorem Ev.all {α : Type} {g : Nat → Option α} {r : α} (h : Ev (fun k => g k) r) : ∃ k, g k = some r := h.rounds
theorem rd_mid (pre : List Int) (x : Int) (post : List Int) : rd (pre ++ x :: post) (pre.length : Int) = x := by
  unfold rd; simp
theorem rd_nat (xs : List Int) (i : Nat) (h : i < xs.length) : rd xs (i : Int) = xs[i] := by
  unfold rd; simp [List.getD_eq_getElem?_getD, List.getElem?_eq_getElem h]

theorem toIntS_l0 (post : List Int) : ∀ (pre rest : List Int), rest.length = post.length → (pre ++ post).length ≤ 140737488351232 → Ev (fun k => laws_toIntS.l0 k (pre ++ post) (pre ++ rest) (pre.length : Int)) (pre ++ post) := by
  induction post with
  | nil =>
    intro pre rest hr hl
    obtain rfl : rest = [] := List.eq_nil_of_length_eq_zero hr
    refine Ev.succ ?_
    simp only [laws_toIntS.l0]
    exact Ev.neg (by simp) (Ev.ret _)
  | cons x post ih =>
    intro pre rest hr hl
    obtain ⟨y, rest, rfl⟩ : ∃ y t, rest = y :: t := by cases rest with | nil => simp at hr | cons y t => exact ⟨y, t, rfl⟩
    have h := ih (pre ++ [x]) rest (by simpa using hr) (by simpa using hl)
    simp only [List.length_append, List.length_cons, List.length_nil] at hl hr h
    refine Ev.succ ?_
    simp only [laws_toIntS.l0, List.length_append, List.length_cons]
    refine Ev.pos (by omega) (Ev.pos (by omega) (Ev.pos (by omega) ?_))
    rw [rd_mid, w64 (by omega) (by omega)]
    have e : (pre ++ y :: rest).set ((pre.length : Int)).toNat x = pre ++ [x] ++ rest := by simp
    rw [e]
    simpa using h
theorem toIntS (l : List Int) (h : l.length * 8 ≤ 140737488351232) : Ev (fun k => laws_toIntS.f k l) l := by
  simp only [laws_toIntS.f]
  refine Ev.pos (by omega) (Ev.pos (by omega) ?_)
  have := toIntS_l0 l [] (List.replicate l.length 0) (by simp) (by simp; omega)
  simpa using this

theorem eqIntS_l0 (pa : List Int) : ∀ (pa' pb pb' : List Int), pa'.length = pb'.length → pa.length = pb.length → (pa' ++ pa).length ≤ 140737488351232 → Ev (fun k => laws_eqIntS.l0 k (pa' ++ pa) (pb' ++ pb) (pa'.length : Int)) (decide (pa = pb)) := by
  induction pa with
  | nil =>
    intro pa' pb pb' h1 h2 hl
    obtain rfl : pb = [] := List.eq_nil_of_length_eq_zero h2.symm
    refine Ev.succ ?_
    simp only [laws_eqIntS.l0]
    exact Ev.neg (by simp) (Ev.eq (Ev.ret _) (by simp))
  | cons x pa ih =>
    intro pa' pb pb' h1 h2 hl
    obtain ⟨y, pb, rfl⟩ : ∃ y t, pb = y :: t := by cases pb with | nil => simp at h2 | cons y t => exact ⟨y, t, rfl⟩
    have h := ih (pa' ++ [x]) pb (pb' ++ [y]) (by simpa using h1) (by simpa using h2) (by simpa using hl)
    simp only [List.length_append, List.length_cons, List.length_nil] at hl h2 h
    refine Ev.succ ?_
    simp only [laws_eqIntS.l0, List.length_append, List.length_cons]
    refine Ev.pos (by omega) (Ev.pos (by omega) (Ev.pos (by omega) ?_))
    rw [rd_mid, show (pa'.length : Int) = (pb'.length : Int) by omega, rd_mid]
    by_cases e : x = y
    · subst e
      refine Ev.pos rfl ?_
      rw [w64 (by omega) (by omega)]
      refine Ev.eq (Ev.congr (fun k => ?_) h) (by simp)
      simp [h1]
    · exact Ev.neg e (Ev.eq (Ev.ret _) (by simp [e]))
theorem eqIntS (a b : List Int) (h : a.length ≤ 140737488351232) : Ev (fun k => laws_eqIntS.f k a b) (decide (a = b)) := by
  simp only [laws_eqIntS.f]
  by_cases e : a.length = b.length
  · exact Ev.pos (by omega) (by simpa using eqIntS_l0 a [] b [] rfl e (by simpa using h))
  · exact Ev.neg (by omega) (Ev.eq (Ev.ret _) (by simp only [false_eq_decide_iff]; intro h; exact e (by rw [h])))
theorem eqIntS_self (a : List Int) (h : a.length ≤ 140737488351232) : Ev (fun k => laws_eqIntS.f k a a) true := Ev.eq (eqIntS a a h) (by simp)

theorem spec_in_eq (a lo hi : Int) : spec_l1In.f a lo hi = some (decide (lo ≤ a ∧ a ≤ hi)) := by
  unfold spec_l1In.f
  by_cases h1 : a ≥ lo
  · rw [if_pos h1]
    by_cases h2 : a ≤ hi
    · rw [decide_eq_true h2, decide_eq_true ⟨h1, h2⟩]
    · rw [decide_eq_false h2, decide_eq_false (fun h => h2 h.2)]
  · rw [if_neg h1, decide_eq_false (fun h => h1 h.1)]
def inAll (lo hi : Int) (l : List Int) : Bool := l.all fun x => decide (lo ≤ x ∧ x ≤ hi)
theorem spec_l1All_l0 (lo hi : Int) (post : List Int) : ∀ pre : List Int, (pre ++ post).length ≤ 140737488351232 → Ev (fun k => spec_l1All.l0 k lo hi (pre ++ post) ((pre ++ post).length : Int) (pre.length : Int)) (inAll lo hi post) := by
  induction post with
  | nil =>
    intro pre hl
    refine Ev.succ ?_
    simp only [spec_l1All.l0]
    exact Ev.neg (by simp) (Ev.ret _)
  | cons x post ih =>
    intro pre hl
    have h := ih (pre ++ [x]) (by simpa using hl)
    simp only [List.length_append, List.length_cons] at hl
    refine Ev.succ ?_
    simp only [spec_l1All.l0]
    refine Ev.pos (by simp only [List.length_append, List.length_cons]; omega) (Ev.pos (by omega) (Ev.pos (by simp only [List.length_append, List.length_cons]; omega) ?_))
    rw [rd_mid]
    refine Ev.bnd1 (spec_in_eq _ _ _) ?_
    by_cases hx : lo ≤ x ∧ x ≤ hi
    · rw [decide_eq_true hx]
      refine Ev.pos rfl ?_
      rw [w64 (by omega) (by omega)]
      refine Ev.eq (by simpa using h) ?_
      simp [inAll, hx]
    · rw [decide_eq_false hx]
      exact Ev.neg (by simp) (Ev.eq (Ev.ret _) (by simp only [inAll, List.all_cons, decide_eq_false hx, Bool.false_and]))
theorem spec_l1All_ev (lo hi : Int) (l : List Int) (hl : l.length ≤ 140737488351232) : Ev (fun k => spec_l1All.f k l lo hi) (inAll lo hi l) := by
  simp only [spec_l1All.f]
  simpa using spec_l1All_l0 lo hi l [] (by simpa using hl)
theorem inAll_mem {lo hi : Int} {l : List Int} (h : inAll lo hi l = true) : ∀ x ∈ l, lo ≤ x ∧ x ≤ hi := by
  intro x hx
  unfold inAll at h
  simpa using List.all_eq_true.1 h x hx

theorem anyO_not {α : Type} (f : α → Option Bool) (p : α → Bool) (l : List α) (h : ∀ x ∈ l, f x = some (!p x)) : anyO f l = some (!l.all p) := by
  induction l with
  | nil => rfl
  | cons x t ih =>
    simp only [anyO]
    rw [h x (by simp), Option.bind_some]
    cases hp : p x with
    | true => simp [hp, ih (fun y hy => h y (by simp [hy]))]
    | false => simp [hp]

def within (m : Int) (l : List Int) : Bool := decide (l.length ≤ 12) && inAll 0 m l
theorem impl_aw1 (a m : Int) : impl_areWithin_1.f a m = some (!decide (0 ≤ a ∧ a ≤ m)) := by
  unfold impl_areWithin_1.f
  by_cases h : a < 0
  · rw [if_pos h, decide_eq_false (fun h2 => absurd h2.1 (by omega))]; rfl
  · rw [if_neg h]
    by_cases h2 : a > m
    · rw [decide_eq_true h2, decide_eq_false (fun h3 => absurd h3.2 (by omega))]; rfl
    · rw [decide_eq_false h2, decide_eq_true ⟨by omega, by omega⟩]; rfl
theorem impl_areWithin_eq (l : List Int) (m : Int) : impl_areWithin.f l m = some (within m l) := by
  unfold impl_areWithin.f within
  by_cases h : l.length ≤ 12
  · rw [if_pos (by omega), decide_eq_true h]
    unfold impl_areWithin_1_any.f
    rw [anyO_not _ (fun x => decide (0 ≤ x ∧ x ≤ m)) l (fun x _ => impl_aw1 x m)]
    simp [inAll]
  · rw [if_neg (by omega), decide_eq_false h]; rfl

theorem shr_4096 (n : Int) : 0 ≤ shr .i64 4096 n ∧ shr .i64 4096 n ≤ 4096 := by
  unfold shr
  have h : (0 : Int) ≤ 2 ^ min n.toNat (IntKind.bits .i64) := Int.pow_nonneg (by omega)
  exact ⟨Int.ediv_nonneg (by omega) h, Int.ediv_le_self _ (by omega)⟩
theorem u64_id {n : Int} (h0 : 0 ≤ n) (h1 : n ≤ 9223372036854775807) : IntKind.u64.wrap n = n := by
  simp [IntKind.wrap, IntKind.bits, IntKind.signed]; omega
/-- The sum of 4096 / 2^n over the lengths that are not 0, behind a sum. -/
def kr : Int → List Int → Int
  | s, [] => s
  | s, n :: t => kr (if n > 0 then s + shr .i64 4096 n else s) t
theorem spec_kraft_l0 (post : List Int) : ∀ (pre : List Int) (s : Int), 0 ≤ s → s + post.length * 4096 ≤ 1000000000000 → inAll 0 12 post = true → (pre ++ post).length ≤ 140737488351232 → Ev (fun k => spec_l11Kraft.l0 k s (pre ++ post) ((pre ++ post).length : Int) (pre.length : Int)) (kr s post) := by
  induction post with
  | nil =>
    intro pre s h0 h1 hp hl
    refine Ev.succ ?_
    simp only [spec_l11Kraft.l0]
    exact Ev.neg (by simp) (Ev.ret _)
  | cons n post ih =>
    intro pre s h0 h1 hp hl
    have hn := inAll_mem hp n (by simp)
    have hp' : inAll 0 12 post = true := by simp only [inAll, List.all_cons, Bool.and_eq_true] at hp; exact hp.2
    have hl' : (pre ++ [n] ++ post).length ≤ 140737488351232 := by simpa using hl
    simp only [List.length_append, List.length_cons] at hl h1
    have hs := shr_4096 n
    refine Ev.succ ?_
    simp only [spec_l11Kraft.l0]
    refine Ev.pos (by simp only [List.length_append, List.length_cons]; omega) (Ev.pos (by omega) (Ev.pos (by simp only [List.length_append, List.length_cons]; omega) ?_))
    rw [w64 (x := (pre.length : Int) + 1) (by omega) (by omega)]
    by_cases g : n > 0
    · refine Ev.pos (by rw [rd_mid]; exact g) ?_
      rw [rd_mid, u64_id (by omega) (by omega)]
      refine Ev.pos (by omega) ?_
      rw [w64 (x := s + shr .i64 4096 n) (by omega) (by omega)]
      have h := ih (pre ++ [n]) (s + shr .i64 4096 n) (by omega) (by omega) hp' hl'
      simp only [kr, if_pos g]
      simpa using h
    · refine Ev.neg (by rw [rd_mid]; exact g) ?_
      have h := ih (pre ++ [n]) s (by omega) (by omega) hp' hl'
      simp only [kr, if_neg g]
      simpa using h
theorem within_facts {m : Int} {l : List Int} (h : within m l = true) : l.length ≤ 12 ∧ inAll 0 m l = true := by
  simpa [within] using h
theorem spec_kraft (l : List Int) (h : within 12 l = true) : Ev (fun k => spec_l11Kraft.f k l) (kr 0 l) := by
  obtain ⟨h1, h2⟩ := within_facts h
  simp only [spec_l11Kraft.f]
  simpa using spec_kraft_l0 l [] 0 (by omega) (by omega) h2 (by simp; omega)
theorem spec_lengths (l : List Int) (hl : l.length ≤ 140737488351232) : Ev (fun k => spec_l11Lengths.f k l) (within 12 l) := by
  simp only [spec_l11Lengths.f]
  by_cases h : l.length ≤ 12
  · exact Ev.pos (by omega) (Ev.bnd (spec_l1All_ev 0 12 l hl) (Ev.eq (Ev.ret _) (by simp [within, h])))
  · exact Ev.neg (by omega) (Ev.eq (Ev.ret _) (by simp [within, h]))

theorem impl_kraft_l0 (post : List Int) : ∀ (pre : List Int) (s : Int), 0 ≤ s → s + post.length * 4096 ≤ 1000000000000 → inAll 0 12 post = true → (pre ++ post).length ≤ 140737488351232 → Ev (fun k => impl_KraftOf.l0 k s (pre ++ post) ((pre ++ post).length : Int) (pre.length : Int)) (kr s post, true) := by
  induction post with
  | nil =>
    intro pre s h0 h1 hp hl
    refine Ev.succ ?_
    simp only [impl_KraftOf.l0]
    exact Ev.neg (by simp) (Ev.ret _)
  | cons n post ih =>
    intro pre s h0 h1 hp hl
    have hn := inAll_mem hp n (by simp)
    have hp' : inAll 0 12 post = true := by simp only [inAll, List.all_cons, Bool.and_eq_true] at hp; exact hp.2
    have hl' : (pre ++ [n] ++ post).length ≤ 140737488351232 := by simpa using hl
    simp only [List.length_append, List.length_cons] at hl h1
    have hs := shr_4096 n
    refine Ev.succ ?_
    simp only [impl_KraftOf.l0]
    refine Ev.pos (by simp only [List.length_append, List.length_cons]; omega) (Ev.pos (by omega) (Ev.pos (by simp only [List.length_append, List.length_cons]; omega) ?_))
    rw [w64 (x := (pre.length : Int) + 1) (by omega) (by omega)]
    by_cases g : n > 0
    · refine Ev.pos (by rw [rd_mid]; exact g) ?_
      rw [rd_mid]
      refine Ev.pos (by omega) ?_
      rw [w64 (x := s + shr .i64 4096 n) (by omega) (by omega)]
      have h := ih (pre ++ [n]) (s + shr .i64 4096 n) (by omega) (by omega) hp' hl'
      simp only [kr, if_pos g]
      simpa using h
    · refine Ev.neg (by rw [rd_mid]; exact g) ?_
      have h := ih (pre ++ [n]) s (by omega) (by omega) hp' hl'
      simp only [kr, if_neg g]
      simpa using h
def kraftOf (l : List Int) : Int × Bool := if within 12 l = true then (kr 0 l, true) else (0, false)
theorem impl_KraftOf_ev (l : List Int) : Ev (fun k => impl_KraftOf.f k l) (kraftOf l) := by
  simp only [impl_KraftOf.f, impl_areWithin_eq, Option.bind_some, kraftOf]
  by_cases h : within 12 l = true
  · rw [if_pos h]
    obtain ⟨h1, h2⟩ := within_facts h
    exact Ev.pos h (by simpa using impl_kraft_l0 l [] 0 (by omega) (by omega) h2 (by simp; omega))
  · rw [if_neg h]
    exact Ev.neg h (Ev.ret _)

def goodLengths (l : List Int) : Bool := within 12 l && decide (kr 0 l ≤ 4096)
theorem spec_GoodLengths_ev (l : List Int) (hl : l.length ≤ 140737488351232) : Ev (fun k => spec_GoodLengths.f k l) (goodLengths l) := by
  simp only [spec_GoodLengths.f, goodLengths]
  refine Ev.bnd (spec_lengths l hl) ?_
  by_cases h : within 12 l = true
  · exact Ev.pos h (Ev.bnd (spec_kraft l h) (Ev.eq (Ev.ret _) (by rw [h]; rfl)))
  · exact Ev.neg h (Ev.eq (Ev.ret _) (by simp [h]))
theorem impl_GoodLengths_ev (l : List Int) : Ev (fun k => impl_GoodLengths.f k l) (goodLengths l) := by
  simp only [impl_GoodLengths.f, goodLengths]
  refine Ev.bnd (impl_KraftOf_ev l) ?_
  unfold kraftOf
  by_cases h : within 12 l = true
  · rw [if_pos h]
    exact Ev.pos rfl (Ev.eq (Ev.ret _) (by rw [h]; rfl))
  · rw [if_neg h]
    exact Ev.neg (by simp) (Ev.eq (Ev.ret _) (by simp [h]))

theorem toList_iff (a b : ByteArray) : a.toList = b.toList ↔ a = b := by
  rw [ByteArray.toList_eq, ByteArray.toList_eq]
  exact ⟨fun h => ByteArray.ext (Array.toList_inj.1 h), fun h => by rw [h]⟩

/-! Codes. -/
def baL (l : List UInt8) : ByteArray := ⟨l.toArray⟩
theorem baL_data (l : List UInt8) : (baL l).data.toList = l := rfl
theorem baL_size (l : List UInt8) : (baL l).size = l.length := by
  rw [show (baL l).size = (baL l).data.size from rfl, ← Array.length_toList, baL_data]
theorem ba_ext {a b : ByteArray} (h : a.data.toList = b.data.toList) : a = b := ByteArray.ext (Array.toList_inj.1 h)
theorem cbyte_half (n m : Nat) : cbyte (n : Int) (m + 1) = cbyte ((n / 2 : Nat) : Int) m := by
  unfold cbyte
  rw [Int.toNat_natCast, Int.toNat_natCast, Nat.div_div_eq_div_mul, Nat.pow_succ, Nat.mul_comm]
theorem cbits_half (n m : Nat) : cbits (n : Int) (m + 1) = cbits ((n / 2 : Nat) : Int) m ++ [cbyte (n : Int) 0] := by
  induction m with
  | zero => rfl
  | succ m ih => rw [cbits, ih, cbyte_half, cbits]; rfl
theorem low_bit (n : Nat) : (strOfNums [(wrap64 (48 + (Int.tmod (n : Int) 2))) % 256]).data.toList = [cbyte (n : Int) 0] := by
  rw [show Int.tmod (n : Int) 2 = ((n % 2 : Nat) : Int) from rfl, w64 (by omega) (by omega), strOfNums_data]
  unfold cbyte
  rw [Int.toNat_natCast, Nat.pow_zero, Nat.div_one, List.map_cons, List.map_nil]
  have h : n % 2 < 2 := Nat.mod_lt _ (by omega)
  generalize n % 2 = y at h ⊢
  congr 2
  omega
theorem spec_bits (m : Nat) : ∀ (n : Nat) (acc : ByteArray), n ≤ 1000000 → acc.size + m ≤ 1000 → Ev (fun k => spec_l11Bits.l0 k (n : Int) (m : Int) acc) (baL (cbits (n : Int) m) ++ acc) := by
  induction m with
  | zero =>
    intro n acc hn ha
    refine Ev.succ ?_
    simp only [spec_l11Bits.l0]
    refine Ev.neg (by omega) (Ev.eq (Ev.ret _) (ba_ext ?_))
    rw [ByteArray.data_append, Array.toList_append, baL_data]; rfl
  | succ m ih =>
    intro n acc hn ha
    have h := ih (n / 2) (strOfNums [(wrap64 (48 + (Int.tmod (n : Int) 2))) % 256] ++ acc) (by omega) (by rw [ByteArray.size_append, strOfNums_size, List.length_cons, List.length_nil]; omega)
    refine Ev.succ ?_
    simp only [spec_l11Bits.l0]
    rw [show Int.tdiv (n : Int) 2 = ((n / 2 : Nat) : Int) from rfl, w64 (x := ((n / 2 : Nat) : Int)) (by omega) (by omega), w64 (x := ((m + 1 : Nat) : Int) - 1) (by omega) (by omega), show ((m + 1 : Nat) : Int) - 1 = (m : Int) by omega]
    refine Ev.pos (by omega) (Ev.bnd1 rfl (Ev.pos (by rw [strOfNums_size, List.length_cons, List.length_nil]; omega) (Ev.eq h (ba_ext ?_))))
    rw [ByteArray.data_append, ByteArray.data_append, ByteArray.data_append, Array.toList_append, Array.toList_append, Array.toList_append, low_bit, baL_data, baL_data, cbits_half, List.append_assoc]
/-- The reference's next code, by the program's last one. -/
def nx (code size : Int) : Int := if size > 0 then code + 1 else code
def nextCode (long : Nat) (code size : Int) : Int := if size > 0 then (code + 1) * 2 ^ ((long : Int) - size).toNat else code
theorem next_eq (long : Nat) (code size : Int) (h0 : 0 ≤ size) (hz : size = 0 → code = 0) : nextCode long code size = nx code size * 2 ^ ((long : Int) - size).toNat := by
  unfold nextCode nx
  by_cases g : size > 0
  · rw [if_pos g, if_pos g]
  · rw [if_neg g, if_neg g, hz (by omega)]; simp
theorem next_le (long : Nat) (code size : Int) (c : Nat) (h0 : 0 ≤ size) (hl : size ≤ long) (hz : size = 0 → code = 0) (hn : nx code size ≤ (c : Int) * 2 ^ size.toNat) : nextCode long code size ≤ (c : Int) * 2 ^ long := by
  rw [next_eq long code size h0 hz]
  have h := Int.mul_le_mul_of_nonneg_right hn (show (0 : Int) ≤ 2 ^ ((long : Int) - size).toNat from Int.le_of_lt (Int.pow_pos (by decide)))
  rw [Int.mul_assoc, ← Int.pow_add, show size.toNat + ((long : Int) - size).toNat = long by omega] at h
  exact h
theorem pow_le12 (long : Nat) (h : long ≤ 12) : (2 : Int) ^ long ≤ 4096 ∧ 1 ≤ (2 : Int) ^ long := by
  have := (show ∀ n : Fin 13, (2 : Int) ^ n.val ≤ 4096 ∧ 1 ≤ (2 : Int) ^ n.val by decide) ⟨long, by omega⟩
  exact this
theorem shl_small (n : Int) (m : Int) (h0 : 0 ≤ m) (h1 : m ≤ 12) (hn : 0 ≤ n * 2 ^ m.toNat) (hb : n * 2 ^ m.toNat ≤ 1000000) : shl .i64 n m = n * 2 ^ m.toNat := by
  unfold shl
  rw [Nat.min_eq_left (by show m.toNat ≤ 64; omega), i64_w, w64 (by omega) (by omega)]
theorem cin_put (long : Nat) (i : Nat) (code size : Int) (outs : List ByteArray) (hc : 0 ≤ nextCode long code size) (hc1 : nextCode long code size ≤ 1000000) (hl : size ≤ long) : cstep (long : Int) (long : Int) i (code, size, outs) = some (nextCode long code size, (long : Int), outs.set i (baL (cbits (nextCode long code size) long))) := by
  unfold cstep
  rw [if_pos rfl]
  unfold nextCode at hc hc1 ⊢
  by_cases g : size > 0
  · rw [if_pos g] at hc hc1 ⊢
    rw [if_pos g]
    unfold cput
    rw [if_pos ⟨⟨hc, hc1⟩, hl⟩, Int.toNat_natCast]; rfl
  · rw [if_neg g] at hc hc1 ⊢
    rw [if_neg g]
    unfold cput
    rw [if_pos ⟨⟨hc, hc1⟩, hl⟩, Int.toNat_natCast]; rfl
theorem codes_in (x0 : List Int) (hx : x0.length ≤ 12) (long : Nat) (h1 : 1 ≤ long) (h12 : long ≤ 12) (post : List Int) : ∀ (pre : List Int) (code size : Int) (outs : List ByteArray) (c : Nat), pre ++ post = x0 → outs.length = x0.length →
    0 ≤ code → 0 ≤ size → size ≤ long → (size = 0 → code = 0) → nx code size ≤ (c : Int) * 2 ^ size.toNat → c + post.length ≤ 144 →
    ∃ s' : Int × Int × List ByteArray, cin long post pre.length (code, size, outs) = some s' ∧ s'.2.2.length = x0.length ∧ 0 ≤ s'.1 ∧ 0 ≤ s'.2.1 ∧ s'.2.1 ≤ long ∧ (s'.2.1 = 0 → s'.1 = 0) ∧ nx s'.1 s'.2.1 ≤ ((c + post.length : Nat) : Int) * 2 ^ s'.2.1.toNat ∧
      ∀ r, Ev (fun k => spec_l11Codes.l0 k x0 s'.2.2 (nx s'.1 s'.2.1) s'.2.1 ((long : Int) + 1)) r → Ev (fun k => spec_l11Codes.l1 k x0 outs (nx code size) size (long : Int) (pre ++ post) ((pre ++ post).length : Int) (pre.length : Int)) r := by
  induction post with
  | nil =>
    intro pre code size outs c he ho hc hs hsl hz hn hcc
    refine ⟨(code, size, outs), rfl, ho, hc, hs, hsl, hz, hn, fun r hr => Ev.succ ?_⟩
    simp only [spec_l11Codes.l1]
    rw [w64 (x := (long : Int) + 1) (by omega) (by omega)]
    exact Ev.neg (by simp) hr
  | cons x post ih =>
    intro pre code size outs c he ho hc hs hsl hz hn hcc
    have hlen : pre.length + (post.length + 1) = x0.length := by rw [← he]; simp
    simp only [List.length_cons] at hcc
    have he' : (pre ++ [x]) ++ post = x0 := by rw [← he]; simp
    have hpl : (pre ++ [x]).length = pre.length + 1 := by simp
    have hpw := pow_le12 long h12
    by_cases g : x = (long : Int)
    · subst g
      have hle := next_le long code size c hs hsl hz hn
      have h0 : 0 ≤ nextCode long code size := by
        unfold nextCode
        split
        · exact Int.mul_nonneg (by omega) (Int.le_of_lt (Int.pow_pos (by decide)))
        · exact hc
      have hle2 : (c : Int) * 2 ^ long ≤ 144 * 4096 := Int.mul_le_mul (by omega) hpw.1 (by omega) (by omega)
      have hb : nextCode long code size ≤ 1000000 := by omega
      have hput := cin_put long pre.length code size outs h0 hb hsl
      have hnx : nx (nextCode long code size) (long : Int) = nextCode long code size + 1 := by unfold nx; rw [if_pos (by omega)]
      have hsh := next_eq long code size hs hz
      have hn2 : nx (nextCode long code size) (long : Int) ≤ ((c + 1 : Nat) : Int) * 2 ^ ((long : Int)).toNat := by
        rw [hnx, Int.toNat_natCast, Int.natCast_add, Int.natCast_one, Int.add_mul, Int.one_mul]
        omega
      obtain ⟨s', e, p1, p2, p3, p4, p5, p6, p7⟩ := ih (pre ++ [(long : Int)]) (nextCode long code size) (long : Int) (outs.set pre.length (baL (cbits (nextCode long code size) long))) (c + 1) he' (by rw [List.length_set]; exact ho) h0 (by omega) (by omega) (by omega) hn2 (by omega)
      rw [hpl] at e
      refine ⟨s', by rw [cin, hput, Option.bind_some]; exact e, p1, p2, p3, p4, p5, by rw [show c + ((long : Int) :: post).length = c + 1 + post.length from by simp only [List.length_cons]; omega]; exact p6, fun r hr => ?_⟩
      have h := p7 r hr
      rw [hnx, hpl, List.append_assoc, List.singleton_append] at h
      have hbits := spec_bits long (nextCode long code size).toNat (⟨#[]⟩ : ByteArray) (by omega) (by show 0 + long ≤ 1000; omega)
      rw [Int.toNat_of_nonneg h0] at hbits
      refine Ev.succ ?_
      simp only [spec_l11Codes.l1, List.length_append, List.length_cons]
      rw [rd_mid, w64 (x := (long : Int) - size) (by omega) (by omega), IntWalk.u64_in _ (by omega), shl_small _ _ (by omega) (by omega) (by omega) (by omega), ← hsh, w64 (x := nextCode long code size + 1) (by omega) (by omega), w64 (x := (pre.length : Int) + 1) (by omega) (by omega), Int.toNat_natCast]
      refine Ev.pos (by omega) (Ev.pos (by omega) (Ev.pos (by omega) (Ev.pos rfl (Ev.pos (by omega) (Ev.bnd (a := baL (cbits (nextCode long code size) long)) ?_ (Ev.pos (by omega) ?_))))))
      · simp only [spec_l11Bits.f]
        exact Ev.eq hbits (ba_ext (by rw [ByteArray.data_append, Array.toList_append]; show _ ++ [] = _; rw [List.append_nil]))
      · simpa using h
    · obtain ⟨s', e, p1, p2, p3, p4, p5, p6, p7⟩ := ih (pre ++ [x]) code size outs c he' ho hc hs hsl hz hn (by omega)
      rw [hpl] at e
      have hpos : (0 : Int) ≤ 2 ^ s'.2.1.toNat := Int.le_of_lt (Int.pow_pos (by decide))
      refine ⟨s', by rw [cin, cstep, if_neg g, Option.bind_some]; exact e, p1, p2, p3, p4, p5, ?_, fun r hr => ?_⟩
      · rw [show c + (x :: post).length = (c + post.length) + 1 by simp only [List.length_cons]; omega, Int.natCast_add, Int.natCast_one, Int.add_mul, Int.one_mul]
        omega
      · have h := p7 r hr
        rw [hpl, List.append_assoc, List.singleton_append] at h
        refine Ev.succ ?_
        simp only [spec_l11Codes.l1, List.length_append, List.length_cons]
        rw [rd_mid, w64 (x := (pre.length : Int) + 1) (by omega) (by omega)]
        exact Ev.pos (by omega) (Ev.pos (by omega) (Ev.pos (by omega) (Ev.neg g (by simpa using h))))
theorem codes_out (x0 : List Int) (hx : x0.length ≤ 12) (f : Nat) : ∀ (long : Nat) (code size : Int) (outs : List ByteArray) (c : Nat), long + f = 13 → 1 ≤ long → outs.length = x0.length → 0 ≤ code → 0 ≤ size → size ≤ long → (size = 0 → code = 0) → nx code size ≤ (c : Int) * 2 ^ size.toNat → c + f * 12 ≤ 144 →
    ∃ fin : Int × Int × List ByteArray, cout x0 f long (code, size, outs) = some fin ∧ fin.2.2.length = x0.length ∧ Ev (fun k => spec_l11Codes.l0 k x0 outs (nx code size) size (long : Int)) fin.2.2 := by
  induction f with
  | zero =>
    intro long code size outs c hf h1 ho hc hs hsl hz hn hcc
    refine ⟨(code, size, outs), rfl, ho, Ev.succ ?_⟩
    simp only [spec_l11Codes.l0]
    exact Ev.neg (by omega) (Ev.ret _)
  | succ f ih =>
    intro long code size outs c hf h1 ho hc hs hsl hz hn hcc
    obtain ⟨s', e, p1, p2, p3, p4, p5, p6, p7⟩ := codes_in x0 hx long h1 (by omega) x0 [] code size outs c rfl ho hc hs hsl hz hn (by omega)
    obtain ⟨sc, ss, so⟩ := s'
    simp only at p1 p2 p3 p4 p5 p6 p7
    obtain ⟨fin, e2, q1, q2⟩ := ih (long + 1) sc ss so (c + x0.length) (by omega) (by omega) p1 p2 p3 (by omega) p5 p6 (by omega)
    rw [Int.natCast_add, Int.natCast_one] at e2 q2
    refine ⟨fin, by rw [cout]; rw [List.length_nil] at e; rw [e, Option.bind_some]; exact e2, q1, Ev.succ ?_⟩
    have h := p7 _ q2
    simp only [spec_l11Codes.l0]
    exact Ev.pos (by omega) (by simpa using h)
theorem codes_ev (l : List Int) (h : l.length ≤ 12) : ∃ fin : Int × Int × List ByteArray, cout l 12 1 (0, 0, List.replicate l.length ⟨#[]⟩) = some fin ∧ impl_codes.f l = some fin.2.2 ∧ fin.2.2.length = l.length ∧ Ev (fun k => spec_l11Codes.f k l) fin.2.2 := by
  obtain ⟨fin, e, hl, hs⟩ := codes_out l h 12 1 0 0 (List.replicate l.length (⟨#[]⟩ : ByteArray)) 0 rfl (by omega) (by simp) (by omega) (by omega) (by omega) (fun _ => rfl) (by simp [nx]) (by omega)
  refine ⟨fin, e, ?_, hl, ?_⟩
  · unfold impl_codes.f
    rw [if_pos (by omega)]
    have e' : cout l 12 1 (0, 0, List.replicate l.length ⟨#[]⟩) = some fin := e
    rw [e', Option.map_some]
  · simp only [spec_l11Codes.f]
    refine Ev.pos (by omega) (Ev.pos (by omega) ?_)
    try rw [Int.toNat_natCast]
    exact hs

def ups : Int → Nat → List Int
  | _, 0 => []
  | m, n + 1 => m :: ups (m + 1) n
theorem ups_len (n : Nat) : ∀ m, (ups m n).length = n := by
  induction n with
  | zero => intro m; rfl
  | succ n ih => intro m; simp [ups, ih]
theorem markIntS_l0 (post : List Int) : ∀ (pre : List Int) (m : Int), 0 ≤ m → m + post.length ≤ 4611686018427387904 → (pre ++ post).length ≤ 140737488351232 → Ev (fun k => laws_markIntS.l0 k (pre ++ post) m (pre.length : Int)) (m + post.length, pre ++ ups m post.length) := by
  induction post with
  | nil =>
    intro pre m h0 h1 hl
    refine Ev.succ ?_
    simp only [laws_markIntS.l0]
    exact Ev.neg (by simp) (Ev.eq (Ev.ret _) (by simp [ups]))
  | cons x post ih =>
    intro pre m h0 h1 hl
    simp only [List.length_append, List.length_cons] at hl h1
    have h := ih (pre ++ [m]) (m + 1) (by omega) (by omega) (by simp only [List.length_append, List.length_cons, List.length_nil]; omega)
    refine Ev.succ ?_
    simp only [laws_markIntS.l0]
    refine Ev.pos (by simp only [List.length_append, List.length_cons]; omega) (Ev.pos (by omega) ?_)
    rw [w64 (x := m + 1) (by omega) (by omega), w64 (by omega) (by omega)]
    have e : (pre ++ x :: post).set ((pre.length : Int)).toNat m = pre ++ [m] ++ post := by simp
    rw [e]
    refine Ev.eq (by simpa using h) ?_
    simp only [ups, List.length_cons, Prod.mk.injEq]
    exact ⟨by omega, trivial⟩
theorem markIntS (l : List Int) (m : Int) (h0 : 0 ≤ m) (h1 : m + l.length ≤ 4611686018427387904) (hl : l.length ≤ 140737488351232) : Ev (fun k => laws_markIntS.f k l m) (m + l.length, ups m l.length) := by
  simp only [laws_markIntS.f]
  simpa using markIntS_l0 l [] m h0 h1 (by simpa using hl)
theorem heldIntS_l0 (n : Nat) : ∀ (pre : List Int) (m : Int), 0 ≤ m → m + n ≤ 4611686018427387904 → pre.length + n ≤ 140737488351232 → Ev (fun k => laws_heldIntS.l0 k (pre ++ ups m n) m (pre.length : Int)) (m + n) := by
  induction n with
  | zero =>
    intro pre m h0 h1 hl
    refine Ev.succ ?_
    simp only [laws_heldIntS.l0]
    exact Ev.neg (by simp [ups]) (Ev.eq (Ev.ret _) (by simp))
  | succ n ih =>
    intro pre m h0 h1 hl
    have h := ih (pre ++ [m]) (m + 1) (by omega) (by omega) (by simp only [List.length_append, List.length_cons, List.length_nil]; omega)
    refine Ev.succ ?_
    simp only [laws_heldIntS.l0]
    refine Ev.pos (by simp only [List.length_append, ups_len]; omega) (Ev.pos (by omega) (Ev.pos (by simp only [ups]; exact rd_mid _ _ _) ?_))
    rw [w64 (x := m + 1) (by omega) (by omega), w64 (by omega) (by omega)]
    refine Ev.eq (by simpa [ups] using h) (by omega)
theorem heldIntS (n : Nat) (m : Int) (h0 : 0 ≤ m) (h1 : m + n ≤ 4611686018427387904) (hl : n ≤ 140737488351232) : Ev (fun k => laws_heldIntS.f k (ups m n) m) (m + n) := by
  simp only [laws_heldIntS.f]
  simpa using heldIntS_l0 n [] m h0 h1 (by simpa using hl)

/-! Texts of the signs 0 and 1. -/
def isBit (b : UInt8) : Bool := b == 48 || b == 49
def goodBits (s : ByteArray) : Bool := s.data.toList.all isBit && decide (s.size ≤ 4000)
theorem bt_get (s : ByteArray) (i : Nat) (h : i < s.data.toList.length) : bt s (i : Int) = ((s.data.toList[i]).toNat : Int) := by
  have h' : i < s.size := by rw [data_length] at h; exact h
  unfold bt
  rw [Int.toNat_natCast, dif_pos h']
  rfl
theorem isBit_iff (s : ByteArray) (i : Nat) (h : i < s.data.toList.length) : isBit (s.data.toList[i]) = true ↔ bt s (i : Int) = 48 ∨ bt s (i : Int) = 49 := by
  rw [bt_get s i h]
  generalize s.data.toList[i] = b
  unfold isBit
  rw [Bool.or_eq_true, beq_iff_eq, beq_iff_eq]
  constructor
  · rintro (rfl | rfl)
    · exact .inl rfl
    · exact .inr rfl
  · rintro (h | h)
    · exact .inl (UInt8.toNat_inj.1 (by show b.toNat = 48; omega))
    · exact .inr (UInt8.toNat_inj.1 (by show b.toNat = 49; omega))
theorem dropWhile_all {α : Type} (p : α → Bool) (l : List α) (h : ∀ x ∈ l.dropWhile p, p x = true) : l.dropWhile p = [] := by
  induction l with
  | nil => rfl
  | cons a l ih =>
    by_cases ha : p a = true
    · rw [List.dropWhile_cons_of_pos ha] at h ⊢
      exact ih h
    · rw [List.dropWhile_cons_of_neg ha] at h
      exact absurd (h a List.mem_cons_self) ha
theorem dropWhile_nil {α : Type} (p : α → Bool) (l : List α) : l.dropWhile p = [] ↔ ∀ x ∈ l, p x = true := by
  induction l with
  | nil => simp
  | cons a l ih =>
    by_cases ha : p a = true
    · rw [List.dropWhile_cons_of_pos ha, ih]; simp [ha]
    · rw [List.dropWhile_cons_of_neg ha]; simp [ha]
theorem trimS_nil (l : List UInt8) : Lib.trimS l [48, 49] = [] ↔ l.all isBit = true := by
  have hp : ∀ b : UInt8, [48, 49].contains b = isBit b := by
    intro b
    simp only [List.contains, List.elem, isBit]
    cases h1 : (b == 48) <;> cases h2 : (b == 49) <;> simp
  unfold Lib.trimS Lib.trimLeftS Lib.trimRightS
  rw [show (([48, 49] : List UInt8).contains ·) = isBit from funext hp]
  rw [List.all_eq_true]
  constructor
  · intro h
    have h1 := (dropWhile_nil _ _).1 h
    have h2 := dropWhile_all isBit l.reverse (fun x hx => h1 x (List.mem_reverse.2 hx))
    intro x hx
    exact (dropWhile_nil _ _).1 h2 x (List.mem_reverse.2 hx)
  · intro h
    have h2 := (dropWhile_nil isBit l.reverse).2 (fun x hx => h x (List.mem_reverse.1 hx))
    rw [h2]
    rfl
theorem impl_areBits_eq (s : ByteArray) (hs : s.size ≤ 140737488351232) : impl_areBits.f s = some (goodBits s) := by
  unfold impl_areBits.f goodBits
  by_cases g : (s.size : Int) ≤ 4000
  · rw [if_pos g, decide_eq_true (show s.size ≤ 4000 by omega), Bool.and_true]
    unfold strings_Trim.f
    rw [if_pos ⟨by omega, by decide, by decide⟩]
    simp only [Option.bind_some]
    congr 1
    have e := trimS_nil s.data.toList
    rw [ByteArray.toList_eq]
    show (Lib.trimS s.data.toList [48, 49] == []) = s.data.toList.all isBit
    cases hq : s.data.toList.all isBit with
    | true => rw [e.2 hq]; rfl
    | false =>
      cases hz : Lib.trimS s.data.toList [48, 49] with
      | nil => rw [e.1 hz] at hq; cases hq
      | cons a l => rfl
  · rw [if_neg g, decide_eq_false (show ¬ s.size ≤ 4000 by omega), Bool.and_false]

/-! Decoding. -/
theorem ne_nil (t : ByteArray) : t.toList = ([] : List UInt8) ↔ t.size = 0 := by
  rw [ByteArray.toList_eq, show t.size = t.data.size from rfl, ← Array.length_toList]
  exact ⟨fun h => by rw [h]; rfl, fun h => List.eq_nil_of_length_eq_zero h⟩
theorem rds_at (pre : List ByteArray) (x : ByteArray) (post : List ByteArray) : rdOf ByteArray.empty (pre ++ x :: post) (pre.length : Int) = x := by
  unfold rdOf; simp
/-- Does a code stand at the front? -/
def front (bits x : ByteArray) : Prop := x.size ≠ 0 ∧ x.size ≤ bits.size ∧ bits.extract 0 x.size = x
open Classical in
noncomputable def nxt (bits : ByteArray) : Int → List ByteArray → Int
  | _, [] => -1
  | i, x :: t => if front bits x then i else nxt bits (i + 1) t
theorem nxt_range (bits : ByteArray) (t : List ByteArray) : ∀ i : Int, 0 ≤ i → nxt bits i t = -1 ∨ (i ≤ nxt bits i t ∧ nxt bits i t < i + t.length ∧ front bits (t.getD (nxt bits i t - i).toNat ByteArray.empty)) := by
  induction t with
  | nil => intro i _; exact .inl rfl
  | cons x t ih =>
    intro i h0
    unfold nxt
    split
    · rename_i g
      exact .inr ⟨by omega, by rw [List.length_cons]; omega, by rw [Int.sub_self]; exact g⟩
    · rcases ih (i + 1) (by omega) with h | ⟨h1, h2, h3⟩
      · exact .inl h
      · refine .inr ⟨by omega, by rw [List.length_cons]; omega, ?_⟩
        rw [show (nxt bits (i + 1) t - i).toNat = (nxt bits (i + 1) t - (i + 1)).toNat + 1 by omega, List.getD_cons_succ]
        exact h3
theorem nxt_empty (bits : ByteArray) (h : bits.size = 0) (t : List ByteArray) : ∀ i : Int, nxt bits i t = -1 := by
  induction t with
  | nil => intro i; rfl
  | cons x t ih =>
    intro i
    unfold nxt
    rw [if_neg (fun g => by have := g.1; have := g.2.1; omega)]
    exact ih (i + 1)
theorem spec_next_l0 (bits : ByteArray) (hb : bits.size ≤ 100000) (post : List ByteArray) : ∀ pre : List ByteArray, (pre ++ post).length ≤ 1000 → Ev (fun k => spec_l11Next.l0 k bits (pre ++ post) ((pre ++ post).length : Int) (pre.length : Int)) (nxt bits (pre.length : Int) post) := by
  induction post with
  | nil =>
    intro pre hl
    refine Ev.succ ?_
    simp only [spec_l11Next.l0]
    exact Ev.neg (by simp) (Ev.ret _)
  | cons x post ih =>
    intro pre hl
    have h := ih (pre ++ [x]) (by simpa using hl)
    rw [List.append_assoc, List.singleton_append, show ((pre ++ [x]).length : Int) = (pre.length : Int) + 1 by simp, List.length_append, List.length_cons] at h
    simp only [List.length_append, List.length_cons] at hl
    refine Ev.succ ?_
    simp only [spec_l11Next.l0, List.length_append, List.length_cons]
    rw [rds_at, w64 (x := (pre.length : Int) + 1) (by omega) (by omega)]
    refine Ev.pos (by omega) (Ev.pos (by omega) (Ev.pos (by omega) ?_))
    unfold nxt
    by_cases g0 : x.size = 0
    · rw [if_neg (fun g => g.1 g0)]
      exact Ev.pos ((ne_nil x).2 g0) h
    · refine Ev.neg (fun g => g0 ((ne_nil x).1 g)) ?_
      by_cases g1 : x.size ≤ bits.size
      · refine Ev.pos (by omega) (Ev.pos (by omega) ?_)
        by_cases g2 : bits.extract 0 x.size = x
        · rw [if_pos ⟨g0, g1, g2⟩]
          exact Ev.pos ((toList_iff _ _).2 g2) (Ev.ret _)
        · rw [if_neg (fun g => g2 g.2.2)]
          exact Ev.neg (fun g => g2 ((toList_iff _ _).1 g)) h
      · rw [if_neg (fun g => g1 g.2.1)]
        exact Ev.neg (by omega) h
theorem spec_next_ev (cs : List ByteArray) (bits : ByteArray) (hb : bits.size ≤ 100000) (hl : cs.length ≤ 1000) : Ev (fun k => spec_l11Next.f k cs bits) (nxt bits 0 cs) :=
  spec_next_l0 bits hb cs [] hl
theorem impl_front (bits x : ByteArray) (hb : bits.size ≤ 100000) : ∃ b, impl_decode_1.f x bits = some b ∧ (b = true ↔ front bits x) := by
  unfold impl_decode_1.f
  by_cases g0 : x.size = 0
  · rw [if_pos ((ne_nil x).2 g0)]
    exact ⟨false, rfl, by simp [front, g0]⟩
  · rw [if_neg (fun g => g0 ((ne_nil x).1 g))]
    unfold strings_HasPrefix.f stringslite_HasPrefix.f
    by_cases g1 : x.size ≤ bits.size
    · rw [if_pos (by omega), if_pos (by omega), if_pos (by omega)]; try rw [Int.toNat_natCast]
      refine ⟨_, rfl, ?_⟩
      rw [beq_iff_eq, toList_iff]
      exact ⟨fun h => ⟨g0, g1, h⟩, fun h => h.2.2⟩
    · rw [if_neg (by omega)]
      exact ⟨false, rfl, by simp [front, g1]⟩
theorem impl_next (bits : ByteArray) (hb : bits.size ≤ 100000) (t : List ByteArray) : ∀ i : Int, idxO (fun x => impl_decode_1.f x bits) i t = some (nxt bits i t) := by
  induction t with
  | nil => intro i; rfl
  | cons x t ih =>
    intro i
    obtain ⟨b, e, hb'⟩ := impl_front bits x hb
    simp only [idxO, e, Option.bind_some, nxt]
    by_cases g : front bits x
    · rw [if_pos (hb'.2 g), if_pos g]
    · rw [if_neg (fun h => g (hb'.1 h)), if_neg g]
      exact ih (i + 1)
/-- At most so many symbols. -/
noncomputable def dec (cs : List ByteArray) : Nat → ByteArray → List Int → List Int × ByteArray
  | 0, bits, out => (out, bits)
  | d + 1, bits, out => if nxt bits 0 cs < 0 then (out, bits) else dec cs d (bits.extract (cs.getD (nxt bits 0 cs).toNat ByteArray.empty).size bits.size) (out ++ [nxt bits 0 cs])
theorem dec_len (cs : List ByteArray) (d : Nat) : ∀ (bits : ByteArray) (out : List Int), (dec cs d bits out).1.length ≤ out.length + d := by
  induction d with
  | zero => intro bits out; exact Nat.le_refl _
  | succ d ih =>
    intro bits out
    unfold dec
    split
    · show out.length ≤ _; omega
    · have := ih (bits.extract (cs.getD (nxt bits 0 cs).toNat ByteArray.empty).size bits.size) (out ++ [nxt bits 0 cs])
      rw [List.length_append, List.length_singleton] at this
      omega
theorem dec_empty (cs : List ByteArray) (d : Nat) (bits : ByteArray) (out : List Int) (h : bits.size = 0) : dec cs d bits out = (out, bits) := by
  cases d with
  | zero => rfl
  | succ d => unfold dec; rw [nxt_empty bits h, if_pos (by omega)]
theorem impl_dec (cs : List ByteArray) (hl : cs.length ≤ 1000) (d : Nat) : ∀ (bits : ByteArray) (out : List Int), bits.size ≤ 100000 → out.length + d = 200 → Ev (fun k => impl_decode.l0 k 200 cs out bits) (dec cs d bits out) := by
  induction d with
  | zero =>
    intro bits out hb ho
    refine Ev.succ ?_
    simp only [impl_decode.l0]
    exact Ev.neg (by omega) (Ev.ret _)
  | succ d ih =>
    intro bits out hb ho
    refine Ev.succ ?_
    simp only [impl_decode.l0, dec]
    refine Ev.pos (by omega) (Ev.bnd1 (impl_next bits hb cs 0) ?_)
    rcases nxt_range bits cs 0 (by omega) with g | ⟨g1, g2, g3⟩
    · rw [g, if_pos (by omega)]
      exact Ev.pos (by omega) (Ev.ret _)
    · rw [if_neg (by omega)]
      generalize nxt bits 0 cs = n at g1 g2 g3
      rw [Int.sub_zero] at g3
      rw [show rdOf ByteArray.empty cs n = cs.getD n.toNat ByteArray.empty from rfl]
      have h := ih (bits.extract (cs.getD n.toNat ByteArray.empty).size bits.size) (out ++ [n]) (by rw [ByteArray.size_extract]; omega) (by rw [List.length_append, List.length_singleton]; omega)
      exact Ev.neg (by omega) (Ev.pos (by omega) (Ev.pos g1 (Ev.pos (by omega) (Ev.pos (by omega) (Ev.pos (by have := g3.2.1; omega) h)))))
def decRes (r : List Int × ByteArray) : List Int × Bool := if r.2.size = 0 then (r.1, true) else ([], false)
theorem decRes_pos (r : List Int × ByteArray) (h : r.2.size = 0) : decRes r = (r.1, true) := if_pos h
theorem decRes_neg (r : List Int × ByteArray) (h : ¬ r.2.size = 0) : decRes r = ([], false) := if_neg h
theorem spec_dec0 (cs : List ByteArray) (hl : cs.length ≤ 1000) (d : Nat) : ∀ (bits : ByteArray) (out : List Int), bits.size ≤ 100000 → out.length + d = 200 → Ev (fun k => spec_l11Decode.l0 k bits cs out) (decRes (dec cs d bits out)) := by
  induction d with
  | zero =>
    intro bits out hb ho
    refine Ev.succ ?_
    simp only [spec_l11Decode.l0]
    rw [show dec cs 0 bits out = (out, bits) from rfl]
    by_cases g : bits.size = 0
    · rw [decRes_pos _ g]; exact Ev.neg (by omega) (Ev.ret _)
    · rw [decRes_neg _ g]
      refine Ev.pos (by omega) (Ev.bnd (spec_next_ev cs bits hb hl) ?_)
      by_cases g2 : nxt bits 0 cs < 0
      · exact Ev.pos g2 (Ev.ret _)
      · exact Ev.neg g2 (Ev.pos (by omega) (Ev.ret _))
  | succ d ih =>
    intro bits out hb ho
    refine Ev.succ ?_
    simp only [spec_l11Decode.l0]
    by_cases g : bits.size = 0
    · rw [dec_empty cs (d + 1) bits out g, decRes_pos _ g]; exact Ev.neg (by omega) (Ev.ret _)
    · refine Ev.pos (by omega) (Ev.bnd (spec_next_ev cs bits hb hl) ?_)
      simp only [dec]
      rcases nxt_range bits cs 0 (by omega) with g0 | ⟨g1, g2, g3⟩
      · rw [g0, if_pos (by omega), decRes_neg _ g]
        exact Ev.pos (by omega) (Ev.ret _)
      · rw [if_neg (by omega)]
        generalize nxt bits 0 cs = n at g1 g2 g3
        rw [Int.sub_zero] at g3
        rw [show rdOf ByteArray.empty cs n = cs.getD n.toNat ByteArray.empty from rfl]
        have h := ih (bits.extract (cs.getD n.toNat ByteArray.empty).size bits.size) (out ++ [n]) (by rw [ByteArray.size_extract]; omega) (by rw [List.length_append, List.length_singleton]; omega)
        exact Ev.neg (by omega) (Ev.neg (by omega) (Ev.pos (by omega) (Ev.pos g1 (Ev.pos (by omega) (Ev.pos (by omega) (Ev.pos (by have := g3.2.1; omega) h))))))
theorem spec_dec (cs : List ByteArray) (hl : cs.length ≤ 1000) (d : Nat) : ∀ (bits : ByteArray) (out : List Int), bits.size ≤ 100000 → out.length + d = 200 → Ev (fun k => spec_l11Decode.l0 k bits cs out) (if (dec cs d bits out).2.size = 0 then ((dec cs d bits out).1, true) else ([], false)) := spec_dec0 cs hl d
/-! What is decoded whole consists of the codes' signs. -/
def allBits (outs : List ByteArray) : Prop := ∀ x ∈ outs, x.data.toList.all isBit = true
theorem cbits_bits (code : Int) (m : Nat) : (cbits code m).all isBit = true := by
  induction m with
  | zero => rfl
  | succ m ih =>
    rw [cbits, List.all_cons, ih, Bool.and_true]
    unfold cbyte
    rcases Nat.mod_two_eq_zero_or_one (code.toNat / 2 ^ m) with h | h
    · rw [h]; rfl
    · rw [h]; rfl
theorem cput_bits (long : Int) (i : Nat) (code size : Int) (outs : List ByteArray) (s' : Int × Int × List ByteArray) (h : allBits outs) (e : cput long i code size outs = some s') : allBits s'.2.2 := by
  unfold cput at e
  split at e
  · obtain rfl := Option.some.inj e
    intro x hx
    rcases List.mem_or_eq_of_mem_set hx with hx | rfl
    · exact h x hx
    · exact cbits_bits _ _
  · cases e
theorem cin_bits (long : Int) (post : List Int) : ∀ (i : Nat) (s s' : Int × Int × List ByteArray), allBits s.2.2 → cin long post i s = some s' → allBits s'.2.2 := by
  induction post with
  | nil =>
    intro i s s' h e
    simp only [cin, Option.some.injEq] at e
    subst e
    exact h
  | cons x post ih =>
    intro i s s' h e
    rw [cin] at e
    obtain ⟨s2, e1, e2⟩ := Option.bind_eq_some_iff.1 e
    refine ih (i + 1) s2 s' ?_ e2
    unfold cstep at e1
    split at e1
    · split at e1
      · exact cput_bits _ _ _ _ _ _ h e1
      · exact cput_bits _ _ _ _ _ _ h e1
    · obtain rfl := Option.some.inj e1
      exact h
theorem cout_bits (x0 : List Int) (f : Nat) : ∀ (long : Int) (s s' : Int × Int × List ByteArray), allBits s.2.2 → cout x0 f long s = some s' → allBits s'.2.2 := by
  induction f with
  | zero =>
    intro long s s' h e
    simp only [cout, Option.some.injEq] at e
    subst e
    exact h
  | succ f ih =>
    intro long s s' h e
    rw [cout] at e
    obtain ⟨s2, e1, e2⟩ := Option.bind_eq_some_iff.1 e
    exact ih (long + 1) s2 s' (cin_bits long x0 0 s s2 h e1) e2
theorem codes_bits (l : List Int) (fin : Int × Int × List ByteArray) (e : cout l 12 1 (0, 0, List.replicate l.length ⟨#[]⟩) = some fin) : allBits fin.2.2 :=
  cout_bits l 12 1 _ fin (fun x hx => by rw [List.eq_of_mem_replicate hx]; rfl) e
theorem cut_join (bits : ByteArray) (n : Nat) (h : n ≤ bits.size) : bits = bits.extract 0 n ++ bits.extract n bits.size := by
  apply ba_ext
  rw [ByteArray.data_append, Array.toList_append, ByteArray.data_extract, ByteArray.data_extract, Array.toList_extract, Array.toList_extract, List.extract_eq_take_drop, List.extract_eq_take_drop, List.drop_zero, Nat.sub_zero, List.take_of_length_le (l := List.drop n bits.data.toList) (by rw [List.length_drop, data_length]; omega), List.take_append_drop]
theorem dec_bits (cs : List ByteArray) (hc : allBits cs) (d : Nat) : ∀ (bits : ByteArray) (out : List Int), (dec cs d bits out).2.size = 0 → bits.data.toList.all isBit = true := by
  induction d with
  | zero =>
    intro bits out h
    have : bits.data.toList = [] := List.eq_nil_of_length_eq_zero (by rw [data_length]; exact h)
    rw [this]; rfl
  | succ d ih =>
    intro bits out h
    unfold dec at h
    rcases nxt_range bits cs 0 (by omega) with g | ⟨g1, g2, g3⟩
    · rw [g, if_pos (by omega)] at h
      have : bits.data.toList = [] := List.eq_nil_of_length_eq_zero (by rw [data_length]; exact h)
      rw [this]; rfl
    · rw [if_neg (by omega)] at h
      generalize nxt bits 0 cs = n at g1 g2 g3 h
      rw [Int.sub_zero] at g3
      have hr := ih _ _ h
      rw [cut_join bits (cs.getD n.toNat ByteArray.empty).size g3.2.1, g3.2.2, ByteArray.data_append, Array.toList_append, List.all_append, hr, Bool.and_true]
      refine hc _ ?_
      rw [List.getD_eq_getElem?_getD, List.getElem?_eq_getElem (by omega)]
      exact List.getElem_mem _
theorem decode_ex (l : List Int) (bits : ByteArray) (h1 : l.length ≤ 1048576) (hb : bits.size ≤ 1048576) : ∃ r : List Int × Bool, r.1.length ≤ 200 ∧ Ev (fun k => spec_DecodeBy.f k l bits) r ∧ Ev (fun k => impl_DecodeBy.f k l bits) r := by
  have no : Ev (fun k => impl_DecodeBy.j0 k l bits true) (([] : List Int), false) := by
    refine Ev.succ ?_
    simp only [impl_DecodeBy.j0]
    exact Ev.pos (by trivial) (Ev.ret _)
  by_cases g : goodLengths l = true
  · have hw : within 12 l = true := by unfold goodLengths at g; rw [Bool.and_eq_true] at g; exact g.1
    have h12 := within_facts hw
    obtain ⟨fin, e, hi, hlen, hs⟩ := codes_ev l h12.1
    by_cases g2 : bits.size > 4000
    · refine ⟨([], false), by simp, ?_, ?_⟩
      · simp only [spec_DecodeBy.f]
        exact Ev.bnd (spec_GoodLengths_ev l (by omega)) (Ev.pos g (Ev.pos (by omega) (Ev.ret _)))
      · simp only [impl_DecodeBy.f]
        have e0 : goodBits bits = false := by unfold goodBits; rw [decide_eq_false (by omega), Bool.and_false]
        have e1 := impl_areBits_eq bits (by omega)
        rw [e0] at e1
        exact Ev.bnd (impl_GoodLengths_ev l) (Ev.pos g (Ev.bnd1 e1 no))
    · have hsp : Ev (fun k => spec_DecodeBy.f k l bits) (if (dec fin.2.2 200 bits []).2.size = 0 then ((dec fin.2.2 200 bits []).1, true) else ([], false)) := by
        simp only [spec_DecodeBy.f, spec_l11Decode.f]
        have hd := spec_dec fin.2.2 (by omega) 200 bits [] (by omega) rfl
        exact Ev.bnd (spec_GoodLengths_ev l (by omega)) (Ev.pos g (Ev.neg (by omega) (Ev.bnd (Ev.bnd hs hd) (Ev.ret _))))
      refine ⟨_, ?_, hsp, ?_⟩
      · split
        · have := dec_len fin.2.2 200 bits []
          simpa using this
        · simp
      · simp only [impl_DecodeBy.f]
        refine Ev.bnd (impl_GoodLengths_ev l) (Ev.pos g ?_)
        cases hg : goodBits bits with
        | false =>
          have e1 := impl_areBits_eq bits (by omega)
          rw [hg] at e1
          rw [if_neg (fun hz => by
            have := dec_bits fin.2.2 (codes_bits l fin e) 200 bits [] hz
            unfold goodBits at hg
            rw [this, decide_eq_true (by omega)] at hg
            cases hg)]
          exact Ev.bnd1 e1 no
        | true =>
          have e1 := impl_areBits_eq bits (by omega)
          rw [hg] at e1
          refine Ev.bnd1 e1 (Ev.succ ?_)
          simp only [impl_DecodeBy.j0, impl_decode.f]
          have hd := impl_dec fin.2.2 (by omega) 200 bits [] (by omega) rfl
          refine Ev.neg (by simp) (Ev.bnd (Ev.bnd1 hi hd) ?_)
          by_cases gz : (dec fin.2.2 200 bits []).2.size = 0
          · rw [if_pos gz]; exact Ev.pos ((ne_nil _).2 gz) (Ev.ret _)
          · rw [if_neg gz]; exact Ev.neg (fun h => gz ((ne_nil _).1 h)) (Ev.ret _)
  · refine ⟨([], false), by simp, ?_, ?_⟩
    · simp only [spec_DecodeBy.f]
      exact Ev.bnd (spec_GoodLengths_ev l (by omega)) (Ev.neg g (Ev.ret _))
    · simp only [impl_DecodeBy.f]
      exact Ev.bnd (impl_GoodLengths_ev l) (Ev.neg g no)

theorem FnExactDecodeBy : laws_FnExactDecodeBy.Pure := by
  intro l bits _ hl _ hb
  refine Ev.all ?_
  simp only [laws_FnExactDecodeBy.f]
  by_cases g : (l.length : Int) > 1048576
  · exact Ev.pos g (Ev.ret _)
  · refine Ev.neg g ?_
    by_cases g2 : (bits.size : Int) > 1048576
    · exact Ev.pos g2 (Ev.ret _)
    · refine Ev.neg g2 ?_
      obtain ⟨r, hr, hs, hi⟩ := decode_ex l bits (by omega) (by omega)
      have t1 := toIntS l hl
      refine Ev.bnd t1 (Ev.bnd hs (Ev.bnd t1 (Ev.bnd hi (Ev.bnd (eqIntS_self r.1 (by omega)) (Ev.pos rfl (Ev.succ ?_))))))
      simp only [laws_FnExactDecodeBy.j0]
      refine Ev.neg (by simp) (Ev.bnd t1 (Ev.bnd (eqIntS_self l (by omega)) (Ev.pos rfl ?_)))
      refine Ev.bnd (markIntS l 1 (by omega) (by omega) (by omega)) (Ev.neg (by omega) (Ev.bnd (eqIntS_self r.1 (by omega)) (Ev.pos rfl (Ev.succ ?_))))
      simp only [laws_FnExactDecodeBy.j1]
      refine Ev.neg (by simp) (Ev.bnd (markIntS r.1 1 (by omega) (by omega) (by omega)) (Ev.bnd (heldIntS r.1.length 1 (by omega) (by omega) (by omega)) ?_))
      refine Ev.neg (by omega) (Ev.pos rfl (Ev.bnd t1 (Ev.bnd hi (Ev.bnd (eqIntS_self r.1 (by omega)) (Ev.pos rfl (Ev.succ ?_))))))
      simp only [laws_FnExactDecodeBy.j2]
      refine Ev.neg (by simp) (Ev.bnd (heldIntS r.1.length 1 (by omega) (by omega) (by omega)) (Ev.neg (by omega) (Ev.pos rfl (Ev.ret _))))

end Go.Proofs.YtcggidlledjgkaaDoor.Pure
