/- The program's ListBytes returns what the reference's returns, for all arguments.
Conditions: none beyond what the row itself says. -/
import Derived.Test.YtgbjmojghcbneaaQFnExactListBytesx2
namespace Go.Proofs.Ytgbjmojghcbneaa.Pure
open Go.RowKit Go.Proofs.Ytgbjmojghcbneaa.QFnExactListBytes Go.Proofs.YtgbjmojghcbneaaW.PrintWords Go.Proofs.YtgbjmojghcbneaaW.PrintLast Go.Proofs.YtgbjmojghcbneaaW.PrintMore
set_option linter.unusedVariables false
set_option linter.unusedSimpArgs false

theorem w64 {x : Int} (h0 : -9223372036854775808 ≤ x) (h1 : x ≤ 9223372036854775807) : wrap64 x = x := by
  unfold wrap64; omega
theorem wf64 {a : Int} (h : (Lit.int .i64 a).wf = true) : -9223372036854775808 ≤ a ∧ a ≤ 9223372036854775807 := by
  simp only [Lit.wf, IntKind.min, IntKind.max, IntKind.signed, IntKind.bits, Bool.and_eq_true, decide_eq_true_eq, if_true] at h
  omega

theorem Ev.succ {α : Type} {g : Nat → Option α} {r : α} (h : Ev (fun k => g (k + 1)) r) : Ev g r := Ev.step (fun _ => rfl) h
theorem Ev.pos {α : Type} {c : Prop} [Decidable c] {a b : Nat → Option α} {r : α} (h : c) (e : Ev (fun k => a k) r) : Ev (fun k => if c then a k else b k) r := Ev.congr (fun _ => if_pos h) e
theorem Ev.neg {α : Type} {c : Prop} [Decidable c] {a b : Nat → Option α} {r : α} (h : ¬ c) (e : Ev (fun k => b k) r) : Ev (fun k => if c then a k else b k) r := Ev.congr (fun _ => if_neg h) e
theorem Ev.bnd {α β : Type} {g : Nat → Option α} {f : Nat → α → Option β} {a : α} {r : β} (h : Ev (fun k => g k) a) (k : Ev (fun n => f n a) r) : Ev (fun n => (g n).bind (fun x => f n x)) r := Ev.bind h k
theorem Ev.bnd1 {α β : Type} {g : Option α} {f : Nat → α → Option β} {a : α} {r : β} (h : g = some a) (k : Ev (fun n => f n a) r) : Ev (fun n => g.bind (fun x => f n x)) r := by
  rw [h]; exact k
theorem Ev.ret {α : Type} (r : α) : Ev (fun _ => some r) r := Ev.now r
theorem Ev.eq {α : Type} {g : Nat → Option α} {r r' : α} (h : Ev g r) (e : r = r') : Ev g r' := e ▸ h
theorem Ev.all {α : Type} {g : Nat → Option α} {r : α} (h : Ev (fun k => g k) r) : ∃ k, g k = some r := h.rounds
theorem rd_mid (pre : List Int) (x : Int) (post : List Int) : rd (pre ++ x :: post) (pre.length : Int) = x := by
  unfold rd; simp
theorem rd_nat (xs : List Int) (i : Nat) (h : i < xs.length) : rd xs (i : Int) = xs[i] := by
  unfold rd; simp [List.getD_eq_getElem?_getD, List.getElem?_eq_getElem h]

theorem son_append (xs ys : List Int) : strOfNums xs ++ strOfNums ys = strOfNums (xs ++ ys) := by
  apply ByteArray.ext
  simp [strOfNums]
theorem son_nil : (⟨#[]⟩ : ByteArray) = strOfNums [] := by simp [strOfNums]
/-- The base-128 digits of a number, as bytes. -/
def vbytes (n : Nat) : List Int := if n < 128 then [(n : Int)] else ((n % 128 + 128 : Nat) : Int) :: vbytes (n / 128)
termination_by n
decreasing_by omega
theorem vbytes_lt {n : Nat} (h : n < 128) : vbytes n = [(n : Int)] := by rw [vbytes, if_pos h]
theorem vbytes_ge {n : Nat} (h : ¬ n < 128) : vbytes n = ((n % 128 + 128 : Nat) : Int) :: vbytes (n / 128) := by rw [vbytes, if_neg h]
theorem vbytes_pos (n : Nat) : 0 < (vbytes n).length := by
  rw [vbytes]; split <;> simp
theorem vbytes_len (n : Nat) : (vbytes n).length ≤ n + 1 := by
  induction n using Nat.strongRecOn with
  | _ n ih =>
    by_cases h : n < 128
    · rw [vbytes_lt h]; simp
    · rw [vbytes_ge h]
      have := ih (n / 128) (by omega)
      simp only [List.length_cons]
      omega
theorem tdiv_nat (n m : Nat) : Int.tdiv (n : Int) (m : Int) = ((n / m : Nat) : Int) := rfl
theorem tmod_nat (n m : Nat) : Int.tmod (n : Int) (m : Int) = ((n % m : Nat) : Int) := rfl

theorem varint_spec (n : Nat) : ∀ xs : List Int, xs.length + n ≤ 1099511627776 → Ev (fun k => spec_l10Varint.l0 k (n : Int) (strOfNums xs)) (strOfNums (xs ++ vbytes n)) := by
  induction n using Nat.strongRecOn with
  | _ n ih =>
    intro xs hl
    by_cases h : n < 128
    · refine Ev.step (f := fun _ => some (strOfNums (xs ++ vbytes n))) (fun k => ?_) (Ev.now _)
      simp only [spec_l10Varint.l0]
      rw [if_neg (by omega)]
      simp only [Option.bind_some]
      rw [if_pos (by simp only [strOfNums_size, List.length_cons, List.length_nil]; omega), son_append, vbytes_lt h]
      rw [show (n : Int) % 256 = n by omega]
    · refine Ev.step (f := fun k => spec_l10Varint.l0 k ((n / 128 : Nat) : Int) (strOfNums (xs ++ [((n % 128 + 128 : Nat) : Int)]))) (fun k => ?_) ?_
      · simp only [spec_l10Varint.l0]
        rw [if_pos (by omega)]
        simp only [Option.bind_some]
        rw [if_pos (by simp only [strOfNums_size, List.length_cons, List.length_nil]; omega), son_append]
        rw [show (128 : Int) = ((128 : Nat) : Int) from rfl, tdiv_nat, tmod_nat]
        rw [w64 (by omega) (by omega), w64 (by omega) (by omega)]
        rw [show (((n % 128 : Nat) : Int) + ((128 : Nat) : Int)) % 256 = ((n % 128 + 128 : Nat) : Int) by omega]
      · have := ih (n / 128) (by omega) (xs ++ [((n % 128 + 128 : Nat) : Int)]) (by simp only [List.length_append, List.length_cons, List.length_nil]; omega)
        rw [List.append_assoc, List.singleton_append, ← vbytes_ge h] at this
        exact this
theorem varint_spec_f (n : Nat) (h : n ≤ 1099511627776) : Ev (fun k => spec_l10Varint.f k (n : Int)) (strOfNums (vbytes n)) := by
  have := varint_spec n [] (by simpa using h)
  rw [← son_nil] at this
  exact this

theorem varint_impl (n : Nat) : ∀ xs : List Int, xs.length + n ≤ 1099511627776 → Ev (fun k => impl_putVarint.l0 k xs (n : Int)) (xs ++ vbytes n) := by
  induction n using Nat.strongRecOn with
  | _ n ih =>
    intro xs hl
    by_cases h : n < 128
    · refine Ev.step (f := fun _ => some (xs ++ vbytes n)) (fun k => ?_) (Ev.now _)
      simp only [impl_putVarint.l0]
      rw [if_neg (by omega), if_pos (by omega), vbytes_lt h]
      rw [show (n : Int) % 256 = n by omega]
    · refine Ev.step (f := fun k => impl_putVarint.l0 k (xs ++ [((n % 128 + 128 : Nat) : Int)]) ((n / 128 : Nat) : Int)) (fun k => ?_) ?_
      · simp only [impl_putVarint.l0]
        rw [if_pos (by omega), if_pos (by omega)]
        rw [show (128 : Int) = ((128 : Nat) : Int) from rfl, tdiv_nat, tmod_nat]
        rw [w64 (by omega) (by omega)]
        rw [show (((n % 128 : Nat) : Int) + ((128 : Nat) : Int)) % 256 = ((n % 128 + 128 : Nat) : Int) by omega]
      · have := ih (n / 128) (by omega) (xs ++ [((n % 128 + 128 : Nat) : Int)]) (by simp only [List.length_append, List.length_cons, List.length_nil]; omega)
        rw [List.append_assoc, List.singleton_append, ← vbytes_ge h] at this
        exact this
theorem varint_impl_f (xs : List Int) (n : Nat) (h : xs.length + n ≤ 1099511627776) : Ev (fun k => impl_putVarint.f k xs (n : Int)) (xs ++ vbytes n) :=
  varint_impl n xs h

theorem toIntS_l0 (post : List Int) : ∀ (pre rest : List Int), rest.length = post.length → (pre ++ post).length ≤ 140737488351232 → Ev (fun k => laws_toIntS.l0 k (pre ++ post) (pre ++ rest) (pre.length : Int)) (pre ++ post) := by
  induction post with
  | nil =>
    intro pre rest hr hl
    obtain rfl : rest = [] := List.eq_nil_of_length_eq_zero hr
    refine Ev.succ ?_
    simp only [laws_toIntS.l0]
    exact Ev.neg (by simp) (Ev.ret _)
  | cons x post ih =>
    intro pre rest hr hl
    obtain ⟨y, rest, rfl⟩ : ∃ y t, rest = y :: t := by cases rest with | nil => simp at hr | cons y t => exact ⟨y, t, rfl⟩
    have h := ih (pre ++ [x]) rest (by simpa using hr) (by simpa using hl)
    simp only [List.length_append, List.length_cons, List.length_nil] at hl hr h
    refine Ev.succ ?_
    simp only [laws_toIntS.l0, List.length_append, List.length_cons]
    refine Ev.pos (by omega) (Ev.pos (by omega) (Ev.pos (by omega) ?_))
    rw [rd_mid, w64 (by omega) (by omega)]
    have e : (pre ++ y :: rest).set ((pre.length : Int)).toNat x = pre ++ [x] ++ rest := by simp
    rw [e]
    simpa using h
theorem toIntS (l : List Int) (h : l.length * 8 ≤ 140737488351232) : Ev (fun k => laws_toIntS.f k l) l := by
  simp only [laws_toIntS.f]
  refine Ev.pos (by omega) (Ev.pos (by omega) ?_)
  have := toIntS_l0 l [] (List.replicate l.length 0) (by simp) (by simp; omega)
  simpa using this

theorem eqIntS_l0 (pa : List Int) : ∀ (pa' pb pb' : List Int), pa'.length = pb'.length → pa.length = pb.length → (pa' ++ pa).length ≤ 140737488351232 → Ev (fun k => laws_eqIntS.l0 k (pa' ++ pa) (pb' ++ pb) (pa'.length : Int)) (decide (pa = pb)) := by
  induction pa with
  | nil =>
    intro pa' pb pb' h1 h2 hl
    obtain rfl : pb = [] := List.eq_nil_of_length_eq_zero h2.symm
    refine Ev.succ ?_
    simp only [laws_eqIntS.l0]
    exact Ev.neg (by simp) (Ev.eq (Ev.ret _) (by simp))
  | cons x pa ih =>
    intro pa' pb pb' h1 h2 hl
    obtain ⟨y, pb, rfl⟩ : ∃ y t, pb = y :: t := by cases pb with | nil => simp at h2 | cons y t => exact ⟨y, t, rfl⟩
    have h := ih (pa' ++ [x]) pb (pb' ++ [y]) (by simpa using h1) (by simpa using h2) (by simpa using hl)
    simp only [List.length_append, List.length_cons, List.length_nil] at hl h2 h
    refine Ev.succ ?_
    simp only [laws_eqIntS.l0, List.length_append, List.length_cons]
    refine Ev.pos (by omega) (Ev.pos (by omega) (Ev.pos (by omega) ?_))
    rw [rd_mid, show (pa'.length : Int) = (pb'.length : Int) by omega, rd_mid]
    by_cases e : x = y
    · subst e
      refine Ev.pos rfl ?_
      rw [w64 (by omega) (by omega)]
      refine Ev.eq (Ev.congr (fun k => ?_) h) (by simp)
      simp [h1]
    · exact Ev.neg e (Ev.eq (Ev.ret _) (by simp [e]))
theorem eqIntS (a b : List Int) (h : a.length ≤ 140737488351232) : Ev (fun k => laws_eqIntS.f k a b) (decide (a = b)) := by
  simp only [laws_eqIntS.f]
  by_cases e : a.length = b.length
  · exact Ev.pos (by omega) (by simpa using eqIntS_l0 a [] b [] rfl e (by simpa using h))
  · exact Ev.neg (by omega) (Ev.eq (Ev.ret _) (by simp only [false_eq_decide_iff]; intro h; exact e (by rw [h])))
theorem eqIntS_self (a : List Int) (h : a.length ≤ 140737488351232) : Ev (fun k => laws_eqIntS.f k a a) true := Ev.eq (eqIntS a a h) (by simp)

def zig (n : Int) : Int := if n < 0 then -2 * n - 1 else 2 * n
/-- Does the list have an encoding, behind this last number? -/
def lbOk : Int → List Int → Bool
  | _, [] => true
  | last, n :: t => if -1073741823 ≤ n ∧ n ≤ 1073741823 ∧ -536870911 ≤ n - last ∧ n - last ≤ 536870911 then lbOk n t else false
theorem lbOk_no {last n : Int} {t : List Int} (h : ¬ (-1073741823 ≤ n ∧ n ≤ 1073741823 ∧ -536870911 ≤ n - last ∧ n - last ≤ 536870911)) : ¬ lbOk last (n :: t) = true := by
  simp only [lbOk]; rw [if_neg h]; simp
def lbs : Int → List Int → List Int
  | _, [] => []
  | last, n :: t => vbytes (zig (n - last)).toNat ++ lbs n t
theorem zig_range {n : Int} (h1 : -536870911 ≤ n) (h2 : n ≤ 536870911) : 0 ≤ zig n ∧ zig n ≤ 1073741822 := by
  unfold zig; split <;> omega
theorem spec_zig {n : Int} (h1 : -536870911 ≤ n) (h2 : n ≤ 536870911) : spec_l10Zig.f n = some (zig n) := by
  unfold spec_l10Zig.f zig
  split
  · rw [w64 (x := -2 * n) (by omega) (by omega), w64 (by omega) (by omega)]
  · rw [w64 (by omega) (by omega)]
theorem lbs_len (t : List Int) : ∀ last, lbOk last t = true → (lbs last t).length ≤ t.length * 1073741823 := by
  induction t with
  | nil => intro last h; simp [lbs]
  | cons n t ih =>
    intro last h
    simp only [lbOk] at h
    split at h
    · rename_i hn
      have h1 := ih n h
      have h2 := vbytes_len (zig (n - last)).toNat
      have h3 := zig_range hn.2.2.1 hn.2.2.2
      simp only [lbs, List.length_append, List.length_cons]
      omega
    · simp at h
theorem spec_list_l0 (post : List Int) : ∀ (pre : List Int) (acc : List Int) (last : Int), lbOk last post = true → (pre ++ post).length ≤ 200 → acc.length + post.length * 1073741823 ≤ 1099511627776 →
    Ev (fun k => spec_l10List.l0 k (strOfNums acc) last (pre ++ post) ((pre ++ post).length : Int) (pre.length : Int)) (strOfNums (acc ++ lbs last post)) := by
  induction post with
  | nil =>
    intro pre acc last ho hl ha
    refine Ev.succ ?_
    simp only [spec_l10List.l0]
    exact Ev.neg (by simp) (Ev.eq (Ev.ret _) (by simp [lbs]))
  | cons n post ih =>
    intro pre acc last ho hl ha
    simp only [lbOk] at ho
    split at ho
    · rename_i hn
      have h3 := zig_range hn.2.2.1 hn.2.2.2
      have h2 := vbytes_len (zig (n - last)).toNat
      simp only [List.length_append, List.length_cons] at hl ha
      have h := ih (pre ++ [n]) (acc ++ vbytes (zig (n - last)).toNat) n ho (by simp only [List.length_append, List.length_cons, List.length_nil]; omega) (by simp only [List.length_append]; omega)
      refine Ev.succ ?_
      simp only [spec_l10List.l0]
      refine Ev.pos (by simp only [List.length_append, List.length_cons]; omega) (Ev.pos (by omega) (Ev.pos (by simp only [List.length_append, List.length_cons]; omega) ?_))
      rw [rd_mid, w64 (x := n - last) (by omega) (by omega)]
      refine Ev.bnd1 (spec_zig hn.2.2.1 hn.2.2.2) ?_
      have e : zig (n - last) = (((zig (n - last)).toNat : Nat) : Int) := by omega
      rw [e]
      refine Ev.bnd (varint_spec_f _ (by omega)) ?_
      refine Ev.pos (by simp only [strOfNums_size]; omega) ?_
      rw [son_append, w64 (by omega) (by omega)]
      simpa [lbs, List.append_assoc] using h
    · simp at ho
theorem spec_list (l : List Int) (ho : lbOk 0 l = true) (hl : l.length ≤ 200) : Ev (fun k => spec_l10List.f k l) (strOfNums (vbytes l.length ++ lbs 0 l)) := by
  simp only [spec_l10List.f]
  refine Ev.bnd (varint_spec_f l.length (by omega)) ?_
  have h2 := vbytes_len l.length
  have := spec_list_l0 l [] (vbytes l.length) 0 ho (by simpa using hl) (by omega)
  simpa using this
theorem spec_lb_l0 (post : List Int) : ∀ (pre : List Int) (last : Int) (x0 : List Int) (r : ByteArray), (∀ x ∈ post, -9223372036854775808 ≤ x ∧ x ≤ 9223372036854775807) → -1073741823 ≤ last ∧ last ≤ 1073741823 → (pre ++ post).length ≤ 200 →
    (lbOk last post = true → Ev (fun k => spec_l10List.f k x0) r) →
    Ev (fun k => spec_ListBytes.l0 k x0 last (pre ++ post) ((pre ++ post).length : Int) (pre.length : Int)) (if lbOk last post = true then (r, true) else ((⟨#[]⟩ : ByteArray), false)) := by
  induction post with
  | nil =>
    intro pre last x0 r hw hl0 hl hr
    refine Ev.succ ?_
    simp only [spec_ListBytes.l0]
    refine Ev.neg (by simp) ?_
    exact Ev.bnd (hr rfl) (Ev.ret _)
  | cons n post ih =>
    intro pre last x0 r hw hl0 hl hr
    have hn := hw n (by simp)
    have hl' := hl
    simp only [List.length_append, List.length_cons] at hl
    refine Ev.succ ?_
    simp only [spec_ListBytes.l0]
    refine Ev.pos (by simp only [List.length_append, List.length_cons]; omega) (Ev.pos (by omega) (Ev.pos (by simp only [List.length_append, List.length_cons]; omega) ?_))
    rw [rd_mid]
    by_cases h1 : -1073741823 ≤ n ∧ n ≤ 1073741823
    · refine Ev.bnd1 (a := true) (by unfold spec_l1In.f; rw [if_pos h1.1, decide_eq_true h1.2]) ?_
      refine Ev.pos rfl ?_
      rw [w64 (x := n - last) (by omega) (by omega)]
      by_cases h2 : -536870911 ≤ n - last ∧ n - last ≤ 536870911
      · refine Ev.bnd1 (a := true) (by unfold spec_l1In.f; rw [if_pos h2.1, decide_eq_true h2.2]) ?_
        refine Ev.pos rfl ?_
        have e : lbOk last (n :: post) = lbOk n post := by simp only [lbOk]; rw [if_pos ⟨h1.1, h1.2, h2.1, h2.2⟩]
        rw [e] at hr ⊢
        have h := ih (pre ++ [n]) n x0 r (fun x hx => hw x (by simp [hx])) h1 (by simpa using hl') hr
        rw [w64 (by omega) (by omega)]
        simpa using h
      · refine Ev.bnd1 (a := false) ?_ ?_
        · unfold spec_l1In.f
          by_cases h3 : n - last ≥ -536870911
          · rw [if_pos h3, decide_eq_false (by omega)]
          · rw [if_neg h3]
        · refine Ev.neg (by simp) (Ev.eq (Ev.ret _) ?_)
          rw [if_neg (lbOk_no (fun h => h2 ⟨h.2.2.1, h.2.2.2⟩))]
    · refine Ev.bnd1 (a := false) ?_ ?_
      · unfold spec_l1In.f
        by_cases h3 : n ≥ -1073741823
        · rw [if_pos h3, decide_eq_false (by omega)]
        · rw [if_neg h3]
      · refine Ev.neg (by simp) (Ev.eq (Ev.ret _) ?_)
        rw [if_neg (lbOk_no (fun h => h1 ⟨h.1, h.2.1⟩))]
/-- What ListBytes answers. -/
def listBytes (l : List Int) : ByteArray × Bool := if l.length ≤ 200 ∧ lbOk 0 l = true then (strOfNums (vbytes l.length ++ lbs 0 l), true) else ((⟨#[]⟩ : ByteArray), false)
theorem spec_ListBytes_ev (l : List Int) (hw : ∀ x ∈ l, -9223372036854775808 ≤ x ∧ x ≤ 9223372036854775807) : Ev (fun k => spec_ListBytes.f k l) (listBytes l) := by
  simp only [spec_ListBytes.f]
  by_cases h : l.length ≤ 200
  · refine Ev.neg (by omega) ?_
    have := spec_lb_l0 l [] 0 l _ hw (by omega) (by simpa using h) (fun ho => spec_list l ho h)
    refine Ev.eq (by simpa using this) ?_
    unfold listBytes
    by_cases ho : lbOk 0 l = true
    · rw [if_pos ho, if_pos ⟨h, ho⟩]
    · rw [if_neg ho, if_neg (fun hh => ho hh.2)]
  · exact Ev.pos (by omega) (Ev.eq (Ev.ret _) (by unfold listBytes; rw [if_neg (fun hh => h hh.1)]))

theorem impl_zig_in {n : Int} (h1 : -536870911 ≤ n) (h2 : n ≤ 536870911) : Ev (fun k => impl_ZigOf.f k n) (zig n, true) := by
  simp only [impl_ZigOf.f]
  refine Ev.neg (by omega) ?_
  rw [decide_eq_false (by omega)]
  refine Ev.succ ?_
  simp only [impl_ZigOf.j0]
  refine Ev.neg (by simp) ?_
  by_cases h : n < 0
  · refine Ev.pos h (Ev.eq (Ev.ret _) ?_)
    unfold zig
    rw [if_pos h, w64 (x := -2 * n) (by omega) (by omega), w64 (by omega) (by omega)]
  · refine Ev.neg h (Ev.eq (Ev.ret _) ?_)
    unfold zig
    rw [if_neg h, w64 (by omega) (by omega)]
theorem impl_zig_out {n : Int} (h : ¬ (-536870911 ≤ n ∧ n ≤ 536870911)) : Ev (fun k => impl_ZigOf.f k n) (0, false) := by
  simp only [impl_ZigOf.f]
  by_cases h1 : n < -536870911
  · refine Ev.pos h1 (Ev.succ ?_)
    simp only [impl_ZigOf.j0]
    exact Ev.pos trivial (Ev.ret _)
  · refine Ev.neg h1 ?_
    rw [decide_eq_true (by omega)]
    refine Ev.succ ?_
    simp only [impl_ZigOf.j0]
    exact Ev.pos trivial (Ev.ret _)
theorem impl_lb_l0 (post : List Int) : ∀ (pre : List Int) (last : Int) (acc : List Int), (∀ x ∈ post, -9223372036854775808 ≤ x ∧ x ≤ 9223372036854775807) → -1073741823 ≤ last ∧ last ≤ 1073741823 → (pre ++ post).length ≤ 200 → acc.length + post.length * 1073741823 ≤ 1099511627776 - 1073741823 →
    Ev (fun k => impl_ListBytes.l0 k acc last (pre ++ post) ((pre ++ post).length : Int) (pre.length : Int)) (if lbOk last post = true then (strOfNums (acc ++ lbs last post), true) else ((⟨#[]⟩ : ByteArray), false)) := by
  induction post with
  | nil =>
    intro pre last acc hw hl0 hl ha
    refine Ev.succ ?_
    simp only [impl_ListBytes.l0]
    exact Ev.neg (by simp) (Ev.eq (Ev.ret _) (by simp [lbs, lbOk]))
  | cons n post ih =>
    intro pre last acc hw hl0 hl ha
    have hn := hw n (by simp)
    have hl' := hl
    simp only [List.length_append, List.length_cons] at hl ha
    refine Ev.succ ?_
    simp only [impl_ListBytes.l0]
    refine Ev.pos (by simp only [List.length_append, List.length_cons]; omega) (Ev.pos (by omega) (Ev.pos (by simp only [List.length_append, List.length_cons]; omega) ?_))
    rw [rd_mid]
    have out : (b : Bool) → b = true → lbOk last (n :: post) = false → Ev (fun k => impl_ListBytes.j1 k acc last n (pre ++ n :: post) ((pre ++ n :: post).length : Int) (pre.length : Int) b) (if lbOk last (n :: post) = true then (strOfNums (acc ++ lbs last (n :: post)), true) else ((⟨#[]⟩ : ByteArray), false)) := by
      intro b hb he
      subst hb
      rw [he]
      refine Ev.succ ?_
      simp only [impl_ListBytes.j1]
      exact Ev.pos trivial (Ev.eq (Ev.ret _) (by simp))
    by_cases h1 : n < -1073741823
    · exact Ev.pos h1 (out true rfl (by simp only [lbOk]; rw [if_neg (by omega)]))
    · refine Ev.neg h1 ?_
      by_cases h2 : n > 1073741823
      · exact out _ (decide_eq_true h2) (by simp only [lbOk]; rw [if_neg (by omega)])
      · rw [decide_eq_false h2]
        refine Ev.succ ?_
        simp only [impl_ListBytes.j1]
        refine Ev.neg (by simp) ?_
        rw [w64 (x := n - last) (by omega) (by omega)]
        by_cases h3 : -536870911 ≤ n - last ∧ n - last ≤ 536870911
        · refine Ev.bnd (impl_zig_in h3.1 h3.2) ?_
          refine Ev.pos rfl ?_
          have hz := zig_range h3.1 h3.2
          have hv := vbytes_len (zig (n - last)).toNat
          have e : zig (n - last) = (((zig (n - last)).toNat : Nat) : Int) := by omega
          have e2 : lbOk last (n :: post) = lbOk n post := by simp only [lbOk]; rw [if_pos ⟨by omega, by omega, h3.1, h3.2⟩]
          have h := ih (pre ++ [n]) n (acc ++ vbytes (zig (n - last)).toNat) (fun x hx => hw x (by simp [hx])) (by omega) (by simpa using hl') (by simp only [List.length_append]; omega)
          simp only
          rw [e]
          refine Ev.bnd (varint_impl_f acc _ (by omega)) ?_
          rw [w64 (by omega) (by omega), e2]
          simpa [lbs] using h
        · refine Ev.bnd (impl_zig_out h3) ?_
          refine Ev.neg (by simp) (Ev.eq (Ev.ret _) ?_)
          rw [if_neg (lbOk_no (fun h => h3 ⟨h.2.2.1, h.2.2.2⟩))]
theorem impl_ListBytes_ev (l : List Int) (hw : ∀ x ∈ l, -9223372036854775808 ≤ x ∧ x ≤ 9223372036854775807) : Ev (fun k => impl_ListBytes.f k l) (listBytes l) := by
  simp only [impl_ListBytes.f]
  by_cases h : l.length ≤ 200
  · refine Ev.neg (by omega) ?_
    refine Ev.bnd (varint_impl_f [] l.length (by simp; omega)) ?_
    have h2 := vbytes_len l.length
    have := impl_lb_l0 l [] 0 (vbytes l.length) hw (by omega) (by simpa using h) (by omega)
    refine Ev.eq (by simpa using this) ?_
    unfold listBytes
    by_cases ho : lbOk 0 l = true
    · rw [if_pos ho, if_pos ⟨h, ho⟩]
    · rw [if_neg ho, if_neg (fun hh => ho hh.2)]
  · exact Ev.pos (by omega) (Ev.eq (Ev.ret _) (by unfold listBytes; rw [if_neg (fun hh => h hh.1)]))

theorem FnExactListBytes : laws_FnExactListBytes.Pure := by
  intro l _ hl hw
  have hw' : ∀ x ∈ l, -9223372036854775808 ≤ x ∧ x ≤ 9223372036854775807 := fun x hx => wf64 (hw x hx)
  refine Ev.all ?_
  simp only [laws_FnExactListBytes.f]
  by_cases g : (l.length : Int) > 1048576
  · exact Ev.pos g (Ev.ret _)
  · refine Ev.neg g ?_
    refine Ev.bnd (toIntS l hl) (Ev.bnd (spec_ListBytes_ev l hw') (Ev.bnd (toIntS l hl) (Ev.bnd (impl_ListBytes_ev l hw') ?_)))
    refine Ev.pos rfl ?_
    refine Ev.succ ?_
    simp only [laws_FnExactListBytes.j0]
    refine Ev.neg (by simp) ?_
    refine Ev.bnd (toIntS l hl) (Ev.bnd (eqIntS_self l (by omega)) (Ev.pos rfl (Ev.ret _)))

end Go.Proofs.Ytgbjmojghcbneaa.Pure
