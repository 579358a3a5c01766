/- The program tells the lengths that the reference tells, no good lengths cost less than those, they are good and use all that there is, for all arguments.
Conditions: none beyond what the row itself says. -/
import Derived.Test.YtmgkflkfoccgkabQFnHuffmanx8
namespace Go.Proofs.Ytmgkflkfoccgkab.Pure
open Go.RowKit Go.Proofs.Ytmgkflkfoccgkab.QFnHuffman Go.Proofs.YtmgkflkfoccgkabW.PrintWords Go.Proofs.YtmgkflkfoccgkabW.PrintLast Go.Proofs.YtmgkflkfoccgkabW.PrintMore
set_option linter.unusedVariables false
set_option linter.unusedSimpArgs false

theorem w64 {x : Int} (h0 : -9223372036854775808 ≤ x) (h1 : x ≤ 9223372036854775807) : wrap64 x = x := by
  unfold wrap64; omega
theorem Ev.succ {α : Type} {g : Nat → Option α} {r : α} (h : Ev (fun k => g (k + 1)) r) : Ev g r := Ev.step (fun _ => rfl) h
theorem Ev.pos {α : Type} {c : Prop} [Decidable c] {a b : Nat → Option α} {r : α} (h : c) (e : Ev (fun k => a k) r) : Ev (fun k => if c then a k else b k) r := Ev.congr (fun _ => if_pos h) e
theorem Ev.neg {α : Type} {c : Prop} [Decidable c] {a b : Nat → Option α} {r : α} (h : ¬ c) (e : Ev (fun k => b k) r) : Ev (fun k => if c then a k else b k) r := Ev.congr (fun _ => if_neg h) e
theorem Ev.bnd {α β : Type} {g : Nat → Option α} {f : Nat → α → Option β} {a : α} {r : β} (h : Ev (fun k => g k) a) (k : Ev (fun n => f n a) r) : Ev (fun n => (g n).bind (fun x => f n x)) r := Ev.bind h k
theorem Ev.bnd1 {α β : Type} {g : Option α} {f : Nat → α → Option β} {a : α} {r : β} (h : g = some a) (k : Ev (fun n => f n a) r) : Ev (fun n => g.bind (fun x => f n x)) r := by
  rw [h]; exact k
theorem Ev.ret {α : Type} (r : α) : Ev (fun _ => some r) r := Ev.now r
theorem Ev.eq {α : Type} {g : Nat → Option α} {r r' : α} (h : Ev g r) (e : r = r') : Ev g r' := e ▸ h
theorem Ev.all {α : Type} {g : Nat → Option α} {r : α} (h : Ev (fun k => g k) r) : ∃ k, g k = some r := h.rounds
theorem rd_mid (pre : List Int) (x : Int) (post : List Int) : rd (pre ++ x :: post) (pre.length : Int) = x := by
  unfold rd; simp
theorem rd_nat (xs : List Int) (i : Nat) (h : i < xs.length) : rd xs (i : Int) = xs[i] := by
  unfold rd; simp [List.getD_eq_getElem?_getD, List.getElem?_eq_getElem h]

theorem spec_in_eq (a lo hi : Int) : spec_l1In.f a lo hi = some (decide (lo ≤ a ∧ a ≤ hi)) := by
  unfold spec_l1In.f
  by_cases h1 : a ≥ lo
  · rw [if_pos h1]
    by_cases h2 : a ≤ hi
    · rw [decide_eq_true h2, decide_eq_true ⟨h1, h2⟩]
    · rw [decide_eq_false h2, decide_eq_false (fun h => h2 h.2)]
  · rw [if_neg h1, decide_eq_false (fun h => h1 h.1)]
def inAll (lo hi : Int) (l : List Int) : Bool := l.all fun x => decide (lo ≤ x ∧ x ≤ hi)
theorem spec_l1All_l0 (lo hi : Int) (post : List Int) : ∀ pre : List Int, (pre ++ post).length ≤ 140737488351232 → Ev (fun k => spec_l1All.l0 k lo hi (pre ++ post) ((pre ++ post).length : Int) (pre.length : Int)) (inAll lo hi post) := by
  induction post with
  | nil =>
    intro pre hl
    refine Ev.succ ?_
    simp only [spec_l1All.l0]
    exact Ev.neg (by simp) (Ev.ret _)
  | cons x post ih =>
    intro pre hl
    have h := ih (pre ++ [x]) (by simpa using hl)
    simp only [List.length_append, List.length_cons] at hl
    refine Ev.succ ?_
    simp only [spec_l1All.l0]
    refine Ev.pos (by simp only [List.length_append, List.length_cons]; omega) (Ev.pos (by omega) (Ev.pos (by simp only [List.length_append, List.length_cons]; omega) ?_))
    rw [rd_mid]
    refine Ev.bnd1 (spec_in_eq _ _ _) ?_
    by_cases hx : lo ≤ x ∧ x ≤ hi
    · rw [decide_eq_true hx]
      refine Ev.pos rfl ?_
      rw [w64 (by omega) (by omega)]
      refine Ev.eq (by simpa using h) ?_
      simp [inAll, hx]
    · rw [decide_eq_false hx]
      exact Ev.neg (by simp) (Ev.eq (Ev.ret _) (by simp only [inAll, List.all_cons, decide_eq_false hx, Bool.false_and]))
theorem spec_l1All_ev (lo hi : Int) (l : List Int) (hl : l.length ≤ 140737488351232) : Ev (fun k => spec_l1All.f k l lo hi) (inAll lo hi l) := by
  simp only [spec_l1All.f]
  simpa using spec_l1All_l0 lo hi l [] (by simpa using hl)
theorem inAll_mem {lo hi : Int} {l : List Int} (h : inAll lo hi l = true) : ∀ x ∈ l, lo ≤ x ∧ x ≤ hi := by
  intro x hx
  unfold inAll at h
  simpa using List.all_eq_true.1 h x hx

theorem anyO_not {α : Type} (f : α → Option Bool) (p : α → Bool) (l : List α) (h : ∀ x ∈ l, f x = some (!p x)) : anyO f l = some (!l.all p) := by
  induction l with
  | nil => rfl
  | cons x t ih =>
    simp only [anyO]
    rw [h x (by simp), Option.bind_some]
    cases hp : p x with
    | true => simp [hp, ih (fun y hy => h y (by simp [hy]))]
    | false => simp [hp]

def within (m : Int) (l : List Int) : Bool := decide (l.length ≤ 12) && inAll 0 m l
theorem impl_aw1 (a m : Int) : impl_areWithin_1.f a m = some (!decide (0 ≤ a ∧ a ≤ m)) := by
  unfold impl_areWithin_1.f
  by_cases h : a < 0
  · rw [if_pos h, decide_eq_false (fun h2 => absurd h2.1 (by omega))]; rfl
  · rw [if_neg h]
    by_cases h2 : a > m
    · rw [decide_eq_true h2, decide_eq_false (fun h3 => absurd h3.2 (by omega))]; rfl
    · rw [decide_eq_false h2, decide_eq_true ⟨by omega, by omega⟩]; rfl
theorem impl_areWithin_eq (l : List Int) (m : Int) : impl_areWithin.f l m = some (within m l) := by
  unfold impl_areWithin.f within
  by_cases h : l.length ≤ 12
  · rw [if_pos (by omega), decide_eq_true h]
    unfold impl_areWithin_1_any.f
    rw [anyO_not _ (fun x => decide (0 ≤ x ∧ x ≤ m)) l (fun x _ => impl_aw1 x m)]
    simp [inAll]
  · rw [if_neg (by omega), decide_eq_false h]; rfl

theorem shr_4096 (n : Int) : 0 ≤ shr .i64 4096 n ∧ shr .i64 4096 n ≤ 4096 := by
  unfold shr
  have h : (0 : Int) ≤ 2 ^ min n.toNat (IntKind.bits .i64) := Int.pow_nonneg (by omega)
  exact ⟨Int.ediv_nonneg (by omega) h, Int.ediv_le_self _ (by omega)⟩
theorem u64_id {n : Int} (h0 : 0 ≤ n) (h1 : n ≤ 9223372036854775807) : IntKind.u64.wrap n = n := by
  simp [IntKind.wrap, IntKind.bits, IntKind.signed]; omega
/-- The sum of 4096 / 2^n over the lengths that are not 0, behind a sum. -/
def kr : Int → List Int → Int
  | s, [] => s
  | s, n :: t => kr (if n > 0 then s + shr .i64 4096 n else s) t
theorem spec_kraft_l0 (post : List Int) : ∀ (pre : List Int) (s : Int), 0 ≤ s → s + post.length * 4096 ≤ 1000000000000 → inAll 0 12 post = true → (pre ++ post).length ≤ 140737488351232 → Ev (fun k => spec_l11Kraft.l0 k s (pre ++ post) ((pre ++ post).length : Int) (pre.length : Int)) (kr s post) := by
  induction post with
  | nil =>
    intro pre s h0 h1 hp hl
    refine Ev.succ ?_
    simp only [spec_l11Kraft.l0]
    exact Ev.neg (by simp) (Ev.ret _)
  | cons n post ih =>
    intro pre s h0 h1 hp hl
    have hn := inAll_mem hp n (by simp)
    have hp' : inAll 0 12 post = true := by simp only [inAll, List.all_cons, Bool.and_eq_true] at hp; exact hp.2
    have hl' : (pre ++ [n] ++ post).length ≤ 140737488351232 := by simpa using hl
    simp only [List.length_append, List.length_cons] at hl h1
    have hs := shr_4096 n
    refine Ev.succ ?_
    simp only [spec_l11Kraft.l0]
    refine Ev.pos (by simp only [List.length_append, List.length_cons]; omega) (Ev.pos (by omega) (Ev.pos (by simp only [List.length_append, List.length_cons]; omega) ?_))
    rw [w64 (x := (pre.length : Int) + 1) (by omega) (by omega)]
    by_cases g : n > 0
    · refine Ev.pos (by rw [rd_mid]; exact g) ?_
      rw [rd_mid, u64_id (by omega) (by omega)]
      refine Ev.pos (by omega) ?_
      rw [w64 (x := s + shr .i64 4096 n) (by omega) (by omega)]
      have h := ih (pre ++ [n]) (s + shr .i64 4096 n) (by omega) (by omega) hp' hl'
      simp only [kr, if_pos g]
      simpa using h
    · refine Ev.neg (by rw [rd_mid]; exact g) ?_
      have h := ih (pre ++ [n]) s (by omega) (by omega) hp' hl'
      simp only [kr, if_neg g]
      simpa using h
theorem within_facts {m : Int} {l : List Int} (h : within m l = true) : l.length ≤ 12 ∧ inAll 0 m l = true := by
  simpa [within] using h
theorem spec_kraft (l : List Int) (h : within 12 l = true) : Ev (fun k => spec_l11Kraft.f k l) (kr 0 l) := by
  obtain ⟨h1, h2⟩ := within_facts h
  simp only [spec_l11Kraft.f]
  simpa using spec_kraft_l0 l [] 0 (by omega) (by omega) h2 (by simp; omega)
theorem spec_lengths (l : List Int) (hl : l.length ≤ 140737488351232) : Ev (fun k => spec_l11Lengths.f k l) (within 12 l) := by
  simp only [spec_l11Lengths.f]
  by_cases h : l.length ≤ 12
  · exact Ev.pos (by omega) (Ev.bnd (spec_l1All_ev 0 12 l hl) (Ev.eq (Ev.ret _) (by simp [within, h])))
  · exact Ev.neg (by omega) (Ev.eq (Ev.ret _) (by simp [within, h]))

theorem impl_kraft_l0 (post : List Int) : ∀ (pre : List Int) (s : Int), 0 ≤ s → s + post.length * 4096 ≤ 1000000000000 → inAll 0 12 post = true → (pre ++ post).length ≤ 140737488351232 → Ev (fun k => impl_KraftOf.l0 k s (pre ++ post) ((pre ++ post).length : Int) (pre.length : Int)) (kr s post, true) := by
  induction post with
  | nil =>
    intro pre s h0 h1 hp hl
    refine Ev.succ ?_
    simp only [impl_KraftOf.l0]
    exact Ev.neg (by simp) (Ev.ret _)
  | cons n post ih =>
    intro pre s h0 h1 hp hl
    have hn := inAll_mem hp n (by simp)
    have hp' : inAll 0 12 post = true := by simp only [inAll, List.all_cons, Bool.and_eq_true] at hp; exact hp.2
    have hl' : (pre ++ [n] ++ post).length ≤ 140737488351232 := by simpa using hl
    simp only [List.length_append, List.length_cons] at hl h1
    have hs := shr_4096 n
    refine Ev.succ ?_
    simp only [impl_KraftOf.l0]
    refine Ev.pos (by simp only [List.length_append, List.length_cons]; omega) (Ev.pos (by omega) (Ev.pos (by simp only [List.length_append, List.length_cons]; omega) ?_))
    rw [w64 (x := (pre.length : Int) + 1) (by omega) (by omega)]
    by_cases g : n > 0
    · refine Ev.pos (by rw [rd_mid]; exact g) ?_
      rw [rd_mid]
      refine Ev.pos (by omega) ?_
      rw [w64 (x := s + shr .i64 4096 n) (by omega) (by omega)]
      have h := ih (pre ++ [n]) (s + shr .i64 4096 n) (by omega) (by omega) hp' hl'
      simp only [kr, if_pos g]
      simpa using h
    · refine Ev.neg (by rw [rd_mid]; exact g) ?_
      have h := ih (pre ++ [n]) s (by omega) (by omega) hp' hl'
      simp only [kr, if_neg g]
      simpa using h
def kraftOf (l : List Int) : Int × Bool := if within 12 l = true then (kr 0 l, true) else (0, false)
theorem impl_KraftOf_ev (l : List Int) : Ev (fun k => impl_KraftOf.f k l) (kraftOf l) := by
  simp only [impl_KraftOf.f, impl_areWithin_eq, Option.bind_some, kraftOf]
  by_cases h : within 12 l = true
  · rw [if_pos h]
    obtain ⟨h1, h2⟩ := within_facts h
    exact Ev.pos h (by simpa using impl_kraft_l0 l [] 0 (by omega) (by omega) h2 (by simp; omega))
  · rw [if_neg h]
    exact Ev.neg h (Ev.ret _)

def goodLengths (l : List Int) : Bool := within 12 l && decide (kr 0 l ≤ 4096)
theorem spec_GoodLengths_ev (l : List Int) (hl : l.length ≤ 140737488351232) : Ev (fun k => spec_GoodLengths.f k l) (goodLengths l) := by
  simp only [spec_GoodLengths.f, goodLengths]
  refine Ev.bnd (spec_lengths l hl) ?_
  by_cases h : within 12 l = true
  · exact Ev.pos h (Ev.bnd (spec_kraft l h) (Ev.eq (Ev.ret _) (by rw [h]; rfl)))
  · exact Ev.neg h (Ev.eq (Ev.ret _) (by simp [h]))
theorem impl_GoodLengths_ev (l : List Int) : Ev (fun k => impl_GoodLengths.f k l) (goodLengths l) := by
  simp only [impl_GoodLengths.f, goodLengths]
  refine Ev.bnd (impl_KraftOf_ev l) ?_
  unfold kraftOf
  by_cases h : within 12 l = true
  · rw [if_pos h]
    exact Ev.pos rfl (Ev.eq (Ev.ret _) (by rw [h]; rfl))
  · rw [if_neg h]
    exact Ev.neg (by simp) (Ev.eq (Ev.ret _) (by simp [h]))

/-! Rows in strictly increasing order. -/
def asc (l : List Int) : Prop := l.Pairwise (· < ·)
theorem asc_ins (pre post : List Int) (v : Int) (h : asc (pre ++ post)) (h1 : ∀ x ∈ pre, x < v) (h2 : ∀ x ∈ post, v < x) : asc (pre ++ v :: post) := by
  unfold asc at h ⊢
  rw [List.pairwise_append] at h ⊢
  refine ⟨h.1, List.pairwise_cons.2 ⟨h2, h.2.1⟩, fun a ha b hb => ?_⟩
  rcases List.mem_cons.1 hb with rfl | hb
  · exact h1 a ha
  · exact h.2.2 a ha b hb
theorem put_l0 (v : Int) (post : List Int) : ∀ (pre : List Int), (pre ++ post).length ≤ 2097152 → asc (pre ++ post) → (∀ x ∈ pre, x < v) →
    ∃ r, Ev (fun k => spec_l1Put.l0 k (pre ++ post) v (pre.length : Int)) r ∧ asc r ∧ (∀ y, y ∈ r ↔ y = v ∨ y ∈ pre ++ post) ∧ r.length ≤ (pre ++ post).length + 1 := by
  induction post with
  | nil =>
    intro pre hl ha hp
    simp only [List.length_append, List.length_nil] at hl
    refine ⟨([] ++ (pre ++ []).take ((pre.length : Int)).toNat ++ [v]) ++ (pre ++ []).drop ((pre.length : Int)).toNat, Ev.succ ?_, ?_, fun y => by simp [or_comm], by simp⟩
    · simp only [spec_l1Put.l0]
      exact Ev.neg (by simp) (Ev.bnd1 rfl (Ev.pos (by omega) (Ev.pos (by simp) (Ev.bnd1 rfl (Ev.pos (by simp; omega) (Ev.bnd1 rfl (Ev.pos (by simp; omega) (Ev.bnd1 rfl (Ev.bnd1 rfl (Ev.pos (by simp; omega) (Ev.ret _)))))))))))
    · have := asc_ins pre [] v ha hp (by simp)
      simpa using this
  | cons x post ih =>
    intro pre hl ha hp
    have hl' := hl
    simp only [List.length_append, List.length_cons] at hl
    have e0 : wrap64 ((pre.length : Int) + 1) = (pre.length : Int) + 1 := w64 (by omega) (by omega)
    by_cases g : x < v
    · obtain ⟨r, h1, h2, h3, h4⟩ := ih (pre ++ [x]) (by simpa using hl') (by simpa using ha) (fun y hy => by
        rcases List.mem_append.1 hy with hy | hy
        · exact hp y hy
        · rw [List.mem_singleton.1 hy]; exact g)
      refine ⟨r, Ev.succ ?_, h2, fun y => by rw [h3]; simp, by simpa using h4⟩
      simp only [spec_l1Put.l0]
      refine Ev.pos (by simp only [List.length_append, List.length_cons]; omega) (Ev.pos (by omega) ?_)
      rw [rd_mid, e0]
      exact Ev.pos g (by simpa using h1)
    · by_cases g2 : x = v
      · refine ⟨pre ++ x :: post, Ev.succ ?_, ha, fun y => ⟨fun h => .inr h, fun h => ?_⟩, by omega⟩
        · simp only [spec_l1Put.l0]
          refine Ev.pos (by simp only [List.length_append, List.length_cons]; omega) (Ev.pos (by omega) ?_)
          rw [rd_mid]
          exact Ev.neg g (Ev.pos g2 (Ev.ret _))
        · rcases h with rfl | h
          · simp [g2]
          · exact h
      · refine ⟨([] ++ (pre ++ x :: post).take ((pre.length : Int)).toNat ++ [v]) ++ (pre ++ x :: post).drop ((pre.length : Int)).toNat, Ev.succ ?_, ?_, fun y => ?_, by simp; omega⟩
        · simp only [spec_l1Put.l0]
          refine Ev.pos (by simp only [List.length_append, List.length_cons]; omega) (Ev.pos (by omega) ?_)
          rw [rd_mid]
          exact Ev.neg g (Ev.neg g2 (Ev.bnd1 rfl (Ev.pos (by simp only [List.length_append, List.length_cons]; omega) (Ev.bnd1 rfl (Ev.pos (by simp; omega) (Ev.bnd1 rfl (Ev.pos (by simp; omega) (Ev.bnd1 rfl (Ev.bnd1 rfl (Ev.pos (by simp; omega) (Ev.ret _)))))))))))
        · have hpost : ∀ y ∈ x :: post, v < y := fun y hy => by
            rcases List.mem_cons.1 hy with rfl | hy
            · omega
            · unfold asc at ha
              rw [List.pairwise_append] at ha
              have := (List.pairwise_cons.1 ha.2.1).1 y hy
              omega
          have := asc_ins pre (x :: post) v ha hp hpost
          simpa using this
        · simp only [Int.toNat_natCast, List.nil_append, List.take_left', List.drop_left', List.mem_append, List.mem_cons, List.not_mem_nil, or_false]
          constructor
          · rintro ((h | h) | h | h)
            · exact .inr (.inl h)
            · exact .inl h
            · exact .inr (.inr (.inl h))
            · exact .inr (.inr (.inr h))
          · rintro (h | h | h | h)
            · exact .inl (.inr h)
            · exact .inl (.inl h)
            · exact .inr (.inl h)
            · exact .inr (.inr h)
theorem put_ev (l : List Int) (v : Int) (hl : l.length ≤ 2097152) (ha : asc l) : ∃ r, Ev (fun k => spec_l1Put.f k l v) r ∧ asc r ∧ (∀ y, y ∈ r ↔ y = v ∨ y ∈ l) ∧ r.length ≤ l.length + 1 := by
  obtain ⟨r, h1, h2, h3, h4⟩ := put_l0 v l [] (by simpa using hl) (by simpa using ha) (by simp)
  refine ⟨r, ?_, h2, by simpa using h3, by simpa using h4⟩
  simp only [spec_l1Put.f]
  simpa using h1

/-! The cursor's draws: they answer, and within what bounds. -/
theorem and255 (x : Int) : 0 ≤ Go.bits .and .u64 x 255 ∧ Go.bits .and .u64 x 255 ≤ 255 := by
  simp only [Go.bits, BitVec.toNat_and]
  have h := Nat.and_le_right (n := (BitVec.ofInt IntKind.u64.bits x).toNat) (m := (BitVec.ofInt IntKind.u64.bits 255).toNat)
  have h2 : (BitVec.ofInt IntKind.u64.bits 255).toNat = 255 := by decide
  rw [h2] at h ⊢
  generalize (BitVec.ofInt IntKind.u64.bits x).toNat &&& 255 = y at h
  rw [IntWalk.u64_in _ (by omega)]
  omega
theorem rd_range (l : List Int) (hl : ∀ x ∈ l, 0 ≤ x ∧ x ≤ 255) (i : Int) : 0 ≤ rd l i ∧ rd l i ≤ 255 := by
  unfold rd
  rw [List.getD_eq_getElem?_getD]
  cases h : l[i.toNat]? with
  | none => simp
  | some x => exact hl x (List.mem_of_getElem? h)
theorem next_ok (l : List Int) (hl : ∀ x ∈ l, 0 ≤ x ∧ x ≤ 255) (a sd : Int) (h0 : 0 ≤ a) (h1 : a ≤ 4611686018427387904) : ∃ b sd', spec_l1Cur_next.f l a sd = some (b, a + 1, sd') ∧ 0 ≤ b ∧ b ≤ 255 := by
  have hw : wrap64 (a + 1) = a + 1 := w64 (by omega) (by omega)
  have hr := rd_range l hl a
  have hrw : wrap64 (rd l a) = rd l a := w64 (by omega) (by omega)
  unfold spec_l1Cur_next.f
  rw [hw, hrw]
  by_cases g : a < (l.length : Int)
  · rw [if_pos g, if_pos h0]
    by_cases g2 : a + 1 ≤ (l.length : Int)
    · rw [if_pos g2]; exact ⟨_, _, rfl, hr.1, hr.2⟩
    · rw [if_neg g2]
      refine ⟨_, _, rfl, ?_⟩
      have := and255 ((IntKind.u64.wrap ((IntKind.u64.wrap ((IntKind.u64.wrap (sd * 6364136223846793005)) + (IntKind.u64.wrap (rd l a)))) + 1442695040888963407)) / 1099511627776)
      rw [w64 (by omega) (by omega)]
      exact this
  · rw [if_neg g]
    by_cases g2 : a + 1 ≤ (l.length : Int)
    · rw [if_pos g2]; exact ⟨_, _, rfl, by omega, by omega⟩
    · rw [if_neg g2]
      refine ⟨_, _, rfl, ?_⟩
      generalize (IntKind.u64.wrap ((IntKind.u64.wrap (IntKind.u64.wrap (sd * 6364136223846793005))) + 1442695040888963407)) / 1099511627776 = z
      have := and255 z
      rw [w64 (by omega) (by omega)]
      exact this
theorem pick_ok (l : List Int) (hl : ∀ x ∈ l, 0 ≤ x ∧ x ≤ 255) (a sd n : Int) (h0 : 0 ≤ a) (h1 : a ≤ 4611686018427387000) (hn : n ≤ 1000000000) : ∃ p a' sd', spec_l1Cur_pick.f l a sd n = some (p, a', sd') ∧ 0 ≤ p ∧ (1 ≤ n → p < n) ∧ a ≤ a' ∧ a' ≤ a + 2 := by
  unfold spec_l1Cur_pick.f
  by_cases g : n ≤ 1
  · rw [if_pos g]; exact ⟨0, a, sd, rfl, by omega, by omega, by omega, by omega⟩
  · rw [if_neg g]
    obtain ⟨b, s1, e1, hb0, hb1⟩ := next_ok l hl a sd h0 (by omega)
    rw [e1]
    simp only [Option.bind_some]
    by_cases g2 : n > 200
    · rw [if_pos g2]
      obtain ⟨c, s2, e2, hc0, hc1⟩ := next_ok l hl (a + 1) s1 (by omega) (by omega)
      rw [e2]
      simp only [Option.bind_some]
      rw [if_neg (show ¬ n = 0 by omega), w64 (x := b * 256) (by omega) (by omega), w64 (x := b * 256 + c) (by omega) (by omega)]
      exact ⟨_, _, _, rfl, Int.tmod_nonneg _ (by omega), fun _ => Int.tmod_lt_of_pos _ (by omega), by omega, by omega⟩
    · rw [if_neg g2, if_neg (show ¬ n = 0 by omega)]
      exact ⟨_, _, _, rfl, Int.tmod_nonneg _ (by omega), fun _ => Int.tmod_lt_of_pos _ (by omega), by omega, by omega⟩
theorem one_ok (l : List Int) (hl : ∀ x ∈ l, 0 ≤ x ∧ x ≤ 255) (a sd n : Int) (h0 : 0 ≤ a) (h1 : a ≤ 4611686018427387000) (hn : n ≤ 1000000000) : ∃ b a' sd', spec_l1Cur_one.f l a sd n = some (b, a', sd') ∧ a ≤ a' ∧ a' ≤ a + 2 := by
  obtain ⟨p, a1, s1, e1, hp0, hp1, ha1, ha2⟩ := pick_ok l hl a sd n h0 h1 hn
  exact ⟨_, a1, s1, by unfold spec_l1Cur_one.f; rw [e1]; rfl, ha1, ha2⟩

/-! The reference's LengthsOf ends and gives as many lengths as there are counts. -/
theorem less_ok (a : Int) (x : List Int) (b : Int) (y : List Int) (hx : x ≠ []) (hy : y ≠ []) : ∃ c, spec_l11Less.f a x b y = some c := by
  have h1 : 0 < (x.length : Int) := by have := List.length_pos_iff.2 hx; omega
  have h2 : 0 < (y.length : Int) := by have := List.length_pos_iff.2 hy; omega
  unfold spec_l11Less.f
  split
  · exact ⟨_, rfl⟩
  · split
    · (try rw [if_pos h1, if_pos h2]); exact ⟨_, rfl⟩
    · exact ⟨_, rfl⟩
/-- Groups as they come about: none is empty, their symbols are below n, and there are at most n of all. -/
def Gs (n : Nat) (l : List S78) : Prop := ∀ x ∈ l, x.f1 ≠ [] ∧ asc x.f1 ∧ ∀ i ∈ x.f1, 0 ≤ i ∧ i < (n : Int)
theorem Gs_rd {n : Nat} {l : List S78} (h : Gs n l) (i : Nat) (hi : i < l.length) : rd_T78 l (i : Int) ∈ l := by
  unfold rd_T78
  rw [Int.toNat_natCast, List.getD_eq_getElem?_getD, List.getElem?_eq_getElem hi]
  exact List.getElem_mem hi
theorem lbest_ok {n : Nat} {l : List S78} (h : Gs n l) (m : Nat) : ∀ j b : Nat, j + m = l.length → b < l.length → ∃ b', lbest l m j b = some b' ∧ b' < l.length := by
  induction m with
  | zero => intro j b _ hb; exact ⟨b, rfl, hb⟩
  | succ m ih =>
    intro j b hj hb
    obtain ⟨c, hc⟩ := less_ok (rd_T78 l (j : Int)).f0 (rd_T78 l (j : Int)).f1 (rd_T78 l (b : Int)).f0 (rd_T78 l (b : Int)).f1 (h _ (Gs_rd h j (by omega))).1 (h _ (Gs_rd h b hb)).1
    simp only [lbest]
    rw [hc, Option.bind_some]
    exact ih (j + 1) _ (by omega) (by split <;> omega)
theorem least_ok {n : Nat} {l : List S78} (h : Gs n l) (h0 : 0 < l.length) (hl : l.length ≤ 1000) : ∃ a, spec_l11Least.f l = some a ∧ Gs n (a.1 :: a.2) ∧ a.2.length + 1 = l.length := by
  unfold spec_l11Least.f
  rw [if_pos ⟨by omega, h0⟩]
  obtain ⟨b, hb, hbl⟩ := lbest_ok h l.length 0 0 (by omega) h0
  rw [hb, Option.bind_some]
  refine ⟨_, rfl, fun x hx => ?_, by simp only [List.length_append, List.length_take, List.length_drop]; omega⟩
  rcases List.mem_cons.1 hx with hx | hx
  · rw [hx]; exact h _ (Gs_rd h b hbl)
  · rcases List.mem_append.1 hx with hx | hx
    · exact h _ (List.mem_of_mem_take hx)
    · exact h _ (List.mem_of_mem_drop hx)
theorem lincs_ok (n : Nat) (x : List Int) : ∀ o : List Int, o.length = n → (∀ i ∈ x, 0 ≤ i ∧ i < (n : Int)) → ∃ o', lincs o x = some o' ∧ o'.length = n := by
  induction x with
  | nil => intro o ho _; exact ⟨o, rfl, ho⟩
  | cons i t ih =>
    intro o ho hx
    have hi := hx i (List.mem_cons_self)
    simp only [lincs]
    rw [if_pos ⟨hi.1, by omega⟩]
    exact ih _ (by rw [List.length_set]; exact ho) (fun j hj => hx j (List.mem_cons_of_mem _ hj))
theorem lgrp_ok (n : Nat) (l : List Int) : ∀ (j : Nat) (acc : List S78), j + l.length = n → acc.length ≤ j → Gs n acc → Gs n (lgrp l j acc) ∧ (lgrp l j acc).length ≤ n := by
  induction l with
  | nil => intro j acc hj ha h; exact ⟨h, by simp only [lgrp]; simp at hj; omega⟩
  | cons c t ih =>
    intro j acc hj ha h
    simp only [List.length_cons] at hj
    simp only [lgrp]
    split
    · refine ih (j + 1) _ (by omega) (by rw [List.length_append, List.length_singleton]; omega) (fun x hx => ?_)
      rcases List.mem_append.1 hx with hx | hx
      · exact h x hx
      · rw [List.mem_singleton] at hx
        rw [hx]
        exact ⟨by simp, List.pairwise_singleton _ _, fun i hi => by rw [List.mem_singleton] at hi; rw [hi]; omega⟩
    · exact ih (j + 1) acc (by omega) (by omega) h
theorem asc_len (n : Int) (l : List Int) : ∀ lo : Int, lo ≤ n → asc l → (∀ i ∈ l, lo ≤ i ∧ i < n) → (l.length : Int) ≤ n - lo := by
  induction l with
  | nil => intro lo h _ _; simp; omega
  | cons x t ih =>
    intro lo hlo ha h
    have hx := h x List.mem_cons_self
    unfold asc at ha
    rw [List.pairwise_cons] at ha
    have := ih (x + 1) (by omega) ha.2 (fun i hi => ⟨by have := ha.1 i hi; omega, (h i (List.mem_cons_of_mem _ hi)).2⟩)
    simp only [List.length_cons]
    omega
def okRow (n : Nat) (x : List Int) : Prop := x ≠ [] ∧ asc x ∧ ∀ i ∈ x, 0 ≤ i ∧ i < (n : Int)
theorem okRow_len {n : Nat} {x : List Int} (h : okRow n x) : x.length ≤ n := by
  have := asc_len (n : Int) x 0 (by omega) h.2.1 h.2.2
  omega
theorem lputs_ev (n : Nat) (hn : n ≤ 12) (t : List Int) : ∀ x : List Int, okRow n x → (∀ i ∈ t, 0 ≤ i ∧ i < (n : Int)) → ∃ r, Ev (fun k => lputs k x t) r ∧ okRow n r := by
  induction t with
  | nil => intro x hx _; exact ⟨x, Ev.ret _, hx⟩
  | cons i t ih =>
    intro x hx ht
    have hl := okRow_len hx
    obtain ⟨y, ey, ha, hm, _⟩ := put_ev x i (by omega) hx.2.1
    have hi := ht i List.mem_cons_self
    have hy : okRow n y := by
      refine ⟨fun e => ?_, ha, fun j hj => ?_⟩
      · have h2 := (hm i).2 (Or.inl rfl)
        rw [e] at h2
        cases h2
      · rcases (hm j).1 hj with q | q
        · rw [q]; exact hi
        · exact hx.2.2 j q
    obtain ⟨r, er, hr⟩ := ih y hy (fun j hj => ht j (List.mem_cons_of_mem _ hj))
    refine ⟨r, ?_, hr⟩
    simp only [lputs]
    exact Ev.bnd ey er
theorem lrun_ev (n : Nat) (hn : n ≤ 12) (c : Nat) : ∀ (gs : List S78) (out : List Int), gs.length ≤ c → c ≤ 1000 → Gs n gs → out.length = n → ∃ r, r.length = n ∧ ∃ K, ∀ k, K ≤ k → ∀ m, c + 1 ≤ m → lrun k m gs out = some r := by
  induction c with
  | zero =>
    intro gs out hc _ _ ho
    refine ⟨out, ho, 0, fun k _ m hm => ?_⟩
    obtain ⟨m, rfl⟩ : ∃ q, m = q + 1 := ⟨m - 1, by omega⟩
    simp only [lrun]
    rw [if_neg (by omega)]
  | succ c ih =>
    intro gs out hc hc2 hg ho
    by_cases h1 : 1 < gs.length
    · obtain ⟨a, ea, ga, la⟩ := least_ok hg (by omega) (by omega)
      obtain ⟨b, eb, gb, lb⟩ := least_ok (fun x hx => ga x (List.mem_cons_of_mem _ hx)) (by omega) (by omega)
      have hax := ga a.1 List.mem_cons_self
      have hbx := gb b.1 List.mem_cons_self
      have hbl := okRow_len (n := n) (x := b.1.f1) hbx
      obtain ⟨x, ⟨K1, ex⟩, hx⟩ := lputs_ev n hn b.1.f1 a.1.f1 hax hbx.2.2
      have hxl := okRow_len hx
      obtain ⟨o', eo, ho'⟩ := lincs_ok n x out ho hx.2.2
      obtain ⟨r, hr, K2, er⟩ := ih (b.2 ++ [(⟨wrap64 (a.1.f0 + b.1.f0), x⟩ : S78)]) o' (by rw [List.length_append, List.length_singleton]; omega) (by omega) (fun y hy => by
        rcases List.mem_append.1 hy with hy | hy
        · exact gb y (List.mem_cons_of_mem _ hy)
        · rw [List.mem_singleton] at hy; rw [hy]; exact hx) ho'
      refine ⟨r, hr, K1 + K2, fun k hk m hm => ?_⟩
      obtain ⟨m, rfl⟩ : ∃ q, m = q + 1 := ⟨m - 1, by omega⟩
      simp only [lrun]
      rw [if_pos h1, ea, Option.bind_some, eb, Option.bind_some, if_pos ⟨by omega, by omega⟩, show lputs k a.1.f1 b.1.f1 = some x from ex k (by omega), Option.bind_some, if_pos (by omega), eo, Option.bind_some]
      exact er k (by omega) m (by omega)
    · refine ⟨out, ho, 0, fun k _ m hm => ?_⟩
      obtain ⟨m, rfl⟩ : ∃ q, m = q + 1 := ⟨m - 1, by omega⟩
      simp only [lrun]
      rw [if_neg h1]
theorem counts_ev (l : List Int) (hl : l.length ≤ 140737488351232) : Ev (fun k => spec_l11Counts.f k l) (within 1000 l) := by
  simp only [spec_l11Counts.f]
  by_cases h : l.length ≤ 12
  · exact Ev.pos (by omega) (Ev.bnd (spec_l1All_ev 0 1000 l hl) (Ev.eq (Ev.ret _) (by simp [within, h])))
  · exact Ev.neg (by omega) (Ev.eq (Ev.ret _) (by simp [within, h]))
theorem lengthsOf_ev (l : List Int) (hl : l.length ≤ 140737488351232) : ∃ r : List Int × Bool, Ev (fun k => spec_LengthsOf.f k l) r ∧ r.1.length ≤ 12 ∧ r.1.length ≤ l.length := by
  by_cases g : within 1000 l = true
  · have h12 := (within_facts g).1
    obtain ⟨hg, hgl⟩ := lgrp_ok l.length l 0 [] (by simp) (by simp) (fun x hx => by cases hx)
    have h1 : ∃ o, Go.Proofs.Ytmgkflkfoccgkab.QFnHuffman.lone (lgrp l 0 []) (List.replicate l.length 0) = some o ∧ o.length = l.length := by
      unfold Go.Proofs.Ytmgkflkfoccgkab.QFnHuffman.lone
      by_cases g1 : (lgrp l 0 []).length = 1
      · rw [if_pos g1]
        have hm : (rd_T78 (lgrp l 0 []) 0).f1 ≠ [] ∧ asc (rd_T78 (lgrp l 0 []) 0).f1 ∧ ∀ i ∈ (rd_T78 (lgrp l 0 []) 0).f1, 0 ≤ i ∧ i < (l.length : Int) := hg _ (Gs_rd hg 0 (by omega))
        generalize (rd_T78 (lgrp l 0 []) 0).f1 = x at hm ⊢
        cases x with
        | nil => exact absurd rfl hm.1
        | cons y t =>
          have hy := hm.2.2 y List.mem_cons_self
          rw [show rd (y :: t) 0 = y from rfl, if_pos ⟨by simp, hy.1, by simp; omega⟩]
          exact ⟨_, rfl, by simp⟩
      · rw [if_neg g1]
        exact ⟨_, rfl, by simp⟩
    obtain ⟨o, eo, ho⟩ := h1
    obtain ⟨r, hr, K, er⟩ := lrun_ev l.length h12 12 (lgrp l 0 []) o (by omega) (by omega) hg ho
    refine ⟨(r, true), ?_, by simp only; omega, by simp only; omega⟩
    simp only [spec_LengthsOf.f]
    refine Ev.bnd (counts_ev l hl) (Ev.pos g (Ev.pos h12 (Ev.bnd1 eo ⟨K + 13, fun k hk => ?_⟩)))
    dsimp only
    rw [er k (by omega) k (by omega)]; rfl
  · refine ⟨([], false), ?_, by simp, by simp⟩
    simp only [spec_LengthsOf.f]
    exact Ev.bnd (counts_ev l hl) (Ev.neg g (Ev.ret _))

theorem lengths_core (l : List Int) (g : within 1000 l = true) : ∃ o r, Go.Proofs.Ytmgkflkfoccgkab.QFnHuffman.lone (lgrp l 0 []) (List.replicate l.length 0) = some o ∧ r.length = l.length ∧ Ev (fun k => lrun k k (lgrp l 0 []) o) r := by
  have h12 := (within_facts g).1
  obtain ⟨hg, hgl⟩ := lgrp_ok l.length l 0 [] (by simp) (by simp) (fun x hx => by cases hx)
  have h1 : ∃ o, Go.Proofs.Ytmgkflkfoccgkab.QFnHuffman.lone (lgrp l 0 []) (List.replicate l.length 0) = some o ∧ o.length = l.length := by
    unfold Go.Proofs.Ytmgkflkfoccgkab.QFnHuffman.lone
    by_cases g1 : (lgrp l 0 []).length = 1
    · rw [if_pos g1]
      have hm : (rd_T78 (lgrp l 0 []) 0).f1 ≠ [] ∧ asc (rd_T78 (lgrp l 0 []) 0).f1 ∧ ∀ i ∈ (rd_T78 (lgrp l 0 []) 0).f1, 0 ≤ i ∧ i < (l.length : Int) := hg _ (Gs_rd hg 0 (by omega))
      generalize (rd_T78 (lgrp l 0 []) 0).f1 = x at hm ⊢
      cases x with
      | nil => exact absurd rfl hm.1
      | cons y t =>
        have hy := hm.2.2 y List.mem_cons_self
        rw [show rd (y :: t) 0 = y from rfl, if_pos ⟨by simp, hy.1, by simp; omega⟩]
        exact ⟨_, rfl, by simp⟩
    · rw [if_neg g1]
      exact ⟨_, rfl, by simp⟩
  obtain ⟨o, eo, ho⟩ := h1
  obtain ⟨r, hr, K, er⟩ := lrun_ev l.length h12 12 (lgrp l 0 []) o (by omega) (by omega) hg ho
  exact ⟨o, r, eo, hr, K + 13, fun k hk => er k (by omega) k (by omega)⟩
/-! No lengths cost less than pairing the two least. -/
def wcost (P : List (Int × Nat)) : Int := (P.map (fun p => p.1 * (p.2 : Int))).sum
def kcost (P : List (Int × Nat)) : Nat := (P.map (fun p => 2 ^ (12 - p.2))).sum
theorem wcost_cons (p : Int × Nat) (P : List (Int × Nat)) : wcost (p :: P) = p.1 * (p.2 : Int) + wcost P := by unfold wcost; rw [List.map_cons, List.sum_cons]
theorem kcost_cons (p : Int × Nat) (P : List (Int × Nat)) : kcost (p :: P) = 2 ^ (12 - p.2) + kcost P := by unfold kcost; rw [List.map_cons, List.sum_cons]
theorem swap_le (a w l x : Int) (h1 : a ≤ w) (h2 : x ≤ l) : a * l + w * x ≤ a * x + w * l := by
  have h := Int.mul_nonneg (show 0 ≤ w - a by omega) (show 0 ≤ l - x by omega)
  rw [Int.sub_mul, Int.mul_sub, Int.mul_sub] at h
  omega
theorem sink (a b : Int) (R : List (Int × Nat)) : ∀ x y : Nat, x ≤ 12 → y ≤ 12 → (∀ p ∈ R, p.2 ≤ 12 ∧ a ≤ p.1 ∧ b ≤ p.1) → ∃ (x' y' : Nat) (R' : List (Int × Nat)), R'.map (·.1) = R.map (·.1) ∧ x' ≤ 12 ∧ y' ≤ 12 ∧ (∀ p ∈ R', p.2 ≤ 12 ∧ p.2 ≤ x' ∧ p.2 ≤ y') ∧ 2 ^ (12 - x') + (2 ^ (12 - y') + kcost R') = 2 ^ (12 - x) + (2 ^ (12 - y) + kcost R) ∧ a * (x' : Int) + (b * (y' : Int) + wcost R') ≤ a * (x : Int) + (b * (y : Int) + wcost R) := by
  induction R with
  | nil => intro x y hx hy _; exact ⟨x, y, [], rfl, hx, hy, (fun p hp => by cases hp), rfl, Int.le_refl _⟩
  | cons q R ih =>
    intro x y hx hy h
    obtain ⟨w, l⟩ := q
    obtain ⟨hl, ha, hb⟩ := h (w, l) List.mem_cons_self
    simp only at hl ha hb
    obtain ⟨x1, y1, R1, e1, e2, e3, e4, e5, e6⟩ := ih x y hx hy (fun p hp => h p (List.mem_cons_of_mem _ hp))
    rw [kcost_cons, wcost_cons]
    simp only
    by_cases g : l ≤ x1 ∧ l ≤ y1
    · refine ⟨x1, y1, (w, l) :: R1, by rw [List.map_cons, List.map_cons, e1], e2, e3, fun p hp => ?_, ?_, ?_⟩
      · rcases List.mem_cons.1 hp with rfl | hp
        · exact ⟨hl, g⟩
        · exact e4 p hp
      · rw [kcost_cons]; simp only; omega
      · rw [wcost_cons]; simp only; omega
    · by_cases g2 : x1 ≤ y1
      · refine ⟨l, y1, (w, x1) :: R1, by rw [List.map_cons, List.map_cons, e1], hl, e3, fun p hp => ?_, ?_, ?_⟩
        · rcases List.mem_cons.1 hp with rfl | hp
          · exact ⟨e2, by simp only; omega, g2⟩
          · have := e4 p hp; exact ⟨this.1, by omega, this.2.2⟩
        · rw [kcost_cons]; simp only; omega
        · rw [wcost_cons]
          simp only
          have := swap_le a w (l : Int) (x1 : Int) ha (by omega)
          omega
      · refine ⟨x1, l, (w, y1) :: R1, by rw [List.map_cons, List.map_cons, e1], e2, hl, fun p hp => ?_, ?_, ?_⟩
        · rcases List.mem_cons.1 hp with rfl | hp
          · exact ⟨e3, by simp only; omega, by simp only; omega⟩
          · have := e4 p hp; exact ⟨this.1, this.2.1, by omega⟩
        · rw [kcost_cons]; simp only; omega
        · rw [wcost_cons]
          simp only
          have := swap_le b w (l : Int) (y1 : Int) hb (by omega)
          omega
theorem kdiv (m : Nat) (hm : m ≤ 12) (R : List (Int × Nat)) : (∀ p ∈ R, p.2 ≤ m) → ∃ q, kcost R = 2 ^ (12 - m) * q := by
  induction R with
  | nil => intro _; exact ⟨0, rfl⟩
  | cons p R ih =>
    intro h
    obtain ⟨q, e⟩ := ih (fun r hr => h r (List.mem_cons_of_mem _ hr))
    have hp := h p List.mem_cons_self
    refine ⟨2 ^ (m - p.2) + q, ?_⟩
    rw [kcost_cons, e, Nat.mul_add, ← Nat.pow_add, show 12 - m + (m - p.2) = 12 - p.2 by omega]
theorem lower (m y q : Nat) (hm : m ≤ 12) (h : 2 ^ (12 - m) + (2 ^ (12 - y) + 2 ^ (12 - m) * q) ≤ 4096) : 1 ≤ m ∧ 2 ^ (12 - (m - 1)) + 2 ^ (12 - m) * q ≤ 4096 := by
  have e : 4096 = 2 ^ (12 - m) * 2 ^ m := by rw [← Nat.pow_add, show 12 - m + m = 12 by omega]
  have p : 0 < 2 ^ (12 - y) := Nat.pow_pos (by omega)
  have h2 : 2 ^ (12 - m) * (q + 1) < 2 ^ (12 - m) * 2 ^ m := by rw [← e, Nat.mul_add]; omega
  have h3 : q + 1 < 2 ^ m := Nat.lt_of_mul_lt_mul_left h2
  have h4 : 1 ≤ m := by
    cases m with
    | zero => simp at h3
    | succ m => omega
  refine ⟨h4, ?_⟩
  have h5 : 2 ^ (12 - m) * (q + 2) ≤ 4096 := by rw [e]; exact Nat.mul_le_mul_left _ (by omega)
  rw [Nat.mul_add] at h5
  rw [show 12 - (m - 1) = (12 - m) + 1 by omega, Nat.pow_succ]
  omega
/-- The two least made one: what is left costs so much less. -/
theorem merge2 (a b : Int) (ha : 0 ≤ a) (hb : 0 ≤ b) (R : List (Int × Nat)) (x y : Nat) (hx : x ≤ 12) (hy : y ≤ 12) (h : ∀ p ∈ R, p.2 ≤ 12 ∧ a ≤ p.1 ∧ b ≤ p.1) (hk : kcost ((a, x) :: (b, y) :: R) ≤ 4096) :
    ∃ (z : Nat) (R' : List (Int × Nat)), z ≤ 12 ∧ R'.map (·.1) = R.map (·.1) ∧ (∀ p ∈ R', p.2 ≤ 12) ∧ kcost ((a + b, z) :: R') ≤ 4096 ∧ wcost ((a + b, z) :: R') + (a + b) ≤ wcost ((a, x) :: (b, y) :: R) := by
  obtain ⟨x1, y1, R1, e1, e2, e3, e4, e5, e6⟩ := sink a b R x y hx hy h
  rw [kcost_cons, kcost_cons] at hk
  simp only at hk
  rw [← e5] at hk
  have key : ∃ m : Nat, m ≤ 12 ∧ m ≤ x1 ∧ m ≤ y1 ∧ 1 ≤ m ∧ 2 ^ (12 - (m - 1)) + kcost R1 ≤ 4096 := by
    rcases Nat.le_total x1 y1 with g | g
    · obtain ⟨q, eq⟩ := kdiv x1 e2 R1 (fun p hp => (e4 p hp).2.1)
      rw [eq] at hk
      have := lower x1 y1 q e2 hk
      exact ⟨x1, e2, Nat.le_refl _, g, this.1, by rw [eq]; exact this.2⟩
    · obtain ⟨q, eq⟩ := kdiv y1 e3 R1 (fun p hp => (e4 p hp).2.2)
      rw [eq] at hk
      have := lower y1 x1 q e3 (by omega)
      exact ⟨y1, e3, g, Nat.le_refl _, this.1, by rw [eq]; exact this.2⟩
  obtain ⟨m, m0, m1, m2, m3, m4⟩ := key
  refine ⟨m - 1, R1, by omega, e1, fun p hp => (e4 p hp).1, by rw [kcost_cons]; exact m4, ?_⟩
  rw [wcost_cons, wcost_cons, wcost_cons]
  simp only
  have c1 := Int.mul_le_mul_of_nonneg_left (show (m : Int) ≤ (x1 : Int) by omega) ha
  have c2 := Int.mul_le_mul_of_nonneg_left (show (m : Int) ≤ (y1 : Int) by omega) hb
  rw [show ((m - 1 : Nat) : Int) = (m : Int) - 1 by omega, Int.mul_sub, Int.add_mul, Int.mul_one]
  omega
theorem perm_out {α β : Type} (f : α → β) (P : List α) (u : β) (L : List β) (h : (P.map f).Perm (u :: L)) : ∃ p P1, P.Perm (p :: P1) ∧ f p = u ∧ (P1.map f).Perm L := by
  have hu : u ∈ P.map f := h.mem_iff.2 List.mem_cons_self
  obtain ⟨p, hp, rfl⟩ := List.mem_map.1 hu
  obtain ⟨s, t, rfl⟩ := List.append_of_mem hp
  refine ⟨p, s ++ t, List.perm_middle, rfl, ?_⟩
  have h2 := (List.perm_middle (l₁ := s) (a := p) (l₂ := t)).symm.map f
  rw [List.map_cons] at h2
  exact (List.perm_cons _).1 (h2.trans h)
theorem nsum_perm {a b : List Nat} (h : a.Perm b) : a.sum = b.sum := h.sum_nat
theorem isum_perm {a b : List Int} (h : a.Perm b) : a.sum = b.sum := by
  induction h with
  | nil => rfl
  | cons x _ ih => rw [List.sum_cons, List.sum_cons, ih]
  | swap x y l => simp only [List.sum_cons]; omega
  | trans _ _ h1 h2 => exact h1.trans h2
theorem wcost_perm {P Q : List (Int × Nat)} (h : P.Perm Q) : wcost P = wcost Q := isum_perm (h.map _)
theorem kcost_perm {P Q : List (Int × Nat)} (h : P.Perm Q) : kcost P = kcost Q := nsum_perm (h.map _)

/-! What a round does to the sums. -/
def fcost : List Int → List Int → Int
  | a :: c, b :: o => a * b + fcost c o
  | _, _ => 0
def csym (c x : List Int) : Int := (x.map (fun i => c.getD i.toNat 0)).sum
def ksym (o x : List Int) : Nat := (x.map (fun i => 2 ^ (12 - (o.getD i.toNat 0).toNat))).sum
theorem fcost_set (c : List Int) : ∀ (o : List Int) (i : Nat) (v : Int), o.length = c.length → i < o.length → fcost c (o.set i v) = fcost c o + c.getD i 0 * (v - o.getD i 0) := by
  induction c with
  | nil => intro o i v h1 h2; simp at h1; subst h1; simp at h2
  | cons a c ih =>
    intro o i v h1 h2
    cases o with
    | nil => simp at h2
    | cons b o =>
      cases i with
      | zero =>
        simp only [List.set_cons_zero, fcost, List.getD_cons_zero]
        rw [Int.mul_sub]; omega
      | succ i =>
        simp only [List.set_cons_succ, fcost, List.getD_cons_succ]
        rw [ih o i v (by simpa using h1) (by simpa using h2)]
        omega
theorem getD_seti (o : List Int) (i j : Nat) (v : Int) (h : i < o.length) : (o.set i v).getD j 0 = if j = i then v else o.getD j 0 := by
  rw [List.getD_eq_getElem?_getD, List.getD_eq_getElem?_getD]
  by_cases g : j = i
  · subst g
    rw [if_pos rfl, List.getElem?_set_self h]; rfl
  · rw [if_neg g, List.getElem?_set_ne (fun h => g h.symm)]
theorem lincs_facts (c : List Int) (n : Nat) (hc : c.length = n) (x : List Int) : ∀ (o o' : List Int) (B : Int), lincs o x = some o' → x.Nodup → (∀ i ∈ x, 0 ≤ i ∧ i < (n : Int)) → o.length = n → (∀ j, j < n → 0 ≤ o.getD j 0 ∧ o.getD j 0 ≤ B) → B + x.length ≤ 100000 →
    o'.length = n ∧ (∀ j, j < n → o'.getD j 0 = o.getD j 0 + (if (j : Int) ∈ x then 1 else 0)) ∧ fcost c o' = fcost c o + csym c x := by
  induction x with
  | nil =>
    intro o o' B h _ _ ho _ _
    simp only [lincs, Option.some.injEq] at h
    subst h
    exact ⟨ho, fun j hj => by simp, by simp [csym]⟩
  | cons i t ih =>
    intro o o' B h hn hr ho hb hB
    rw [List.nodup_cons] at hn
    obtain ⟨i0, i1⟩ := hr i List.mem_cons_self
    simp only [lincs] at h
    rw [if_pos ⟨i0, by omega⟩] at h
    have hbi := hb i.toNat (by omega)
    rw [List.length_cons] at hB
    have hw : wrap64 (rd o i + 1) = rd o i + 1 := w64 (by unfold rd; omega) (by unfold rd; omega)
    rw [hw] at h
    have hrd : rd o i = o.getD i.toNat 0 := rfl
    have hil : i.toNat < o.length := by omega
    obtain ⟨h1, h2, h3⟩ := ih (o.set i.toNat (rd o i + 1)) o' (B + 1) h hn.2 (fun j hj => hr j (List.mem_cons_of_mem _ hj)) (by rw [List.length_set]; exact ho) (fun j hj => by
      rw [getD_seti _ _ _ _ hil]
      have := hb j hj
      split <;> omega) (by omega)
    refine ⟨h1, fun j hj => ?_, ?_⟩
    · rw [h2 j hj, getD_seti _ _ _ _ hil]
      by_cases g : j = i.toNat
      · subst g
        rw [if_pos rfl, if_neg (fun q => hn.1 (by rwa [Int.toNat_of_nonneg i0] at q)), if_pos (by rw [Int.toNat_of_nonneg i0]; exact List.mem_cons_self), hrd]
        omega
      · rw [if_neg g]
        have : ((j : Int) ∈ i :: t) ↔ ((j : Int) ∈ t) := by
          rw [List.mem_cons]
          exact ⟨fun q => by rcases q with q | q; exact absurd (by omega) g; exact q, .inr⟩
        simp only [this]
    · rw [h3, fcost_set c o i.toNat _ (by omega) hil, hrd]
      unfold csym
      rw [List.map_cons, List.sum_cons, show o.getD i.toNat 0 + 1 - o.getD i.toNat 0 = 1 by omega, Int.mul_one]
      omega
theorem csym_append (c x y : List Int) : csym c (x ++ y) = csym c x + csym c y := by unfold csym; rw [List.map_append, List.sum_append]
theorem csym_perm (c : List Int) {x y : List Int} (h : x.Perm y) : csym c x = csym c y := isum_perm (h.map _)
theorem ksym_append (o x y : List Int) : ksym o (x ++ y) = ksym o x + ksym o y := by unfold ksym; rw [List.map_append, List.sum_append]
theorem ksym_perm (o : List Int) {x y : List Int} (h : x.Perm y) : ksym o x = ksym o y := nsum_perm (h.map _)
theorem ksym_half (o o' : List Int) (x : List Int) (h : ∀ i ∈ x, 0 ≤ o.getD i.toNat 0 ∧ o.getD i.toNat 0 ≤ 11 ∧ o'.getD i.toNat 0 = o.getD i.toNat 0 + 1) : 2 * ksym o' x = ksym o x := by
  induction x with
  | nil => rfl
  | cons i t ih =>
    have := ih (fun j hj => h j (List.mem_cons_of_mem _ hj))
    obtain ⟨h1, h2, h3⟩ := h i List.mem_cons_self
    unfold ksym at this ⊢
    rw [List.map_cons, List.map_cons, List.sum_cons, List.sum_cons, Nat.mul_add, this, h3, show (o.getD i.toNat 0 + 1).toNat = (o.getD i.toNat 0).toNat + 1 by omega, show 12 - (o.getD i.toNat 0).toNat = (12 - ((o.getD i.toNat 0).toNat + 1)) + 1 by omega, Nat.pow_succ]
    omega
theorem ksym_same (o o' : List Int) (x : List Int) (h : ∀ i ∈ x, o'.getD i.toNat 0 = o.getD i.toNat 0) : ksym o' x = ksym o x := by
  unfold ksym
  congr 1
  exact List.map_congr_left (fun i hi => by rw [h i hi])
/-- Where the pairing stands. -/
structure HS (c : List Int) (n N : Nat) (gs : List S78) (o : List Int) : Prop where
  gi : GI n gs
  wt : ∀ x ∈ gs, x.f0 = csym c x.f1
  ol : o.length = n
  ob : ∀ j, j < n → 0 ≤ o.getD j 0 ∧ o.getD j 0 ≤ 11
  dp : ∀ x ∈ gs, ∀ i ∈ x.f1, o.getD i.toNat 0 + gs.length ≤ (N : Int)
  kr : ∀ x ∈ gs, ksym o x.f1 = 4096
  ze : ∀ j, j < n → (∀ x ∈ gs, (j : Int) ∉ x.f1) → o.getD j 0 = 0
  al : ∀ j, j < n → ((∃ x ∈ gs, (j : Int) ∈ x.f1) ↔ 0 < c.getD j 0)
theorem HS_round (c : List Int) (n N : Nat) (hN : N ≤ 12) (hn : n ≤ 12) (hc : c.length = n) (gs : List S78) (o o' : List Int) (h : HS c n N gs o) (a b : S78) (t : List S78) (hp : (a :: b :: t).Perm gs) (k : Nat) (x : List Int) (hx : lputs k a.f1 b.f1 = some x) (hi : lincs o x = some o') : HS c n N (t ++ [(⟨wrap64 (a.f0 + b.f0), x⟩ : S78)]) o' ∧ fcost c o' = fcost c o + (a.f0 + b.f0) ∧ wrap64 (a.f0 + b.f0) = a.f0 + b.f0 := by
  obtain ⟨j1, j2, j3, j4⟩ := gjoin h.gi a b t hp k x hx (by omega)
  have ma : a ∈ gs := hp.mem_iff.1 List.mem_cons_self
  have mb : b ∈ gs := hp.mem_iff.1 (List.mem_cons_of_mem _ List.mem_cons_self)
  have mt : ∀ z ∈ t, z ∈ gs := fun z hz => hp.mem_iff.1 (List.mem_cons_of_mem _ (List.mem_cons_of_mem _ hz))
  have hgl : gs.length = t.length + 2 := by rw [← hp.length_eq]; rfl
  have hxn : x.Nodup := by unfold gasc at j1; exact j1.imp (fun h => by omega)
  have hxl : x.length ≤ n := gasc_len j1 j4
  obtain ⟨l1, l2, l3⟩ := lincs_facts c n hc x o o' 11 hi hxn j4 h.ol h.ob (by omega)
  have hgi := GI_perm h.gi hp
  have hnd := hgi.2.1
  rw [List.flatMap_cons, List.flatMap_cons, ← List.append_assoc] at hnd
  have hdis : ∀ z ∈ t, ∀ i ∈ z.f1, i ∉ x := fun z hz i hi hix => (List.nodup_append.1 hnd).2.2 i (j2.mem_iff.1 hix) i (List.mem_flatMap.2 ⟨z, hz, hi⟩) rfl
  have hsum : csym c x = a.f0 + b.f0 := by rw [csym_perm c j2, csym_append, h.wt a ma, h.wt b mb]
  have hs := sum_ge _ (fun z hz => (hgi.1 z hz).2.2.2)
  have ha0 := (hgi.1 a List.mem_cons_self).2.2.2
  have hb0 := (hgi.1 b (List.mem_cons_of_mem _ List.mem_cons_self)).2.2.2
  have hs2 := hgi.2.2
  have hsa := hs.2 a List.mem_cons_self
  have hsb := hs.2 b (List.mem_cons_of_mem _ List.mem_cons_self)
  have hw : wrap64 (a.f0 + b.f0) = a.f0 + b.f0 := w64 (by omega) (by omega)
  have ux : ∀ i ∈ x, o'.getD i.toNat 0 = o.getD i.toNat 0 + 1 := fun i hi => by
    have := j4 i hi
    rw [l2 i.toNat (by omega), if_pos (by rw [Int.toNat_of_nonneg this.1]; exact hi)]
  have ut : ∀ z ∈ t, ∀ i ∈ z.f1, o'.getD i.toNat 0 = o.getD i.toNat 0 := fun z hz i hi => by
    have := (h.gi.1 z (mt z hz)).2.2.1 i hi
    rw [l2 i.toNat (by omega), if_neg (fun q => hdis z hz i hi (by rwa [Int.toNat_of_nonneg this.1] at q)), Int.add_zero]
  have dx : ∀ i ∈ x, o.getD i.toNat 0 + gs.length ≤ (N : Int) := fun i hi => by
    rcases List.mem_append.1 (j2.mem_iff.1 hi) with q | q
    · exact h.dp a ma i q
    · exact h.dp b mb i q
  have hll : (t ++ [(⟨wrap64 (a.f0 + b.f0), x⟩ : S78)]).length = t.length + 1 := by simp
  refine ⟨⟨j3, fun z hz => ?_, l1, fun j hj => ?_, fun z hz i hi => ?_, fun z hz => ?_, fun j hj hno => ?_, fun j hj => ?_⟩, by rw [l3, hsum], hw⟩
  · rcases List.mem_append.1 hz with hz | hz
    · exact h.wt z (mt z hz)
    · rw [List.mem_singleton] at hz
      subst hz
      show wrap64 (a.f0 + b.f0) = csym c x
      rw [hw, hsum]
  · rw [l2 j hj]
    have hob := h.ob j hj
    split
    · rename_i q
      have := dx (j : Int) q
      rw [Int.toNat_natCast] at this
      omega
    · omega
  · rw [hll]
    rcases List.mem_append.1 hz with hz | hz
    · rw [ut z hz i hi]
      have := h.dp z (mt z hz) i hi
      omega
    · rw [List.mem_singleton] at hz
      subst hz
      have hi : i ∈ x := hi
      rw [ux i hi]
      have := dx i hi
      omega
  · rcases List.mem_append.1 hz with hz | hz
    · rw [ksym_same o o' z.f1 (ut z hz)]
      exact h.kr z (mt z hz)
    · rw [List.mem_singleton] at hz
      subst hz
      show ksym o' x = 4096
      have h2 := ksym_half o o' x (fun i hi => by
        have := j4 i hi
        have hob := h.ob i.toNat (by omega)
        exact ⟨hob.1, hob.2, ux i hi⟩)
      rw [ksym_perm o j2, ksym_append, h.kr a ma, h.kr b mb] at h2
      omega
  · have hnx : (j : Int) ∉ x := hno _ (List.mem_append_right _ List.mem_cons_self)
    rw [l2 j hj, if_neg hnx, Int.add_zero]
    refine h.ze j hj (fun z hz hjz => ?_)
    rcases List.mem_cons.1 (hp.mem_iff.2 hz) with rfl | q
    · exact hnx (j2.mem_iff.2 (List.mem_append_left _ hjz))
    · rcases List.mem_cons.1 q with rfl | q
      · exact hnx (j2.mem_iff.2 (List.mem_append_right _ hjz))
      · exact hno z (List.mem_append_left _ q) hjz
  · rw [← h.al j hj]
    constructor
    · rintro ⟨z, hz, hjz⟩
      rcases List.mem_append.1 hz with hz | hz
      · exact ⟨z, mt z hz, hjz⟩
      · rw [List.mem_singleton] at hz
        subst hz
        rcases List.mem_append.1 (j2.mem_iff.1 hjz) with q | q
        · exact ⟨a, ma, q⟩
        · exact ⟨b, mb, q⟩
    · rintro ⟨z, hz, hjz⟩
      rcases List.mem_cons.1 (hp.mem_iff.2 hz) with rfl | q
      · exact ⟨_, List.mem_append_right _ List.mem_cons_self, j2.mem_iff.2 (List.mem_append_left _ hjz)⟩
      · rcases List.mem_cons.1 q with rfl | q
        · exact ⟨_, List.mem_append_right _ List.mem_cons_self, j2.mem_iff.2 (List.mem_append_right _ hjz)⟩
        · exact ⟨z, List.mem_append_left _ q, hjz⟩
/-- All rounds. -/
theorem lrun_best (c : List Int) (n N : Nat) (hN : N ≤ 12) (hn : n ≤ 12) (hc : c.length = n) (k : Nat) (m : Nat) : ∀ (gs : List S78) (o r : List Int), HS c n N gs o → lrun k m gs o = some r → (∃ gs', HS c n N gs' r ∧ gs'.length ≤ 1 ∧ (0 < gs.length → gs'.length = 1)) ∧ ∀ P : List (Int × Nat), (P.map (·.1)).Perm (gs.map (·.f0)) → (∀ p ∈ P, p.2 ≤ 12) → kcost P ≤ 4096 → fcost c r ≤ fcost c o + wcost P := by
  induction m with
  | zero => intro gs o r _ h; simp [lrun] at h
  | succ m ih =>
    intro gs o r hs h
    simp only [lrun] at h
    by_cases g : 1 < gs.length
    · rw [if_pos g] at h
      obtain ⟨a, ha, h⟩ := Option.bind_eq_some_iff.1 h
      obtain ⟨b, hb, h⟩ := Option.bind_eq_some_iff.1 h
      split at h
      rotate_left
      · cases h
      obtain ⟨x, hx, h⟩ := Option.bind_eq_some_iff.1 h
      split at h
      rotate_left
      · cases h
      obtain ⟨o', ho', h⟩ := Option.bind_eq_some_iff.1 h
      obtain ⟨pa, la⟩ := gleast gs (fun z hz => (hs.gi.1 z hz).1) a ha
      obtain ⟨pb, lb⟩ := gleast a.2 (fun z hz => (hs.gi.1 z (pa.mem_iff.1 (List.mem_cons_of_mem _ hz))).1) b hb
      have hp : (a.1 :: b.1 :: b.2).Perm gs := (pb.cons a.1).trans pa
      obtain ⟨hs', hf, hw⟩ := HS_round c n N hN hn hc gs o o' hs a.1 b.1 b.2 hp k x hx ho'
      obtain ⟨⟨gs', q1, q2, q3⟩, q4⟩ := ih _ o' r hs' h
      refine ⟨⟨gs', q1, q2, fun _ => ?_⟩, fun P p1 p2 p3 => ?_⟩
      · exact q3 (by simp)
      · have e1 : (P.map (·.1)).Perm (a.1.f0 :: b.1.f0 :: b.2.map (·.f0)) := p1.trans (hp.symm.map (·.f0))
        obtain ⟨u, P1, u1, u2, u3⟩ := perm_out (·.1) P _ _ e1
        obtain ⟨v, P2, v1, v2, v3⟩ := perm_out (·.1) P1 _ _ u3
        have hP : P.Perm (u :: v :: P2) := u1.trans (v1.cons u)
        obtain ⟨uw, ux⟩ := u
        obtain ⟨vw, vx⟩ := v
        simp only at u2 v2
        subst u2 v2
        have mem : ∀ p ∈ P2, ∃ z ∈ b.2, p.1 = z.f0 := fun p hp2 => by
          have : p.1 ∈ b.2.map (·.f0) := v3.mem_iff.1 (List.mem_map.2 ⟨p, hp2, rfl⟩)
          obtain ⟨z, hz, hz2⟩ := List.mem_map.1 this
          exact ⟨z, hz, hz2.symm⟩
        have hga := (hs.gi.1 a.1 (hp.mem_iff.1 List.mem_cons_self)).2.2.2
        have hgb := (hs.gi.1 b.1 (hp.mem_iff.1 (List.mem_cons_of_mem _ List.mem_cons_self))).2.2.2
        obtain ⟨z, R', z1, z2, z3, z4, z5⟩ := merge2 a.1.f0 b.1.f0 hga hgb P2 ux vx (p2 _ (hP.mem_iff.2 List.mem_cons_self)) (p2 _ (hP.mem_iff.2 (List.mem_cons_of_mem _ List.mem_cons_self))) (fun p hp2 => by
          obtain ⟨z, hz, hz2⟩ := mem p hp2
          have l1 := la z (hp.mem_iff.1 (List.mem_cons_of_mem _ (List.mem_cons_of_mem _ hz)))
          have l2 := lb z (pb.mem_iff.1 (List.mem_cons_of_mem _ hz))
          unfold glt at l1 l2
          exact ⟨p2 p (hP.mem_iff.2 (List.mem_cons_of_mem _ (List.mem_cons_of_mem _ hp2))), by omega, by omega⟩) (by rw [← kcost_perm hP]; exact p3)
        have := q4 ((a.1.f0 + b.1.f0, z) :: R') (by
          rw [List.map_cons, z2, List.map_append]
          refine List.Perm.trans ?_ List.perm_append_comm
          show ((a.1.f0 + b.1.f0) :: P2.map (·.1)).Perm (wrap64 (a.1.f0 + b.1.f0) :: b.2.map (·.f0))
          rw [hw]
          exact v3.cons _) (fun p hp2 => by
          rcases List.mem_cons.1 hp2 with rfl | hp2
          · exact z1
          · exact z3 p hp2) z4
        rw [wcost_perm hP]
        omega
    · rw [if_neg g] at h
      obtain rfl := Option.some.inj h
      refine ⟨⟨gs, hs, by omega, fun h => by omega⟩, fun P p1 p2 p3 => ?_⟩
      have : 0 ≤ wcost P := by
        have hpos : ∀ p ∈ P, 0 ≤ p.1 := fun p hp => by
          have : p.1 ∈ gs.map (·.f0) := p1.mem_iff.1 (List.mem_map.2 ⟨p, hp, rfl⟩)
          obtain ⟨z, hz, hz2⟩ := List.mem_map.1 this
          rw [← hz2]
          exact (hs.gi.1 z hz).2.2.2
        clear p1 p2 p3
        induction P with
        | nil => exact Int.le_refl _
        | cons p P ih =>
          rw [wcost_cons]
          have h1 := ih (fun q hq => hpos q (List.mem_cons_of_mem _ hq))
          have h2 := Int.mul_nonneg (hpos p List.mem_cons_self) (show (0 : Int) ≤ (p.2 : Int) by omega)
          omega
      omega

/-! Costs, the first groups, and the sums at the end. -/
theorem shr_pow3 (x : Int) (h0 : 0 < x) (h1 : x ≤ 12) : shr .i64 4096 x = ((2 ^ (12 - x.toNat) : Nat) : Int) := by
  have := (show ∀ n : Fin 13, shr .i64 4096 (n.val : Int) = ((2 ^ (12 - n.val) : Nat) : Int) by decide) ⟨x.toNat, by omega⟩
  simp only at this
  rw [Int.toNat_of_nonneg (by omega)] at this
  exact this
def K2 : List Int → Nat
  | [] => 0
  | y :: t => (if 0 < y then 2 ^ (12 - y.toNat) else 0) + K2 t
theorem kr_K2 (l : List Int) : ∀ s : Int, inAll 0 12 l = true → kr s l = s + (K2 l : Nat) := by
  induction l with
  | nil => intro s _; simp [kr, K2]
  | cons y t ih =>
    intro s h
    have hy := inAll_mem h y (by simp)
    have ht : inAll 0 12 t = true := by simp only [inAll, List.all_cons, Bool.and_eq_true] at h; exact h.2
    rw [kr, ih _ ht, K2]
    by_cases g : y > 0
    · rw [if_pos g, if_pos g, shr_pow3 y g hy.2]; omega
    · rw [if_neg g, if_neg g]; omega
def okc : List Int → List Int → Bool
  | x :: c, y :: a => decide (0 < x → y ≠ 0) && okc c a
  | _, _ => true
theorem okc_iff (c : List Int) : ∀ a : List Int, a.length = c.length → (okc c a = true ↔ ∀ j, j < c.length → 0 < c.getD j 0 → a.getD j 0 ≠ 0) := by
  induction c with
  | nil => intro a _; simp [okc]
  | cons x c ih =>
    intro a h
    cases a with
    | nil => simp at h
    | cons y a =>
      have := ih a (by simpa using h)
      rw [okc, Bool.and_eq_true, decide_eq_true_iff, this]
      constructor
      · rintro ⟨h1, h2⟩ j hj
        cases j with
        | zero => simpa using h1
        | succ j => simpa using h2 j (by simpa using hj)
      · intro h3
        refine ⟨by simpa using h3 0 (by simp), fun j hj => ?_⟩
        have := h3 (j + 1) (by simpa using hj)
        simpa using this
def costR (a c : List Int) : Int × Bool := if goodLengths a = true ∧ within 1000 c = true ∧ c.length = a.length then (if okc c a = true then (fcost c a, true) else (0, false)) else (0, false)
theorem cost_l0v (a c : List Int) (hac : c.length = a.length) (hl : c.length ≤ 12) (ha : inAll 0 12 a = true) (hc : inAll 0 1000 c = true) (d : Nat) : ∀ (s : Int) (i : Nat), i + d = c.length → 0 ≤ s → s ≤ 12000 * (i : Int) → Ev (fun k => impl_CostBy.l0 k a s c (c.length : Int) (i : Int)) (if okc (c.drop i) (a.drop i) = true then (s + fcost (c.drop i) (a.drop i), true) else (0, false)) := by
  induction d with
  | zero =>
    intro s i hi h0 h1
    refine Ev.succ ?_
    simp only [impl_CostBy.l0]
    rw [List.drop_eq_nil_of_le (by omega), List.drop_eq_nil_of_le (by omega)]
    exact Ev.neg (by omega) (Ev.eq (Ev.ret _) (by simp [okc, fcost]))
  | succ d ih =>
    intro s i hi h0 h1
    have hic : i < c.length := by omega
    have hia : i < a.length := by omega
    have rc : rd c (i : Int) = c[i] := rd_nat c i hic
    have ra : rd a (i : Int) = a[i] := rd_nat a i hia
    have bc := inAll_mem hc c[i] (List.getElem_mem hic)
    have ba := inAll_mem ha a[i] (List.getElem_mem hia)
    rw [List.drop_eq_getElem_cons hic, List.drop_eq_getElem_cons hia]
    generalize c[i] = x at rc bc ⊢
    generalize a[i] = y at ra ba ⊢
    obtain ⟨bc0, bc1⟩ := bc
    obtain ⟨ba0, ba1⟩ := ba
    have m0 := Int.mul_nonneg bc0 ba0
    have m1 : x * y ≤ 1000 * 12 := Int.mul_le_mul bc1 ba1 ba0 (by omega)
    generalize hz : x * y = z at m0 m1 ⊢
    have h := ih (s + z) (i + 1) (by omega) (by omega) (by omega)
    rw [okc, fcost, hz]
    refine Ev.succ ?_
    simp only [impl_CostBy.l0]
    rw [rc, ra, hz, w64 (x := (i : Int) + 1) (by omega) (by omega), show (i : Int) + 1 = ((i + 1 : Nat) : Int) by omega, w64 (x := z) (by omega) (by omega), w64 (x := s + z) (by omega) (by omega)]
    clear m0 m1 rc ra
    by_cases g : x > 0
    · by_cases g2 : y = 0
      · rw [show (decide (0 < x → y ≠ 0)) = false from decide_eq_false (fun q => q g g2), Bool.false_and]
        exact Ev.pos (by omega) (Ev.pos (by omega) (Ev.pos (by omega) (Ev.pos g (Ev.pos (by omega) (Ev.pos g2 (Ev.eq (Ev.ret _) (by simp)))))))
      · rw [show (decide (0 < x → y ≠ 0)) = true from decide_eq_true (fun _ => g2), Bool.true_and, ← Int.add_assoc]
        exact Ev.pos (by omega) (Ev.pos (by omega) (Ev.pos (by omega) (Ev.pos g (Ev.pos (by omega) (Ev.neg g2 h)))))
    · rw [show (decide (0 < x → y ≠ 0)) = true from decide_eq_true (fun q => absurd q g), Bool.true_and, ← Int.add_assoc]
      exact Ev.pos (by omega) (Ev.pos (by omega) (Ev.pos (by omega) (Ev.neg g (Ev.pos (by omega) h))))
theorem cost_same3 (a c : List Int) (z : Int) : ∀ (k : Nat) (s i : Int), spec_CostBy.l0 k a s c z i = impl_CostBy.l0 k a s c z i := by
  intro k
  induction k with
  | zero => intro s i; rfl
  | succ k ih => intro s i; simp only [spec_CostBy.l0, impl_CostBy.l0, ih]
theorem cost_ev (a c : List Int) (hla : a.length ≤ 140737488351232) (hlc : c.length ≤ 140737488351232) : Ev (fun k => spec_CostBy.f k a c) (costR a c) ∧ Ev (fun k => impl_CostBy.f k a c) (costR a c) := by
  simp only [spec_CostBy.f, impl_CostBy.f, impl_areWithin_eq, Option.bind_some]
  have out1 : Ev (fun k => spec_CostBy.j0 k a c true) ((0 : Int), false) := by
    refine Ev.succ ?_
    simp only [spec_CostBy.j0]
    exact Ev.pos trivial (Ev.ret _)
  have out2 : Ev (fun k => impl_CostBy.j0 k a c true) ((0 : Int), false) := by
    refine Ev.succ ?_
    simp only [impl_CostBy.j0]
    exact Ev.pos trivial (Ev.ret _)
  unfold costR
  by_cases h1 : goodLengths a = true
  · by_cases h2 : within 1000 c = true
    · by_cases h3 : c.length = a.length
      · rw [if_pos ⟨h1, h2, h3⟩]
        have hw : within 12 a = true := by unfold goodLengths at h1; rw [Bool.and_eq_true] at h1; exact h1.1
        have hr := cost_l0v a c h3 (within_facts h2).1 (within_facts hw).2 (within_facts h2).2 c.length 0 0 (by omega) (by omega) (by omega)
        simp only [List.drop_zero, Int.zero_add] at hr
        refine ⟨Ev.bnd (spec_GoodLengths_ev a hla) (Ev.pos h1 (Ev.bnd (counts_ev c hlc) (Ev.pos h2 ?_))), Ev.bnd (impl_GoodLengths_ev a) (Ev.pos h1 (Ev.pos h2 ?_))⟩
        · rw [h3, bne_self_eq_false]
          refine Ev.succ ?_
          simp only [spec_CostBy.j0]
          exact Ev.neg (by simp) (Ev.congr (fun k => cost_same3 a c _ k _ _) hr)
        · rw [h3, bne_self_eq_false]
          refine Ev.succ ?_
          simp only [impl_CostBy.j0]
          exact Ev.neg (by simp) hr
      · rw [if_neg (fun q => h3 q.2.2)]
        refine ⟨Ev.bnd (spec_GoodLengths_ev a hla) (Ev.pos h1 (Ev.bnd (counts_ev c hlc) (Ev.pos h2 ?_))), Ev.bnd (impl_GoodLengths_ev a) (Ev.pos h1 (Ev.pos h2 ?_))⟩
        · rw [show ((c.length : Int) != (a.length : Int)) = true by simp; omega]; exact out1
        · rw [show ((a.length : Int) != (c.length : Int)) = true by simp; omega]; exact out2
    · rw [if_neg (fun q => h2 q.2.1)]
      exact ⟨Ev.bnd (spec_GoodLengths_ev a hla) (Ev.pos h1 (Ev.bnd (counts_ev c hlc) (Ev.neg h2 out1))), Ev.bnd (impl_GoodLengths_ev a) (Ev.pos h1 (Ev.neg h2 out2))⟩
  · rw [if_neg (fun q => h1 q.1)]
    exact ⟨Ev.bnd (spec_GoodLengths_ev a hla) (Ev.neg h1 out1), Ev.bnd (impl_GoodLengths_ev a) (Ev.neg h1 out2)⟩
theorem lgrp_mem (l : List Int) : ∀ (j : Nat) (acc : List S78) (x : S78), x ∈ lgrp l j acc ↔ x ∈ acc ∨ ∃ i, i < l.length ∧ 0 < l.getD i 0 ∧ x = ⟨l.getD i 0, [((j + i : Nat) : Int)]⟩ := by
  induction l with
  | nil => intro j acc x; simp [lgrp]
  | cons c t ih =>
    intro j acc x
    rw [lgrp, ih]
    have tl : (∃ i, i < t.length ∧ 0 < t.getD i 0 ∧ x = ⟨t.getD i 0, [((j + 1 + i : Nat) : Int)]⟩) ↔ ∃ i, i + 1 < (c :: t).length ∧ 0 < (c :: t).getD (i + 1) 0 ∧ x = ⟨(c :: t).getD (i + 1) 0, [((j + (i + 1) : Nat) : Int)]⟩ := by
      constructor
      · rintro ⟨i, h1, h2, h3⟩
        exact ⟨i, by simpa using h1, by simpa using h2, by rw [h3, show j + 1 + i = j + (i + 1) by omega]; simp⟩
      · rintro ⟨i, h1, h2, h3⟩
        exact ⟨i, by simpa using h1, by simpa using h2, by rw [h3, show j + 1 + i = j + (i + 1) by omega]; simp⟩
    rw [tl]
    by_cases g : 0 < c
    · rw [if_pos g, List.mem_append, List.mem_singleton]
      constructor
      · rintro ((h | h) | ⟨i, h⟩)
        · exact .inl h
        · exact .inr ⟨0, by simp, by simpa using g, by rw [h]; simp⟩
        · exact .inr ⟨i + 1, h⟩
      · rintro (h | ⟨i, h1, h2, h3⟩)
        · exact .inl (.inl h)
        · cases i with
          | zero => exact .inl (.inr (by rw [h3]; simp))
          | succ i => exact .inr ⟨i, h1, h2, h3⟩
    · rw [if_neg g]
      constructor
      · rintro (h | ⟨i, h⟩)
        · exact .inl h
        · exact .inr ⟨i + 1, h⟩
      · rintro (h | ⟨i, h1, h2, h3⟩)
        · exact .inl h
        · cases i with
          | zero => exact absurd (by simpa using h2) g
          | succ i => exact .inr ⟨i, h1, h2, h3⟩
theorem lgrp_ws (l : List Int) : ∀ (j : Nat) (acc : List S78), (lgrp l j acc).map (·.f0) = acc.map (·.f0) ++ l.filter (fun x => decide (0 < x)) := by
  induction l with
  | nil => intro j acc; simp [lgrp]
  | cons c t ih =>
    intro j acc
    rw [lgrp, ih]
    by_cases g : 0 < c
    · rw [if_pos g, List.map_append, List.filter_cons_of_pos (by simpa using g)]; simp
    · rw [if_neg g, List.filter_cons_of_neg (by simpa using g)]
theorem HS_start (c : List Int) (h : within 1000 c = true) : HS c c.length (lgrp c 0 []).length (lgrp c 0 []) (List.replicate c.length 0) ∧ (lgrp c 0 []).length ≤ 12 := by
  have hf := within_facts h
  obtain ⟨h1, h2⟩ := glgrp c.length hf.1 c 0 [] (by simp) (inAll_mem hf.2) (fun x hx => by cases hx) (by simp) (by simp) (by simp)
  have rep : ∀ j : Nat, (List.replicate c.length (0 : Int)).getD j 0 = 0 := fun j => by
    rw [List.getD_eq_getElem?_getD, List.getElem?_replicate]
    split <;> rfl
  have mem : ∀ x, x ∈ lgrp c 0 [] ↔ ∃ i, i < c.length ∧ 0 < c.getD i 0 ∧ x = ⟨c.getD i 0, [(i : Int)]⟩ := fun x => by
    rw [lgrp_mem]
    simp
  refine ⟨⟨h1, fun x hx => ?_, by simp, fun j _ => by rw [rep]; omega, fun x hx i hi => by rw [rep]; omega, fun x hx => ?_, fun j _ _ => rep j, fun j hj => ?_⟩, by omega⟩
  · obtain ⟨i, _, _, rfl⟩ := (mem x).1 hx
    simp [csym]
  · obtain ⟨i, _, _, rfl⟩ := (mem x).1 hx
    unfold ksym
    simp only [List.map_cons, List.map_nil, List.sum_cons, List.sum_nil]
    rw [rep]; rfl
  · constructor
    · rintro ⟨x, hx, hj2⟩
      obtain ⟨i, _, hi2, rfl⟩ := (mem x).1 hx
      have : (j : Int) = (i : Int) := by simpa using hj2
      rw [show j = i by omega]; exact hi2
    · intro hp
      exact ⟨_, (mem _).2 ⟨j, hj, hp, rfl⟩, by simp⟩
/-- The lengths of another code as an assignment. -/
def pw : List Int → List Int → List (Int × Nat)
  | x :: c, y :: a => if 0 < x then (x, y.toNat) :: pw c a else pw c a
  | _, _ => []
theorem pw_facts (c : List Int) : ∀ a : List Int, a.length = c.length → inAll 0 12 a = true → inAll 0 1000 c = true → okc c a = true → (pw c a).map (·.1) = c.filter (fun x => decide (0 < x)) ∧ (∀ p ∈ pw c a, p.2 ≤ 12) ∧ kcost (pw c a) ≤ K2 a ∧ wcost (pw c a) = fcost c a := by
  induction c with
  | nil => intro a h _ _ _; exact ⟨rfl, fun p hp => (by cases hp), Nat.zero_le _, rfl⟩
  | cons x c ih =>
    intro a h ha hc ho
    cases a with
    | nil => simp at h
    | cons y a =>
      rw [okc, Bool.and_eq_true, decide_eq_true_iff] at ho
      have hy := inAll_mem ha y (by simp)
      have hx := inAll_mem hc x (by simp)
      have ha' : inAll 0 12 a = true := by simp only [inAll, List.all_cons, Bool.and_eq_true] at ha; exact ha.2
      have hc' : inAll 0 1000 c = true := by simp only [inAll, List.all_cons, Bool.and_eq_true] at hc; exact hc.2
      obtain ⟨i1, i2, i3, i4⟩ := ih a (by simpa using h) ha' hc' ho.2
      rw [pw, K2, fcost]
      by_cases g : 0 < x
      · have := ho.1 g
        rw [if_pos g, if_pos (show 0 < y by omega), List.filter_cons_of_pos (by simpa using g), List.map_cons, i1, kcost_cons, wcost_cons]
        refine ⟨rfl, fun p hp => ?_, by simp only; omega, ?_⟩
        · rcases List.mem_cons.1 hp with rfl | hp
          · simp only; omega
          · exact i2 p hp
        · simp only
          rw [i4, Int.toNat_of_nonneg hy.1]
      · rw [if_neg g, List.filter_cons_of_neg (by simpa using g)]
        refine ⟨i1, i2, by omega, ?_⟩
        rw [i4, show x = 0 by omega, Int.zero_mul]; omega
/-- The places of what is not nothing. -/
def idx : List Int → Nat → List Int
  | [], _ => []
  | y :: t, j => if 0 < y then (j : Int) :: idx t (j + 1) else idx t (j + 1)
theorem idx_mem (l : List Int) : ∀ (j : Nat) (i : Int), i ∈ idx l j ↔ ∃ q : Nat, q < l.length ∧ 0 < l.getD q 0 ∧ i = ((j + q : Nat) : Int) := by
  induction l with
  | nil => intro j i; simp [idx]
  | cons y t ih =>
    intro j i
    rw [idx]
    have tl : i ∈ idx t (j + 1) ↔ ∃ q : Nat, q + 1 < (y :: t).length ∧ 0 < (y :: t).getD (q + 1) 0 ∧ i = ((j + (q + 1) : Nat) : Int) := by
      rw [ih]
      constructor
      · rintro ⟨q, h1, h2, h3⟩; exact ⟨q, by simpa using h1, by simpa using h2, by omega⟩
      · rintro ⟨q, h1, h2, h3⟩; exact ⟨q, by simpa using h1, by simpa using h2, by omega⟩
    by_cases g : 0 < y
    · rw [if_pos g, List.mem_cons, tl]
      constructor
      · rintro (h | ⟨q, h⟩)
        · exact ⟨0, by simp, by simpa using g, by omega⟩
        · exact ⟨q + 1, h⟩
      · rintro ⟨q, h1, h2, h3⟩
        cases q with
        | zero => exact .inl (by omega)
        | succ q => exact .inr ⟨q, h1, h2, h3⟩
    · rw [if_neg g, tl]
      constructor
      · rintro ⟨q, h⟩; exact ⟨q + 1, h⟩
      · rintro ⟨q, h1, h2, h3⟩
        cases q with
        | zero => exact absurd (by simpa using h2) g
        | succ q => exact ⟨q, h1, h2, h3⟩
theorem idx_asc (l : List Int) : ∀ j : Nat, gasc (idx l j) := by
  induction l with
  | nil => intro j; exact List.Pairwise.nil
  | cons y t ih =>
    intro j
    rw [idx]
    split
    · unfold gasc
      rw [List.pairwise_cons]
      refine ⟨fun i hi => ?_, ih (j + 1)⟩
      obtain ⟨q, _, _, h3⟩ := (idx_mem t (j + 1) i).1 hi
      omega
    · exact ih (j + 1)
theorem idx_K2 (L : List Int) (l : List Int) : ∀ (pre : List Int), pre ++ l = L → ksym L (idx l pre.length) = K2 l := by
  induction l with
  | nil => intro pre _; rfl
  | cons y t ih =>
    intro pre h
    have h2 := ih (pre ++ [y]) (by simpa using h)
    rw [List.length_append, List.length_singleton] at h2
    have hg : L.getD ((pre.length : Int)).toNat 0 = y := by rw [← h]; simp
    rw [idx, K2]
    by_cases g : 0 < y
    · rw [if_pos g, if_pos g, ← h2]
      unfold ksym
      rw [List.map_cons, List.sum_cons, hg]
    · rw [if_neg g, if_neg g, h2, Nat.zero_add]

/-! The told lengths: what they are, what they cost. -/
theorem fcost_ge (c : List Int) : ∀ (a : List Int) (i : Nat), a.length = c.length → i < c.length → (∀ x ∈ c, 0 ≤ x) → (∀ y ∈ a, 0 ≤ y) → 0 ≤ fcost c a ∧ c.getD i 0 * a.getD i 0 ≤ fcost c a := by
  induction c with
  | nil => intro a i _ h; simp at h
  | cons x c ih =>
    intro a i h hi hc ha
    cases a with
    | nil => simp at h
    | cons y a =>
      have h0 := Int.mul_nonneg (hc x List.mem_cons_self) (ha y List.mem_cons_self)
      have hn : 0 ≤ fcost c a := by
        cases c with
        | nil => cases a <;> exact Int.le_refl _
        | cons z c => exact (ih a 0 (by simpa using h) (by simp) (fun q hq => hc q (List.mem_cons_of_mem _ hq)) (fun q hq => ha q (List.mem_cons_of_mem _ hq))).1
      rw [fcost]
      refine ⟨by omega, ?_⟩
      cases i with
      | zero => simp only [List.getD_cons_zero]; omega
      | succ i =>
        have := (ih a i (by simpa using h) (by simpa using hi) (fun q hq => hc q (List.mem_cons_of_mem _ hq)) (fun q hq => ha q (List.mem_cons_of_mem _ hq))).2
        simp only [List.getD_cons_succ]
        omega
theorem fcost_zero (c : List Int) : ∀ n : Nat, fcost c (List.replicate n 0) = 0 := by
  induction c with
  | nil => intro n; cases n <;> rfl
  | cons x c ih =>
    intro n
    cases n with
    | zero => rfl
    | succ n => rw [List.replicate_succ, fcost, ih, Int.mul_zero]; rfl
theorem K2_zero (n : Nat) : K2 (List.replicate n 0) = 0 := by
  induction n with
  | zero => rfl
  | succ n ih => rw [List.replicate_succ, K2, ih]; rfl
theorem idx_len (c : List Int) : ∀ j, (idx c j).length = (c.filter (fun x => decide (0 < x))).length := by
  induction c with
  | nil => intro j; rfl
  | cons x c ih =>
    intro j
    rw [idx]
    by_cases g : 0 < x
    · rw [if_pos g, List.filter_cons_of_pos (by simpa using g), List.length_cons, List.length_cons, ih]
    · rw [if_neg g, List.filter_cons_of_neg (by simpa using g), ih]
theorem mem_idx0 (c : List Int) (i : Int) : i ∈ idx c 0 ↔ ∃ q : Nat, q < c.length ∧ 0 < c.getD q 0 ∧ i = (q : Int) := by
  rw [idx_mem]
  constructor
  · rintro ⟨q, h1, h2, h3⟩; exact ⟨q, h1, h2, by omega⟩
  · rintro ⟨q, h1, h2, h3⟩; exact ⟨q, h1, h2, by omega⟩
theorem rep0 (n j : Nat) : (List.replicate n (0 : Int)).getD j 0 = 0 := by
  rw [List.getD_eq_getElem?_getD, List.getElem?_replicate]
  split <;> rfl
theorem inAll_of (lo hi : Int) (l : List Int) (h : ∀ j, j < l.length → lo ≤ l.getD j 0 ∧ l.getD j 0 ≤ hi) : inAll lo hi l = true := by
  unfold inAll
  rw [List.all_eq_true]
  intro x hx
  obtain ⟨j, hj, rfl⟩ := List.mem_iff_getElem.1 hx
  have := h j hj
  rw [List.getD_eq_getElem?_getD, List.getElem?_eq_getElem hj] at this
  exact decide_eq_true this
def many (c : List Int) : Nat := (c.filter (fun x => decide (0 < x))).length
theorem good_of (r : List Int) (hl : r.length ≤ 12) (hb : ∀ j, j < r.length → 0 ≤ r.getD j 0 ∧ r.getD j 0 ≤ 11) (hk : K2 r ≤ 4096) : goodLengths r = true ∧ kr 0 r = (K2 r : Nat) := by
  have hi : inAll 0 12 r = true := inAll_of 0 12 r (fun j hj => by have := hb j hj; omega)
  have e := kr_K2 r 0 hi
  refine ⟨?_, by omega⟩
  unfold goodLengths within
  rw [decide_eq_true hl, hi, decide_eq_true (by omega)]; rfl
theorem ksym_pos (o : List Int) (i : Int) (t : List Int) : 0 < ksym o (i :: t) := by
  unfold ksym
  rw [List.map_cons, List.sum_cons]
  have : 0 < 2 ^ (12 - (o.getD i.toNat 0).toNat) := Nat.pow_pos (by omega)
  omega
/-- All that the law asks of the told lengths. -/
theorem huff_main (c : List Int) (h : within 1000 c = true) (hl : c.length ≤ 140737488351232) : ∃ r : List Int, Ev (fun k => impl_LengthsOf.f k c) (r, true) ∧ Ev (fun k => spec_LengthsOf.f k c) (r, true) ∧ r.length = c.length ∧ goodLengths r = true ∧ okc c r = true ∧ ((1 < many c → kr 0 r = 4096) ∧ (many c = 1 → kr 0 r = 2048) ∧ (many c = 0 → kr 0 r = 0)) ∧ ∀ a, goodLengths a = true → a.length = c.length → okc c a = true → fcost c r ≤ fcost c a := by
  have hf := within_facts h
  obtain ⟨o, r, eo, hrl, er⟩ := lengths_core c h
  have evs : Ev (fun k => spec_LengthsOf.f k c) (r, true) := by
    simp only [spec_LengthsOf.f]
    exact Ev.bnd (counts_ev c hl) (Ev.pos h (Ev.pos hf.1 (Ev.bnd1 eo (Ev.bnd er (Ev.ret _)))))
  have evi : Ev (fun k => impl_LengthsOf.f k c) (r, true) := by
    simp only [impl_LengthsOf.f]
    exact Ev.bnd1 (impl_areWithin_eq c 1000) (Ev.pos h (Ev.pos ⟨hf.1, inAll_mem hf.2⟩ (Ev.bnd1 eo (Ev.bnd er (Ev.ret _)))))
  refine ⟨r, evi, evs, hrl, ?_⟩
  obtain ⟨K, hK⟩ := er
  have hrun := hK (K + 1) (by omega)
  simp only at hrun
  clear hK evs evi
  have hws := lgrp_ws c 0 []
  rw [List.map_nil, List.nil_append] at hws
  have hml : (lgrp c 0 []).length = many c := by
    have := congrArg List.length hws
    rw [List.length_map] at this
    exact this
  obtain ⟨hs, hs12⟩ := HS_start c h
  have hmem := hs.al
  have hc0 : ∀ x ∈ c, 0 ≤ x := fun x hx => (inAll_mem hf.2 x hx).1
  have ga : ∀ a, goodLengths a = true → inAll 0 12 a = true ∧ K2 a ≤ 4096 := fun a hg => by
    unfold goodLengths at hg
    rw [Bool.and_eq_true, decide_eq_true_iff] at hg
    have hi := (within_facts hg.1).2
    have := kr_K2 a 0 hi
    exact ⟨hi, by omega⟩
  by_cases g1 : (lgrp c 0 []).length = 1
  · have hm1 : many c = 1 := by omega
    obtain ⟨x, hx⟩ : ∃ x, lgrp c 0 [] = [x] := by
      match lgrp c 0 [], g1 with
      | [x], _ => exact ⟨x, rfl⟩
    obtain ⟨i, hi, hi2, rfl⟩ : ∃ i, i < c.length ∧ 0 < c.getD i 0 ∧ x = ⟨c.getD i 0, [(i : Int)]⟩ := by
      have : x ∈ lgrp c 0 [] := by rw [hx]; exact List.mem_cons_self
      rw [lgrp_mem] at this
      simpa using this
    simp only [lrun] at hrun
    rw [if_neg (by omega)] at hrun
    obtain rfl := Option.some.inj hrun
    unfold Go.Proofs.Ytmgkflkfoccgkab.QFnHuffman.lone at eo
    rw [if_pos g1, hx] at eo
    have er : (List.replicate c.length (0 : Int)).set i 1 = o := by
      split at eo
      · exact Option.some.inj eo
      · cases eo
    have hget : ∀ j, o.getD j 0 = if j = i then 1 else 0 := fun j => by
      rw [← er, getD_seti _ _ _ _ (by simpa using hi), rep0]
    have hidx : idx o 0 = [(i : Int)] := gasc_ext _ _ (idx_asc o 0) (by unfold gasc; exact List.pairwise_singleton _ _) (fun q => by
      rw [mem_idx0, List.mem_singleton]
      constructor
      · rintro ⟨j, _, h2, h3⟩
        rw [hget] at h2
        split at h2
        · omega
        · omega
      · intro hq
        exact ⟨i, by omega, by rw [hget, if_pos rfl]; omega, hq⟩)
    have hK2 : K2 o = 2048 := by
      rw [← idx_K2 o o [] rfl]
      show ksym o (idx o 0) = 2048
      rw [hidx]
      unfold ksym
      simp only [List.map_cons, List.map_nil, List.sum_cons, List.sum_nil, Int.toNat_natCast]
      rw [hget, if_pos rfl]; rfl
    obtain ⟨q1, q2⟩ := good_of o (by omega) (fun j _ => by rw [hget]; split <;> omega) (by omega)
    refine ⟨q1, (okc_iff c o hrl).2 (fun j hj hp => ?_), ⟨fun q => by omega, fun _ => by rw [q2, hK2]; rfl, fun q => by omega⟩, fun a hg hal hok => ?_⟩
    · obtain ⟨x, hx2, hx3⟩ := (hmem j hj).2 hp
      rw [hx, List.mem_singleton] at hx2
      subst hx2
      have : (j : Int) = (i : Int) := by simpa using hx3
      rw [hget, if_pos (by omega)]; omega
    · have hy : ∀ y ∈ a, 0 ≤ y := fun y hy => (inAll_mem (ga a hg).1 y hy).1
      have h2 := (fcost_ge c a i hal hi hc0 hy).2
      have h3 := (okc_iff c a hal).1 hok i hi hi2
      have h4 : 1 ≤ a.getD i 0 := by
        have := hy (a.getD i 0) (by rw [List.getD_eq_getElem?_getD, List.getElem?_eq_getElem (by omega)]; exact List.getElem_mem _)
        omega
      rw [← er, fcost_set c _ i 1 (by simp) (by simpa using hi), fcost_zero, rep0]
      have := Int.mul_le_mul_of_nonneg_left h4 (show 0 ≤ c.getD i 0 by omega)
      omega
  · have eo2 : List.replicate c.length 0 = o := by
      unfold Go.Proofs.Ytmgkflkfoccgkab.QFnHuffman.lone at eo
      rw [if_neg g1] at eo
      exact Option.some.inj eo
    subst eo2
    obtain ⟨⟨gs', s1, s2, s3⟩, best⟩ := lrun_best c c.length (lgrp c 0 []).length hs12 hf.1 rfl _ _ _ _ _ hs hrun
    have opt : ∀ a, goodLengths a = true → a.length = c.length → okc c a = true → fcost c r ≤ fcost c a := fun a hg hal hok => by
      obtain ⟨p1, p2, p3, p4⟩ := pw_facts c a hal (ga a hg).1 hf.2 hok
      have := best (pw c a) (by rw [p1, hws]) p2 (Nat.le_trans p3 (ga a hg).2)
      rw [fcost_zero, p4] at this
      omega
    by_cases g0 : (lgrp c 0 []).length = 0
    · have he : lgrp c 0 [] = [] := List.eq_nil_of_length_eq_zero g0
      simp only [lrun] at hrun
      rw [if_neg (by omega)] at hrun
      obtain rfl := Option.some.inj hrun
      have hk := K2_zero c.length
      obtain ⟨q1, q2⟩ := good_of (List.replicate c.length 0) (by simpa using hf.1) (fun j _ => by rw [rep0]; omega) (by omega)
      refine ⟨q1, (okc_iff c _ hrl).2 (fun j hj hp => ?_), ⟨fun q => by omega, fun q => by omega, fun _ => by rw [q2, hk]; rfl⟩, opt⟩
      obtain ⟨x, hx2, _⟩ := (hmem j hj).2 hp
      rw [he] at hx2
      cases hx2
    · have g' := s3 (by omega)
      obtain ⟨x, rfl⟩ : ∃ x, gs' = [x] := by
        match gs', g' with
        | [x], _ => exact ⟨x, rfl⟩
      have hx := s1.gi.1 x List.mem_cons_self
      have al2 : ∀ j, j < c.length → ((j : Int) ∈ x.f1 ↔ 0 < c.getD j 0) := fun j hj => by
        rw [← s1.al j hj]
        exact ⟨fun q => ⟨x, List.mem_cons_self, q⟩, fun ⟨z, hz, q⟩ => by rw [List.mem_singleton] at hz; rw [← hz]; exact q⟩
      have e1 : idx c 0 = x.f1 := gasc_ext _ _ (idx_asc c 0) hx.2.1 (fun q => by
        rw [mem_idx0]
        constructor
        · rintro ⟨j, h1, h2, h3⟩; rw [h3]; exact (al2 j h1).2 h2
        · intro hq
          have := hx.2.2.1 q hq
          refine ⟨q.toNat, by omega, (al2 q.toNat (by omega)).1 (by rw [Int.toNat_of_nonneg this.1]; exact hq), by omega⟩)
      have hx2 : 2 ≤ x.f1.length := by rw [← e1, idx_len]; show 2 ≤ many c; omega
      have hkx := s1.kr x List.mem_cons_self
      have pos : ∀ j, j < c.length → ((j : Int) ∈ x.f1 ↔ 0 < r.getD j 0) := fun j hj => by
        constructor
        · intro hjx
          have hb := s1.ob j hj
          by_cases hz : r.getD j 0 = 0
          · obtain ⟨s, t, hst⟩ := List.append_of_mem hjx
            have hp : x.f1.Perm ((j : Int) :: (s ++ t)) := by rw [hst]; exact List.perm_middle
            rw [ksym_perm r hp] at hkx
            cases hst2 : s ++ t with
            | nil =>
              rw [hst2] at hp
              have := hp.length_eq
              simp at this
              omega
            | cons u v =>
              rw [hst2] at hkx
              have hp2 := ksym_pos r u v
              have e : ksym r ((j : Int) :: u :: v) = 4096 + ksym r (u :: v) := by
                unfold ksym
                rw [List.map_cons, List.sum_cons, Int.toNat_natCast, hz]; rfl
              omega
          · omega
        · intro hp
          by_cases hq : (j : Int) ∈ x.f1
          · exact hq
          · have := s1.ze j hj (fun z hz => by rw [List.mem_singleton] at hz; rw [hz]; exact hq)
            omega
      have e2 : idx r 0 = x.f1 := gasc_ext _ _ (idx_asc r 0) hx.2.1 (fun q => by
        rw [mem_idx0]
        constructor
        · rintro ⟨j, h1, h2, h3⟩; rw [h3]; exact (pos j (by omega)).2 h2
        · intro hq
          have := hx.2.2.1 q hq
          refine ⟨q.toNat, by omega, (pos q.toNat (by omega)).1 (by rw [Int.toNat_of_nonneg this.1]; exact hq), by omega⟩)
      have hK2 : K2 r = 4096 := by
        rw [← idx_K2 r r [] rfl]
        show ksym r (idx r 0) = 4096
        rw [e2]; exact hkx
      obtain ⟨q1, q2⟩ := good_of r (by omega) (fun j hj => s1.ob j (by omega)) (by omega)
      refine ⟨q1, (okc_iff c r hrl).2 (fun j hj hp => ?_), ⟨fun _ => by rw [q2, hK2]; rfl, fun q => by omega, fun q => by omega⟩, opt⟩
      have := (pos j hj).1 ((al2 j hj).2 hp)
      omega

/-! The draws of lengths and symbols answer. -/
theorem among_ok2 (l : List Int) (hl : ∀ x ∈ l, 0 ≤ x ∧ x ≤ 255) (a sd : Int) (xs : List Int) (hx : 1 ≤ xs.length ∧ xs.length ≤ 1000) (h0 : 0 ≤ a) (h1 : a ≤ 4000000000000000000) : ∃ x a' sd', spec_l1Cur_among.f l a sd xs = some (x, a', sd') ∧ a ≤ a' ∧ a' ≤ a + 2 := by
  obtain ⟨p, a1, s1, e1, p0, p1, q1, q2⟩ := pick_ok l hl a sd (xs.length : Int) h0 (by omega) (by omega)
  have hp := p1 (by omega)
  unfold spec_l1Cur_among.f
  rw [e1]
  simp only [Option.bind_some]
  rw [if_pos p0, if_pos hp]
  exact ⟨_, _, _, rfl, q1, q2⟩
theorem counts_l0 (l : List Int) (hl : ∀ x ∈ l, 0 ≤ x ∧ x ≤ 255) (m : Nat) : ∀ (out : List Int) (a sd : Int), out.length + m ≤ 1000 → 0 ≤ a → a + 2 * m + 4 ≤ 3000000000000000000 →
    ∃ r a' sd', Ev (fun k => spec_l1Cur_counts.l0 k (m : Int) out l a sd) (r, a', sd') ∧ r.length = out.length + m ∧ a ≤ a' ∧ a' ≤ a + 2 * m + 4 := by
  induction m with
  | zero =>
    intro out a sd ho h0 h1
    by_cases g : (out.length : Int) > 0
    · obtain ⟨b, a1, s1, e1, q1, q2⟩ := one_ok l hl a sd 30 h0 (by omega) (by omega)
      by_cases g2 : b = true
      · obtain ⟨x, a2, s2, e2, p1, p2⟩ := among_ok2 l hl a1 s1 [(-1), 1001] (by decide) (by omega) (by omega)
        refine ⟨out.set (0 : Int).toNat x, a2, s2, Ev.succ ?_, by rw [List.length_set]; omega, by omega, by omega⟩
        simp only [spec_l1Cur_counts.l0]
        exact Ev.neg (by omega) (Ev.pos g (Ev.bnd1 e1 (Ev.pos g2 (Ev.bnd1 e2 (Ev.pos (by omega) (Ev.ret _))))))
      · refine ⟨out, a1, s1, Ev.succ ?_, by omega, by omega, by omega⟩
        simp only [spec_l1Cur_counts.l0]
        exact Ev.neg (by omega) (Ev.pos g (Ev.bnd1 e1 (Ev.neg g2 (Ev.ret _))))
    · refine ⟨out, a, sd, Ev.succ ?_, by omega, by omega, by omega⟩
      simp only [spec_l1Cur_counts.l0]
      exact Ev.neg (by omega) (Ev.neg g (Ev.ret _))
  | succ m ih =>
    intro out a sd ho h0 h1
    obtain ⟨x, a1, s1, e1, q1, q2⟩ := among_ok2 l hl a sd [0, 1, 1, 2, 3, 5, 8, 100, 1000] (by decide) h0 (by omega)
    obtain ⟨r, a', sd', e, p1, p2, p3⟩ := ih (out ++ [x]) a1 s1 (by rw [List.length_append, List.length_singleton]; omega) (by omega) (by omega)
    rw [List.length_append, List.length_singleton] at p1
    refine ⟨r, a', sd', Ev.succ ?_, by omega, by omega, by omega⟩
    simp only [spec_l1Cur_counts.l0]
    rw [w64 (x := ((m + 1 : Nat) : Int) - 1) (by omega) (by omega), show ((m + 1 : Nat) : Int) - 1 = (m : Int) by omega]
    exact Ev.pos (by omega) (Ev.bnd1 e1 (Ev.pos (by omega) e))
theorem lengths_l0 (l : List Int) (hl : ∀ x ∈ l, 0 ≤ x ∧ x ≤ 255) (m : Nat) : ∀ (out : List Int) (a sd : Int), out.length + m ≤ 1000 → 0 ≤ a → a + 2 * m ≤ 3000000000000000000 →
    ∃ r a' sd', Ev (fun k => spec_l1Cur_lengths.l0 k (m : Int) out l a sd) (r, a', sd') ∧ r.length = out.length + m ∧ a ≤ a' ∧ a' ≤ a + 2 * m := by
  induction m with
  | zero =>
    intro out a sd ho h0 h1
    refine ⟨out, a, sd, Ev.succ ?_, by omega, by omega, by omega⟩
    simp only [spec_l1Cur_lengths.l0]
    exact Ev.neg (by omega) (Ev.ret _)
  | succ m ih =>
    intro out a sd ho h0 h1
    obtain ⟨x, a1, s1, e1, q1, q2⟩ := among_ok2 l hl a sd [0, 1, 2, 3, 3, 4, 4, 5, 12] (by decide) h0 (by omega)
    obtain ⟨r, a', sd', e, p1, p2, p3⟩ := ih (out ++ [x]) a1 s1 (by rw [List.length_append, List.length_singleton]; omega) (by omega) (by omega)
    rw [List.length_append, List.length_singleton] at p1
    refine ⟨r, a', sd', Ev.succ ?_, by omega, by omega, by omega⟩
    simp only [spec_l1Cur_lengths.l0]
    rw [w64 (x := ((m + 1 : Nat) : Int) - 1) (by omega) (by omega), show ((m + 1 : Nat) : Int) - 1 = (m : Int) by omega]
    exact Ev.pos (by omega) (Ev.bnd1 e1 (Ev.pos (by omega) e))
theorem lengths_j0 (l : List Int) (hl : ∀ x ∈ l, 0 ≤ x ∧ x ≤ 255) (m : Nat) (hm : m ≤ 13) (a sd : Int) (h0 : 0 ≤ a) (h1 : a ≤ 2000000000000000000) : ∃ r a' sd', Ev (fun k => spec_l1Cur_lengths.j0 k (m : Int) l a sd) (r, a', sd') ∧ r.length ≤ 13 ∧ a ≤ a' ∧ a' ≤ a + 100 := by
  obtain ⟨c, a1, s1, e1, p1, p2, p3⟩ := counts_l0 l hl m [] a sd (by simp; omega) h0 (by omega)
  simp only [List.length_nil, Nat.zero_add] at p1
  obtain ⟨⟨r, b⟩, e2, q1, q2⟩ := lengthsOf_ev c (by omega)
  simp only at q1 q2
  have rest : ∀ (a sd : Int), 0 ≤ a → a ≤ 2000000000000001000 → ∃ r' a' sd', Ev (fun k => spec_l1Cur_lengths.j1 k (m : Int) r false l a sd) (r', a', sd') ∧ r'.length ≤ 13 ∧ a ≤ a' ∧ a' ≤ a + 30 := by
    intro a sd h0 h1
    obtain ⟨r', a', sd', e3, z1, z2, z3⟩ := lengths_l0 l hl m [] a sd (by simp; omega) h0 (by omega)
    simp only [List.length_nil, Nat.zero_add] at z1
    refine ⟨r', a', sd', Ev.succ ?_, by omega, by omega, by omega⟩
    simp only [spec_l1Cur_lengths.j1]
    exact Ev.neg (by simp) e3
  by_cases g : b = true
  · obtain ⟨b2, a2, s2, e3, z1, z2⟩ := one_ok l hl a1 s1 3 (by omega) (by omega) (by omega)
    by_cases g2 : b2 = true
    · obtain ⟨r', a', sd', e4, y1, y2, y3⟩ := rest a2 s2 (by omega) (by omega)
      refine ⟨r', a', sd', Ev.succ ?_, y1, by omega, by omega⟩
      simp only [spec_l1Cur_lengths.j0, spec_l1Cur_counts.f]
      refine Ev.bnd e1 (Ev.bnd e2 (Ev.pos g (Ev.bnd1 e3 ?_)))
      rw [g2]
      exact e4
    · refine ⟨r, a2, s2, Ev.succ ?_, by omega, by omega, by omega⟩
      simp only [spec_l1Cur_lengths.j0, spec_l1Cur_counts.f]
      refine Ev.bnd e1 (Ev.bnd e2 (Ev.pos g (Ev.bnd1 e3 (Ev.succ ?_))))
      simp only [spec_l1Cur_lengths.j1]
      exact Ev.pos (by rw [Bool.not_eq_true] at g2; rw [g2]; rfl) (Ev.ret _)
  · obtain ⟨r', a', sd', e4, y1, y2, y3⟩ := rest a1 s1 (by omega) (by omega)
    refine ⟨r', a', sd', Ev.succ ?_, y1, by omega, by omega⟩
    simp only [spec_l1Cur_lengths.j0, spec_l1Cur_counts.f]
    exact Ev.bnd e1 (Ev.bnd e2 (Ev.neg g e4))
theorem lengths_ok (l : List Int) (hl : ∀ x ∈ l, 0 ≤ x ∧ x ≤ 255) (a sd : Int) (h0 : 0 ≤ a) (h1 : a ≤ 1000000000000000000) : ∃ r a' sd', Ev (fun k => spec_l1Cur_lengths.f k l a sd) (r, a', sd') ∧ r.length ≤ 13 ∧ a ≤ a' ∧ a' ≤ a + 200 := by
  obtain ⟨p, a1, s1, e1, p0, p1, q1, q2⟩ := pick_ok l hl a sd 7 h0 (by omega) (by omega)
  have p2 := p1 (by omega)
  obtain ⟨b, a2, s2, e2, z1, z2⟩ := one_ok l hl a1 s1 20 (by omega) (by omega) (by omega)
  by_cases g : b = true
  · obtain ⟨q, a3, s3, e3, y0, y1, y2, y3⟩ := pick_ok l hl a2 s2 2 (by omega) (by omega) (by omega)
    have y4 := y1 (by omega)
    obtain ⟨r, a', sd', e4, x1, x2, x3⟩ := lengths_j0 l hl (12 + q.toNat) (by omega) a3 s3 (by omega) (by omega)
    refine ⟨r, a', sd', ?_, x1, by omega, by omega⟩
    simp only [spec_l1Cur_lengths.f]
    refine Ev.bnd1 e1 (Ev.bnd1 e2 (Ev.pos g (Ev.bnd1 e3 ?_)))
    rw [w64 (x := 12 + q) (by omega) (by omega), show 12 + q = ((12 + q.toNat : Nat) : Int) by omega]
    exact e4
  · obtain ⟨r, a', sd', e4, x1, x2, x3⟩ := lengths_j0 l hl (1 + p.toNat) (by omega) a2 s2 (by omega) (by omega)
    refine ⟨r, a', sd', ?_, x1, by omega, by omega⟩
    simp only [spec_l1Cur_lengths.f]
    refine Ev.bnd1 e1 (Ev.bnd1 e2 (Ev.neg g ?_))
    rw [w64 (x := 1 + p) (by omega) (by omega), show 1 + p = ((1 + p.toNat : Nat) : Int) by omega]
    exact e4
theorem among_ok4 (l : List Int) (hl : ∀ x ∈ l, 0 ≤ x ∧ x ≤ 255) (a sd : Int) (xs : List Int) (hx : 1 ≤ xs.length ∧ xs.length ≤ 1000) (h0 : 0 ≤ a) (h1 : a ≤ 4000000000000000000) : ∃ x a' sd', spec_l1Cur_among.f l a sd xs = some (x, a', sd') ∧ x ∈ xs ∧ a ≤ a' ∧ a' ≤ a + 2 := by
  obtain ⟨p, a1, s1, e1, p0, p1, q1, q2⟩ := pick_ok l hl a sd (xs.length : Int) h0 (by omega) (by omega)
  have hp := p1 (by omega)
  unfold spec_l1Cur_among.f
  rw [e1]
  simp only [Option.bind_some]
  rw [if_pos p0, if_pos hp]
  refine ⟨_, _, _, rfl, ?_, q1, q2⟩
  unfold rd
  rw [List.getD_eq_getElem?_getD, List.getElem?_eq_getElem (by omega)]
  exact List.getElem_mem _
theorem DrawLengthsOf_ok (l : List Int) (hl : ∀ x ∈ l, 0 ≤ x ∧ x ≤ 255) : ∃ c, Ev (fun k => spec_DrawLengthsOf.f k l) c ∧ c.length ≤ 13 := by
  obtain ⟨x, a1, s1, e1, hx, q1, q2⟩ := among_ok4 l hl 0 0 [0, 1, 2, 3, 4, 5, 6, 12, 13] (by decide) (by omega) (by omega)
  have hb : 0 ≤ x ∧ x ≤ 13 := (show ∀ y ∈ ([0, 1, 2, 3, 4, 5, 6, 12, 13] : List Int), 0 ≤ y ∧ y ≤ 13 by decide) x hx
  obtain ⟨m, rfl⟩ : ∃ m : Nat, x = m := ⟨x.toNat, by omega⟩
  obtain ⟨c, a2, s2, e2, p1, _, _⟩ := counts_l0 l hl m [] a1 s1 (by simp; omega) (by omega) (by omega)
  simp only [List.length_nil, Nat.zero_add] at p1
  refine ⟨c, ?_, by omega⟩
  simp only [spec_DrawLengthsOf.f, spec_l1Cur_counts.f]
  exact Ev.bnd1 e1 (Ev.bnd e2 (Ev.ret _))
theorem DrawCostBy_ok (l : List Int) (hl : ∀ x ∈ l, 0 ≤ x ∧ x ≤ 255) : ∃ n d, Ev (fun k => spec_DrawCostBy.f k l) (n, d) ∧ n.length ≤ 13 ∧ d.length ≤ 13 := by
  obtain ⟨n, a1, s1, e1, p1, p2, p3⟩ := lengths_ok l hl 0 0 (by omega) (by omega)
  obtain ⟨d, a2, s2, e2, q1, _, _⟩ := counts_l0 l hl n.length [] a1 s1 (by simp; omega) (by omega) (by omega)
  simp only [List.length_nil, Nat.zero_add] at q1
  refine ⟨n, d, ?_, p1, by omega⟩
  simp only [spec_DrawCostBy.f, spec_l1Cur_counts.f]
  exact Ev.bnd e1 (Ev.bnd e2 (Ev.ret _))
theorem DrawKraftOf_ok (l : List Int) (hl : ∀ x ∈ l, 0 ≤ x ∧ x ≤ 255) : ∃ n, Ev (fun k => spec_DrawKraftOf.f k l) n ∧ n.length ≤ 13 := by
  obtain ⟨n, a1, s1, e1, p1, p2, p3⟩ := lengths_ok l hl 0 0 (by omega) (by omega)
  refine ⟨n, ?_, p1⟩
  simp only [spec_DrawKraftOf.f, spec_DrawGoodLengths.f]
  exact Ev.bnd (Ev.bnd e1 (Ev.ret _)) (Ev.ret _)

theorem spec_KraftOf_evh (l : List Int) (hl : l.length ≤ 140737488351232) : Ev (fun k => spec_KraftOf.f k l) (kraftOf l) := by
  simp only [spec_KraftOf.f, kraftOf]
  refine Ev.bnd (spec_lengths l hl) ?_
  by_cases h : within 12 l = true
  · rw [if_pos h]
    exact Ev.pos h (Ev.bnd (spec_kraft l h) (Ev.ret _))
  · rw [if_neg h]
    exact Ev.neg h (Ev.ret _)
theorem sameInts_l0 (d : Nat) : ∀ (a : List Int) (i : Nat), i + d = a.length → a.length ≤ 100000 → Ev (fun k => laws_sameInts.l0 k a a (a.length : Int) (i : Int)) true := by
  induction d with
  | zero =>
    intro a i hi hl
    refine Ev.succ ?_
    simp only [laws_sameInts.l0]
    exact Ev.neg (by omega) (Ev.ret _)
  | succ d ih =>
    intro a i hi hl
    refine Ev.succ ?_
    simp only [laws_sameInts.l0]
    rw [w64 (x := (i : Int) + 1) (by omega) (by omega)]
    refine Ev.pos (by omega) (Ev.pos (by omega) (Ev.pos (by omega) (Ev.pos (by omega) (Ev.pos (by trivial) ?_))))
    have := ih a (i + 1) (by omega) hl
    simpa using this
theorem sameInts_self (a : List Int) (hl : a.length ≤ 100000) : Ev (fun k => laws_sameInts.f k a a) true := by
  simp only [laws_sameInts.f]
  exact Ev.pos (by trivial) (sameInts_l0 a.length a 0 (by omega) hl)
theorem huff_j4 (x1 : List Int) (hl : ∀ x ∈ x1, 0 ≤ x ∧ x ≤ 255) : Ev (fun k => laws_FnHuffman.j4 k x1) true := by
  obtain ⟨n, e, h⟩ := DrawKraftOf_ok x1 hl
  refine Ev.succ ?_
  simp only [laws_FnHuffman.j4]
  exact Ev.bnd e (Ev.bnd (impl_KraftOf_ev n) (Ev.bnd (spec_KraftOf_evh n (by omega)) (Ev.pos (by simp) (Ev.pos rfl (Ev.bnd (impl_GoodLengths_ev n) (Ev.bnd (spec_GoodLengths_ev n (by omega)) (Ev.eq (Ev.ret _) (by simp))))))))
theorem many_app (pre : List Int) (x : Int) : many (pre ++ [x]) = many pre + if 0 < x then 1 else 0 := by
  unfold many
  rw [List.filter_append, List.length_append]
  by_cases g : 0 < x
  · rw [List.filter_cons_of_pos (by simpa using g), if_pos g]; rfl
  · rw [List.filter_cons_of_neg (by simpa using g), if_neg g]; rfl
theorem huff_l0 (x1 : List Int) (hl : ∀ x ∈ x1, 0 ≤ x ∧ x ≤ 255) (r c : List Int) (hg : goodLengths r = true) (h1 : 1 < many c → kr 0 r = 4096) (h2 : many c = 1 → kr 0 r = 2048) (h3 : many c = 0 → kr 0 r = 0) (hc : c.length ≤ 100) (post : List Int) : ∀ pre : List Int, pre ++ post = c → Ev (fun k => laws_FnHuffman.l0 k x1 r (kr 0 r) true (many pre : Nat) c (c.length : Int) (pre.length : Int)) true := by
  have j4 := huff_j4 x1 hl
  induction post with
  | nil =>
    intro pre he
    rw [List.append_nil] at he
    subst he
    refine Ev.succ ?_
    simp only [laws_FnHuffman.l0]
    refine Ev.neg (by omega) (Ev.bnd (impl_GoodLengths_ev r) (Ev.pos hg (Ev.pos (by trivial) ?_)))
    by_cases g1 : 1 < many pre
    · exact Ev.pos (by omega) (Ev.pos (h1 g1) (Ev.neg (by omega) (Ev.neg (by omega) j4)))
    · refine Ev.neg (by omega) ?_
      by_cases g2 : many pre = 1
      · exact Ev.pos (by omega) (Ev.pos (h2 g2) (Ev.neg (by omega) j4))
      · exact Ev.neg (by omega) (Ev.pos (by omega) (Ev.pos (h3 (by omega)) j4))
  | cons x post ih =>
    intro pre he
    have h := ih (pre ++ [x]) (by simpa using he)
    rw [many_app, List.length_append, List.length_singleton] at h
    have hlen : pre.length + (post.length + 1) = c.length := by rw [← he]; simp
    have hmp : many pre ≤ pre.length := List.length_filter_le _ _
    have hrd : rd c (pre.length : Int) = x := by rw [← he]; exact rd_mid _ _ _
    refine Ev.succ ?_
    simp only [laws_FnHuffman.l0]
    rw [hrd, w64 (x := (pre.length : Int) + 1) (by omega) (by omega), w64 (x := ((many pre : Nat) : Int) + 1) (by omega) (by omega)]
    refine Ev.pos (by omega) (Ev.pos (by omega) (Ev.pos (by omega) ?_))
    by_cases g : 0 < x
    · rw [if_pos g] at h
      exact Ev.pos g (by simpa using h)
    · rw [if_neg g] at h
      exact Ev.neg g (by simpa using h)
theorem big_total (l0 l1 : List Int) : ∃ bg, laws_big.f l0 l1 = some bg := by
  unfold laws_big.f
  split
  · exact ⟨_, rfl⟩
  · exact ⟨_, rfl⟩
theorem wf8 (l : List Int) (h : ∀ x ∈ l, (Lit.int .u8 x).wf = true) : ∀ x ∈ l, 0 ≤ x ∧ x ≤ 255 := by
  intro x hx
  have := h x hx
  simp only [Lit.wf, IntKind.min, IntKind.max, IntKind.signed, IntKind.bits, Bool.and_eq_true, decide_eq_true_eq] at this
  simp at this
  omega
theorem huff_no (c : List Int) (hl : c.length ≤ 140737488351232) (h : ¬ within 1000 c = true) : Ev (fun k => impl_LengthsOf.f k c) (([] : List Int), false) ∧ Ev (fun k => spec_LengthsOf.f k c) (([] : List Int), false) := by
  refine ⟨?_, ?_⟩
  · simp only [impl_LengthsOf.f]
    exact Ev.bnd1 (impl_areWithin_eq c 1000) (Ev.neg h (Ev.ret _))
  · simp only [spec_LengthsOf.f]
    exact Ev.bnd (counts_ev c hl) (Ev.neg h (Ev.ret _))
theorem huff_j2 (x1 : List Int) (hl : ∀ x ∈ x1, 0 ≤ x ∧ x ≤ 255) (c r : List Int) (b : Bool) (hc : c.length ≤ 13) (h : b = true → goodLengths r = true ∧ (1 < many c → kr 0 r = 4096) ∧ (many c = 1 → kr 0 r = 2048) ∧ (many c = 0 → kr 0 r = 0)) : Ev (fun k => laws_FnHuffman.j2 k x1 c r b) true := by
  refine Ev.succ ?_
  simp only [laws_FnHuffman.j2]
  by_cases g : b = true
  · obtain ⟨h1, h2, h3, h4⟩ := h g
    have hw : within 12 r = true := by unfold goodLengths at h1; rw [Bool.and_eq_true] at h1; exact h1.1
    have hk := impl_KraftOf_ev r
    unfold kraftOf at hk
    rw [if_pos hw] at hk
    have h0 := huff_l0 x1 hl r c h1 h2 h3 h4 (by omega) c [] rfl
    exact Ev.pos g (Ev.bnd hk h0)
  · exact Ev.neg g (huff_j4 x1 hl)
theorem huff_j0 (x1 : List Int) (hl : ∀ x ∈ x1, 0 ≤ x ∧ x ≤ 255) (c r : List Int) (b : Bool) (hc : c.length ≤ 13) (h : b = true → goodLengths r = true ∧ (1 < many c → kr 0 r = 4096) ∧ (many c = 1 → kr 0 r = 2048) ∧ (many c = 0 → kr 0 r = 0)) : Ev (fun k => laws_FnHuffman.j0 k x1 c r b false) true := by
  have j2 := huff_j2 x1 hl c r b hc h
  obtain ⟨n, d, e, hn, hd⟩ := DrawCostBy_ok x1 hl
  obtain ⟨c1, c2⟩ := cost_ev n d (by omega) (by omega)
  refine Ev.succ ?_
  simp only [laws_FnHuffman.j0]
  refine Ev.neg (by simp) (Ev.bnd e (Ev.bnd c2 (Ev.bnd c1 (Ev.neg (by simp) (Ev.succ ?_)))))
  simp only [laws_FnHuffman.j1]
  refine Ev.neg (by simp) ?_
  by_cases g : (costR n d).2 = true
  · refine Ev.pos g ?_
    have hcost : goodLengths n = true ∧ within 1000 d = true ∧ d.length = n.length ∧ okc d n = true ∧ (costR n d).1 = fcost d n := by
      unfold costR at g ⊢
      by_cases g1 : goodLengths n = true ∧ within 1000 d = true ∧ d.length = n.length
      · rw [if_pos g1] at g ⊢
        by_cases g2 : okc d n = true
        · rw [if_pos g2]; exact ⟨g1.1, g1.2.1, g1.2.2, g2, rfl⟩
        · rw [if_neg g2] at g; cases g
      · rw [if_neg g1] at g; cases g
    obtain ⟨q1, q2, q3, q4, q5⟩ := hcost
    obtain ⟨best, b1, _, b3, b4, b5, _, b7⟩ := huff_main d q2 (by omega)
    obtain ⟨_, c4⟩ := cost_ev best d (by omega) (by omega)
    have e4 : costR best d = (fcost d best, true) := by
      unfold costR
      rw [if_pos ⟨b4, q2, b3.symm⟩, if_pos b5]
    rw [e4] at c4
    have hle := b7 n q1 q3.symm q4
    rw [q5]
    exact Ev.bnd b1 (Ev.bnd c4 (Ev.pos (by trivial) (Ev.pos (by trivial) (Ev.neg (by simp only; omega) j2))))
  · exact Ev.neg g j2
theorem FnHuffman : laws_FnHuffman.Pure := by
  intro l0 l1 h1 h2 h3 h4 h5 h6
  have b0 := wf8 l0 h3
  have b1 := wf8 l1 h6
  refine Ev.all ?_
  simp only [laws_FnHuffman.f]
  obtain ⟨bg, ebg⟩ := big_total l0 l1
  refine Ev.bnd1 ebg ?_
  by_cases hb : bg = true
  · exact Ev.pos hb (Ev.ret _)
  · obtain ⟨c, e1, hc⟩ := DrawLengthsOf_ok l0 b0
    refine Ev.neg hb (Ev.bnd e1 ?_)
    by_cases g : within 1000 c = true
    · obtain ⟨r, r1, r2, r3, r4, r5, r6, r7⟩ := huff_main c g (by omega)
      exact Ev.bnd r1 (Ev.bnd r2 (Ev.neg (by simp) (Ev.bnd (sameInts_self _ (by simp only; omega)) (huff_j0 l1 b1 c r true hc (fun _ => ⟨r4, r6⟩)))))
    · obtain ⟨r1, r2⟩ := huff_no c (by omega) g
      exact Ev.bnd r1 (Ev.bnd r2 (Ev.neg (by simp) (Ev.bnd (sameInts_self _ (by simp)) (huff_j0 l1 b1 c [] false hc (fun q => by cases q)))))

end Go.Proofs.Ytmgkflkfoccgkab.Pure
