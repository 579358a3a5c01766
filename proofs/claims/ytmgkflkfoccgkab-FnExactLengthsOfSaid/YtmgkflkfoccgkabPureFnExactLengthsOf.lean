/- The program's LengthsOf returns what the reference's returns, for all arguments.
Conditions: none beyond what the row itself says. -/
import Derived.Test.YtmgkflkfoccgkabQFnExactLengthsOfx6
namespace Go.Proofs.Ytmgkflkfoccgkab.Pure
open Go.RowKit Go.Proofs.Ytmgkflkfoccgkab.QFnExactLengthsOf Go.Proofs.YtmgkflkfoccgkabW.PrintWords Go.Proofs.YtmgkflkfoccgkabW.PrintLast Go.Proofs.YtmgkflkfoccgkabW.PrintMore
set_option linter.unusedVariables false
set_option linter.unusedSimpArgs false

theorem w64 {x : Int} (h0 : -9223372036854775808 ≤ x) (h1 : x ≤ 9223372036854775807) : wrap64 x = x := by
  unfold wrap64; omega
theorem Ev.succ {α : Type} {g : Nat → Option α} {r : α} (h : Ev (fun k => g (k + 1)) r) : Ev g r := Ev.step (fun _ => rfl) h
theorem Ev.pos {α : Type} {c : Prop} [Decidable c] {a b : Nat → Option α} {r : α} (h : c) (e : Ev (fun k => a k) r) : Ev (fun k => if c then a k else b k) r := Ev.congr (fun _ => if_pos h) e
theorem Ev.neg {α : Type} {c : Prop} [Decidable c] {a b : Nat → Option α} {r : α} (h : ¬ c) (e : Ev (fun k => b k) r) : Ev (fun k => if c then a k else b k) r := Ev.congr (fun _ => if_neg h) e
theorem Ev.bnd {α β : Type} {g : Nat → Option α} {f : Nat → α → Option β} {a : α} {r : β} (h : Ev (fun k => g k) a) (k : Ev (fun n => f n a) r) : Ev (fun n => (g n).bind (fun x => f n x)) r := Ev.bind h k
theorem Ev.bnd1 {α β : Type} {g : Option α} {f : Nat → α → Option β} {a : α} {r : β} (h : g = some a) (k : Ev (fun n => f n a) r) : Ev (fun n => g.bind (fun x => f n x)) r := by
  rw [h]; exact k
theorem Ev.ret {α : Type} (r : α) : Ev (fun _ => some r) r := Ev.now r
theorem Ev.eq {α : Type} {g : Nat → Option α} {r r' : α} (h : Ev g r) (e : r = r') : Ev g r' := e ▸ h
theorem Ev.all {α : Type} {g : Nat → Option α} {r : α} (h : Ev (fun k => g k) r) : ∃ k, g k = some r := h.rounds
theorem rd_mid (pre : List Int) (x : Int) (post : List Int) : rd (pre ++ x :: post) (pre.length : Int) = x := by
  unfold rd; simp
theorem toIntS_l0 (post : List Int) : ∀ (pre rest : List Int), rest.length = post.length → (pre ++ post).length ≤ 140737488351232 → Ev (fun k => laws_toIntS.l0 k (pre ++ post) (pre ++ rest) (pre.length : Int)) (pre ++ post) := by
  induction post with
  | nil =>
    intro pre rest hr hl
    obtain rfl : rest = [] := List.eq_nil_of_length_eq_zero hr
    refine Ev.succ ?_
    simp only [laws_toIntS.l0]
    exact Ev.neg (by simp) (Ev.ret _)
  | cons x post ih =>
    intro pre rest hr hl
    obtain ⟨y, rest, rfl⟩ : ∃ y t, rest = y :: t := by cases rest with | nil => simp at hr | cons y t => exact ⟨y, t, rfl⟩
    have h := ih (pre ++ [x]) rest (by simpa using hr) (by simpa using hl)
    simp only [List.length_append, List.length_cons, List.length_nil] at hl hr h
    refine Ev.succ ?_
    simp only [laws_toIntS.l0, List.length_append, List.length_cons]
    refine Ev.pos (by omega) (Ev.pos (by omega) (Ev.pos (by omega) ?_))
    rw [rd_mid, w64 (by omega) (by omega)]
    have e : (pre ++ y :: rest).set ((pre.length : Int)).toNat x = pre ++ [x] ++ rest := by simp
    rw [e]
    simpa using h
theorem toIntS (l : List Int) (h : l.length * 8 ≤ 140737488351232) : Ev (fun k => laws_toIntS.f k l) l := by
  simp only [laws_toIntS.f]
  refine Ev.pos (by omega) (Ev.pos (by omega) ?_)
  have := toIntS_l0 l [] (List.replicate l.length 0) (by simp) (by simp; omega)
  simpa using this

theorem eqIntS_l0 (pa : List Int) : ∀ (pa' pb pb' : List Int), pa'.length = pb'.length → pa.length = pb.length → (pa' ++ pa).length ≤ 140737488351232 → Ev (fun k => laws_eqIntS.l0 k (pa' ++ pa) (pb' ++ pb) (pa'.length : Int)) (decide (pa = pb)) := by
  induction pa with
  | nil =>
    intro pa' pb pb' h1 h2 hl
    obtain rfl : pb = [] := List.eq_nil_of_length_eq_zero h2.symm
    refine Ev.succ ?_
    simp only [laws_eqIntS.l0]
    exact Ev.neg (by simp) (Ev.eq (Ev.ret _) (by simp))
  | cons x pa ih =>
    intro pa' pb pb' h1 h2 hl
    obtain ⟨y, pb, rfl⟩ : ∃ y t, pb = y :: t := by cases pb with | nil => simp at h2 | cons y t => exact ⟨y, t, rfl⟩
    have h := ih (pa' ++ [x]) pb (pb' ++ [y]) (by simpa using h1) (by simpa using h2) (by simpa using hl)
    simp only [List.length_append, List.length_cons, List.length_nil] at hl h2 h
    refine Ev.succ ?_
    simp only [laws_eqIntS.l0, List.length_append, List.length_cons]
    refine Ev.pos (by omega) (Ev.pos (by omega) (Ev.pos (by omega) ?_))
    rw [rd_mid, show (pa'.length : Int) = (pb'.length : Int) by omega, rd_mid]
    by_cases e : x = y
    · subst e
      refine Ev.pos rfl ?_
      rw [w64 (by omega) (by omega)]
      refine Ev.eq (Ev.congr (fun k => ?_) h) (by simp)
      simp [h1]
    · exact Ev.neg e (Ev.eq (Ev.ret _) (by simp [e]))
theorem eqIntS (a b : List Int) (h : a.length ≤ 140737488351232) : Ev (fun k => laws_eqIntS.f k a b) (decide (a = b)) := by
  simp only [laws_eqIntS.f]
  by_cases e : a.length = b.length
  · exact Ev.pos (by omega) (by simpa using eqIntS_l0 a [] b [] rfl e (by simpa using h))
  · exact Ev.neg (by omega) (Ev.eq (Ev.ret _) (by simp only [false_eq_decide_iff]; intro h; exact e (by rw [h])))
theorem eqIntS_self (a : List Int) (h : a.length ≤ 140737488351232) : Ev (fun k => laws_eqIntS.f k a a) true := Ev.eq (eqIntS a a h) (by simp)

theorem spec_in_eq (a lo hi : Int) : spec_l1In.f a lo hi = some (decide (lo ≤ a ∧ a ≤ hi)) := by
  unfold spec_l1In.f
  by_cases h1 : a ≥ lo
  · rw [if_pos h1]
    by_cases h2 : a ≤ hi
    · rw [decide_eq_true h2, decide_eq_true ⟨h1, h2⟩]
    · rw [decide_eq_false h2, decide_eq_false (fun h => h2 h.2)]
  · rw [if_neg h1, decide_eq_false (fun h => h1 h.1)]
def inAll (lo hi : Int) (l : List Int) : Bool := l.all fun x => decide (lo ≤ x ∧ x ≤ hi)
theorem spec_l1All_l0 (lo hi : Int) (post : List Int) : ∀ pre : List Int, (pre ++ post).length ≤ 140737488351232 → Ev (fun k => spec_l1All.l0 k lo hi (pre ++ post) ((pre ++ post).length : Int) (pre.length : Int)) (inAll lo hi post) := by
  induction post with
  | nil =>
    intro pre hl
    refine Ev.succ ?_
    simp only [spec_l1All.l0]
    exact Ev.neg (by simp) (Ev.ret _)
  | cons x post ih =>
    intro pre hl
    have h := ih (pre ++ [x]) (by simpa using hl)
    simp only [List.length_append, List.length_cons] at hl
    refine Ev.succ ?_
    simp only [spec_l1All.l0]
    refine Ev.pos (by simp only [List.length_append, List.length_cons]; omega) (Ev.pos (by omega) (Ev.pos (by simp only [List.length_append, List.length_cons]; omega) ?_))
    rw [rd_mid]
    refine Ev.bnd1 (spec_in_eq _ _ _) ?_
    by_cases hx : lo ≤ x ∧ x ≤ hi
    · rw [decide_eq_true hx]
      refine Ev.pos rfl ?_
      rw [w64 (by omega) (by omega)]
      refine Ev.eq (by simpa using h) ?_
      simp [inAll, hx]
    · rw [decide_eq_false hx]
      exact Ev.neg (by simp) (Ev.eq (Ev.ret _) (by simp only [inAll, List.all_cons, decide_eq_false hx, Bool.false_and]))
theorem spec_l1All_ev (lo hi : Int) (l : List Int) (hl : l.length ≤ 140737488351232) : Ev (fun k => spec_l1All.f k l lo hi) (inAll lo hi l) := by
  simp only [spec_l1All.f]
  simpa using spec_l1All_l0 lo hi l [] (by simpa using hl)
theorem inAll_mem {lo hi : Int} {l : List Int} (h : inAll lo hi l = true) : ∀ x ∈ l, lo ≤ x ∧ x ≤ hi := by
  intro x hx
  unfold inAll at h
  simpa using List.all_eq_true.1 h x hx

theorem anyO_not {α : Type} (f : α → Option Bool) (p : α → Bool) (l : List α) (h : ∀ x ∈ l, f x = some (!p x)) : anyO f l = some (!l.all p) := by
  induction l with
  | nil => rfl
  | cons x t ih =>
    simp only [anyO]
    rw [h x (by simp), Option.bind_some]
    cases hp : p x with
    | true => simp [hp, ih (fun y hy => h y (by simp [hy]))]
    | false => simp [hp]

def within (m : Int) (l : List Int) : Bool := decide (l.length ≤ 12) && inAll 0 m l
theorem impl_aw1 (a m : Int) : impl_areWithin_1.f a m = some (!decide (0 ≤ a ∧ a ≤ m)) := by
  unfold impl_areWithin_1.f
  by_cases h : a < 0
  · rw [if_pos h, decide_eq_false (fun h2 => absurd h2.1 (by omega))]; rfl
  · rw [if_neg h]
    by_cases h2 : a > m
    · rw [decide_eq_true h2, decide_eq_false (fun h3 => absurd h3.2 (by omega))]; rfl
    · rw [decide_eq_false h2, decide_eq_true ⟨by omega, by omega⟩]; rfl
theorem impl_areWithin_eq (l : List Int) (m : Int) : impl_areWithin.f l m = some (within m l) := by
  unfold impl_areWithin.f within
  by_cases h : l.length ≤ 12
  · rw [if_pos (by omega), decide_eq_true h]
    unfold impl_areWithin_1_any.f
    rw [anyO_not _ (fun x => decide (0 ≤ x ∧ x ≤ m)) l (fun x _ => impl_aw1 x m)]
    simp [inAll]
  · rw [if_neg (by omega), decide_eq_false h]; rfl

theorem within_facts {m : Int} {l : List Int} (h : within m l = true) : l.length ≤ 12 ∧ inAll 0 m l = true := by
  simpa [within] using h
def ups : Int → Nat → List Int
  | _, 0 => []
  | m, n + 1 => m :: ups (m + 1) n
theorem ups_len (n : Nat) : ∀ m, (ups m n).length = n := by
  induction n with
  | zero => intro m; rfl
  | succ n ih => intro m; simp [ups, ih]
theorem markIntS_l0 (post : List Int) : ∀ (pre : List Int) (m : Int), 0 ≤ m → m + post.length ≤ 4611686018427387904 → (pre ++ post).length ≤ 140737488351232 → Ev (fun k => laws_markIntS.l0 k (pre ++ post) m (pre.length : Int)) (m + post.length, pre ++ ups m post.length) := by
  induction post with
  | nil =>
    intro pre m h0 h1 hl
    refine Ev.succ ?_
    simp only [laws_markIntS.l0]
    exact Ev.neg (by simp) (Ev.eq (Ev.ret _) (by simp [ups]))
  | cons x post ih =>
    intro pre m h0 h1 hl
    simp only [List.length_append, List.length_cons] at hl h1
    have h := ih (pre ++ [m]) (m + 1) (by omega) (by omega) (by simp only [List.length_append, List.length_cons, List.length_nil]; omega)
    refine Ev.succ ?_
    simp only [laws_markIntS.l0]
    refine Ev.pos (by simp only [List.length_append, List.length_cons]; omega) (Ev.pos (by omega) ?_)
    rw [w64 (x := m + 1) (by omega) (by omega), w64 (by omega) (by omega)]
    have e : (pre ++ x :: post).set ((pre.length : Int)).toNat m = pre ++ [m] ++ post := by simp
    rw [e]
    refine Ev.eq (by simpa using h) ?_
    simp only [ups, List.length_cons, Prod.mk.injEq]
    exact ⟨by omega, trivial⟩
theorem markIntS (l : List Int) (m : Int) (h0 : 0 ≤ m) (h1 : m + l.length ≤ 4611686018427387904) (hl : l.length ≤ 140737488351232) : Ev (fun k => laws_markIntS.f k l m) (m + l.length, ups m l.length) := by
  simp only [laws_markIntS.f]
  simpa using markIntS_l0 l [] m h0 h1 (by simpa using hl)
theorem heldIntS_l0 (n : Nat) : ∀ (pre : List Int) (m : Int), 0 ≤ m → m + n ≤ 4611686018427387904 → pre.length + n ≤ 140737488351232 → Ev (fun k => laws_heldIntS.l0 k (pre ++ ups m n) m (pre.length : Int)) (m + n) := by
  induction n with
  | zero =>
    intro pre m h0 h1 hl
    refine Ev.succ ?_
    simp only [laws_heldIntS.l0]
    exact Ev.neg (by simp [ups]) (Ev.eq (Ev.ret _) (by simp))
  | succ n ih =>
    intro pre m h0 h1 hl
    have h := ih (pre ++ [m]) (m + 1) (by omega) (by omega) (by simp only [List.length_append, List.length_cons, List.length_nil]; omega)
    refine Ev.succ ?_
    simp only [laws_heldIntS.l0]
    refine Ev.pos (by simp only [List.length_append, ups_len]; omega) (Ev.pos (by omega) (Ev.pos (by simp only [ups]; exact rd_mid _ _ _) ?_))
    rw [w64 (x := m + 1) (by omega) (by omega), w64 (by omega) (by omega)]
    refine Ev.eq (by simpa [ups] using h) (by omega)
theorem heldIntS (n : Nat) (m : Int) (h0 : 0 ≤ m) (h1 : m + n ≤ 4611686018427387904) (hl : n ≤ 140737488351232) : Ev (fun k => laws_heldIntS.f k (ups m n) m) (m + n) := by
  simp only [laws_heldIntS.f]
  simpa using heldIntS_l0 n [] m h0 h1 (by simpa using hl)

/-! Rows in strictly increasing order. -/
def asc (l : List Int) : Prop := l.Pairwise (· < ·)
theorem asc_ins (pre post : List Int) (v : Int) (h : asc (pre ++ post)) (h1 : ∀ x ∈ pre, x < v) (h2 : ∀ x ∈ post, v < x) : asc (pre ++ v :: post) := by
  unfold asc at h ⊢
  rw [List.pairwise_append] at h ⊢
  refine ⟨h.1, List.pairwise_cons.2 ⟨h2, h.2.1⟩, fun a ha b hb => ?_⟩
  rcases List.mem_cons.1 hb with rfl | hb
  · exact h1 a ha
  · exact h.2.2 a ha b hb
theorem put_l0 (v : Int) (post : List Int) : ∀ (pre : List Int), (pre ++ post).length ≤ 2097152 → asc (pre ++ post) → (∀ x ∈ pre, x < v) →
    ∃ r, Ev (fun k => spec_l1Put.l0 k (pre ++ post) v (pre.length : Int)) r ∧ asc r ∧ (∀ y, y ∈ r ↔ y = v ∨ y ∈ pre ++ post) ∧ r.length ≤ (pre ++ post).length + 1 := by
  induction post with
  | nil =>
    intro pre hl ha hp
    simp only [List.length_append, List.length_nil] at hl
    refine ⟨([] ++ (pre ++ []).take ((pre.length : Int)).toNat ++ [v]) ++ (pre ++ []).drop ((pre.length : Int)).toNat, Ev.succ ?_, ?_, fun y => by simp [or_comm], by simp⟩
    · simp only [spec_l1Put.l0]
      exact Ev.neg (by simp) (Ev.bnd1 rfl (Ev.pos (by omega) (Ev.pos (by simp) (Ev.bnd1 rfl (Ev.pos (by simp; omega) (Ev.bnd1 rfl (Ev.pos (by simp; omega) (Ev.bnd1 rfl (Ev.bnd1 rfl (Ev.pos (by simp; omega) (Ev.ret _)))))))))))
    · have := asc_ins pre [] v ha hp (by simp)
      simpa using this
  | cons x post ih =>
    intro pre hl ha hp
    have hl' := hl
    simp only [List.length_append, List.length_cons] at hl
    have e0 : wrap64 ((pre.length : Int) + 1) = (pre.length : Int) + 1 := w64 (by omega) (by omega)
    by_cases g : x < v
    · obtain ⟨r, h1, h2, h3, h4⟩ := ih (pre ++ [x]) (by simpa using hl') (by simpa using ha) (fun y hy => by
        rcases List.mem_append.1 hy with hy | hy
        · exact hp y hy
        · rw [List.mem_singleton.1 hy]; exact g)
      refine ⟨r, Ev.succ ?_, h2, fun y => by rw [h3]; simp, by simpa using h4⟩
      simp only [spec_l1Put.l0]
      refine Ev.pos (by simp only [List.length_append, List.length_cons]; omega) (Ev.pos (by omega) ?_)
      rw [rd_mid, e0]
      exact Ev.pos g (by simpa using h1)
    · by_cases g2 : x = v
      · refine ⟨pre ++ x :: post, Ev.succ ?_, ha, fun y => ⟨fun h => .inr h, fun h => ?_⟩, by omega⟩
        · simp only [spec_l1Put.l0]
          refine Ev.pos (by simp only [List.length_append, List.length_cons]; omega) (Ev.pos (by omega) ?_)
          rw [rd_mid]
          exact Ev.neg g (Ev.pos g2 (Ev.ret _))
        · rcases h with rfl | h
          · simp [g2]
          · exact h
      · refine ⟨([] ++ (pre ++ x :: post).take ((pre.length : Int)).toNat ++ [v]) ++ (pre ++ x :: post).drop ((pre.length : Int)).toNat, Ev.succ ?_, ?_, fun y => ?_, by simp; omega⟩
        · simp only [spec_l1Put.l0]
          refine Ev.pos (by simp only [List.length_append, List.length_cons]; omega) (Ev.pos (by omega) ?_)
          rw [rd_mid]
          exact Ev.neg g (Ev.neg g2 (Ev.bnd1 rfl (Ev.pos (by simp only [List.length_append, List.length_cons]; omega) (Ev.bnd1 rfl (Ev.pos (by simp; omega) (Ev.bnd1 rfl (Ev.pos (by simp; omega) (Ev.bnd1 rfl (Ev.bnd1 rfl (Ev.pos (by simp; omega) (Ev.ret _)))))))))))
        · have hpost : ∀ y ∈ x :: post, v < y := fun y hy => by
            rcases List.mem_cons.1 hy with rfl | hy
            · omega
            · unfold asc at ha
              rw [List.pairwise_append] at ha
              have := (List.pairwise_cons.1 ha.2.1).1 y hy
              omega
          have := asc_ins pre (x :: post) v ha hp hpost
          simpa using this
        · simp only [Int.toNat_natCast, List.nil_append, List.take_left', List.drop_left', List.mem_append, List.mem_cons, List.not_mem_nil, or_false]
          constructor
          · rintro ((h | h) | h | h)
            · exact .inr (.inl h)
            · exact .inl h
            · exact .inr (.inr (.inl h))
            · exact .inr (.inr (.inr h))
          · rintro (h | h | h | h)
            · exact .inl (.inr h)
            · exact .inl (.inl h)
            · exact .inr (.inl h)
            · exact .inr (.inr h)
theorem put_ev (l : List Int) (v : Int) (hl : l.length ≤ 2097152) (ha : asc l) : ∃ r, Ev (fun k => spec_l1Put.f k l v) r ∧ asc r ∧ (∀ y, y ∈ r ↔ y = v ∨ y ∈ l) ∧ r.length ≤ l.length + 1 := by
  obtain ⟨r, h1, h2, h3, h4⟩ := put_l0 v l [] (by simpa using hl) (by simpa using ha) (by simp)
  refine ⟨r, ?_, h2, by simpa using h3, by simpa using h4⟩
  simp only [spec_l1Put.f]
  simpa using h1

/-! The reference's LengthsOf ends and gives as many lengths as there are counts. -/
theorem less_ok (a : Int) (x : List Int) (b : Int) (y : List Int) (hx : x ≠ []) (hy : y ≠ []) : ∃ c, spec_l11Less.f a x b y = some c := by
  have h1 : 0 < (x.length : Int) := by have := List.length_pos_iff.2 hx; omega
  have h2 : 0 < (y.length : Int) := by have := List.length_pos_iff.2 hy; omega
  unfold spec_l11Less.f
  split
  · exact ⟨_, rfl⟩
  · split
    · (try rw [if_pos h1, if_pos h2]); exact ⟨_, rfl⟩
    · exact ⟨_, rfl⟩
/-- Groups as they come about: none is empty, their symbols are below n, and there are at most n of all. -/
def Gs (n : Nat) (l : List S78) : Prop := ∀ x ∈ l, x.f1 ≠ [] ∧ asc x.f1 ∧ ∀ i ∈ x.f1, 0 ≤ i ∧ i < (n : Int)
theorem Gs_rd {n : Nat} {l : List S78} (h : Gs n l) (i : Nat) (hi : i < l.length) : rd_T78 l (i : Int) ∈ l := by
  unfold rd_T78
  rw [Int.toNat_natCast, List.getD_eq_getElem?_getD, List.getElem?_eq_getElem hi]
  exact List.getElem_mem hi
theorem lbest_ok {n : Nat} {l : List S78} (h : Gs n l) (m : Nat) : ∀ j b : Nat, j + m = l.length → b < l.length → ∃ b', lbest l m j b = some b' ∧ b' < l.length := by
  induction m with
  | zero => intro j b _ hb; exact ⟨b, rfl, hb⟩
  | succ m ih =>
    intro j b hj hb
    obtain ⟨c, hc⟩ := less_ok (rd_T78 l (j : Int)).f0 (rd_T78 l (j : Int)).f1 (rd_T78 l (b : Int)).f0 (rd_T78 l (b : Int)).f1 (h _ (Gs_rd h j (by omega))).1 (h _ (Gs_rd h b hb)).1
    simp only [lbest]
    rw [hc, Option.bind_some]
    exact ih (j + 1) _ (by omega) (by split <;> omega)
theorem least_ok {n : Nat} {l : List S78} (h : Gs n l) (h0 : 0 < l.length) (hl : l.length ≤ 1000) : ∃ a, spec_l11Least.f l = some a ∧ Gs n (a.1 :: a.2) ∧ a.2.length + 1 = l.length := by
  unfold spec_l11Least.f
  rw [if_pos ⟨by omega, h0⟩]
  obtain ⟨b, hb, hbl⟩ := lbest_ok h l.length 0 0 (by omega) h0
  rw [hb, Option.bind_some]
  refine ⟨_, rfl, fun x hx => ?_, by simp only [List.length_append, List.length_take, List.length_drop]; omega⟩
  rcases List.mem_cons.1 hx with hx | hx
  · rw [hx]; exact h _ (Gs_rd h b hbl)
  · rcases List.mem_append.1 hx with hx | hx
    · exact h _ (List.mem_of_mem_take hx)
    · exact h _ (List.mem_of_mem_drop hx)
theorem lincs_ok (n : Nat) (x : List Int) : ∀ o : List Int, o.length = n → (∀ i ∈ x, 0 ≤ i ∧ i < (n : Int)) → ∃ o', lincs o x = some o' ∧ o'.length = n := by
  induction x with
  | nil => intro o ho _; exact ⟨o, rfl, ho⟩
  | cons i t ih =>
    intro o ho hx
    have hi := hx i (List.mem_cons_self)
    simp only [lincs]
    rw [if_pos ⟨hi.1, by omega⟩]
    exact ih _ (by rw [List.length_set]; exact ho) (fun j hj => hx j (List.mem_cons_of_mem _ hj))
theorem lgrp_ok (n : Nat) (l : List Int) : ∀ (j : Nat) (acc : List S78), j + l.length = n → acc.length ≤ j → Gs n acc → Gs n (lgrp l j acc) ∧ (lgrp l j acc).length ≤ n := by
  induction l with
  | nil => intro j acc hj ha h; exact ⟨h, by simp only [lgrp]; simp at hj; omega⟩
  | cons c t ih =>
    intro j acc hj ha h
    simp only [List.length_cons] at hj
    simp only [lgrp]
    split
    · refine ih (j + 1) _ (by omega) (by rw [List.length_append, List.length_singleton]; omega) (fun x hx => ?_)
      rcases List.mem_append.1 hx with hx | hx
      · exact h x hx
      · rw [List.mem_singleton] at hx
        rw [hx]
        exact ⟨by simp, List.pairwise_singleton _ _, fun i hi => by rw [List.mem_singleton] at hi; rw [hi]; omega⟩
    · exact ih (j + 1) acc (by omega) (by omega) h
theorem asc_len (n : Int) (l : List Int) : ∀ lo : Int, lo ≤ n → asc l → (∀ i ∈ l, lo ≤ i ∧ i < n) → (l.length : Int) ≤ n - lo := by
  induction l with
  | nil => intro lo h _ _; simp; omega
  | cons x t ih =>
    intro lo hlo ha h
    have hx := h x List.mem_cons_self
    unfold asc at ha
    rw [List.pairwise_cons] at ha
    have := ih (x + 1) (by omega) ha.2 (fun i hi => ⟨by have := ha.1 i hi; omega, (h i (List.mem_cons_of_mem _ hi)).2⟩)
    simp only [List.length_cons]
    omega
def okRow (n : Nat) (x : List Int) : Prop := x ≠ [] ∧ asc x ∧ ∀ i ∈ x, 0 ≤ i ∧ i < (n : Int)
theorem okRow_len {n : Nat} {x : List Int} (h : okRow n x) : x.length ≤ n := by
  have := asc_len (n : Int) x 0 (by omega) h.2.1 h.2.2
  omega
theorem lputs_ev (n : Nat) (hn : n ≤ 12) (t : List Int) : ∀ x : List Int, okRow n x → (∀ i ∈ t, 0 ≤ i ∧ i < (n : Int)) → ∃ r, Ev (fun k => lputs k x t) r ∧ okRow n r := by
  induction t with
  | nil => intro x hx _; exact ⟨x, Ev.ret _, hx⟩
  | cons i t ih =>
    intro x hx ht
    have hl := okRow_len hx
    obtain ⟨y, ey, ha, hm, _⟩ := put_ev x i (by omega) hx.2.1
    have hi := ht i List.mem_cons_self
    have hy : okRow n y := by
      refine ⟨fun e => ?_, ha, fun j hj => ?_⟩
      · have h2 := (hm i).2 (Or.inl rfl)
        rw [e] at h2
        cases h2
      · rcases (hm j).1 hj with q | q
        · rw [q]; exact hi
        · exact hx.2.2 j q
    obtain ⟨r, er, hr⟩ := ih y hy (fun j hj => ht j (List.mem_cons_of_mem _ hj))
    refine ⟨r, ?_, hr⟩
    simp only [lputs]
    exact Ev.bnd ey er
theorem lrun_ev (n : Nat) (hn : n ≤ 12) (c : Nat) : ∀ (gs : List S78) (out : List Int), gs.length ≤ c → c ≤ 1000 → Gs n gs → out.length = n → ∃ r, r.length = n ∧ ∃ K, ∀ k, K ≤ k → ∀ m, c + 1 ≤ m → lrun k m gs out = some r := by
  induction c with
  | zero =>
    intro gs out hc _ _ ho
    refine ⟨out, ho, 0, fun k _ m hm => ?_⟩
    obtain ⟨m, rfl⟩ : ∃ q, m = q + 1 := ⟨m - 1, by omega⟩
    simp only [lrun]
    rw [if_neg (by omega)]
  | succ c ih =>
    intro gs out hc hc2 hg ho
    by_cases h1 : 1 < gs.length
    · obtain ⟨a, ea, ga, la⟩ := least_ok hg (by omega) (by omega)
      obtain ⟨b, eb, gb, lb⟩ := least_ok (fun x hx => ga x (List.mem_cons_of_mem _ hx)) (by omega) (by omega)
      have hax := ga a.1 List.mem_cons_self
      have hbx := gb b.1 List.mem_cons_self
      have hbl := okRow_len (n := n) (x := b.1.f1) hbx
      obtain ⟨x, ⟨K1, ex⟩, hx⟩ := lputs_ev n hn b.1.f1 a.1.f1 hax hbx.2.2
      have hxl := okRow_len hx
      obtain ⟨o', eo, ho'⟩ := lincs_ok n x out ho hx.2.2
      obtain ⟨r, hr, K2, er⟩ := ih (b.2 ++ [(⟨wrap64 (a.1.f0 + b.1.f0), x⟩ : S78)]) o' (by rw [List.length_append, List.length_singleton]; omega) (by omega) (fun y hy => by
        rcases List.mem_append.1 hy with hy | hy
        · exact gb y (List.mem_cons_of_mem _ hy)
        · rw [List.mem_singleton] at hy; rw [hy]; exact hx) ho'
      refine ⟨r, hr, K1 + K2, fun k hk m hm => ?_⟩
      obtain ⟨m, rfl⟩ : ∃ q, m = q + 1 := ⟨m - 1, by omega⟩
      simp only [lrun]
      rw [if_pos h1, ea, Option.bind_some, eb, Option.bind_some, if_pos ⟨by omega, by omega⟩, show lputs k a.1.f1 b.1.f1 = some x from ex k (by omega), Option.bind_some, if_pos (by omega), eo, Option.bind_some]
      exact er k (by omega) m (by omega)
    · refine ⟨out, ho, 0, fun k _ m hm => ?_⟩
      obtain ⟨m, rfl⟩ : ∃ q, m = q + 1 := ⟨m - 1, by omega⟩
      simp only [lrun]
      rw [if_neg h1]
theorem counts_ev (l : List Int) (hl : l.length ≤ 140737488351232) : Ev (fun k => spec_l11Counts.f k l) (within 1000 l) := by
  simp only [spec_l11Counts.f]
  by_cases h : l.length ≤ 12
  · exact Ev.pos (by omega) (Ev.bnd (spec_l1All_ev 0 1000 l hl) (Ev.eq (Ev.ret _) (by simp [within, h])))
  · exact Ev.neg (by omega) (Ev.eq (Ev.ret _) (by simp [within, h]))
theorem lengths_core (l : List Int) (g : within 1000 l = true) : ∃ o r, Go.Proofs.Ytmgkflkfoccgkab.QFnExactLengthsOf.lone (lgrp l 0 []) (List.replicate l.length 0) = some o ∧ r.length = l.length ∧ Ev (fun k => lrun k k (lgrp l 0 []) o) r := by
  have h12 := (within_facts g).1
  obtain ⟨hg, hgl⟩ := lgrp_ok l.length l 0 [] (by simp) (by simp) (fun x hx => by cases hx)
  have h1 : ∃ o, Go.Proofs.Ytmgkflkfoccgkab.QFnExactLengthsOf.lone (lgrp l 0 []) (List.replicate l.length 0) = some o ∧ o.length = l.length := by
    unfold Go.Proofs.Ytmgkflkfoccgkab.QFnExactLengthsOf.lone
    by_cases g1 : (lgrp l 0 []).length = 1
    · rw [if_pos g1]
      have hm : (rd_T78 (lgrp l 0 []) 0).f1 ≠ [] ∧ asc (rd_T78 (lgrp l 0 []) 0).f1 ∧ ∀ i ∈ (rd_T78 (lgrp l 0 []) 0).f1, 0 ≤ i ∧ i < (l.length : Int) := hg _ (Gs_rd hg 0 (by omega))
      generalize (rd_T78 (lgrp l 0 []) 0).f1 = x at hm ⊢
      cases x with
      | nil => exact absurd rfl hm.1
      | cons y t =>
        have hy := hm.2.2 y List.mem_cons_self
        rw [show rd (y :: t) 0 = y from rfl, if_pos ⟨by simp, hy.1, by simp; omega⟩]
        exact ⟨_, rfl, by simp⟩
    · rw [if_neg g1]
      exact ⟨_, rfl, by simp⟩
  obtain ⟨o, eo, ho⟩ := h1
  obtain ⟨r, hr, K, er⟩ := lrun_ev l.length h12 12 (lgrp l 0 []) o (by omega) (by omega) hg ho
  exact ⟨o, r, eo, hr, K + 13, fun k hk => er k (by omega) k (by omega)⟩
/-- Both come to one result. -/
theorem lengthsOf_both (l : List Int) (hl : l.length ≤ 140737488351232) : ∃ r : List Int × Bool, r.1.length ≤ 12 ∧ Ev (fun k => spec_LengthsOf.f k l) r ∧ Ev (fun k => impl_LengthsOf.f k l) r := by
  by_cases g : within 1000 l = true
  · have h12 := within_facts g
    obtain ⟨o, r, eo, hr, er⟩ := lengths_core l g
    refine ⟨(r, true), by simp only; omega, ?_, ?_⟩
    · simp only [spec_LengthsOf.f]
      exact Ev.bnd (counts_ev l hl) (Ev.pos g (Ev.pos h12.1 (Ev.bnd1 eo (Ev.bnd er (Ev.ret _)))))
    · simp only [impl_LengthsOf.f]
      exact Ev.bnd1 (impl_areWithin_eq l 1000) (Ev.pos g (Ev.pos ⟨h12.1, inAll_mem h12.2⟩ (Ev.bnd1 eo (Ev.bnd er (Ev.ret _)))))
  · refine ⟨([], false), by simp, ?_, ?_⟩
    · simp only [spec_LengthsOf.f]
      exact Ev.bnd (counts_ev l hl) (Ev.neg g (Ev.ret _))
    · simp only [impl_LengthsOf.f]
      exact Ev.bnd1 (impl_areWithin_eq l 1000) (Ev.neg g (Ev.ret _))

theorem FnExactLengthsOf : laws_FnExactLengthsOf.Pure := by
  intro l _ hl _
  refine Ev.all ?_
  simp only [laws_FnExactLengthsOf.f]
  by_cases g : (l.length : Int) > 1048576
  · exact Ev.pos g (Ev.ret _)
  · refine Ev.neg g ?_
    obtain ⟨r, hr, hs, hi⟩ := lengthsOf_both l (by omega)
    have t1 := toIntS l hl
    refine Ev.bnd t1 (Ev.bnd hs (Ev.bnd t1 (Ev.bnd hi (Ev.bnd (eqIntS_self r.1 (by omega)) (Ev.pos rfl (Ev.succ ?_))))))
    simp only [laws_FnExactLengthsOf.j0]
    refine Ev.neg (by simp) (Ev.bnd t1 (Ev.bnd (eqIntS_self l (by omega)) (Ev.pos rfl ?_)))
    refine Ev.bnd (markIntS l 1 (by omega) (by omega) (by omega)) (Ev.neg (by omega) (Ev.bnd (eqIntS_self r.1 (by omega)) (Ev.pos rfl (Ev.succ ?_))))
    simp only [laws_FnExactLengthsOf.j1]
    refine Ev.neg (by simp) (Ev.bnd (markIntS r.1 1 (by omega) (by omega) (by omega)) (Ev.bnd (heldIntS r.1.length 1 (by omega) (by omega) (by omega)) ?_))
    refine Ev.neg (by omega) (Ev.pos rfl (Ev.bnd t1 (Ev.bnd hi (Ev.bnd (eqIntS_self r.1 (by omega)) (Ev.pos rfl (Ev.succ ?_))))))
    simp only [laws_FnExactLengthsOf.j2]
    refine Ev.neg (by simp) (Ev.bnd (heldIntS r.1.length 1 (by omega) (by omega) (by omega)) (Ev.neg (by omega) (Ev.pos rfl (Ev.ret _))))

end Go.Proofs.Ytmgkflkfoccgkab.Pure
