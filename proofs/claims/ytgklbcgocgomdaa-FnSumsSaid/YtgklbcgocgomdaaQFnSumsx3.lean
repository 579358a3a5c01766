-- Written by this session's own program (wip/x/xprint.py, over the kit's printer); Lean checks it.
import Derived.Test.YtgklbcgocgomdaaQFnSumsx0
import Derived.Test.YtgklbcgocgomdaaQFnSumsx1
import Derived.Test.YtgklbcgocgomdaaQFnSumsx2
namespace Go.Proofs.Ytgklbcgocgomdaa.QFnSums
open Go.RowKit Go.Proofs.YtgklbcgocgomdaaW.PrintWords Go.Proofs.YtgklbcgocgomdaaW.PrintLast Go.Proofs.YtgklbcgocgomdaaW.PrintMore
attribute [local go_sem] max2_int min2_int max_two min_two max_three min_three max_four min_four   -- for this text's walks alone
set_option linter.unusedVariables false
set_option linter.unusedSimpArgs false

/-! ### spec_TakeSum: function 14 -/
def spec_TakeSum.f (k : Nat) (a0 : ByteArray) : Option (ByteArray × Bool) := (spec_l10Text.f a0).bind fun t168 => (if t168 = true then (if (a0.size : Int) < 2 then (some ((⟨#[]⟩ : ByteArray), false)) else (if 0 ≤ (wrap64 ((a0.size : Int) - 2)) then (if (wrap64 ((a0.size : Int) - 2)) ≤ (a0.size : Int) then ((spec_l10With.f k (a0.extract 0 ((wrap64 ((a0.size : Int) - 2)) : Int).toNat)).bind fun t169 => (if t169.toList = a0.toList then (some (a0.extract 0 ((wrap64 ((a0.size : Int) - 2)) : Int).toNat, true)) else (some ((⟨#[]⟩ : ByteArray), false)))) else (none)) else (none))) else (some ((⟨#[]⟩ : ByteArray), false)))
theorem spec_TakeSum.mono : ∀ a0 k, LeO (spec_TakeSum.f k a0) (spec_TakeSum.f (k + 1) a0) := by
  intro a0 k
  unfold spec_TakeSum.f
  repeat' first
      | (with_reducible exact spec_l10With.mono _ _)
      | (with_reducible exact LeO.refl _)
      | (with_reducible exact LeO.none _)
      | (with_reducible refine LeO.ite ?_ ?_)
      | (with_reducible refine LeO.bind ?_ (fun _ => ?_))
      | exact spec_l10With.mono _ _
      | exact LeO.none _
      | refine LeO.ite ?_ ?_
      | refine LeO.bind ?_ (fun _ => ?_)
set_option maxHeartbeats 8000000 in
set_option maxRecDepth 100000 in
theorem spec_TakeSum.calls (k : Nat) (a0 : ByteArray) (r1 : ByteArray) (r2 : Bool) (w : World) (h : spec_TakeSum.f k a0 = some (r1, r2)) :
    Calls Try.prog 14 #[.string a0] w fun e w' => e = .returned (.tuple #[.string r1, .bool r2]) ∧ Below w.heap.size w w' := by
  have HB := Aside0.mk (Below.refl w.heap.size w)
  have H : ((spec_l10Text.f a0).bind fun t168 => (if t168 = true then (if (a0.size : Int) < 2 then (some ((⟨#[]⟩ : ByteArray), false)) else (if 0 ≤ (wrap64 ((a0.size : Int) - 2)) then (if (wrap64 ((a0.size : Int) - 2)) ≤ (a0.size : Int) then ((spec_l10With.f k (a0.extract 0 ((wrap64 ((a0.size : Int) - 2)) : Int).toNat)).bind fun t169 => (if t169.toList = a0.toList then (some (a0.extract 0 ((wrap64 ((a0.size : Int) - 2)) : Int).toNat, true)) else (some ((⟨#[]⟩ : ByteArray), false)))) else (none)) else (none))) else (some ((⟨#[]⟩ : ByteArray), false)))) = some (r1, r2) := h
  clear h
  replace H := Option.bind_eq_some_iff.mp H
  obtain ⟨t168, A20, H⟩ := H
  replace H : (if t168 = true then (if (a0.size : Int) < 2 then (some ((⟨#[]⟩ : ByteArray), false)) else (if 0 ≤ (wrap64 ((a0.size : Int) - 2)) then (if (wrap64 ((a0.size : Int) - 2)) ≤ (a0.size : Int) then ((spec_l10With.f k (a0.extract 0 ((wrap64 ((a0.size : Int) - 2)) : Int).toNat)).bind fun t169 => (if t169.toList = a0.toList then (some (a0.extract 0 ((wrap64 ((a0.size : Int) - 2)) : Int).toNat, true)) else (some ((⟨#[]⟩ : ByteArray), false)))) else (none)) else (none))) else (some ((⟨#[]⟩ : ByteArray), false))) = some (r1, r2) := H
  have A2 := Aside0.mk A20
  clear A20
  by_cases c3 : t168 = true
  · subst c3
    have H1 : (if (a0.size : Int) < 2 then (some ((⟨#[]⟩ : ByteArray), false)) else (if 0 ≤ (wrap64 ((a0.size : Int) - 2)) then (if (wrap64 ((a0.size : Int) - 2)) ≤ (a0.size : Int) then ((spec_l10With.f k (a0.extract 0 ((wrap64 ((a0.size : Int) - 2)) : Int).toNat)).bind fun t169 => (if t169.toList = a0.toList then (some (a0.extract 0 ((wrap64 ((a0.size : Int) - 2)) : Int).toNat, true)) else (some ((⟨#[]⟩ : ByteArray), false)))) else (none)) else (none))) = some (r1, r2) := by rw [if_pos rfl] at H; exact H
    clear H
    have H := H1
    clear H1
    by_cases c4 : (a0.size : Int) < 2
    · rw [if_pos c4] at H
      have c4b0 : decide ((a0.size : Int) < 2) = true := decide_eq_true c4
      have c4b1 : decide (a0.size < 2) = true := decide_eq_true (by omega)
      clear c4
      simp only [Option.some.injEq, Prod.mk.injEq] at H
      obtain ⟨rfl, rfl⟩ := H
      go_enter Try.func14, Try.ntmps14
      go_wp2_with (first | ((with_reducible refine gate_callee (f := 23) rfl ?_); refine goesL_ (some 5) rfl rfl Try.func23 (by kernel_rfl) rfl #[.string a0] rfl (by (try simp only [List.map_toArray, List.map_cons, List.map_nil]); first | done | rfl | (simp only [List.length_drop, List.length_take]; rfl)) ?_; (with_reducible refine (spec_l10Text.calls a0 true _ A2.out).mono ?_); rintro e w' ⟨rfl, ⟨nd, rfl⟩⟩; refine ⟨_, rfl, ?_⟩))
      go_ret2
      exact ⟨by first | rfl | (simp [errW_none, errW_some] <;> rfl) | (simp [*, errW_none, errW_some] <;> rfl), by repeat (first | (with_reducible first | exact HB.out | apply below_alloc | apply pw_below_drewN | apply below_drew1) | exact HB.out)⟩
    · rw [if_neg c4] at H
      have c4b0 : decide ((a0.size : Int) < 2) = false := decide_eq_false c4
      have c4b1 : decide (a0.size < 2) = false := decide_eq_false (by omega)
      clear c4
      obtain ⟨ji5, hji5⟩ : ∃ j_ : Int, (wrap64 ((a0.size : Int) - 2)) = j_ := ⟨_, rfl⟩
      replace H : (if 0 ≤ (ji5) then (if (ji5) ≤ (a0.size : Int) then ((spec_l10With.f k (a0.extract 0 ((ji5) : Int).toNat)).bind fun t169 => (if t169.toList = a0.toList then (some (a0.extract 0 ((ji5) : Int).toNat, true)) else (some ((⟨#[]⟩ : ByteArray), false)))) else (none)) else (none)) = some (r1, r2) := by first | (rw [hji5] at H; exact H) | (simp only [hji5] at H ⊢; exact H)
      (try rw [hji5] at A2)
      have hji5w : (IntKind.i64.wrap ((a0.size : Int) - 2)) = ji5 := (i64_w _).trans hji5
      by_cases c6 : 0 ≤ (ji5)
      · rw [if_pos c6] at H
        have c6b0 := eq_true c6
        have c6b1 : decide (0 ≤ (ji5)) = true := decide_eq_true c6
        clear c6
        by_cases c7 : (ji5) ≤ (a0.size : Int)
        · rw [if_pos c7] at H
          have c7b0 := eq_true c7
          have c7b1 : decide ((ji5) ≤ (a0.size : Int)) = true := decide_eq_true c7
          clear c7
          replace H := Option.bind_eq_some_iff.mp H
          obtain ⟨t169, A80, H⟩ := H
          replace H : (if t169.toList = a0.toList then (some (a0.extract 0 ((ji5) : Int).toNat, true)) else (some ((⟨#[]⟩ : ByteArray), false))) = some (r1, r2) := H
          have A8 := Aside0.mk A80
          clear A80
          by_cases c9 : t169.toList = a0.toList
          · rw [if_pos c9] at H
            have c9b0 : (t169.toList == a0.toList) = true := beq_iff_eq.mpr c9
            have c9b1 : (t169.toList != a0.toList) = false := bne_eq_false_iff_eq.mpr c9
            clear c9
            have c10b0 := eq_true (of_decide_eq_true (by first | (with_reducible assumption) | assumption) : 0 ≤ (ji5))
            have c11b0 := eq_true (of_decide_eq_true (by first | (with_reducible assumption) | assumption) : (ji5) ≤ (a0.size : Int))
            simp only [Option.some.injEq, Prod.mk.injEq] at H
            obtain ⟨rfl, rfl⟩ := H
            go_enter Try.func14, Try.ntmps14
            go_wp2_with (first | ((with_reducible refine gate_callee (f := 23) rfl ?_); refine goesL_ (some 5) rfl rfl Try.func23 (by kernel_rfl) rfl #[.string a0] rfl (by (try simp only [List.map_toArray, List.map_cons, List.map_nil]); first | done | rfl | (simp only [List.length_drop, List.length_take]; rfl)) ?_; (with_reducible refine (spec_l10Text.calls a0 true _ A2.out).mono ?_); rintro e w' ⟨rfl, ⟨nd, rfl⟩⟩; refine ⟨_, rfl, ?_⟩) | (go_at_call 24; (with_reducible refine (spec_l10With.calls k (a0.extract 0 ((ji5) : Int).toNat) t169 _ A8.out).mono ?_); rintro e w12 ⟨rfl, hb⟩; have n0_ := Aside0.mk (below_step (by repeat (first | (with_reducible first | exact HB.out | apply below_alloc | apply pw_below_drewN | apply below_drew1) | exact HB.out)) hb); clear HB; have HB := n0_; clear n0_; (try clear hb); (try clear hb2); (try clear hk); (try clear hi)))
            go_ret2
            exact ⟨by first | rfl | (simp [errW_none, errW_some] <;> rfl) | (simp only [← hji5]; first | rfl | (simp [errW_none, errW_some] <;> rfl)) | (simp [*, errW_none, errW_some] <;> rfl), by repeat (first | (with_reducible first | exact HB.out | apply below_alloc | apply pw_below_drewN | apply below_drew1) | exact HB.out)⟩
          · rw [if_neg c9] at H
            have c9b0 : (t169.toList == a0.toList) = false := beq_eq_false_iff_ne.mpr c9
            have c9b1 : (t169.toList != a0.toList) = true := bne_iff_ne.mpr c9
            simp only [Option.some.injEq, Prod.mk.injEq] at H
            obtain ⟨rfl, rfl⟩ := H
            go_enter Try.func14, Try.ntmps14
            go_wp2_with (first | ((with_reducible refine gate_callee (f := 23) rfl ?_); refine goesL_ (some 5) rfl rfl Try.func23 (by kernel_rfl) rfl #[.string a0] rfl (by (try simp only [List.map_toArray, List.map_cons, List.map_nil]); first | done | rfl | (simp only [List.length_drop, List.length_take]; rfl)) ?_; (with_reducible refine (spec_l10Text.calls a0 true _ A2.out).mono ?_); rintro e w' ⟨rfl, ⟨nd, rfl⟩⟩; refine ⟨_, rfl, ?_⟩) | (go_at_call 24; (with_reducible refine (spec_l10With.calls k (a0.extract 0 ((ji5) : Int).toNat) t169 _ A8.out).mono ?_); rintro e w13 ⟨rfl, hb⟩; have n0_ := Aside0.mk (below_step (by repeat (first | (with_reducible first | exact HB.out | apply below_alloc | apply pw_below_drewN | apply below_drew1) | exact HB.out)) hb); clear HB; have HB := n0_; clear n0_; (try clear hb); (try clear hb2); (try clear hk); (try clear hi)))
            go_ret2
            exact ⟨by first | rfl | (simp [errW_none, errW_some] <;> rfl) | (simp only [← hji5]; first | rfl | (simp [errW_none, errW_some] <;> rfl)) | (simp [*, errW_none, errW_some] <;> rfl), by repeat (first | (with_reducible first | exact HB.out | apply below_alloc | apply pw_below_drewN | apply below_drew1) | exact HB.out)⟩
        · rw [if_neg c7] at H
          exact absurd H (by simp)
      · rw [if_neg c6] at H
        exact absurd H (by simp)
  · replace c3 := Bool.eq_false_iff.mpr c3
    subst c3
    have H1 : (some ((⟨#[]⟩ : ByteArray), false)) = some (r1, r2) := by rw [if_neg (show ¬ (false = true) by decide)] at H; exact H
    clear H
    have H := H1
    clear H1
    simp only [Option.some.injEq, Prod.mk.injEq] at H
    obtain ⟨rfl, rfl⟩ := H
    go_enter Try.func14, Try.ntmps14
    go_wp2_with (first | ((with_reducible refine gate_callee (f := 23) rfl ?_); refine goesL_ (some 5) rfl rfl Try.func23 (by kernel_rfl) rfl #[.string a0] rfl (by (try simp only [List.map_toArray, List.map_cons, List.map_nil]); first | done | rfl | (simp only [List.length_drop, List.length_take]; rfl)) ?_; (with_reducible refine (spec_l10Text.calls a0 false _ A2.out).mono ?_); rintro e w' ⟨rfl, ⟨nd, rfl⟩⟩; refine ⟨_, rfl, ?_⟩))
    go_ret2
    exact ⟨by first | rfl | (simp [errW_none, errW_some] <;> rfl) | (simp [*, errW_none, errW_some] <;> rfl), by repeat (first | (with_reducible first | exact HB.out | apply below_alloc | apply pw_below_drewN | apply below_drew1) | exact HB.out)⟩

/-! ### laws_FnSums: function 3, by a walk of this session's own -/
/-- A text with one byte of it turned. -/
def laws_FnSums.flip (s : ByteArray) (j : Nat) (y : Int) : ByteArray := strOfNums ((bytesOf s).set j (bits .xor .u8 ((bytesOf s).getD j 0) y))
structure laws_FnSums.In (k : Nat) (l1 : List Int) (s w : ByteArray) (m : Int) (r : ByteArray) : Prop where
  back : impl_TakeSum.f k w = some (s, true)
  size : 0 < w.size
  small : w.size ≤ 9223372036854775807
  num : laws_numberOf.f k l1 = some m
  le : 0 ≤ m ∧ m ≤ 1000000000
  gone : impl_TakeSum.f k (laws_FnSums.flip w (m % w.size).toNat (1 + m % 255)) = some (r, false)
structure laws_FnSums.Ok (k : Nat) (l0 l1 : List Int) (s w : ByteArray) (ok : Bool) (n : Int) (one : Bool) (u t : ByteArray) (two : Bool) : Prop where
  draw : spec_DrawWithSum.f k l0 = some s
  iw : impl_WithSum.f k s = some (w, ok)
  sw : spec_WithSum.f k s = some (w, ok)
  is : impl_SumOf.f k s = some (n, one)
  ss : spec_SumOf.f k s = some (n, one)
  inn : ok = true → ∃ m r, laws_FnSums.In k l1 s w m r
  draw2 : spec_DrawTakeSum.f k l1 = some u
  it : impl_TakeSum.f k u = some (t, two)
  st : spec_TakeSum.f k u = some (t, two)
def laws_FnSums.Facts (k : Nat) (l0 l1 : List Int) : Prop := ∃ s x ok n one u t two, laws_FnSums.Ok k l0 l1 s x ok n one u t two
theorem laws_FnSums.below_setCell {B : Nat} {w W : World} (h : Below B w W) {g j : Nat} (hg : B ≤ g) (u : Value) : Below B w (W.setCell ⟨g, j, none⟩ u) :=
  h.trans ⟨rfl, rfl, rfl, by simp [World.setCell], fun i hi => Below.heap_setCell W ⟨g, j, none⟩ u i (by show i ≠ g; omega)⟩
theorem laws_FnSums.drawnBelow {B : Nat} {w W : World} (h : Below B w W) (n : Nat) : Below B w (W.drewN n) := h.trans ⟨rfl, rfl, rfl, Nat.le_refl _, fun _ _ => rfl⟩
theorem laws_FnSums.reads_drewN {w : World} {k : IntKind} {A : Option Addr} {n : Nat} {xs : List Int} (h : ReadsInt w k A n xs) (m : Nat) : ReadsInt (w.drewN m) k A n xs := h
theorem laws_FnSums.reads_set {w : World} {k : IntKind} {g n : Nat} {xs : List Int} (h : ReadsInt w k (some ⟨g, 0, none⟩) n xs) (j : Nat) (y : Int) : ReadsInt (w.setCell ⟨g, j, none⟩ (.int k y)) k (some ⟨g, 0, none⟩) n (xs.set j y) := by
  refine ⟨by rw [List.length_set]; exact h.1, h.2.1, fun hp => ⟨_, rfl, fun i hi => ?_⟩⟩
  obtain ⟨ad, had, hc⟩ := h.2.2 hp
  cases had
  have h0 := hc i hi
  rw [add_plain] at h0 ⊢
  by_cases hij : j = i
  · subst hij
    rw [World.cell?_setCell_same _ _ _ h0, List.getD_eq_getElem?_getD, List.getElem?_set_self (by rw [h.1]; exact hi)]
    rfl
  · rw [World.cell?_setCell_other _ _ _ _ (by intro e; cases e; exact hij rfl), h0, List.getD_eq_getElem?_getD, List.getD_eq_getElem?_getD, List.getElem?_set_ne hij]
set_option maxHeartbeats 16000000 in
set_option maxRecDepth 1000000 in
theorem laws_FnSums.walked (k : Nat) (A0 : Option Addr) (c0 : Nat) (l0 : List Int) (A1 : Option Addr) (c1 : Nat) (l1 : List Int) (w : World) (hr0 : Kd.C (Kd.int .u8) w A0 l0.length l0) (hc0 : l0.length ≤ c0) (hr1 : Kd.C (Kd.int .u8) w A1 l1.length l1) (hc1 : l1.length ≤ c1)
    (bg : Bool) (hb : laws_big.f l0 l1 = some bg) (h : bg = false → laws_FnSums.Facts k l0 l1) :
    Calls Try.prog 3 #[.slice A0 l0.length c0, .slice A1 l1.length c1] w fun e w' => e = .returned (.bool true) ∧ Below w.heap.size w w' := by
  have hR0 := Aside0.mk hr0
  have hR1 := Aside0.mk hr1
  have hh := Aside0.mk h
  have hcall := laws_big.calls A0 c0 l0 A1 c1 l1 bg w hr0 hc0 hr1 hc1 hb
  clear hr0 hr1 h hb
  go_enter Try.func3, Try.ntmps3
  go_wp2_with (go_at_call 5; refine hcall.mono ?_)
  first | rintro e W1 rfl hd | rintro e W1 ⟨rfl, hd⟩
  have hB : Hid (Below w.heap.size w W1) := hd.below
  clear hd hcall
  cases bg with
  | true =>
    go_wp2
    go_ret
    exact ⟨rfl, hB⟩
  | false =>
    obtain ⟨s, x, ok, n, one, u, t, two, H⟩ := hh.out rfl
    have H := Aside0.mk H
    clear hh
    have hcall := spec_DrawWithSum.calls k A0 c0 l0 s W1 (Kd.C_below hR0.out hB) hc0 H.out.draw
    go_wp2_with (go_at_call 6; refine hcall.mono ?_)
    first | rintro e W2 rfl hd | rintro e W2 ⟨rfl, hd⟩
    have hB2 : Hid (Below w.heap.size w W2) := below_step hB hd
    clear hd hcall hB
    have hcall := impl_WithSum.calls k s x ok W2 H.out.iw
    go_wp2_with (go_at_call 7; refine hcall.mono ?_)
    first | rintro e W3 rfl hd | rintro e W3 ⟨rfl, hd⟩
    have hB3 : Hid (Below w.heap.size w W3) := below_step hB2 hd
    clear hd hcall hB2
    have hcall := spec_WithSum.calls k s x ok W3 H.out.sw
    go_wp2_with (go_at_call 8; refine hcall.mono ?_)
    first | rintro e W4 rfl hd | rintro e W4 ⟨rfl, hd⟩
    have hB4 : Hid (Below w.heap.size w W4) := below_step hB3 hd
    clear hd hcall hB3
    have hcall := impl_SumOf.calls k s n one W4 H.out.is
    go_wp2_with (go_at_call 9; refine hcall.mono ?_)
    first | rintro e W5 rfl hd | rintro e W5 ⟨rfl, hd⟩
    have hB5 : Hid (Below w.heap.size w W5) := below_step hB4 hd.below
    clear hd hcall hB4
    have hcall := spec_SumOf.calls k s n one W5 H.out.ss
    go_wp2_with (go_at_call 10; refine hcall.mono ?_)
    first | rintro e W6 rfl hd | rintro e W6 ⟨rfl, hd⟩
    have hB6 : Hid (Below w.heap.size w W6) := below_step hB5 hd.below
    clear hd hcall hB5
    cases ok with
    | false =>
      have hcall := spec_DrawTakeSum.calls k A1 c1 l1 u W6 (Kd.C_below hR1.out hB6) hc1 H.out.draw2
      go_wp2_with (go_at_call 13; refine hcall.mono ?_)
      first | rintro e W21 rfl hd | rintro e W21 ⟨rfl, hd⟩
      have hB21 : Hid (Below w.heap.size w W21) := below_step hB6 hd
      clear hd hcall hB6
      have hcall := impl_TakeSum.calls k u t two W21 H.out.it
      go_wp2_with (go_at_call 11; refine hcall.mono ?_)
      first | rintro e W22 rfl hd | rintro e W22 ⟨rfl, hd⟩
      have hB22 : Hid (Below w.heap.size w W22) := below_step hB21 hd
      clear hd hcall hB21
      have hcall := spec_TakeSum.calls k u t two W22 H.out.st
      go_wp2_with (go_at_call 14; refine hcall.mono ?_)
      first | rintro e W23 rfl hd | rintro e W23 ⟨rfl, hd⟩
      have hB23 : Hid (Below w.heap.size w W23) := below_step hB22 hd
      clear hd hcall hB22
      go_wp2
      go_ret
      exact ⟨rfl, hB23⟩
    | true =>
      obtain ⟨m, r, hin⟩ := H.out.inn rfl
      have hI := Aside0.mk hin
      clear hin
      have hcall := impl_TakeSum.calls k x s true W6 hI.out.back
      go_wp2_with (go_at_call 11; refine hcall.mono ?_)
      first | rintro e W7 rfl hd | rintro e W7 ⟨rfl, hd⟩
      have hB7 : Hid (Below w.heap.size w W7) := below_step hB6 hd
      clear hd hcall hB6
      have hcall := laws_numberOf.calls k A1 c1 l1 m W7 (Kd.C_below hR1.out hB7) hc1 hI.out.num
      go_wp2_with (go_at_call 12; refine hcall.mono ?_)
      first | rintro e W8 rfl hd | rintro e W8 ⟨rfl, hd⟩
      have hB8 : Hid (Below w.heap.size w W8) := below_step hB7 hd.below
      clear hd hcall hB7
      have hpos := hI.out.size
      have hm := hI.out.le
      have hmod := Int.emod_nonneg m (show (x.size : Int) ≠ 0 by omega)
      have hmod2 := Int.emod_lt_of_pos m (show (0 : Int) < (x.size : Int) by omega)
      obtain ⟨j, hj, hjx, hjm⟩ : ∃ j : Nat, m.tmod (x.size : Int) = (j : Int) ∧ j < x.size ∧ j = (m % x.size).toNat := ⟨(m % x.size).toNat, by rw [Int.tmod_eq_emod_of_nonneg hm.1]; omega, by omega, rfl⟩
      obtain ⟨y, hy, hy0, hy1, hym⟩ : ∃ y : Int, m.tmod 255 = y ∧ 0 ≤ y ∧ y < 255 ∧ y = m % 255 := ⟨m % 255, Int.tmod_eq_emod_of_nonneg hm.1, by omega, by omega, rfl⟩
      have hjq := Aside0.mk hjm
      have hyq := Aside0.mk hym
      clear hmod hmod2 hjm hym
      have hcv := print_bytes (P := Try.prog) 9 22 5 Try.underlying9 Try.underlying22 Try.underlying5 x W8
      go_upto_region 16 with fail
      clear hcv
      have hx63 : x.size ≤ 9223372036854775807 := hI.out.small
      have hrow := bytes_reads W8 5 x hx63
      have hB9 : Hid (Below w.heap.size w (Lib.bytesWorld W8 5 x)) := bytes_below hB8 (below_size hB8) 5 x
      have hg : w.heap.size ≤ W8.heap.size := below_size hB8
      have hfro : (Lib.bytesWorld W8 5 x).frozen? ⟨W8.heap.size, j, none⟩ = false := by
        have h1 : (Lib.bytesCells W8 5 x).size ≥ x.size := by
          unfold Lib.bytesCells
          rw [Array.size_append, Array.size_map]
          exact Nat.le_add_right _ _
        unfold World.frozen?
        rw [Lib.bytesWorld_at_new]
        simp only [Bool.and_eq_false_iff, decide_eq_false_iff_not]
        omega
      generalize Lib.bytesWorld W8 5 x = W9 at hrow hB9 hfro ⊢
      generalize W8.heap.size = g at hrow hg hfro ⊢
      generalize grownCap W8 x.size 0 5 = cp
      clear hB8
      have hnum : ∀ W, Drawn0 W9 W → Calls Try.prog 12 #[.slice A1 l1.length c1] W fun e w' => e = .returned (.int .i64 m) ∧ Drawn0 W w' := fun W hW => laws_numberOf.calls k A1 c1 l1 m W (Kd.C_below hR1.out (below_step hB9 hW.below)) hc1 hI.out.num
      obtain ⟨v, hv, hv0, hv1⟩ : ∃ v : Int, (bytesOf x).getD j 0 = v ∧ 0 ≤ v ∧ v < 256 := by
        refine ⟨_, rfl, ?_⟩
        have h' : j < x.data.toList.length := by rw [data_length]; exact hjx
        have hq := UInt8.toNat_lt (x.data.toList[j]'h')
        have he : (bytesOf x).getD j 0 = ((x.data.toList[j]'h').toNat : Int) := by
          rw [List.getD_eq_getElem?_getD, bytesOf, List.getElem?_map, List.getElem?_eq_getElem h']
          rfl
        rw [he]
        omega
      have hcell : W9.cell? ⟨g, j, none⟩ = some (.int .u8 v) := by
        obtain ⟨ad, had, hc⟩ := hrow.2.2 (by omega)
        cases had
        have := hc j hjx
        rwa [add_plain, hv] at this
      have hu8 : IntKind.u8.wrap (1 + y) = 1 + y := by rw [IntKind.wrap_u8]; omega
      have hi64 : IntKind.i64.wrap (1 + y) = 1 + y := IntWalk.i64_in _ (by omega)
      have hadd := add_plain g j
      go_region_with (go_at_call 12; refine (hnum _ (by first | exact Drawn0.refl _ | exact ⟨⟨1, rfl⟩⟩)).mono ?_; rintro e w' ⟨rfl, ⟨n1, rfl⟩⟩)
      all_goals (
        have hB10 : Hid (Below w.heap.size w ((W9.drewN (1 + n1)).setCell ⟨g, j, none⟩ (.int .u8 (bits .xor .u8 v (1 + y))))) := laws_FnSums.below_setCell (laws_FnSums.drawnBelow hB9 (1 + n1)) hg _
        have hrow10 := laws_FnSums.reads_set (laws_FnSums.reads_drewN hrow (1 + n1)) j (bits .xor .u8 v (1 + y))
        have hcv2 := fun c => string_of_reads (P := Try.prog) (src := 22) (dst := 9) (e := 5) (c := c) Try.underlying22 Try.underlying5 Try.underlying9 hrow10
        generalize (W9.drewN (1 + n1)).setCell ⟨g, j, none⟩ (.int .u8 (bits .xor .u8 v (1 + y))) = W10 at hB10 hcv2 ⊢
        have hgone := hI.out.gone
        rw [← hjq.out, ← hyq.out] at hgone
        unfold laws_FnSums.flip at hgone
        rw [hv] at hgone
        have hgq := Aside0.mk hgone
        clear hgone hrow10 hrow hcell hfro hB9 hnum hadd hu8 hi64 hv
        clear hm hx63
        have hcall := impl_TakeSum.calls k (strOfNums ((bytesOf x).set j (bits .xor .u8 v (1 + y)))) r false W10 hgq.out
        go_wp2_with (go_at_call 11; refine hcall.mono ?_)
        first | rintro e W20 rfl hd | rintro e W20 ⟨rfl, hd⟩
        have hB20 : Hid (Below w.heap.size w W20) := below_step hB10 hd
        clear hd hcall hB10 hcv2
        have hcall := spec_DrawTakeSum.calls k A1 c1 l1 u W20 (Kd.C_below hR1.out hB20) hc1 H.out.draw2
        go_wp2_with (go_at_call 13; refine hcall.mono ?_)
        first | rintro e W21 rfl hd | rintro e W21 ⟨rfl, hd⟩
        have hB21 : Hid (Below w.heap.size w W21) := below_step hB20 hd
        clear hd hcall hB20
        have hcall := impl_TakeSum.calls k u t two W21 H.out.it
        go_wp2_with (go_at_call 11; refine hcall.mono ?_)
        first | rintro e W22 rfl hd | rintro e W22 ⟨rfl, hd⟩
        have hB22 : Hid (Below w.heap.size w W22) := below_step hB21 hd
        clear hd hcall hB21
        have hcall := spec_TakeSum.calls k u t two W22 H.out.st
        go_wp2_with (go_at_call 14; refine hcall.mono ?_)
        first | rintro e W23 rfl hd | rintro e W23 ⟨rfl, hd⟩
        have hB23 : Hid (Below w.heap.size w W23) := below_step hB22 hd
        clear hd hcall hB22
        go_wp2
        go_ret
        exact ⟨rfl, hB23⟩)

/-- THE ONE PURE STATEMENT of laws_FnSums. -/
def laws_FnSums.Pure : Prop := ∀ (l0 l1 : List Int), l0.length ≤ maxLen → l0.length * 1 ≤ 140737488351232 → (∀ x ∈ l0, (Lit.int .u8 x).wf = true) → l1.length ≤ maxLen → l1.length * 1 ≤ 140737488351232 → (∀ x ∈ l1, (Lit.int .u8 x).wf = true) → ∃ (k : Nat) (bg : Bool), laws_big.f l0 l1 = some bg ∧ (bg = false → laws_FnSums.Facts k l0 l1)
theorem laws_FnSums.walk (P : laws_FnSums.Pure) (a0 : Option Addr) (len0 cap0 : Nat) (z0 : List Int) (a1 : Option Addr) (len1 cap1 : Nat) (z1 : List Int) (w : World) (w0 : (a0 = none ∧ len0 = 0 ∧ cap0 = 0 ∧ z0 = []) ∨ ∃ x, a0 = some x ∧ len0 ≤ cap0 ∧ cap0 ≤ maxLen ∧ z0.length = cap0 ∧ (∀ i, i < z0.length → w.cell? (x.add i) = some (.int .u8 (z0.getD i 0))) ∧ ∀ n ∈ z0, (Lit.int .u8 n).wf = true) (y0 : len0 * 1 ≤ 140737488351232) (w1 : (a1 = none ∧ len1 = 0 ∧ cap1 = 0 ∧ z1 = []) ∨ ∃ x, a1 = some x ∧ len1 ≤ cap1 ∧ cap1 ≤ maxLen ∧ z1.length = cap1 ∧ (∀ i, i < z1.length → w.cell? (x.add i) = some (.int .u8 (z1.getD i 0))) ∧ ∀ n ∈ z1, (Lit.int .u8 n).wf = true) (y1 : len1 * 1 ≤ 140737488351232) :
    Calls Try.prog 3 #[.slice a0 len0 cap0, .slice a1 len1 cap1] w fun e w' => e = .returned (.bool true) ∧ Below w.heap.size w w' := by
  obtain ⟨l0, rfl, hr0, hm0, hw0, hc0⟩ := ReadsInt.ofRowC w0
  obtain ⟨l1, rfl, hr1, hm1, hw1, hc1⟩ := ReadsInt.ofRowC w1
  obtain ⟨k, bg, hb, h⟩ := P l0 l1 hm0 y0 hw0 hm1 y1 hw1
  exact laws_FnSums.walked k a0 cap0 l0 a1 cap1 l1 w (Kd.C_of_reads (d := (0 : Int)) (h1 := fun _ => rfl) hr0) hc0 (Kd.C_of_reads (d := (0 : Int)) (h1 := fun _ => rfl) hr1) hc1 bg hb h

end Go.Proofs.Ytgklbcgocgomdaa.QFnSums
