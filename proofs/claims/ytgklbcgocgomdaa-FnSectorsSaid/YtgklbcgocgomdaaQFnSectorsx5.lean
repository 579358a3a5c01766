-- Written by this session's own program (wip/x/xprint.py, over the kit's printer); Lean checks it.
import Derived.Test.YtgklbcgocgomdaaQFnSectorsx0
import Derived.Test.YtgklbcgocgomdaaQFnSectorsx1
import Derived.Test.YtgklbcgocgomdaaQFnSectorsx2
import Derived.Test.YtgklbcgocgomdaaQFnSectorsx4
namespace Go.Proofs.Ytgklbcgocgomdaa.QFnSectors
open Go.RowKit Go.Proofs.YtgklbcgocgomdaaW.PrintWords Go.Proofs.YtgklbcgocgomdaaW.PrintLast Go.Proofs.YtgklbcgocgomdaaW.PrintMore
attribute [local go_sem] max2_int min2_int max_two min_two max_three min_three max_four min_four   -- for this text's walks alone
set_option linter.unusedVariables false
set_option linter.unusedSimpArgs false

/-! ### laws_FnSectors: function 4, by a walk of this session's own -/
/-- A text with one byte of it turned. -/
def laws_FnSectors.flip (s : ByteArray) (j : Nat) (y : Int) : ByteArray := strOfNums ((bytesOf s).set j (bits .xor .u8 ((bytesOf s).getD j 0) y))
structure laws_FnSectors.In (k : Nat) (l1 : List Int) (no : Int) (last : Bool) (text x : ByteArray) (m : Int) (r : ByteArray) (r2 : Bool) (q : ByteArray) (q2 : Bool) : Prop where
  back : impl_ReadSector.f k no x = some (text, last, true)
  size : x.size = 16
  num : laws_numberOf.f k l1 = some m
  le : 0 ≤ m ∧ m ≤ 1000000000
  lo : 0 ≤ no ∧ no ≤ 1000
  gone : impl_ReadSector.f k no (laws_FnSectors.flip x (m % 16).toNat (1 + m % 255)) = some (r, r2, false)
  next : impl_ReadSector.f k (no + 1) x = some (q, q2, false)
structure laws_FnSectors.Ok (k : Nat) (l0 l1 : List Int) (no : Int) (last : Bool) (text x : ByteArray) (ok : Bool) (n : Int) (u t : ByteArray) (l one : Bool) : Prop where
  draw : spec_DrawSectorOf.f l0 = some (no, last, text)
  iw : impl_SectorOf.f k no last text = some (x, ok)
  sw : spec_SectorOf.f k no last text = some (x, ok)
  inn : ok = true → ∃ m r r2 q q2, laws_FnSectors.In k l1 no last text x m r r2 q q2
  draw2 : spec_DrawReadSector.f k l1 = some (n, u)
  it : impl_ReadSector.f k n u = some (t, l, one)
  st : spec_ReadSector.f k n u = some (t, l, one)
def laws_FnSectors.Facts (k : Nat) (l0 l1 : List Int) : Prop := ∃ no last text x ok n u t l one, laws_FnSectors.Ok k l0 l1 no last text x ok n u t l one
theorem laws_FnSectors.below_setCell {B : Nat} {w W : World} (h : Below B w W) {g j : Nat} (hg : B ≤ g) (u : Value) : Below B w (W.setCell ⟨g, j, none⟩ u) :=
  h.trans ⟨rfl, rfl, rfl, by simp [World.setCell], fun i hi => Below.heap_setCell W ⟨g, j, none⟩ u i (by show i ≠ g; omega)⟩
theorem laws_FnSectors.drawnBelow {B : Nat} {w W : World} (h : Below B w W) (n : Nat) : Below B w (W.drewN n) := h.trans ⟨rfl, rfl, rfl, Nat.le_refl _, fun _ _ => rfl⟩
theorem laws_FnSectors.reads_drewN {w : World} {k : IntKind} {A : Option Addr} {n : Nat} {xs : List Int} (h : ReadsInt w k A n xs) (m : Nat) : ReadsInt (w.drewN m) k A n xs := h
theorem laws_FnSectors.reads_set {w : World} {k : IntKind} {g n : Nat} {xs : List Int} (h : ReadsInt w k (some ⟨g, 0, none⟩) n xs) (j : Nat) (y : Int) : ReadsInt (w.setCell ⟨g, j, none⟩ (.int k y)) k (some ⟨g, 0, none⟩) n (xs.set j y) := by
  refine ⟨by rw [List.length_set]; exact h.1, h.2.1, fun hp => ⟨_, rfl, fun i hi => ?_⟩⟩
  obtain ⟨ad, had, hc⟩ := h.2.2 hp
  cases had
  have h0 := hc i hi
  rw [add_plain] at h0 ⊢
  by_cases hij : j = i
  · subst hij
    rw [World.cell?_setCell_same _ _ _ h0, List.getD_eq_getElem?_getD, List.getElem?_set_self (by rw [h.1]; exact hi)]
    rfl
  · rw [World.cell?_setCell_other _ _ _ _ (by intro e; cases e; exact hij rfl), h0, List.getD_eq_getElem?_getD, List.getD_eq_getElem?_getD, List.getElem?_set_ne hij]
set_option maxHeartbeats 16000000 in
set_option maxRecDepth 1000000 in
theorem laws_FnSectors.walked (k : Nat) (A0 : Option Addr) (c0 : Nat) (l0 : List Int) (A1 : Option Addr) (c1 : Nat) (l1 : List Int) (w : World) (hr0 : Kd.C (Kd.int .u8) w A0 l0.length l0) (hc0 : l0.length ≤ c0) (hr1 : Kd.C (Kd.int .u8) w A1 l1.length l1) (hc1 : l1.length ≤ c1)
    (bg : Bool) (hb : laws_big.f l0 l1 = some bg) (h : bg = false → laws_FnSectors.Facts k l0 l1) :
    Calls Try.prog 4 #[.slice A0 l0.length c0, .slice A1 l1.length c1] w fun e w' => e = .returned (.bool true) ∧ Below w.heap.size w w' := by
  have hR0 := Aside0.mk hr0
  have hR1 := Aside0.mk hr1
  have hh := Aside0.mk h
  have hcall := laws_big.calls A0 c0 l0 A1 c1 l1 bg w hr0 hc0 hr1 hc1 hb
  clear hr0 hr1 h hb
  go_enter Try.func4, Try.ntmps4
  go_wp2_with (go_at_call 5; refine hcall.mono ?_)
  first | rintro e W1 rfl hd | rintro e W1 ⟨rfl, hd⟩
  have hB : Hid (Below w.heap.size w W1) := hd.below
  clear hd hcall
  cases bg with
  | true =>
    go_wp2
    go_ret
    exact ⟨rfl, hB⟩
  | false =>
    obtain ⟨no, last, text, x, ok, n, u, t, l, one, H⟩ := hh.out rfl
    have H := Aside0.mk H
    clear hh
    have hcall := spec_DrawSectorOf.calls A0 c0 l0 no last text W1 (Kd.C_below hR0.out hB) hc0 H.out.draw
    go_wp2_with (go_at_call 15; refine hcall.mono ?_)
    first | rintro e W2 rfl hd | rintro e W2 ⟨rfl, hd⟩
    have hB2 : Hid (Below w.heap.size w W2) := below_step hB hd
    clear hd hcall hB
    have hcall := impl_SectorOf.calls k no last text x ok W2 H.out.iw
    go_wp2_with (go_at_call 16; refine hcall.mono ?_)
    first | rintro e W3 rfl hd | rintro e W3 ⟨rfl, hd⟩
    have hB3 : Hid (Below w.heap.size w W3) := below_step hB2 hd
    clear hd hcall hB2
    have hcall := spec_SectorOf.calls k no last text x ok W3 H.out.sw
    go_wp2_with (go_at_call 17; refine hcall.mono ?_)
    first | rintro e W6 rfl hd | rintro e W6 ⟨rfl, hd⟩
    have hB6 : Hid (Below w.heap.size w W6) := below_step hB3 hd
    clear hd hcall hB3
    cases ok with
    | false =>
      have hcall := spec_DrawReadSector.calls k A1 c1 l1 n u W6 (Kd.C_below hR1.out hB6) hc1 H.out.draw2
      go_wp2_with (go_at_call 19; refine hcall.mono ?_)
      first | rintro e W21 rfl hd | rintro e W21 ⟨rfl, hd⟩
      have hB21 : Hid (Below w.heap.size w W21) := below_step hB6 hd
      clear hd hcall hB6
      have hcall := impl_ReadSector.calls k n u t l one W21 H.out.it
      go_wp2_with (go_at_call 18; refine hcall.mono ?_)
      first | rintro e W22 rfl hd | rintro e W22 ⟨rfl, hd⟩
      have hB22 : Hid (Below w.heap.size w W22) := below_step hB21 hd
      clear hd hcall hB21
      have hcall := spec_ReadSector.calls k n u t l one W22 H.out.st
      go_wp2_with (go_at_call 20; refine hcall.mono ?_)
      first | rintro e W23 rfl hd | rintro e W23 ⟨rfl, hd⟩
      have hB23 : Hid (Below w.heap.size w W23) := below_step hB22 hd
      clear hd hcall hB22
      go_wp2
      go_ret
      exact ⟨rfl, hB23⟩
    | true =>
      obtain ⟨m, r, r2, q, q2, hin⟩ := H.out.inn rfl
      have hI := Aside0.mk hin
      clear hin
      have hcall := impl_ReadSector.calls k no x text last true W6 hI.out.back
      go_wp2_with (go_at_call 18; refine hcall.mono ?_)
      first | rintro e W8 rfl hd | rintro e W8 ⟨rfl, hd⟩
      have hB8 : Hid (Below w.heap.size w W8) := below_step hB6 hd
      clear hd hcall hB6
      have hm := hI.out.le
      have hx16 := hI.out.size
      obtain ⟨j, hj, hjx, hjm⟩ : ∃ j : Nat, m.tmod 16 = (j : Int) ∧ j < 16 ∧ j = (m % 16).toNat := ⟨(m % 16).toNat, by rw [Int.tmod_eq_emod_of_nonneg hm.1]; omega, by omega, rfl⟩
      obtain ⟨y, hy, hy0, hy1, hym⟩ : ∃ y : Int, m.tmod 255 = y ∧ 0 ≤ y ∧ y < 255 ∧ y = m % 255 := ⟨m % 255, Int.tmod_eq_emod_of_nonneg hm.1, by omega, by omega, rfl⟩
      have hjq := Aside0.mk hjm
      have hyq := Aside0.mk hym
      clear hjm hym
      have hcv := print_bytes (P := Try.prog) 9 22 5 Try.underlying9 Try.underlying22 Try.underlying5 x W8
      go_wp2_with fail
      clear hcv
      have hx63 : x.size ≤ 9223372036854775807 := by omega
      have hrow := bytes_reads W8 5 x hx63
      have hB9 : Hid (Below w.heap.size w (Lib.bytesWorld W8 5 x)) := bytes_below hB8 (below_size hB8) 5 x
      have hg : w.heap.size ≤ W8.heap.size := below_size hB8
      have hfro : (Lib.bytesWorld W8 5 x).frozen? ⟨W8.heap.size, j, none⟩ = false := by
        have h1 : (Lib.bytesCells W8 5 x).size ≥ x.size := by
          unfold Lib.bytesCells
          rw [Array.size_append, Array.size_map]
          exact Nat.le_add_right _ _
        unfold World.frozen?
        rw [Lib.bytesWorld_at_new]
        simp only [Bool.and_eq_false_iff, decide_eq_false_iff_not]
        omega
      rw [hx16] at hrow
      generalize Lib.bytesWorld W8 5 x = W9 at hrow hB9 hfro ⊢
      generalize W8.heap.size = g at hrow hg hfro ⊢
      generalize grownCap W8 16 0 5 = cp
      clear hB8
      have hnum : ∀ W, Drawn0 W9 W → Calls Try.prog 12 #[.slice A1 l1.length c1] W fun e w' => e = .returned (.int .i64 m) ∧ Drawn0 W w' := fun W hW => laws_numberOf.calls k A1 c1 l1 m W (Kd.C_below hR1.out (below_step hB9 hW.below)) hc1 hI.out.num
      obtain ⟨v, hv, hv0, hv1⟩ : ∃ v : Int, (bytesOf x).getD j 0 = v ∧ 0 ≤ v ∧ v < 256 := by
        refine ⟨_, rfl, ?_⟩
        have h' : j < x.data.toList.length := by rw [data_length]; omega
        have hq := UInt8.toNat_lt (x.data.toList[j]'h')
        have he : (bytesOf x).getD j 0 = ((x.data.toList[j]'h').toNat : Int) := by
          rw [List.getD_eq_getElem?_getD, bytesOf, List.getElem?_map, List.getElem?_eq_getElem h']
          rfl
        rw [he]
        omega
      have hcell : W9.cell? ⟨g, j, none⟩ = some (.int .u8 v) := by
        obtain ⟨ad, had, hc⟩ := hrow.2.2 (by omega)
        cases had
        have := hc j hjx
        rwa [add_plain, hv] at this
      have hu8 : IntKind.u8.wrap (1 + y) = 1 + y := by rw [IntKind.wrap_u8]; omega
      have hi64 : IntKind.i64.wrap (1 + y) = 1 + y := IntWalk.i64_in _ (by omega)
      have hadd := add_plain g j
      have hno : IntKind.i64.wrap (no + 1) = no + 1 := IntWalk.i64_in _ (by have := hI.out.lo; omega)
      go_region_with (go_at_call 12; refine (hnum _ (by first | exact Drawn0.refl _ | exact ⟨⟨1, rfl⟩⟩ | exact ⟨⟨_, rfl⟩⟩)).mono ?_; first | (have hn1 : n1 = n1 := rfl; clear hn1; rintro e w' ⟨rfl, ⟨n2, rfl⟩⟩) | rintro e w' ⟨rfl, ⟨n1, rfl⟩⟩)
      all_goals (
        have hB10 : Hid (Below w.heap.size w ((W9.drewN (1 + n1 + n2)).setCell ⟨g, j, none⟩ (.int .u8 (bits .xor .u8 v (1 + y))))) := laws_FnSectors.below_setCell (laws_FnSectors.drawnBelow hB9 (1 + n1 + n2)) hg _
        have hrow10 := laws_FnSectors.reads_set (laws_FnSectors.reads_drewN hrow (1 + n1 + n2)) j (bits .xor .u8 v (1 + y))
        have hcv2 := fun c => string_of_reads (P := Try.prog) (src := 22) (dst := 9) (e := 5) (c := c) Try.underlying22 Try.underlying5 Try.underlying9 hrow10
        generalize (W9.drewN (1 + n1 + n2)).setCell ⟨g, j, none⟩ (.int .u8 (bits .xor .u8 v (1 + y))) = W10 at hB10 hcv2 ⊢
        have hgone := hI.out.gone
        rw [← hjq.out, ← hyq.out] at hgone
        unfold laws_FnSectors.flip at hgone
        rw [hv] at hgone
        have hgq := Aside0.mk hgone
        clear hgone hrow10 hrow hcell hfro hB9 hnum hadd hu8 hi64 hv
        clear hm hx63 hx16
        have hcall := impl_ReadSector.calls k no (strOfNums ((bytesOf x).set j (bits .xor .u8 v (1 + y)))) r r2 false W10 hgq.out
        go_wp2_with (go_at_call 18; refine hcall.mono ?_)
        first | rintro e W19 rfl hd | rintro e W19 ⟨rfl, hd⟩
        have hB19 : Hid (Below w.heap.size w W19) := below_step hB10 hd
        clear hd hcall hB10 hcv2
        have hcall := impl_ReadSector.calls k (no + 1) x q q2 false W19 hI.out.next
        go_wp2_with (go_at_call 18; refine hcall.mono ?_)
        first | rintro e W20 rfl hd | rintro e W20 ⟨rfl, hd⟩
        have hB20 : Hid (Below w.heap.size w W20) := below_step hB19 hd
        clear hd hcall hB19
        have hcall := spec_DrawReadSector.calls k A1 c1 l1 n u W20 (Kd.C_below hR1.out hB20) hc1 H.out.draw2
        go_wp2_with (go_at_call 19; refine hcall.mono ?_)
        first | rintro e W21 rfl hd | rintro e W21 ⟨rfl, hd⟩
        have hB21 : Hid (Below w.heap.size w W21) := below_step hB20 hd
        clear hd hcall hB20
        have hcall := impl_ReadSector.calls k n u t l one W21 H.out.it
        go_wp2_with (go_at_call 18; refine hcall.mono ?_)
        first | rintro e W22 rfl hd | rintro e W22 ⟨rfl, hd⟩
        have hB22 : Hid (Below w.heap.size w W22) := below_step hB21 hd
        clear hd hcall hB21
        have hcall := spec_ReadSector.calls k n u t l one W22 H.out.st
        go_wp2_with (go_at_call 20; refine hcall.mono ?_)
        first | rintro e W23 rfl hd | rintro e W23 ⟨rfl, hd⟩
        have hB23 : Hid (Below w.heap.size w W23) := below_step hB22 hd
        clear hd hcall hB22
        go_wp2
        go_ret
        exact ⟨rfl, hB23⟩)

/-- THE ONE PURE STATEMENT of laws_FnSectors. -/
def laws_FnSectors.Pure : Prop := ∀ (l0 l1 : List Int), l0.length ≤ maxLen → l0.length * 1 ≤ 140737488351232 → (∀ x ∈ l0, (Lit.int .u8 x).wf = true) → l1.length ≤ maxLen → l1.length * 1 ≤ 140737488351232 → (∀ x ∈ l1, (Lit.int .u8 x).wf = true) → ∃ (k : Nat) (bg : Bool), laws_big.f l0 l1 = some bg ∧ (bg = false → laws_FnSectors.Facts k l0 l1)
theorem laws_FnSectors.walk (P : laws_FnSectors.Pure) (a0 : Option Addr) (len0 cap0 : Nat) (z0 : List Int) (a1 : Option Addr) (len1 cap1 : Nat) (z1 : List Int) (w : World) (w0 : (a0 = none ∧ len0 = 0 ∧ cap0 = 0 ∧ z0 = []) ∨ ∃ x, a0 = some x ∧ len0 ≤ cap0 ∧ cap0 ≤ maxLen ∧ z0.length = cap0 ∧ (∀ i, i < z0.length → w.cell? (x.add i) = some (.int .u8 (z0.getD i 0))) ∧ ∀ n ∈ z0, (Lit.int .u8 n).wf = true) (y0 : len0 * 1 ≤ 140737488351232) (w1 : (a1 = none ∧ len1 = 0 ∧ cap1 = 0 ∧ z1 = []) ∨ ∃ x, a1 = some x ∧ len1 ≤ cap1 ∧ cap1 ≤ maxLen ∧ z1.length = cap1 ∧ (∀ i, i < z1.length → w.cell? (x.add i) = some (.int .u8 (z1.getD i 0))) ∧ ∀ n ∈ z1, (Lit.int .u8 n).wf = true) (y1 : len1 * 1 ≤ 140737488351232) :
    Calls Try.prog 4 #[.slice a0 len0 cap0, .slice a1 len1 cap1] w fun e w' => e = .returned (.bool true) ∧ Below w.heap.size w w' := by
  obtain ⟨l0, rfl, hr0, hm0, hw0, hc0⟩ := ReadsInt.ofRowC w0
  obtain ⟨l1, rfl, hr1, hm1, hw1, hc1⟩ := ReadsInt.ofRowC w1
  obtain ⟨k, bg, hb, h⟩ := P l0 l1 hm0 y0 hw0 hm1 y1 hw1
  exact laws_FnSectors.walked k a0 cap0 l0 a1 cap1 l1 w (Kd.C_of_reads (d := (0 : Int)) (h1 := fun _ => rfl) hr0) hc0 (Kd.C_of_reads (d := (0 : Int)) (h1 := fun _ => rfl) hr1) hc1 bg hb h

end Go.Proofs.Ytgklbcgocgomdaa.QFnSectors
