-- Written by this session's own program (wip/x/xprint.py, over the kit's printer); Lean checks it.
import Derived.Test.YtddcceoneabaaaaQFnExactEncodeByx0
import Derived.Test.YtddcceoneabaaaaQFnExactEncodeByx2
namespace Go.Proofs.Ytddcceoneabaaaa.QFnExactEncodeBy
open Go.RowKit Go.Proofs.YtddcceoneabaaaaW.PrintWords Go.Proofs.YtddcceoneabaaaaW.PrintLast Go.Proofs.YtddcceoneabaaaaW.PrintMore
attribute [local go_sem] max2_int min2_int max_two min_two max_three min_three max_four min_four   -- for this text's walks alone
set_option linter.unusedVariables false
set_option linter.unusedSimpArgs false

/-! ### impl_GoodLengths: function 24 -/
def impl_GoodLengths.f (k : Nat) (l0 : List Int) : Option (Bool) := (impl_KraftOf.f k l0).bind fun bt137 => (if bt137.2 = true then (some (decide (bt137.1 ≤ 4096))) else (some false))
theorem impl_GoodLengths.mono : ∀ a0 k, LeO (impl_GoodLengths.f k a0) (impl_GoodLengths.f (k + 1) a0) := by
  intro a0 k
  unfold impl_GoodLengths.f
  repeat' first
      | (with_reducible exact impl_KraftOf.mono _ _)
      | (with_reducible exact LeO.refl _)
      | (with_reducible exact LeO.none _)
      | (with_reducible refine LeO.ite ?_ ?_)
      | (with_reducible refine LeO.bind ?_ (fun _ => ?_))
      | exact impl_KraftOf.mono _ _
      | exact LeO.none _
      | refine LeO.ite ?_ ?_
      | refine LeO.bind ?_ (fun _ => ?_)
set_option maxHeartbeats 8000000 in
set_option maxRecDepth 100000 in
theorem impl_GoodLengths.calls (k : Nat) (A0 : Option Addr) (c0 : Nat) (l0 : List Int) (r : Bool) (w : World) (hr0 : Kd.C (Kd.int .i64) w A0 l0.length l0) (hc0 : l0.length ≤ c0) (h : impl_GoodLengths.f k l0 = some r) :
    Calls Try.prog 24 #[.slice A0 l0.length c0] w fun e w' => e = .returned (.bool r) ∧ Below w.heap.size w w' := by
  have HR0 := Aside0.mk hr0
  have HC0 := Aside0.mk hc0
  clear hr0 hc0
  have HB := Aside0.mk (Below.refl w.heap.size w)
  have H : ((impl_KraftOf.f k l0).bind fun bt137 => (if bt137.2 = true then (some (decide (bt137.1 ≤ 4096))) else (some false))) = some r := h
  clear h
  replace H := Option.bind_eq_some_iff.mp H
  obtain ⟨⟨t137, t138⟩, A20, H⟩ := H
  replace H : (if t138 = true then (some (decide (t137 ≤ 4096))) else (some false)) = some r := H
  have A2 := Aside0.mk A20
  clear A20
  by_cases c3 : t138 = true
  · subst c3
    have H1 : (some (decide (t137 ≤ 4096))) = some r := by rw [if_pos rfl] at H; exact H
    clear H
    have H := H1
    clear H1
    obtain rfl := Option.some.inj H
    go_enter Try.func24, Try.ntmps24
    go_wp2_with (first | ((with_reducible refine gate_callee (f := 33) rfl ?_); refine goesL_ (some 7) rfl rfl Try.func33 (by kernel_rfl) rfl #[.slice A0 l0.length c0] rfl (by (try simp only [List.map_toArray, List.map_cons, List.map_nil]); first | done | rfl | (simp only [List.length_drop, List.length_take]; rfl)) ?_; (with_reducible refine (impl_KraftOf.calls k _ _ l0 t137 true _ ?side1 ?side2 A2.out).mono ?_); (case side1 => repeat (first | exact HR0.out | (with_reducible refine Kd.C_alloc ?_ _) | (with_reducible refine Kd.C_drewN ?_ _) | (with_reducible refine Kd.C_drew ?_))); (case side2 => exact HC0.out); rintro e w4 ⟨rfl, hb⟩; refine ⟨_, rfl, ?_⟩; have n0_ := Aside0.mk (below_step (by repeat (first | (with_reducible first | exact HB.out | apply below_alloc | apply pw_below_drewN | apply below_drew1) | exact HB.out)) hb); clear HB; have HB := n0_; clear n0_; (try clear hb); (try clear hb2); (try clear hk); (try clear hi)))
    go_ret
    exact ⟨by first | rfl | (simp [errW_none, errW_some] <;> rfl) | (simp [*, errW_none, errW_some] <;> rfl), by repeat (first | (with_reducible first | exact HB.out | apply below_alloc | apply pw_below_drewN | apply below_drew1) | exact HB.out)⟩
  · replace c3 := Bool.eq_false_iff.mpr c3
    subst c3
    have H1 : (some false) = some r := by rw [if_neg (show ¬ (false = true) by decide)] at H; exact H
    clear H
    have H := H1
    clear H1
    obtain rfl := Option.some.inj H
    go_enter Try.func24, Try.ntmps24
    go_wp2_with (first | ((with_reducible refine gate_callee (f := 33) rfl ?_); refine goesL_ (some 7) rfl rfl Try.func33 (by kernel_rfl) rfl #[.slice A0 l0.length c0] rfl (by (try simp only [List.map_toArray, List.map_cons, List.map_nil]); first | done | rfl | (simp only [List.length_drop, List.length_take]; rfl)) ?_; (with_reducible refine (impl_KraftOf.calls k _ _ l0 t137 false _ ?side1 ?side2 A2.out).mono ?_); (case side1 => repeat (first | exact HR0.out | (with_reducible refine Kd.C_alloc ?_ _) | (with_reducible refine Kd.C_drewN ?_ _) | (with_reducible refine Kd.C_drew ?_))); (case side2 => exact HC0.out); rintro e w5 ⟨rfl, hb⟩; refine ⟨_, rfl, ?_⟩; have n0_ := Aside0.mk (below_step (by repeat (first | (with_reducible first | exact HB.out | apply below_alloc | apply pw_below_drewN | apply below_drew1) | exact HB.out)) hb); clear HB; have HB := n0_; clear n0_; (try clear hb); (try clear hb2); (try clear hk); (try clear hi)))
    go_ret
    exact ⟨by first | rfl | (simp [errW_none, errW_some] <;> rfl) | (simp [*, errW_none, errW_some] <;> rfl), by repeat (first | (with_reducible first | exact HB.out | apply below_alloc | apply pw_below_drewN | apply below_drew1) | exact HB.out)⟩

/-! ### impl_codes: function 25, by a walk of this session's own -/
def Try.laysWB_ren : Go.Shelf.Ren := ⟨fun | 167 => 28 | 169 => 29 | 240 => 34 | 276 => 37 | n => n, fun | 0 => 0 | 3 => 3 | 4 => 4 | 5 => 5 | 9 => 9 | 20 => 20 | 37 => 38 | 70 => 43 | 72 => 45 | 75 => 47 | 80 => 49 | 164 => 57 | 127 => 54 | n => n, fun | n => n⟩
theorem Try.laysWB : Lays.n167 Try.prog Try.laysWB_ren where
  mixed := by kernel_rfl
  f167 := Try.func28.trans (congrArg some (by kernel_rfl))
  f240 := Try.func34.trans (congrArg some (by kernel_rfl))
  f276 := Try.func37.trans (congrArg some (by kernel_rfl))
  t0 := Try.underlying0
  a0 := Try.isAgg0
  z0 := Try.sizeOf0
  v0 := Try.zeroValue0
  t4 := Try.underlying4
  a4 := Try.isAgg4
  z4 := Try.sizeOf4
  v4 := Try.zeroValue4
  t5 := Try.underlying5
  a5 := Try.isAgg5
  z5 := Try.sizeOf5
  v5 := Try.zeroValue5
  t9 := Try.underlying9
  a9 := Try.isAgg9
  z9 := Try.sizeOf9
  v9 := Try.zeroValue9
  t20 := Try.underlying20
  a20 := Try.isAgg20
  z20 := Try.sizeOf20
  v20 := Try.zeroValue20
  t37 := Try.underlying38
  a37 := Try.isAgg38
  z37 := Try.sizeOf38
  v37 := Try.zeroValue38
  t70 := Try.underlying43
  a70 := Try.isAgg43
  z70 := Try.sizeOf43
  v70 := Try.zeroValue43
  t72 := Try.underlying45
  a72 := Try.isAgg45
  z72 := Try.sizeOf45
  v72 := Try.zeroValue45
  t75 := Try.underlying47
  a75 := Try.isAgg47
  z75 := Try.sizeOf47
  v75 := Try.zeroValue47
  t164 := Try.underlying57
  a164 := Try.isAgg57
  z164 := Try.sizeOf57
  v164 := Try.zeroValue57
def Try.laysSt_ren : Go.Shelf.Ren := ⟨fun | 167 => 28 | 169 => 29 | 240 => 34 | 276 => 37 | n => n, fun | 0 => 0 | 3 => 3 | 4 => 4 | 5 => 5 | 9 => 9 | 20 => 20 | 37 => 38 | 70 => 43 | 72 => 45 | 75 => 47 | 80 => 49 | 164 => 57 | 127 => 54 | n => n, fun | n => n⟩
theorem Try.laysSt : Lays.n169 Try.prog Try.laysSt_ren where
  mixed := by kernel_rfl
  f169 := Try.func29.trans (congrArg some (by kernel_rfl))
  t0 := Try.underlying0
  a0 := Try.isAgg0
  z0 := Try.sizeOf0
  v0 := Try.zeroValue0
  t3 := Try.underlying3
  a3 := Try.isAgg3
  z3 := Try.sizeOf3
  v3 := Try.zeroValue3
  t9 := Try.underlying9
  a9 := Try.isAgg9
  z9 := Try.sizeOf9
  v9 := Try.zeroValue9
  t37 := Try.underlying38
  a37 := Try.isAgg38
  z37 := Try.sizeOf38
  v37 := Try.zeroValue38
  t70 := Try.underlying43
  a70 := Try.isAgg43
  z70 := Try.sizeOf43
  v70 := Try.zeroValue43
  t72 := Try.underlying45
  a72 := Try.isAgg45
  z72 := Try.sizeOf45
  v72 := Try.zeroValue45
  t127 := Try.underlying54
  a127 := Try.isAgg54
  z127 := Try.sizeOf54
  v127 := Try.zeroValue54
theorem Try.extraWB : Builder.Extra Try.prog Try.laysWB_ren where
  sizeBuilder := by kernel_rfl
  liesBuilder := by kernel_rfl
  t5 := Try.underlying5
  a5 := Try.isAgg5
  z5 := Try.sizeOf5
  v5 := Try.zeroValue5
  infoByte := by kernel_rfl
  cellsByte := by kernel_rfl
  sizeByte := by kernel_rfl
  neB5 := by decide
theorem Try.extraSt : Builder.Extra Try.prog Try.laysSt_ren where
  sizeBuilder := by kernel_rfl
  liesBuilder := by kernel_rfl
  t5 := Try.underlying5
  a5 := Try.isAgg5
  z5 := Try.sizeOf5
  v5 := Try.zeroValue5
  infoByte := by kernel_rfl
  cellsByte := by kernel_rfl
  sizeByte := by kernel_rfl
  neB5 := by decide
theorem Try.WriteByte (B b : Nat) (bs : List Value) (c : Int) (w : World) (h : Lib.IsBuilderF 45 5 B b bs w) (hlen : bs.length + 1 ≤ 140737488355328) (hBw : B ≤ w.heap.size) :
    Calls Try.prog 28 #[.pointer (some ⟨b, 0, none⟩), .int .u8 c] w fun e w' => e = .returned .nilIface ∧ (Lib.BuilderAtF 45 5 B b (.pointer (some ⟨b, 0, none⟩)) (bs ++ [.int .u8 c]) w' ∧ Below B w w' ∧ Lib.OthersKept 5 (some b) w w') := Any.Builder_WriteByte_k Try.laysWB Try.extraWB B b bs c w h hlen hBw
theorem Try.BString (B b : Nat) (l : List UInt8) (w : World) (h : Lib.IsBuilderF 45 5 B b (Lib.byteCells l) w) (hBw : B ≤ w.heap.size) :
    Calls Try.prog 29 #[.pointer (some ⟨b, 0, none⟩)] w fun e w' => e = .returned (.string ⟨l.toArray⟩) ∧ (Lib.IsBuilderF 45 5 B b (Lib.byteCells l) w' ∧ Below B w w' ∧ Lib.OthersKept 5 (some b) w w') := Any.Builder_String_any_k Try.laysSt Try.extraSt B b l w h hBw
theorem and_one_i64 (x : Int) (h0 : 0 ≤ x) (h1 : x < 9223372036854775808) : bits .and .i64 x 1 = x % 2 := bits_mask .i64 63 (by decide) (fun n h2 h3 => by rw [IntKind.wrap_i64]; omega) 1 (by decide) x h0 h1
def cbyte (code : Int) (k : Nat) : UInt8 := UInt8.ofNat (48 + code.toNat / 2 ^ k % 2)
theorem cbyte_val (code : Int) (m : Nat) (h0 : 0 ≤ code) (h1 : code ≤ 1000000) : ((48 + bits BinOp.and .i64 (code / 2 ^ m) 1) % 256 : Int) = ((cbyte code m).toNat : Int) := by
  obtain ⟨c, rfl⟩ : ∃ c : Nat, code = c := ⟨code.toNat, by omega⟩
  have hd : c / 2 ^ m ≤ c := Nat.div_le_self _ _
  have e : ((c : Int) / 2 ^ m) = ((c / 2 ^ m : Nat) : Int) := by simp
  unfold cbyte
  rw [e, Int.toNat_natCast]
  clear e
  generalize c / 2 ^ m = y at hd ⊢
  rw [and_one_i64 _ (by omega) (by omega), UInt8.toNat_ofNat']
  omega
/-- The last so many bits of a code, the greatest first. -/
def cbits (code : Int) : Nat → List UInt8
  | 0 => []
  | k + 1 => cbyte code k :: cbits code k
def cput (long : Int) (i : Nat) (code size : Int) (out : List ByteArray) : Option (Int × Int × List ByteArray) :=
  if (0 ≤ code ∧ code ≤ 1000000) ∧ size ≤ long then some (code, long, out.set i ⟨(cbits code long.toNat).toArray⟩) else none
def cstep (long n : Int) (i : Nat) (s : Int × Int × List ByteArray) : Option (Int × Int × List ByteArray) :=
  if n = long then (if s.2.1 > 0 then cput long i ((s.1 + 1) * 2 ^ (long - s.2.1).toNat) s.2.1 s.2.2 else cput long i s.1 s.2.1 s.2.2) else some s
def cin (long : Int) : List Int → Nat → Int × Int × List ByteArray → Option (Int × Int × List ByteArray)
  | [], _, s => some s
  | n :: t, i, s => (cstep long n i s).bind fun s' => cin long t (i + 1) s'
def cout (l : List Int) : Nat → Int → Int × Int × List ByteArray → Option (Int × Int × List ByteArray)
  | 0, _, s => some s
  | f + 1, long, s => (cin long l 0 s).bind fun s' => cout l f (long + 1) s'
theorem cbits_length (code : Int) (k : Nat) : (cbits code k).length = k := by
  induction k with
  | zero => rfl
  | succ k ih => simp only [cbits, List.length_cons, ih]
theorem row_kept {w w' : World} {B b n : Nat} {xs : List Value} (h : w.ownsRow B 9 1 (.slice (some ⟨B, 0, none⟩) n n) n xs) (k : Lib.OthersKept 5 (some b) w w') (hb : B ≠ b) : w'.ownsRow B 9 1 (.slice (some ⟨B, 0, none⟩) n n) n xs := by
  refine ⟨h.1, ?_⟩
  rcases h.2 with ⟨h', _⟩ | ⟨g, cap, cur, h', hB, hg, rest⟩
  · simp at h'
  · have hgB : B = g := by simp only [Value.slice.injEq, Option.some.injEq, Addr.mk.injEq] at h'; exact h'.1.1
    refine .inr ⟨g, cap, cur, h', hB, k g _ hg (fun e => hb (by rw [hgB]; exact Option.some.inj e)) (fun c fz e => ?_), rest⟩
    injection e with e1 e2 e3
    exact absurd e2 (by decide)
theorem Try.codes_info : (Try.prog.info? 9).map (fun i => (i.zero, i.size, i.bytes)) = some (some (.string ⟨#[]⟩), 1, 16) := by kernel_rfl
theorem cell_own {w : World} {B n : Nat} {outs : List ByteArray} (h : w.ownsRow B 9 1 (.slice (some ⟨B, 0, none⟩) n n) n (outs.map Value.string)) (j : Nat) (hj : j < outs.length) : w.cell? ⟨B, j, none⟩ = some (.string (outs.getD j ⟨#[]⟩)) := by
  have := h.cells (g := B) rfl j (.string (outs.getD j ⟨#[]⟩)) (by rw [List.getElem?_map, List.getD_eq_getElem?_getD, List.getElem?_eq_getElem hj]; rfl)
  rw [show (⟨B, 0, none⟩ : Addr).add j = ⟨B, j, none⟩ from by unfold Addr.add; split <;> simp_all] at this
  exact this
set_option maxHeartbeats 8000000 in
set_option maxRecDepth 1000000 in
theorem Try.codes_walk (A0 : Option Addr) (c0 b off : Nat) (l : List Int) (fin : Int × Int × List ByteArray) (w : World) (hA : 0 < l.length → A0 = some ⟨b, off, none⟩) (hc : ∀ j, j < l.length → w.cell? ⟨b, off + j, none⟩ = some (.int .i64 (l.getD j 0))) (hcl : l.length ≤ c0) (hl : l.length ≤ 1000)
    (hf : cout l 12 1 (0, 0, List.replicate l.length ⟨#[]⟩) = some fin) :
    Calls Try.prog 25 #[.slice A0 l.length c0] w fun e w' => e = .returned (.slice (some ⟨w.heap.size, 0, none⟩) l.length l.length) ∧ w'.ownsRow w.heap.size 9 1 (.slice (some ⟨w.heap.size, 0, none⟩) l.length l.length) l.length (fin.2.2.map Value.string) ∧ Below w.heap.size w w' := by
  obtain ⟨i0, hi, hz0, hz1, hz2⟩ := info_parts Try.codes_info
  have hfin : Hid (cout l 12 1 (0, 0, List.replicate l.length ⟨#[]⟩) = some fin) := hf
  clear hf
  go_enter Try.func25, Try.ntmps25
  go_wp2_with (first | (refine wpList_make_full _ rfl _ _ 26 rfl w.heap.size 9 i0 (.string ⟨#[]⟩) 1 Try.underlying26 hi hz0 hz1 .i64 .i64 (l.length : Int) (l.length : Int) l.length rfl rfl rfl rfl (by rw [hz2]; omega) (by unfold maxLen; omega) (Nat.le_refl _) ?_) | go_in)
  intro w1 hown hgrow
  have hown1 : Hid (w1.ownsRow w.heap.size 9 1 (.slice (some ⟨w.heap.size, 0, none⟩) l.length l.length) l.length ((List.replicate l.length (⟨#[]⟩ : ByteArray)).map Value.string)) := by
    rw [List.map_replicate]
    have := hown
    rw [toList_madeCells_one] at this
    exact this
  have hbw1 : Hid (Below w.heap.size w w1) := Below.grown (Below.refl w.heap.size w) hgrow (Nat.le_refl _) (fun k h => by cases h)
  clear hown hgrow
  go_wp2
  go_loopw [4, 5, 6] (fun vc vs vl wr => ∃ (f : Nat) (long code size : Int) (outs : List ByteArray), vc = .int .i64 code ∧ vs = .int .i64 size ∧ vl = .int .i64 long ∧ Hid (cout l f long (code, size, outs) = some fin) ∧ long + f = 13 ∧ 1 ≤ long ∧ 0 ≤ code ∧ code ≤ 1000000 ∧ 0 ≤ size ∧ size ≤ 12 ∧ outs.length = l.length ∧ Hid (wr.ownsRow w.heap.size 9 1 (.slice (some ⟨w.heap.size, 0, none⟩) l.length l.length) l.length (outs.map Value.string)) ∧ Hid (Below w.heap.size w wr)) (fun _ _ vl _ => (13 - intOf vl).toNat)
  case atStart => exact ⟨12, 1, 0, 0, _, rfl, rfl, rfl, hfin, by omega, by omega, by omega, by omega, by omega, by omega, by simp, hown1, hbw1⟩
  case round =>
    obtain ⟨f, long, code, size, outs, rfl, rfl, rfl, hco, hlf, hl1, hc0, hc1, hs0, hs1, hol, hown, hbw⟩ := hrel
    clear hown1 hbw1 hfin
    by_cases hp : long ≤ 12
    · obtain ⟨f, rfl⟩ : ∃ g, f = g + 1 := ⟨f - 1, by omega⟩
      go_wp2
      go_loopw [4, 5, 20] (fun vc vs vi wr => ∃ (i : Nat) (code size : Int) (outs : List ByteArray), vc = .int .i64 code ∧ vs = .int .i64 size ∧ vi = .int .i64 i ∧ i ≤ l.length ∧ Hid ((cin long (l.drop i) i (code, size, outs)).bind (fun s => cout l f (long + 1) s) = some fin) ∧ 0 ≤ code ∧ code ≤ 1000000 ∧ 0 ≤ size ∧ size ≤ 12 ∧ outs.length = l.length ∧ Hid (wr.ownsRow w.heap.size 9 1 (.slice (some ⟨w.heap.size, 0, none⟩) l.length l.length) l.length (outs.map Value.string)) ∧ Hid (Below w.heap.size w wr)) (fun _ _ vi _ => l.length - (intOf vi).toNat)
      case atStart => exact ⟨0, code, size, outs, rfl, rfl, rfl, Nat.zero_le _, hco, hc0, hc1, hs0, hs1, hol, hown, hbw⟩
      case round =>
        clear hco hown hbw hc0 hc1 hs0 hs1 hol
        obtain ⟨i, code, size, outs, rfl, rfl, rfl, hil, hci, hc0, hc1, hs0, hs1, hol, hown, hbw⟩ := hrel
        by_cases hin : i < l.length
        · obtain rfl := hA (by omega)
          have hx := hc i hin
          have hbb : b < w.heap.size := World.block_lt_of_cell? w _ hx
          have hdrop : l.drop i = l.getD i 0 :: l.drop (i + 1) := by rw [List.drop_eq_getElem_cons hin, List.getD_eq_getElem?_getD, List.getElem?_eq_getElem hin]; rfl
          unfold Hid at hci
          rw [hdrop, cin] at hci
          generalize l.getD i 0 = n at hx hci
          have hxr : wr.cell? ⟨b, off + i, none⟩ = some (.int .i64 n) := (Below.cell hbw hbb).trans hx
          by_cases hn : n = long
          · subst hn
            have hlt : w.heap.size < wr.heap.size := (World.ownsRow.lt hown w.heap.size rfl).2
            have hcell := cell_own hown i (by omega)
            by_cases hsz : size > 0
            · rw [cstep, if_pos rfl] at hci
              simp only [hsz, if_true] at hci
              rw [cput] at hci
              by_cases hg : (0 ≤ (code + 1) * 2 ^ (n - size).toNat ∧ (code + 1) * 2 ^ (n - size).toNat ≤ 1000000) ∧ size ≤ n
              · rw [if_pos hg, Option.bind_some] at hci
                have hsl := hg.2
                have hci2 : Hid ((cin n (l.drop (i + 1)) (i + 1) ((code + 1) * 2 ^ (n - size).toNat, n, outs.set i ⟨(cbits ((code + 1) * 2 ^ (n - size).toNat) n.toNat).toArray⟩)).bind (fun s => cout l f (n + 1) s) = some fin) := hci
                have hgb := hg.1
                clear hci hdrop hg
                go_wp2
                generalize (code + 1) * 2 ^ (n - size).toNat = code2 at hci2 hgb ⊢
                have hnew : (wr.alloc (.cells #[.pointer none, .slice none 0 0] 45)).heap[wr.heap.size]? = some (.cells #[.pointer none, .slice none 0 0] 45 (0, 0)) := heap_alloc_new wr _
                have hI0 : Hid (Lib.IsBuilderF 45 5 w.heap.size wr.heap.size (Lib.byteCells []) (wr.alloc (.cells #[.pointer none, .slice none 0 0] 45))) := Or.inl ⟨Nat.le_of_lt hlt, .slice none 0 0, hnew, World.ownsRowF_nil _ _ _ _, by simp [Value.ownBlock]⟩
                have hown0 : Hid ((wr.alloc (.cells #[.pointer none, .slice none 0 0] 45)).ownsRow w.heap.size 9 1 (.slice (some ⟨w.heap.size, 0, none⟩) l.length l.length) l.length (outs.map Value.string)) := World.ownsRow.alloc hown _
                have hbw0 : Hid (Below w.heap.size w (wr.alloc (.cells #[.pointer none, .slice none 0 0] 45))) := Below.alloc hbw (Nat.le_of_lt hlt) _
                clear hnew
                generalize hgd : wr.heap.size = g at hI0 hlt ⊢
                go_loopw [10] (fun vk wr => ∃ (m : Nat) (acc : List UInt8), vk = .int .i64 ((m : Int) - 1) ∧ acc.length + m = n.toNat ∧ Hid (acc ++ cbits code2 m = cbits code2 n.toNat) ∧ Hid (Lib.IsBuilderF 45 5 w.heap.size g (Lib.byteCells acc) wr) ∧ Hid (wr.ownsRow w.heap.size 9 1 (.slice (some ⟨w.heap.size, 0, none⟩) l.length l.length) l.length (outs.map Value.string)) ∧ Hid (Below w.heap.size w wr)) (fun vk _ => (intOf vk + 1).toNat)
                case atStart =>
                  exact ⟨n.toNat, [], by congr 1; omega, by simp, rfl, hI0, hown0, hbw0⟩
                case round =>
                  clear hI0 hown0 hbw0
                  obtain ⟨m, acc, rfl, hml, hac, hI, hown2, hbw2⟩ := hrel
                  have hsz2 : w.heap.size ≤ wr.heap.size := hbw2.size
                  by_cases hm : m = 0
                  · subst hm
                    unfold Hid at hac
                    rw [cbits, List.append_nil] at hac
                    subst hac
                    have hcell2 := cell_own hown2 i (by omega)
                    go_wp2_with (go_at_call 29; refine (Try.BString w.heap.size g _ _ hI hsz2).mono ?_)
                    rintro e W1 ⟨rfl, _, b1, k1⟩
                    have hown3 : Hid (W1.ownsRow w.heap.size 9 1 (.slice (some ⟨w.heap.size, 0, none⟩) l.length l.length) l.length (outs.map Value.string)) := row_kept hown2 k1 (by omega)
                    have hcell3 := cell_own hown3 i (by omega)
                    have hfro3 := World.ownsRow.frozenAt hown3 i
                    have hbw3 : Hid (Below w.heap.size w W1) := Below.trans hbw2 b1
                    have hown4 : Hid ((W1.setCell ⟨w.heap.size, i, none⟩ (.string ⟨(cbits code2 n.toNat).toArray⟩)).ownsRow w.heap.size 9 1 (.slice (some ⟨w.heap.size, 0, none⟩) l.length l.length) l.length ((outs.set i ⟨(cbits code2 n.toNat).toArray⟩).map Value.string)) := by
                      rw [List.map_set]
                      exact (World.ownsRow.stored hown3 i _).1
                    clear hown2 hbw2
                    go_wp2
                    go_roundw
                    case rel => exact ⟨i + 1, code2, n, outs.set i ⟨(cbits code2 n.toNat).toArray⟩, rfl, rfl, rfl, by omega, hci2, hgb.1, hgb.2, by omega, by omega, by rw [List.length_set]; exact hol, hown4, Below.setCell hbw3 (Nat.le_refl _) _⟩
                    case measure => simp [intOf]; omega
                  · obtain ⟨m, rfl⟩ : ∃ g, m = g + 1 := ⟨m - 1, by omega⟩
                    go_wp2_with (go_at_call 28; refine (Try.WriteByte w.heap.size g _ _ _ hI (by rw [Lib.byteCells_length]; omega) hsz2).mono ?_)
                    rintro e W1 ⟨rfl, h1, b1, k1⟩
                    rw [cbyte_val _ _ hgb.1 hgb.2] at h1
                    have hI2 : Hid (Lib.IsBuilderF 45 5 w.heap.size g (Lib.byteCells (acc ++ [cbyte code2 m])) W1) := by
                      rw [Lib.byteCells_append]
                      exact Or.inr h1
                    have hown3 : Hid (W1.ownsRow w.heap.size 9 1 (.slice (some ⟨w.heap.size, 0, none⟩) l.length l.length) l.length (outs.map Value.string)) := row_kept hown2 k1 (by omega)
                    have hbw3 : Hid (Below w.heap.size w W1) := Below.trans hbw2 b1
                    have hac2 : Hid ((acc ++ [cbyte code2 m]) ++ cbits code2 m = cbits code2 n.toNat) := by
                      unfold Hid at hac ⊢
                      rw [cbits] at hac
                      rw [List.append_assoc]
                      exact hac
                    clear hac h1
                    go_wp2
                    go_roundw
                    case rel => exact ⟨m, acc ++ [cbyte code2 m], by first | rfl | (congr 1; omega), by simp; omega, hac2, hI2, hown3, hbw3⟩
                    case measure => simp [intOf]
              · rw [if_neg hg] at hci; cases hci
            · rw [cstep, if_pos rfl] at hci
              simp only [hsz, if_false] at hci
              rw [cput] at hci
              by_cases hg : (0 ≤ code ∧ code ≤ 1000000) ∧ size ≤ n
              · rw [if_pos hg, Option.bind_some] at hci
                have hsl := hg.2
                have hci2 : Hid ((cin n (l.drop (i + 1)) (i + 1) (code, n, outs.set i ⟨(cbits (code) n.toNat).toArray⟩)).bind (fun s => cout l f (n + 1) s) = some fin) := hci
                have hgb := hg.1
                clear hci hdrop hg
                go_wp2
                generalize code = code2 at hci2 hgb ⊢
                have hnew : (wr.alloc (.cells #[.pointer none, .slice none 0 0] 45)).heap[wr.heap.size]? = some (.cells #[.pointer none, .slice none 0 0] 45 (0, 0)) := heap_alloc_new wr _
                have hI0 : Hid (Lib.IsBuilderF 45 5 w.heap.size wr.heap.size (Lib.byteCells []) (wr.alloc (.cells #[.pointer none, .slice none 0 0] 45))) := Or.inl ⟨Nat.le_of_lt hlt, .slice none 0 0, hnew, World.ownsRowF_nil _ _ _ _, by simp [Value.ownBlock]⟩
                have hown0 : Hid ((wr.alloc (.cells #[.pointer none, .slice none 0 0] 45)).ownsRow w.heap.size 9 1 (.slice (some ⟨w.heap.size, 0, none⟩) l.length l.length) l.length (outs.map Value.string)) := World.ownsRow.alloc hown _
                have hbw0 : Hid (Below w.heap.size w (wr.alloc (.cells #[.pointer none, .slice none 0 0] 45))) := Below.alloc hbw (Nat.le_of_lt hlt) _
                clear hnew
                generalize hgd : wr.heap.size = g at hI0 hlt ⊢
                go_loopw [10] (fun vk wr => ∃ (m : Nat) (acc : List UInt8), vk = .int .i64 ((m : Int) - 1) ∧ acc.length + m = n.toNat ∧ Hid (acc ++ cbits code2 m = cbits code2 n.toNat) ∧ Hid (Lib.IsBuilderF 45 5 w.heap.size g (Lib.byteCells acc) wr) ∧ Hid (wr.ownsRow w.heap.size 9 1 (.slice (some ⟨w.heap.size, 0, none⟩) l.length l.length) l.length (outs.map Value.string)) ∧ Hid (Below w.heap.size w wr)) (fun vk _ => (intOf vk + 1).toNat)
                case atStart =>
                  exact ⟨n.toNat, [], by congr 1; omega, by simp, rfl, hI0, hown0, hbw0⟩
                case round =>
                  clear hI0 hown0 hbw0
                  obtain ⟨m, acc, rfl, hml, hac, hI, hown2, hbw2⟩ := hrel
                  have hsz2 : w.heap.size ≤ wr.heap.size := hbw2.size
                  by_cases hm : m = 0
                  · subst hm
                    unfold Hid at hac
                    rw [cbits, List.append_nil] at hac
                    subst hac
                    have hcell2 := cell_own hown2 i (by omega)
                    go_wp2_with (go_at_call 29; refine (Try.BString w.heap.size g _ _ hI hsz2).mono ?_)
                    rintro e W1 ⟨rfl, _, b1, k1⟩
                    have hown3 : Hid (W1.ownsRow w.heap.size 9 1 (.slice (some ⟨w.heap.size, 0, none⟩) l.length l.length) l.length (outs.map Value.string)) := row_kept hown2 k1 (by omega)
                    have hcell3 := cell_own hown3 i (by omega)
                    have hfro3 := World.ownsRow.frozenAt hown3 i
                    have hbw3 : Hid (Below w.heap.size w W1) := Below.trans hbw2 b1
                    have hown4 : Hid ((W1.setCell ⟨w.heap.size, i, none⟩ (.string ⟨(cbits code2 n.toNat).toArray⟩)).ownsRow w.heap.size 9 1 (.slice (some ⟨w.heap.size, 0, none⟩) l.length l.length) l.length ((outs.set i ⟨(cbits code2 n.toNat).toArray⟩).map Value.string)) := by
                      rw [List.map_set]
                      exact (World.ownsRow.stored hown3 i _).1
                    clear hown2 hbw2
                    go_wp2
                    go_roundw
                    case rel => exact ⟨i + 1, code2, n, outs.set i ⟨(cbits code2 n.toNat).toArray⟩, rfl, rfl, rfl, by omega, hci2, hgb.1, hgb.2, by omega, by omega, by rw [List.length_set]; exact hol, hown4, Below.setCell hbw3 (Nat.le_refl _) _⟩
                    case measure => simp [intOf]; omega
                  · obtain ⟨m, rfl⟩ : ∃ g, m = g + 1 := ⟨m - 1, by omega⟩
                    go_wp2_with (go_at_call 28; refine (Try.WriteByte w.heap.size g _ _ _ hI (by rw [Lib.byteCells_length]; omega) hsz2).mono ?_)
                    rintro e W1 ⟨rfl, h1, b1, k1⟩
                    rw [cbyte_val _ _ hgb.1 hgb.2] at h1
                    have hI2 : Hid (Lib.IsBuilderF 45 5 w.heap.size g (Lib.byteCells (acc ++ [cbyte code2 m])) W1) := by
                      rw [Lib.byteCells_append]
                      exact Or.inr h1
                    have hown3 : Hid (W1.ownsRow w.heap.size 9 1 (.slice (some ⟨w.heap.size, 0, none⟩) l.length l.length) l.length (outs.map Value.string)) := row_kept hown2 k1 (by omega)
                    have hbw3 : Hid (Below w.heap.size w W1) := Below.trans hbw2 b1
                    have hac2 : Hid ((acc ++ [cbyte code2 m]) ++ cbits code2 m = cbits code2 n.toNat) := by
                      unfold Hid at hac ⊢
                      rw [cbits] at hac
                      rw [List.append_assoc]
                      exact hac
                    clear hac h1
                    go_wp2
                    go_roundw
                    case rel => exact ⟨m, acc ++ [cbyte code2 m], by first | rfl | (congr 1; omega), by simp; omega, hac2, hI2, hown3, hbw3⟩
                    case measure => simp [intOf]
              · rw [if_neg hg] at hci; cases hci
          · rw [cstep, if_neg hn, Option.bind_some] at hci
            have hci2 : Hid ((cin long (l.drop (i + 1)) (i + 1) (code, size, outs)).bind (fun s => cout l f (long + 1) s) = some fin) := hci
            clear hci hdrop
            go_wp2
            go_roundw
            case rel => exact ⟨i + 1, code, size, outs, rfl, rfl, rfl, by omega, hci2, hc0, hc1, hs0, hs1, hol, hown, hbw⟩
            case measure => simp [intOf]; omega
        · obtain rfl : i = l.length := by omega
          unfold Hid at hci
          rw [List.drop_length, cin, Option.bind_some] at hci
          have hci2 : Hid (cout l f (long + 1) (code, size, outs) = some fin) := hci
          clear hci
          go_wp2
          go_roundw
          case rel => exact ⟨f, long + 1, code, size, outs, rfl, rfl, rfl, hci2, by omega, by omega, hc0, hc1, hs0, hs1, hol, hown, hbw⟩
          case measure => simp [intOf]; omega
    · obtain rfl : f = 0 := by omega
      unfold Hid at hco
      rw [cout] at hco
      obtain rfl := Option.some.inj hco
      go_wp2
      go_ret
      exact ⟨rfl, hown, hbw⟩
def impl_codes.f (l0 : List Int) : Option (List ByteArray) := if l0.length ≤ 1000 then (cout l0 12 1 (0, 0, List.replicate l0.length ⟨#[]⟩)).map (fun s => s.2.2) else none
theorem impl_codes.calls (A0 : Option Addr) (c0 : Nat) (l0 : List Int) (r : List ByteArray) (w : World) (hr0 : Kd.C (Kd.int .i64) w A0 l0.length l0) (hc0 : l0.length ≤ c0) (h : impl_codes.f l0 = some r) :
    Calls Try.prog 25 #[.slice A0 l0.length c0] w fun e w' => ∃ v0_ : Value, e = .returned (v0_) ∧ Kd.R Kd.string 9 w' w.heap.size (fun _ => True) v0_ r ∧ Below w.heap.size w w' := by
  unfold impl_codes.f at h
  split at h
  · rename_i hn
    obtain ⟨fin, hf, rfl⟩ := Option.map_eq_some_iff.1 h
    have hR : ReadsOf (Value.int .i64) 0 w A0 l0.length l0 := Kd.reads_of_C hr0
    obtain ⟨b, off, hA, hc⟩ : ∃ b off : Nat, (0 < l0.length → A0 = some ⟨b, off, none⟩) ∧ ∀ j, j < l0.length → w.cell? ⟨b, off + j, none⟩ = some (.int .i64 (l0.getD j 0)) := by
      rcases Nat.eq_zero_or_pos l0.length with h0 | h0
      · exact ⟨0, 0, fun h => by omega, fun j hj => by omega⟩
      · obtain ⟨⟨b, off, sp⟩, e, hc⟩ := hR.2.2 h0
        have hsp : sp = none := by
          have h1 := hc 0 h0
          cases sp with
          | none => rfl
          | some x => simp [Addr.add, World.cell?] at h1; split at h1 <;> simp at h1
        subst hsp
        exact ⟨b, off, fun _ => e, fun j hj => (Addr.add_lit b off j) ▸ hc j hj⟩
    exact (Try.codes_walk A0 c0 b off l0 fin w hA hc hc0 hn hf).mono fun e w' ⟨he, ho, hb⟩ => ⟨_, he, Kd.R_of_own (enc := Value.string) (h1 := fun _ => rfl) (by
      have hlen : l0.length = fin.2.2.length := by have := ho.1; rw [List.length_map] at this; omega
      rw [← hlen]; exact ho) (fun _ _ => trivial), hb⟩
  · simp at h

/-! ### impl_EncodeBy: function 17 -/
mutual
def impl_EncodeBy.j0 : Nat → List Int → List Int → Bool → Option (ByteArray × Bool)
  | 0, _, _, _ => none
  | k + 1, x0, x1, x17 => if x17 = true then (some ((⟨#[]⟩ : ByteArray), false)) else ((impl_codes.f x0).bind fun t140 => (impl_EncodeBy.l0 k t140 (⟨#[]⟩ : ByteArray) x1 (x1.length : Int) 0))
def impl_EncodeBy.l0 : Nat → List ByteArray → ByteArray → List Int → Int → Int → Option (ByteArray × Bool)
  | 0, _, _, _, _, _ => none
  | k + 1, x6, x7, x20, x21, x22 => if x22 < x21 then (if 0 ≤ x22 then (if x22 < (x20.length : Int) then (if (rd x20 x22) < 0 then (some ((⟨#[]⟩ : ByteArray), false)) else (if (rd x20 x22) ≥ (x6.length : Int) then (some ((⟨#[]⟩ : ByteArray), false)) else (if 0 ≤ (rd x20 x22) then (if (rd x20 x22) < (x6.length : Int) then (if (rdOf ByteArray.empty x6 (rd x20 x22)).toList = ([] : List UInt8) then (some ((⟨#[]⟩ : ByteArray), false)) else (if x7.size + (rdOf ByteArray.empty x6 (rd x20 x22)).size ≤ 9223372036854775807 then (impl_EncodeBy.l0 k x6 (x7 ++ (rdOf ByteArray.empty x6 (rd x20 x22))) x20 x21 (wrap64 (x22 + 1))) else (none))) else (none)) else (none)))) else (none)) else (none)) else (some (x7, true))
end
def impl_EncodeBy.f (k : Nat) (l0 : List Int) (l1 : List Int) : Option (ByteArray × Bool) := (impl_GoodLengths.f k l0).bind fun t139 => (if t139 = true then (impl_EncodeBy.j0 k l0 l1 (decide ((l1.length : Int) > 200))) else (impl_EncodeBy.j0 k l0 l1 true))
theorem impl_EncodeBy.mono_l : ∀ k, (∀ y0 y1 y2, LeO (impl_EncodeBy.j0 k y0 y1 y2) (impl_EncodeBy.j0 (k + 1) y0 y1 y2)) ∧ (∀ y0 y1 y2 y3 y4, LeO (impl_EncodeBy.l0 k y0 y1 y2 y3 y4) (impl_EncodeBy.l0 (k + 1) y0 y1 y2 y3 y4))
  | 0 => ⟨fun _ _ _ r h => by simp [impl_EncodeBy.j0] at h, fun _ _ _ _ _ r h => by simp [impl_EncodeBy.l0] at h⟩
  | k + 1 => by
    obtain ⟨ih0, ih1⟩ := impl_EncodeBy.mono_l k
    refine ⟨?_, ?_⟩
    · intro y0 y1 y2
      unfold impl_EncodeBy.j0
      repeat' first
      | (with_reducible exact ih0 _ _ _)
      | (with_reducible exact ih1 _ _ _ _ _)
      | (with_reducible exact impl_GoodLengths.mono _ _)
      | (with_reducible exact LeO.refl _)
      | (with_reducible exact LeO.none _)
      | (with_reducible refine LeO.ite ?_ ?_)
      | (with_reducible refine LeO.bind ?_ (fun _ => ?_))
      | exact ih0 _ _ _
      | exact ih1 _ _ _ _ _
      | exact impl_GoodLengths.mono _ _
      | exact LeO.none _
      | refine LeO.ite ?_ ?_
      | refine LeO.bind ?_ (fun _ => ?_)
    · intro y0 y1 y2 y3 y4
      unfold impl_EncodeBy.l0
      repeat' first
      | (with_reducible exact ih0 _ _ _)
      | (with_reducible exact ih1 _ _ _ _ _)
      | (with_reducible exact impl_GoodLengths.mono _ _)
      | (with_reducible exact LeO.refl _)
      | (with_reducible exact LeO.none _)
      | (with_reducible refine LeO.ite ?_ ?_)
      | (with_reducible refine LeO.bind ?_ (fun _ => ?_))
      | exact ih0 _ _ _
      | exact ih1 _ _ _ _ _
      | exact impl_GoodLengths.mono _ _
      | exact LeO.none _
      | refine LeO.ite ?_ ?_
      | refine LeO.bind ?_ (fun _ => ?_)
theorem impl_EncodeBy.mono : ∀ a0 a1 k, LeO (impl_EncodeBy.f k a0 a1) (impl_EncodeBy.f (k + 1) a0 a1) := by
  intro a0 a1 k
  obtain ⟨ih0, ih1⟩ := impl_EncodeBy.mono_l k
  unfold impl_EncodeBy.f
  repeat' first
      | (with_reducible exact ih0 _ _ _)
      | (with_reducible exact ih1 _ _ _ _ _)
      | (with_reducible exact impl_GoodLengths.mono _ _)
      | (with_reducible exact LeO.refl _)
      | (with_reducible exact LeO.none _)
      | (with_reducible refine LeO.ite ?_ ?_)
      | (with_reducible refine LeO.bind ?_ (fun _ => ?_))
      | exact ih0 _ _ _
      | exact ih1 _ _ _ _ _
      | exact impl_GoodLengths.mono _ _
      | exact LeO.none _
      | refine LeO.ite ?_ ?_
      | refine LeO.bind ?_ (fun _ => ?_)
set_option maxHeartbeats 8000000 in
set_option maxRecDepth 100000 in
theorem impl_EncodeBy.calls (k : Nat) (A0 : Option Addr) (c0 : Nat) (l0 : List Int) (A1 : Option Addr) (c1 : Nat) (l1 : List Int) (r1 : ByteArray) (r2 : Bool) (w : World) (hr0 : Kd.C (Kd.int .i64) w A0 l0.length l0) (hc0 : l0.length ≤ c0) (hr1 : Kd.C (Kd.int .i64) w A1 l1.length l1) (hc1 : l1.length ≤ c1) (h : impl_EncodeBy.f k l0 l1 = some (r1, r2)) :
    Calls Try.prog 17 #[.slice A0 l0.length c0, .slice A1 l1.length c1] w fun e w' => e = .returned (.tuple #[.string r1, .bool r2]) ∧ Below w.heap.size w w' := by
  have HR0 := Aside0.mk hr0
  have HC0 := Aside0.mk hc0
  clear hr0 hc0
  have HR1 := Aside0.mk hr1
  have HC1 := Aside0.mk hc1
  clear hr1 hc1
  have HB := Aside0.mk (Below.refl w.heap.size w)
  have H : ((impl_GoodLengths.f k l0).bind fun t139 => (if t139 = true then (impl_EncodeBy.j0 k l0 l1 (decide ((l1.length : Int) > 200))) else (impl_EncodeBy.j0 k l0 l1 true))) = some (r1, r2) := h
  clear h
  have HC3 := Aside0.mk H
  clear H
  go_enter Try.func17, Try.ntmps17
  go_upto_region 1 with (fail)
  go_cut [17] (fun v17 wc => ∃ (kq : Nat) (x17_2 : Bool), v17 = .bool x17_2 ∧ Aside0 (impl_EncodeBy.j0 kq l0 l1 x17_2 = some (r1, r2)) ∧ Aside0 (kq ≤ k) ∧ Aside0 (Below w.heap.size w wc))
  case first =>
    have H := HC3.out
    clear HC3
    replace H := Option.bind_eq_some_iff.mp H
    obtain ⟨t139, A40, H⟩ := H
    replace H : (if t139 = true then (impl_EncodeBy.j0 k l0 l1 (decide ((l1.length : Int) > 200))) else (impl_EncodeBy.j0 k l0 l1 true)) = some (r1, r2) := H
    have A4 := Aside0.mk A40
    clear A40
    by_cases c5 : t139 = true
    · subst c5
      have H1 : (impl_EncodeBy.j0 k l0 l1 (decide ((l1.length : Int) > 200))) = some (r1, r2) := by rw [if_pos rfl] at H; exact H
      clear H
      have H := H1
      clear H1
      have H' := Aside0.mk H
      clear H
      go_wp2_with (first | ((with_reducible refine gate_callee (f := 24) rfl ?_); refine goesL_ (some 11) rfl rfl Try.func24 (by kernel_rfl) rfl #[.slice A0 l0.length c0] rfl (by (try simp only [List.map_toArray, List.map_cons, List.map_nil]); first | done | rfl | (simp only [List.length_drop, List.length_take]; rfl)) ?_; (with_reducible refine (impl_GoodLengths.calls k _ _ l0 true _ ?side1 ?side2 A4.out).mono ?_); (case side1 => repeat (first | exact (Kd.C_below HR0.out HB.out) | (with_reducible refine Kd.C_alloc ?_ _) | (with_reducible refine Kd.C_drewN ?_ _) | (with_reducible refine Kd.C_drew ?_))); (case side2 => exact HC0.out); rintro e w6 ⟨rfl, hb⟩; refine ⟨_, rfl, ?_⟩; have n0_ := Aside0.mk (below_step (by repeat (first | (with_reducible first | exact HB.out | apply below_alloc | apply pw_below_drewN | apply below_drew1) | exact HB.out)) hb); clear HB; have HB := n0_; clear n0_; (try clear hb); (try clear hb2); (try clear hk); (try clear hi)))
      go_meet
      case rel => exact ⟨_, (decide ((l1.length : Int) > 200)), (by first | rfl | (simp; done) | (simp [*]; done)), H', ⟨by first | omega | exact Nat.le_refl _⟩, ⟨by repeat (first | (with_reducible first | exact HB.out | apply below_alloc | apply pw_below_drewN | apply below_drew1) | exact HB.out)⟩⟩
    · replace c5 := Bool.eq_false_iff.mpr c5
      subst c5
      have H1 : (impl_EncodeBy.j0 k l0 l1 true) = some (r1, r2) := by rw [if_neg (show ¬ (false = true) by decide)] at H; exact H
      clear H
      have H := H1
      clear H1
      have H' := Aside0.mk H
      clear H
      go_wp2_with (first | ((with_reducible refine gate_callee (f := 24) rfl ?_); refine goesL_ (some 11) rfl rfl Try.func24 (by kernel_rfl) rfl #[.slice A0 l0.length c0] rfl (by (try simp only [List.map_toArray, List.map_cons, List.map_nil]); first | done | rfl | (simp only [List.length_drop, List.length_take]; rfl)) ?_; (with_reducible refine (impl_GoodLengths.calls k _ _ l0 false _ ?side1 ?side2 A4.out).mono ?_); (case side1 => repeat (first | exact (Kd.C_below HR0.out HB.out) | (with_reducible refine Kd.C_alloc ?_ _) | (with_reducible refine Kd.C_drewN ?_ _) | (with_reducible refine Kd.C_drew ?_))); (case side2 => exact HC0.out); rintro e w7 ⟨rfl, hb⟩; refine ⟨_, rfl, ?_⟩; have n0_ := Aside0.mk (below_step (by repeat (first | (with_reducible first | exact HB.out | apply below_alloc | apply pw_below_drewN | apply below_drew1) | exact HB.out)) hb); clear HB; have HB := n0_; clear n0_; (try clear hb); (try clear hb2); (try clear hk); (try clear hi)))
      go_meet
      case rel => exact ⟨_, (true), (by first | rfl | (simp; done) | (simp [*]; done)), H', ⟨by first | omega | exact Nat.le_refl _⟩, ⟨by repeat (first | (with_reducible first | exact HB.out | apply below_alloc | apply pw_below_drewN | apply below_drew1) | exact HB.out)⟩⟩
  case rest =>
    clear HC3
    try clear c1
    try clear c2
    try clear p2
    try clear c5
    obtain ⟨kq, x17_2, rfl, HA, HJ2, HB⟩ := hcut
    cases kq with
    | zero => exact absurd HA.out (by simp [impl_EncodeBy.j0])
    | succ kj2 =>
      have H := HA.out
      clear HA
      simp only [impl_EncodeBy.j0] at H
      by_cases c8 : x17_2 = true
      · subst c8
        have H1 : (some ((⟨#[]⟩ : ByteArray), false)) = some (r1, r2) := by rw [if_pos rfl] at H; exact H
        clear H
        have H := H1
        clear H1
        simp only [Option.some.injEq, Prod.mk.injEq] at H
        obtain ⟨rfl, rfl⟩ := H
        go_wp2
        go_ret2
        exact ⟨by first | rfl | (simp [errW_none, errW_some] <;> rfl) | (simp [*, errW_none, errW_some] <;> rfl), by repeat (first | (with_reducible first | exact HB.out | apply below_alloc | apply pw_below_drewN | apply below_drew1) | exact HB.out)⟩
      · replace c8 := Bool.eq_false_iff.mpr c8
        subst c8
        have H1 : ((impl_codes.f l0).bind fun t140 => (impl_EncodeBy.l0 kj2 t140 (⟨#[]⟩ : ByteArray) l1 (l1.length : Int) 0)) = some (r1, r2) := by rw [if_neg (show ¬ (false = true) by decide)] at H; exact H
        clear H
        have H := H1
        clear H1
        replace H := Option.bind_eq_some_iff.mp H
        obtain ⟨t140, A90, H⟩ := H
        replace H : (impl_EncodeBy.l0 kj2 t140 (⟨#[]⟩ : ByteArray) l1 (l1.length : Int) 0) = some (r1, r2) := H
        have A9 := Aside0.mk A90
        clear A90
        have H' := Aside0.mk H
        clear H
        go_wp2_with (first | ((with_reducible refine gate_callee (f := 25) rfl ?_); refine goesL_ (some 19) rfl rfl Try.func25 (by kernel_rfl) rfl #[.slice A0 l0.length c0] rfl (by (try simp only [List.map_toArray, List.map_cons, List.map_nil]); first | done | rfl | (simp only [List.length_drop, List.length_take]; rfl)) ?_; (with_reducible refine (impl_codes.calls _ _ l0 t140 _ ?side1 ?side2 A9.out).mono ?_); (case side1 => repeat (first | exact (Kd.C_below HR0.out HB.out) | (with_reducible refine Kd.C_alloc ?_ _) | (with_reducible refine Kd.C_drewN ?_ _) | (with_reducible refine Kd.C_drew ?_))); (case side2 => exact HC0.out); rintro e w10 ⟨v141, rfl, ho0, hb⟩; refine ⟨_, rfl, ?_⟩; have n0_ := Aside0.mk (Kd.R_lower ho0 (below_size (by repeat (first | (with_reducible first | exact HB.out | apply below_alloc | apply pw_below_drewN | apply below_drew1) | exact HB.out)))); have n1_ := Aside0.mk (below_step (by repeat (first | (with_reducible first | exact HB.out | apply below_alloc | apply pw_below_drewN | apply below_drew1) | exact HB.out)) hb); clear HB; have HO142 := n0_; have HB := n1_; clear n0_ n1_; (try clear hb); (try clear hb2); (try clear hk); (try clear hi); (try clear ho0)))
        go_loopg [7, 22] kj2 (fun kq v7 v22 w' => ∃ (x7_2 : ByteArray) (x22_2 : Int), v7 = .string x7_2 ∧ v22 = .int .i64 x22_2 ∧ Aside0 (impl_EncodeBy.l0 kq t140 x7_2 l1 (l1.length : Int) x22_2 = some (r1, r2)) ∧ Aside0 (kq ≤ kj2) ∧ Aside0 (Kd.R Kd.string 9 w' w.heap.size (fun _ => True) v141 t140) ∧ Aside0 (Below w.heap.size w w'))
        case atStart => exact ⟨((⟨#[]⟩ : ByteArray)), (0), (by first | rfl | (simp; done) | (simp [*]; done)), (by first | rfl | (simp; done) | (simp [*]; done)), H', ⟨Nat.le_refl _⟩, ⟨by (with_reducible repeat (first | apply Kd.R_alloc | apply Kd.R_drewN | apply Kd.R_drew)); exact HO142.out⟩, ⟨by repeat (first | (with_reducible first | exact HB.out | apply below_alloc | apply pw_below_drewN | apply below_drew1) | exact HB.out)⟩⟩
        case round =>
          clear H'
          try clear c1
          try clear c2
          try clear p2
          try clear c5
          try clear c8
          try clear p2
          obtain ⟨x7_2, x22_2, rfl, rfl, HA, HK2, HO_6, HB⟩ := hrel
          cases gk with
          | zero => exact absurd HA.out (by simp [impl_EncodeBy.l0])
          | succ k2 =>
            have H := HA.out
            clear HA
            simp only [impl_EncodeBy.l0] at H
            by_cases c11 : x22_2 < (l1.length : Int)
            · rw [if_pos c11] at H
              have c11b0 : decide (x22_2 < (l1.length : Int)) = true := decide_eq_true c11
              clear c11
              by_cases c12 : 0 ≤ x22_2
              · rw [if_pos c12] at H
                have c12b0 : decide (0 ≤ x22_2) = true := decide_eq_true c12
                clear c12
                by_cases c13 : x22_2 < (l1.length : Int)
                · rw [if_pos c13] at H
                  have c13b0 : decide (x22_2 < (l1.length : Int)) = true := decide_eq_true c13
                  clear c13
                  by_cases c14 : (rd l1 x22_2) < 0
                  · rw [if_pos c14] at H
                    have c14b0 : decide ((rd l1 x22_2) < 0) = true := decide_eq_true c14
                    clear c14
                    simp only [Option.some.injEq, Prod.mk.injEq] at H
                    obtain ⟨rfl, rfl⟩ := H
                    have p143 : 0 ≤ (x22_2 : Int) := of_decide_eq_true (by first | (with_reducible assumption) | assumption)
                    have q143 : x22_2 < (l1.length : Int) := of_decide_eq_true (by first | (with_reducible assumption) | assumption)
                    obtain ⟨ad143, e143, hx143_0⟩ := Kd.at_int HR1.out x22_2 p143 q143
                    cases e143
                    replace hx143_0 := (HB.out.cell (World.block_lt_of_cell? w _ hx143_0)).trans hx143_0
                    replace p143 := eq_true p143
                    replace q143 := eq_true q143
                    go_wp2
                    go_ret2
                    exact ⟨by first | rfl | (simp [errW_none, errW_some] <;> rfl) | (simp [*, errW_none, errW_some] <;> rfl), by repeat (first | (with_reducible first | exact HB.out | apply below_alloc | apply pw_below_drewN | apply below_drew1) | exact HB.out)⟩
                  · rw [if_neg c14] at H
                    have c14b0 : decide ((rd l1 x22_2) < 0) = false := decide_eq_false c14
                    clear c14
                    by_cases c15 : (rd l1 x22_2) ≥ (t140.length : Int)
                    · rw [if_pos c15] at H
                      have c15b0 : decide ((t140.length : Int) ≤ (rd l1 x22_2)) = true := decide_eq_true c15
                      clear c15
                      simp only [Option.some.injEq, Prod.mk.injEq] at H
                      obtain ⟨rfl, rfl⟩ := H
                      have p143 : 0 ≤ (x22_2 : Int) := of_decide_eq_true (by first | (with_reducible assumption) | assumption)
                      have q143 : x22_2 < (l1.length : Int) := of_decide_eq_true (by first | (with_reducible assumption) | assumption)
                      obtain ⟨ad143, e143, hx143_0⟩ := Kd.at_int HR1.out x22_2 p143 q143
                      cases e143
                      replace hx143_0 := (HB.out.cell (World.block_lt_of_cell? w _ hx143_0)).trans hx143_0
                      replace p143 := eq_true p143
                      replace q143 := eq_true q143
                      obtain ⟨Ao16, co16, eo16⟩ := Kd.R_slice HO_6.out
                      subst eo16
                      go_wp2
                      go_ret2
                      exact ⟨by first | rfl | (simp [errW_none, errW_some] <;> rfl) | (simp [*, errW_none, errW_some] <;> rfl), by repeat (first | (with_reducible first | exact HB.out | apply below_alloc | apply pw_below_drewN | apply below_drew1) | exact HB.out)⟩
                    · rw [if_neg c15] at H
                      have c15b0 : decide ((t140.length : Int) ≤ (rd l1 x22_2)) = false := decide_eq_false c15
                      clear c15
                      by_cases c17 : 0 ≤ (rd l1 x22_2)
                      · rw [if_pos c17] at H
                        have c17b0 : decide (0 ≤ (rd l1 x22_2)) = true := decide_eq_true c17
                        clear c17
                        by_cases c18 : (rd l1 x22_2) < (t140.length : Int)
                        · rw [if_pos c18] at H
                          have c18b0 : decide ((rd l1 x22_2) < (t140.length : Int)) = true := decide_eq_true c18
                          clear c18
                          by_cases c19 : (rdOf ByteArray.empty t140 (rd l1 x22_2)).toList = ([] : List UInt8)
                          · rw [if_pos c19] at H
                            have c19b0 : ((rdOf ByteArray.empty t140 (rd l1 x22_2)).toList == ([] : List UInt8)) = true := beq_iff_eq.mpr c19
                            have c19b1 : ((rdOf ByteArray.empty t140 (rd l1 x22_2)).toList != ([] : List UInt8)) = false := bne_eq_false_iff_eq.mpr c19
                            clear c19
                            simp only [Option.some.injEq, Prod.mk.injEq] at H
                            obtain ⟨rfl, rfl⟩ := H
                            have p143 : 0 ≤ (x22_2 : Int) := of_decide_eq_true (by first | (with_reducible assumption) | assumption)
                            have q143 : x22_2 < (l1.length : Int) := of_decide_eq_true (by first | (with_reducible assumption) | assumption)
                            obtain ⟨ad143, e143, hx143_0⟩ := Kd.at_int HR1.out x22_2 p143 q143
                            cases e143
                            replace hx143_0 := (HB.out.cell (World.block_lt_of_cell? w _ hx143_0)).trans hx143_0
                            replace p143 := eq_true p143
                            replace q143 := eq_true q143
                            obtain ⟨Ao20, co20, eo20⟩ := Kd.R_slice HO_6.out
                            subst eo20
                            have p144 : 0 ≤ ((rd l1 x22_2) : Int) := of_decide_eq_true (by first | (with_reducible assumption) | assumption)
                            have q144 : (rd l1 x22_2) < (t140.length : Int) := of_decide_eq_true (by first | (with_reducible assumption) | assumption)
                            obtain ⟨ad144, e144, hx144_0⟩ := Kd.at_string (Kd.R_reads' HO_6.out).2.2 (rd l1 x22_2) p144 q144
                            cases e144
                            replace p144 := eq_true p144
                            replace q144 := eq_true q144
                            go_wp2
                            go_ret2
                            exact ⟨by first | rfl | (simp [errW_none, errW_some] <;> rfl) | (simp [*, errW_none, errW_some] <;> rfl), by repeat (first | (with_reducible first | exact HB.out | apply below_alloc | apply pw_below_drewN | apply below_drew1) | exact HB.out)⟩
                          · rw [if_neg c19] at H
                            have c19b0 : ((rdOf ByteArray.empty t140 (rd l1 x22_2)).toList == ([] : List UInt8)) = false := beq_eq_false_iff_ne.mpr c19
                            have c19b1 : ((rdOf ByteArray.empty t140 (rd l1 x22_2)).toList != ([] : List UInt8)) = true := bne_iff_ne.mpr c19
                            by_cases c21 : x7_2.size + (rdOf ByteArray.empty t140 (rd l1 x22_2)).size ≤ 9223372036854775807
                            · rw [if_pos c21] at H
                              have c21b0 := eq_true c21
                              have c21b1 : decide (x7_2.size + (rdOf ByteArray.empty t140 (rd l1 x22_2)).size ≤ 9223372036854775807) = true := decide_eq_true c21
                              try have c21b2 : (9223372036854775807 < x7_2.size + (rdOf ByteArray.empty t140 (rd l1 x22_2)).size) = False := eq_false (Nat.not_lt.2 c21)
                              have H' := Aside0.mk H
                              clear H
                              have p143 : 0 ≤ (x22_2 : Int) := of_decide_eq_true (by first | (with_reducible assumption) | assumption)
                              have q143 : x22_2 < (l1.length : Int) := of_decide_eq_true (by first | (with_reducible assumption) | assumption)
                              obtain ⟨ad143, e143, hx143_0⟩ := Kd.at_int HR1.out x22_2 p143 q143
                              cases e143
                              replace hx143_0 := (HB.out.cell (World.block_lt_of_cell? w _ hx143_0)).trans hx143_0
                              replace p143 := eq_true p143
                              replace q143 := eq_true q143
                              obtain ⟨Ao22, co22, eo22⟩ := Kd.R_slice HO_6.out
                              subst eo22
                              have p144 : 0 ≤ ((rd l1 x22_2) : Int) := of_decide_eq_true (by first | (with_reducible assumption) | assumption)
                              have q144 : (rd l1 x22_2) < (t140.length : Int) := of_decide_eq_true (by first | (with_reducible assumption) | assumption)
                              obtain ⟨ad144, e144, hx144_0⟩ := Kd.at_string (Kd.R_reads' HO_6.out).2.2 (rd l1 x22_2) p144 q144
                              cases e144
                              replace p144 := eq_true p144
                              replace q144 := eq_true q144
                              have p145 : 0 ≤ ((rd l1 x22_2) : Int) := of_decide_eq_true (by first | (with_reducible assumption) | assumption)
                              have q145 : (rd l1 x22_2) < (t140.length : Int) := of_decide_eq_true (by first | (with_reducible assumption) | assumption)
                              obtain ⟨ad145, e145, hx145_0⟩ := Kd.at_string (Kd.R_reads' HO_6.out).2.2 (rd l1 x22_2) p145 q145
                              obtain rfl : ad144 = ad145 := (by injection e145)
                              replace p145 := eq_true p145
                              replace q145 := eq_true q145
                              go_wp2
                              go_roundg k2
                              case measure => have := HJ2.out; have := HK2.out; omega
                              case rel => exact ⟨(x7_2 ++ (rdOf ByteArray.empty t140 (rd l1 x22_2))), (wrap64 (x22_2 + 1)), (by first | rfl | (simp; done) | (simp [*]; done)), (by first | rfl | (simp; done) | (simp [*]; done)), H', ⟨by have := HJ2.out; have := HK2.out; omega⟩, ⟨by (with_reducible repeat (first | apply Kd.R_alloc | apply Kd.R_drewN | apply Kd.R_drew)); exact HO_6.out⟩, ⟨by repeat (first | (with_reducible first | exact HB.out | apply below_alloc | apply pw_below_drewN | apply below_drew1) | exact HB.out)⟩⟩
                            · rw [if_neg c21] at H
                              exact absurd H (by simp)
                        · rw [if_neg c18] at H
                          exact absurd H (by simp)
                      · rw [if_neg c17] at H
                        exact absurd H (by simp)
                · rw [if_neg c13] at H
                  exact absurd H (by simp)
              · rw [if_neg c12] at H
                exact absurd H (by simp)
            · rw [if_neg c11] at H
              have c11b0 : decide (x22_2 < (l1.length : Int)) = false := decide_eq_false c11
              clear c11
              simp only [Option.some.injEq, Prod.mk.injEq] at H
              obtain ⟨rfl, rfl⟩ := H
              go_wp2
              go_ret2
              exact ⟨by first | rfl | (simp [errW_none, errW_some] <;> rfl) | (simp [*, errW_none, errW_some] <;> rfl), by repeat (first | (with_reducible first | exact HB.out | apply below_alloc | apply pw_below_drewN | apply below_drew1) | exact HB.out)⟩

end Go.Proofs.Ytddcceoneabaaaa.QFnExactEncodeBy
