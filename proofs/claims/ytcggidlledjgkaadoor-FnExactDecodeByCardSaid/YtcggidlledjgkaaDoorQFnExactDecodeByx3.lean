-- Written by this session's own program (wip/x/xprint.py, over the kit's printer); Lean checks it.
import Derived.Test.YtcggidlledjgkaaDoorQFnExactDecodeByx0
import Derived.Test.YtcggidlledjgkaaDoorQFnExactDecodeByx2
namespace Go.Proofs.YtcggidlledjgkaaDoor.QFnExactDecodeBy
open Go.RowKit Go.Proofs.YtcggidlledjgkaaDoorW.PrintWords Go.Proofs.YtcggidlledjgkaaDoorW.PrintLast Go.Proofs.YtcggidlledjgkaaDoorW.PrintMore
attribute [local go_sem] max2_int min2_int max_two min_two max_three min_three max_four min_four   -- for this text's walks alone
set_option linter.unusedVariables false
set_option linter.unusedSimpArgs false

/-! ### impl_codes: function 21, by a walk of this session's own -/
def Tryd.laysWB_ren : Go.Shelf.Ren := ⟨fun | 167 => 35 | 169 => 36 | 240 => 45 | 276 => 50 | n => n, fun | 0 => 0 | 3 => 3 | 4 => 4 | 5 => 5 | 9 => 9 | 20 => 20 | 37 => 54 | 70 => 53 | 72 => 56 | 75 => 58 | 80 => 60 | 164 => 71 | 127 => 68 | n => n, fun | n => n⟩
theorem Tryd.laysWB : Lays.n167 Tryd.prog Tryd.laysWB_ren where
  mixed := by kernel_rfl
  f167 := Tryd.func35.trans (congrArg some (by kernel_rfl))
  f240 := Tryd.func45.trans (congrArg some (by kernel_rfl))
  f276 := Tryd.func50.trans (congrArg some (by kernel_rfl))
  t0 := Tryd.underlying0
  a0 := Tryd.isAgg0
  z0 := Tryd.sizeOf0
  v0 := Tryd.zeroValue0
  t4 := Tryd.underlying4
  a4 := Tryd.isAgg4
  z4 := Tryd.sizeOf4
  v4 := Tryd.zeroValue4
  t5 := Tryd.underlying5
  a5 := Tryd.isAgg5
  z5 := Tryd.sizeOf5
  v5 := Tryd.zeroValue5
  t9 := Tryd.underlying9
  a9 := Tryd.isAgg9
  z9 := Tryd.sizeOf9
  v9 := Tryd.zeroValue9
  t20 := Tryd.underlying20
  a20 := Tryd.isAgg20
  z20 := Tryd.sizeOf20
  v20 := Tryd.zeroValue20
  t37 := Tryd.underlying54
  a37 := Tryd.isAgg54
  z37 := Tryd.sizeOf54
  v37 := Tryd.zeroValue54
  t70 := Tryd.underlying53
  a70 := Tryd.isAgg53
  z70 := Tryd.sizeOf53
  v70 := Tryd.zeroValue53
  t72 := Tryd.underlying56
  a72 := Tryd.isAgg56
  z72 := Tryd.sizeOf56
  v72 := Tryd.zeroValue56
  t75 := Tryd.underlying58
  a75 := Tryd.isAgg58
  z75 := Tryd.sizeOf58
  v75 := Tryd.zeroValue58
  t164 := Tryd.underlying71
  a164 := Tryd.isAgg71
  z164 := Tryd.sizeOf71
  v164 := Tryd.zeroValue71
def Tryd.laysSt_ren : Go.Shelf.Ren := ⟨fun | 167 => 35 | 169 => 36 | 240 => 45 | 276 => 50 | n => n, fun | 0 => 0 | 3 => 3 | 4 => 4 | 5 => 5 | 9 => 9 | 20 => 20 | 37 => 54 | 70 => 53 | 72 => 56 | 75 => 58 | 80 => 60 | 164 => 71 | 127 => 68 | n => n, fun | n => n⟩
theorem Tryd.laysSt : Lays.n169 Tryd.prog Tryd.laysSt_ren where
  mixed := by kernel_rfl
  f169 := Tryd.func36.trans (congrArg some (by kernel_rfl))
  t0 := Tryd.underlying0
  a0 := Tryd.isAgg0
  z0 := Tryd.sizeOf0
  v0 := Tryd.zeroValue0
  t3 := Tryd.underlying3
  a3 := Tryd.isAgg3
  z3 := Tryd.sizeOf3
  v3 := Tryd.zeroValue3
  t9 := Tryd.underlying9
  a9 := Tryd.isAgg9
  z9 := Tryd.sizeOf9
  v9 := Tryd.zeroValue9
  t37 := Tryd.underlying54
  a37 := Tryd.isAgg54
  z37 := Tryd.sizeOf54
  v37 := Tryd.zeroValue54
  t70 := Tryd.underlying53
  a70 := Tryd.isAgg53
  z70 := Tryd.sizeOf53
  v70 := Tryd.zeroValue53
  t72 := Tryd.underlying56
  a72 := Tryd.isAgg56
  z72 := Tryd.sizeOf56
  v72 := Tryd.zeroValue56
  t127 := Tryd.underlying68
  a127 := Tryd.isAgg68
  z127 := Tryd.sizeOf68
  v127 := Tryd.zeroValue68
theorem Tryd.extraWB : Builder.Extra Tryd.prog Tryd.laysWB_ren where
  sizeBuilder := by kernel_rfl
  liesBuilder := by kernel_rfl
  t5 := Tryd.underlying5
  a5 := Tryd.isAgg5
  z5 := Tryd.sizeOf5
  v5 := Tryd.zeroValue5
  infoByte := by kernel_rfl
  cellsByte := by kernel_rfl
  sizeByte := by kernel_rfl
  neB5 := by decide
theorem Tryd.extraSt : Builder.Extra Tryd.prog Tryd.laysSt_ren where
  sizeBuilder := by kernel_rfl
  liesBuilder := by kernel_rfl
  t5 := Tryd.underlying5
  a5 := Tryd.isAgg5
  z5 := Tryd.sizeOf5
  v5 := Tryd.zeroValue5
  infoByte := by kernel_rfl
  cellsByte := by kernel_rfl
  sizeByte := by kernel_rfl
  neB5 := by decide
theorem Tryd.WriteByte (B b : Nat) (bs : List Value) (c : Int) (w : World) (h : Lib.IsBuilderF 56 5 B b bs w) (hlen : bs.length + 1 ≤ 140737488355328) (hBw : B ≤ w.heap.size) :
    Calls Tryd.prog 35 #[.pointer (some ⟨b, 0, none⟩), .int .u8 c] w fun e w' => e = .returned .nilIface ∧ (Lib.BuilderAtF 56 5 B b (.pointer (some ⟨b, 0, none⟩)) (bs ++ [.int .u8 c]) w' ∧ Below B w w' ∧ Lib.OthersKept 5 (some b) w w') := Any.Builder_WriteByte_k Tryd.laysWB Tryd.extraWB B b bs c w h hlen hBw
theorem Tryd.BString (B b : Nat) (l : List UInt8) (w : World) (h : Lib.IsBuilderF 56 5 B b (Lib.byteCells l) w) (hBw : B ≤ w.heap.size) :
    Calls Tryd.prog 36 #[.pointer (some ⟨b, 0, none⟩)] w fun e w' => e = .returned (.string ⟨l.toArray⟩) ∧ (Lib.IsBuilderF 56 5 B b (Lib.byteCells l) w' ∧ Below B w w' ∧ Lib.OthersKept 5 (some b) w w') := Any.Builder_String_any_k Tryd.laysSt Tryd.extraSt B b l w h hBw
theorem and_one_i64 (x : Int) (h0 : 0 ≤ x) (h1 : x < 9223372036854775808) : bits .and .i64 x 1 = x % 2 := bits_mask .i64 63 (by decide) (fun n h2 h3 => by rw [IntKind.wrap_i64]; omega) 1 (by decide) x h0 h1
def cbyte (code : Int) (k : Nat) : UInt8 := UInt8.ofNat (48 + code.toNat / 2 ^ k % 2)
theorem cbyte_val (code : Int) (m : Nat) (h0 : 0 ≤ code) (h1 : code ≤ 1000000) : ((48 + bits BinOp.and .i64 (code / 2 ^ m) 1) % 256 : Int) = ((cbyte code m).toNat : Int) := by
  obtain ⟨c, rfl⟩ : ∃ c : Nat, code = c := ⟨code.toNat, by omega⟩
  have hd : c / 2 ^ m ≤ c := Nat.div_le_self _ _
  have e : ((c : Int) / 2 ^ m) = ((c / 2 ^ m : Nat) : Int) := by simp
  unfold cbyte
  rw [e, Int.toNat_natCast]
  clear e
  generalize c / 2 ^ m = y at hd ⊢
  rw [and_one_i64 _ (by omega) (by omega), UInt8.toNat_ofNat']
  omega
/-- The last so many bits of a code, the greatest first. -/
def cbits (code : Int) : Nat → List UInt8
  | 0 => []
  | k + 1 => cbyte code k :: cbits code k
def cput (long : Int) (i : Nat) (code size : Int) (out : List ByteArray) : Option (Int × Int × List ByteArray) :=
  if (0 ≤ code ∧ code ≤ 1000000) ∧ size ≤ long then some (code, long, out.set i ⟨(cbits code long.toNat).toArray⟩) else none
def cstep (long n : Int) (i : Nat) (s : Int × Int × List ByteArray) : Option (Int × Int × List ByteArray) :=
  if n = long then (if s.2.1 > 0 then cput long i ((s.1 + 1) * 2 ^ (long - s.2.1).toNat) s.2.1 s.2.2 else cput long i s.1 s.2.1 s.2.2) else some s
def cin (long : Int) : List Int → Nat → Int × Int × List ByteArray → Option (Int × Int × List ByteArray)
  | [], _, s => some s
  | n :: t, i, s => (cstep long n i s).bind fun s' => cin long t (i + 1) s'
def cout (l : List Int) : Nat → Int → Int × Int × List ByteArray → Option (Int × Int × List ByteArray)
  | 0, _, s => some s
  | f + 1, long, s => (cin long l 0 s).bind fun s' => cout l f (long + 1) s'
theorem cbits_length (code : Int) (k : Nat) : (cbits code k).length = k := by
  induction k with
  | zero => rfl
  | succ k ih => simp only [cbits, List.length_cons, ih]
theorem row_kept {w w' : World} {B b n : Nat} {xs : List Value} (h : w.ownsRow B 9 1 (.slice (some ⟨B, 0, none⟩) n n) n xs) (k : Lib.OthersKept 5 (some b) w w') (hb : B ≠ b) : w'.ownsRow B 9 1 (.slice (some ⟨B, 0, none⟩) n n) n xs := by
  refine ⟨h.1, ?_⟩
  rcases h.2 with ⟨h', _⟩ | ⟨g, cap, cur, h', hB, hg, rest⟩
  · simp at h'
  · have hgB : B = g := by simp only [Value.slice.injEq, Option.some.injEq, Addr.mk.injEq] at h'; exact h'.1.1
    refine .inr ⟨g, cap, cur, h', hB, k g _ hg (fun e => hb (by rw [hgB]; exact Option.some.inj e)) (fun c fz e => ?_), rest⟩
    injection e with e1 e2 e3
    exact absurd e2 (by decide)
theorem Tryd.codes_info : (Tryd.prog.info? 9).map (fun i => (i.zero, i.size, i.bytes)) = some (some (.string ⟨#[]⟩), 1, 16) := by kernel_rfl
theorem cell_own {w : World} {B n : Nat} {outs : List ByteArray} (h : w.ownsRow B 9 1 (.slice (some ⟨B, 0, none⟩) n n) n (outs.map Value.string)) (j : Nat) (hj : j < outs.length) : w.cell? ⟨B, j, none⟩ = some (.string (outs.getD j ⟨#[]⟩)) := by
  have := h.cells (g := B) rfl j (.string (outs.getD j ⟨#[]⟩)) (by rw [List.getElem?_map, List.getD_eq_getElem?_getD, List.getElem?_eq_getElem hj]; rfl)
  rw [show (⟨B, 0, none⟩ : Addr).add j = ⟨B, j, none⟩ from by unfold Addr.add; split <;> simp_all] at this
  exact this
set_option maxHeartbeats 8000000 in
set_option maxRecDepth 1000000 in
theorem Tryd.codes_walk (A0 : Option Addr) (c0 b off : Nat) (l : List Int) (fin : Int × Int × List ByteArray) (w : World) (hA : 0 < l.length → A0 = some ⟨b, off, none⟩) (hc : ∀ j, j < l.length → w.cell? ⟨b, off + j, none⟩ = some (.int .i64 (l.getD j 0))) (hcl : l.length ≤ c0) (hl : l.length ≤ 1000)
    (hf : cout l 12 1 (0, 0, List.replicate l.length ⟨#[]⟩) = some fin) :
    Calls Tryd.prog 21 #[.slice A0 l.length c0] w fun e w' => e = .returned (.slice (some ⟨w.heap.size, 0, none⟩) l.length l.length) ∧ w'.ownsRow w.heap.size 9 1 (.slice (some ⟨w.heap.size, 0, none⟩) l.length l.length) l.length (fin.2.2.map Value.string) ∧ Below w.heap.size w w' := by
  obtain ⟨i0, hi, hz0, hz1, hz2⟩ := info_parts Tryd.codes_info
  have hfin : Hid (cout l 12 1 (0, 0, List.replicate l.length ⟨#[]⟩) = some fin) := hf
  clear hf
  go_enter Tryd.func21, Tryd.ntmps21
  go_wp2_with (first | (refine wpList_make_full _ rfl _ _ 34 rfl w.heap.size 9 i0 (.string ⟨#[]⟩) 1 Tryd.underlying34 hi hz0 hz1 .i64 .i64 (l.length : Int) (l.length : Int) l.length rfl rfl rfl rfl (by rw [hz2]; omega) (by unfold maxLen; omega) (Nat.le_refl _) ?_) | go_in)
  intro w1 hown hgrow
  have hown1 : Hid (w1.ownsRow w.heap.size 9 1 (.slice (some ⟨w.heap.size, 0, none⟩) l.length l.length) l.length ((List.replicate l.length (⟨#[]⟩ : ByteArray)).map Value.string)) := by
    rw [List.map_replicate]
    have := hown
    rw [toList_madeCells_one] at this
    exact this
  have hbw1 : Hid (Below w.heap.size w w1) := Below.grown (Below.refl w.heap.size w) hgrow (Nat.le_refl _) (fun k h => by cases h)
  clear hown hgrow
  go_wp2
  go_loopw [4, 5, 6] (fun vc vs vl wr => ∃ (f : Nat) (long code size : Int) (outs : List ByteArray), vc = .int .i64 code ∧ vs = .int .i64 size ∧ vl = .int .i64 long ∧ Hid (cout l f long (code, size, outs) = some fin) ∧ long + f = 13 ∧ 1 ≤ long ∧ 0 ≤ code ∧ code ≤ 1000000 ∧ 0 ≤ size ∧ size ≤ 12 ∧ outs.length = l.length ∧ Hid (wr.ownsRow w.heap.size 9 1 (.slice (some ⟨w.heap.size, 0, none⟩) l.length l.length) l.length (outs.map Value.string)) ∧ Hid (Below w.heap.size w wr)) (fun _ _ vl _ => (13 - intOf vl).toNat)
  case atStart => exact ⟨12, 1, 0, 0, _, rfl, rfl, rfl, hfin, by omega, by omega, by omega, by omega, by omega, by omega, by simp, hown1, hbw1⟩
  case round =>
    obtain ⟨f, long, code, size, outs, rfl, rfl, rfl, hco, hlf, hl1, hc0, hc1, hs0, hs1, hol, hown, hbw⟩ := hrel
    clear hown1 hbw1 hfin
    by_cases hp : long ≤ 12
    · obtain ⟨f, rfl⟩ : ∃ g, f = g + 1 := ⟨f - 1, by omega⟩
      go_wp2
      go_loopw [4, 5, 20] (fun vc vs vi wr => ∃ (i : Nat) (code size : Int) (outs : List ByteArray), vc = .int .i64 code ∧ vs = .int .i64 size ∧ vi = .int .i64 i ∧ i ≤ l.length ∧ Hid ((cin long (l.drop i) i (code, size, outs)).bind (fun s => cout l f (long + 1) s) = some fin) ∧ 0 ≤ code ∧ code ≤ 1000000 ∧ 0 ≤ size ∧ size ≤ 12 ∧ outs.length = l.length ∧ Hid (wr.ownsRow w.heap.size 9 1 (.slice (some ⟨w.heap.size, 0, none⟩) l.length l.length) l.length (outs.map Value.string)) ∧ Hid (Below w.heap.size w wr)) (fun _ _ vi _ => l.length - (intOf vi).toNat)
      case atStart => exact ⟨0, code, size, outs, rfl, rfl, rfl, Nat.zero_le _, hco, hc0, hc1, hs0, hs1, hol, hown, hbw⟩
      case round =>
        clear hco hown hbw hc0 hc1 hs0 hs1 hol
        obtain ⟨i, code, size, outs, rfl, rfl, rfl, hil, hci, hc0, hc1, hs0, hs1, hol, hown, hbw⟩ := hrel
        by_cases hin : i < l.length
        · obtain rfl := hA (by omega)
          have hx := hc i hin
          have hbb : b < w.heap.size := World.block_lt_of_cell? w _ hx
          have hdrop : l.drop i = l.getD i 0 :: l.drop (i + 1) := by rw [List.drop_eq_getElem_cons hin, List.getD_eq_getElem?_getD, List.getElem?_eq_getElem hin]; rfl
          unfold Hid at hci
          rw [hdrop, cin] at hci
          generalize l.getD i 0 = n at hx hci
          have hxr : wr.cell? ⟨b, off + i, none⟩ = some (.int .i64 n) := (Below.cell hbw hbb).trans hx
          by_cases hn : n = long
          · subst hn
            have hlt : w.heap.size < wr.heap.size := (World.ownsRow.lt hown w.heap.size rfl).2
            have hcell := cell_own hown i (by omega)
            by_cases hsz : size > 0
            · rw [cstep, if_pos rfl] at hci
              simp only [hsz, if_true] at hci
              rw [cput] at hci
              by_cases hg : (0 ≤ (code + 1) * 2 ^ (n - size).toNat ∧ (code + 1) * 2 ^ (n - size).toNat ≤ 1000000) ∧ size ≤ n
              · rw [if_pos hg, Option.bind_some] at hci
                have hsl := hg.2
                have hci2 : Hid ((cin n (l.drop (i + 1)) (i + 1) ((code + 1) * 2 ^ (n - size).toNat, n, outs.set i ⟨(cbits ((code + 1) * 2 ^ (n - size).toNat) n.toNat).toArray⟩)).bind (fun s => cout l f (n + 1) s) = some fin) := hci
                have hgb := hg.1
                clear hci hdrop hg
                go_wp2
                generalize (code + 1) * 2 ^ (n - size).toNat = code2 at hci2 hgb ⊢
                have hnew : (wr.alloc (.cells #[.pointer none, .slice none 0 0] 56)).heap[wr.heap.size]? = some (.cells #[.pointer none, .slice none 0 0] 56 (0, 0)) := heap_alloc_new wr _
                have hI0 : Hid (Lib.IsBuilderF 56 5 w.heap.size wr.heap.size (Lib.byteCells []) (wr.alloc (.cells #[.pointer none, .slice none 0 0] 56))) := Or.inl ⟨Nat.le_of_lt hlt, .slice none 0 0, hnew, World.ownsRowF_nil _ _ _ _, by simp [Value.ownBlock]⟩
                have hown0 : Hid ((wr.alloc (.cells #[.pointer none, .slice none 0 0] 56)).ownsRow w.heap.size 9 1 (.slice (some ⟨w.heap.size, 0, none⟩) l.length l.length) l.length (outs.map Value.string)) := World.ownsRow.alloc hown _
                have hbw0 : Hid (Below w.heap.size w (wr.alloc (.cells #[.pointer none, .slice none 0 0] 56))) := Below.alloc hbw (Nat.le_of_lt hlt) _
                clear hnew
                generalize hgd : wr.heap.size = g at hI0 hlt ⊢
                go_loopw [10] (fun vk wr => ∃ (m : Nat) (acc : List UInt8), vk = .int .i64 ((m : Int) - 1) ∧ acc.length + m = n.toNat ∧ Hid (acc ++ cbits code2 m = cbits code2 n.toNat) ∧ Hid (Lib.IsBuilderF 56 5 w.heap.size g (Lib.byteCells acc) wr) ∧ Hid (wr.ownsRow w.heap.size 9 1 (.slice (some ⟨w.heap.size, 0, none⟩) l.length l.length) l.length (outs.map Value.string)) ∧ Hid (Below w.heap.size w wr)) (fun vk _ => (intOf vk + 1).toNat)
                case atStart =>
                  exact ⟨n.toNat, [], by congr 1; omega, by simp, rfl, hI0, hown0, hbw0⟩
                case round =>
                  clear hI0 hown0 hbw0
                  obtain ⟨m, acc, rfl, hml, hac, hI, hown2, hbw2⟩ := hrel
                  have hsz2 : w.heap.size ≤ wr.heap.size := hbw2.size
                  by_cases hm : m = 0
                  · subst hm
                    unfold Hid at hac
                    rw [cbits, List.append_nil] at hac
                    subst hac
                    have hcell2 := cell_own hown2 i (by omega)
                    go_wp2_with (go_at_call 36; refine (Tryd.BString w.heap.size g _ _ hI hsz2).mono ?_)
                    rintro e W1 ⟨rfl, _, b1, k1⟩
                    have hown3 : Hid (W1.ownsRow w.heap.size 9 1 (.slice (some ⟨w.heap.size, 0, none⟩) l.length l.length) l.length (outs.map Value.string)) := row_kept hown2 k1 (by omega)
                    have hcell3 := cell_own hown3 i (by omega)
                    have hfro3 := World.ownsRow.frozenAt hown3 i
                    have hbw3 : Hid (Below w.heap.size w W1) := Below.trans hbw2 b1
                    have hown4 : Hid ((W1.setCell ⟨w.heap.size, i, none⟩ (.string ⟨(cbits code2 n.toNat).toArray⟩)).ownsRow w.heap.size 9 1 (.slice (some ⟨w.heap.size, 0, none⟩) l.length l.length) l.length ((outs.set i ⟨(cbits code2 n.toNat).toArray⟩).map Value.string)) := by
                      rw [List.map_set]
                      exact (World.ownsRow.stored hown3 i _).1
                    clear hown2 hbw2
                    go_wp2
                    go_roundw
                    case rel => exact ⟨i + 1, code2, n, outs.set i ⟨(cbits code2 n.toNat).toArray⟩, rfl, rfl, rfl, by omega, hci2, hgb.1, hgb.2, by omega, by omega, by rw [List.length_set]; exact hol, hown4, Below.setCell hbw3 (Nat.le_refl _) _⟩
                    case measure => simp [intOf]; omega
                  · obtain ⟨m, rfl⟩ : ∃ g, m = g + 1 := ⟨m - 1, by omega⟩
                    go_wp2_with (go_at_call 35; refine (Tryd.WriteByte w.heap.size g _ _ _ hI (by rw [Lib.byteCells_length]; omega) hsz2).mono ?_)
                    rintro e W1 ⟨rfl, h1, b1, k1⟩
                    rw [cbyte_val _ _ hgb.1 hgb.2] at h1
                    have hI2 : Hid (Lib.IsBuilderF 56 5 w.heap.size g (Lib.byteCells (acc ++ [cbyte code2 m])) W1) := by
                      rw [Lib.byteCells_append]
                      exact Or.inr h1
                    have hown3 : Hid (W1.ownsRow w.heap.size 9 1 (.slice (some ⟨w.heap.size, 0, none⟩) l.length l.length) l.length (outs.map Value.string)) := row_kept hown2 k1 (by omega)
                    have hbw3 : Hid (Below w.heap.size w W1) := Below.trans hbw2 b1
                    have hac2 : Hid ((acc ++ [cbyte code2 m]) ++ cbits code2 m = cbits code2 n.toNat) := by
                      unfold Hid at hac ⊢
                      rw [cbits] at hac
                      rw [List.append_assoc]
                      exact hac
                    clear hac h1
                    go_wp2
                    go_roundw
                    case rel => exact ⟨m, acc ++ [cbyte code2 m], by first | rfl | (congr 1; omega), by simp; omega, hac2, hI2, hown3, hbw3⟩
                    case measure => simp [intOf]
              · rw [if_neg hg] at hci; cases hci
            · rw [cstep, if_pos rfl] at hci
              simp only [hsz, if_false] at hci
              rw [cput] at hci
              by_cases hg : (0 ≤ code ∧ code ≤ 1000000) ∧ size ≤ n
              · rw [if_pos hg, Option.bind_some] at hci
                have hsl := hg.2
                have hci2 : Hid ((cin n (l.drop (i + 1)) (i + 1) (code, n, outs.set i ⟨(cbits (code) n.toNat).toArray⟩)).bind (fun s => cout l f (n + 1) s) = some fin) := hci
                have hgb := hg.1
                clear hci hdrop hg
                go_wp2
                generalize code = code2 at hci2 hgb ⊢
                have hnew : (wr.alloc (.cells #[.pointer none, .slice none 0 0] 56)).heap[wr.heap.size]? = some (.cells #[.pointer none, .slice none 0 0] 56 (0, 0)) := heap_alloc_new wr _
                have hI0 : Hid (Lib.IsBuilderF 56 5 w.heap.size wr.heap.size (Lib.byteCells []) (wr.alloc (.cells #[.pointer none, .slice none 0 0] 56))) := Or.inl ⟨Nat.le_of_lt hlt, .slice none 0 0, hnew, World.ownsRowF_nil _ _ _ _, by simp [Value.ownBlock]⟩
                have hown0 : Hid ((wr.alloc (.cells #[.pointer none, .slice none 0 0] 56)).ownsRow w.heap.size 9 1 (.slice (some ⟨w.heap.size, 0, none⟩) l.length l.length) l.length (outs.map Value.string)) := World.ownsRow.alloc hown _
                have hbw0 : Hid (Below w.heap.size w (wr.alloc (.cells #[.pointer none, .slice none 0 0] 56))) := Below.alloc hbw (Nat.le_of_lt hlt) _
                clear hnew
                generalize hgd : wr.heap.size = g at hI0 hlt ⊢
                go_loopw [10] (fun vk wr => ∃ (m : Nat) (acc : List UInt8), vk = .int .i64 ((m : Int) - 1) ∧ acc.length + m = n.toNat ∧ Hid (acc ++ cbits code2 m = cbits code2 n.toNat) ∧ Hid (Lib.IsBuilderF 56 5 w.heap.size g (Lib.byteCells acc) wr) ∧ Hid (wr.ownsRow w.heap.size 9 1 (.slice (some ⟨w.heap.size, 0, none⟩) l.length l.length) l.length (outs.map Value.string)) ∧ Hid (Below w.heap.size w wr)) (fun vk _ => (intOf vk + 1).toNat)
                case atStart =>
                  exact ⟨n.toNat, [], by congr 1; omega, by simp, rfl, hI0, hown0, hbw0⟩
                case round =>
                  clear hI0 hown0 hbw0
                  obtain ⟨m, acc, rfl, hml, hac, hI, hown2, hbw2⟩ := hrel
                  have hsz2 : w.heap.size ≤ wr.heap.size := hbw2.size
                  by_cases hm : m = 0
                  · subst hm
                    unfold Hid at hac
                    rw [cbits, List.append_nil] at hac
                    subst hac
                    have hcell2 := cell_own hown2 i (by omega)
                    go_wp2_with (go_at_call 36; refine (Tryd.BString w.heap.size g _ _ hI hsz2).mono ?_)
                    rintro e W1 ⟨rfl, _, b1, k1⟩
                    have hown3 : Hid (W1.ownsRow w.heap.size 9 1 (.slice (some ⟨w.heap.size, 0, none⟩) l.length l.length) l.length (outs.map Value.string)) := row_kept hown2 k1 (by omega)
                    have hcell3 := cell_own hown3 i (by omega)
                    have hfro3 := World.ownsRow.frozenAt hown3 i
                    have hbw3 : Hid (Below w.heap.size w W1) := Below.trans hbw2 b1
                    have hown4 : Hid ((W1.setCell ⟨w.heap.size, i, none⟩ (.string ⟨(cbits code2 n.toNat).toArray⟩)).ownsRow w.heap.size 9 1 (.slice (some ⟨w.heap.size, 0, none⟩) l.length l.length) l.length ((outs.set i ⟨(cbits code2 n.toNat).toArray⟩).map Value.string)) := by
                      rw [List.map_set]
                      exact (World.ownsRow.stored hown3 i _).1
                    clear hown2 hbw2
                    go_wp2
                    go_roundw
                    case rel => exact ⟨i + 1, code2, n, outs.set i ⟨(cbits code2 n.toNat).toArray⟩, rfl, rfl, rfl, by omega, hci2, hgb.1, hgb.2, by omega, by omega, by rw [List.length_set]; exact hol, hown4, Below.setCell hbw3 (Nat.le_refl _) _⟩
                    case measure => simp [intOf]; omega
                  · obtain ⟨m, rfl⟩ : ∃ g, m = g + 1 := ⟨m - 1, by omega⟩
                    go_wp2_with (go_at_call 35; refine (Tryd.WriteByte w.heap.size g _ _ _ hI (by rw [Lib.byteCells_length]; omega) hsz2).mono ?_)
                    rintro e W1 ⟨rfl, h1, b1, k1⟩
                    rw [cbyte_val _ _ hgb.1 hgb.2] at h1
                    have hI2 : Hid (Lib.IsBuilderF 56 5 w.heap.size g (Lib.byteCells (acc ++ [cbyte code2 m])) W1) := by
                      rw [Lib.byteCells_append]
                      exact Or.inr h1
                    have hown3 : Hid (W1.ownsRow w.heap.size 9 1 (.slice (some ⟨w.heap.size, 0, none⟩) l.length l.length) l.length (outs.map Value.string)) := row_kept hown2 k1 (by omega)
                    have hbw3 : Hid (Below w.heap.size w W1) := Below.trans hbw2 b1
                    have hac2 : Hid ((acc ++ [cbyte code2 m]) ++ cbits code2 m = cbits code2 n.toNat) := by
                      unfold Hid at hac ⊢
                      rw [cbits] at hac
                      rw [List.append_assoc]
                      exact hac
                    clear hac h1
                    go_wp2
                    go_roundw
                    case rel => exact ⟨m, acc ++ [cbyte code2 m], by first | rfl | (congr 1; omega), by simp; omega, hac2, hI2, hown3, hbw3⟩
                    case measure => simp [intOf]
              · rw [if_neg hg] at hci; cases hci
          · rw [cstep, if_neg hn, Option.bind_some] at hci
            have hci2 : Hid ((cin long (l.drop (i + 1)) (i + 1) (code, size, outs)).bind (fun s => cout l f (long + 1) s) = some fin) := hci
            clear hci hdrop
            go_wp2
            go_roundw
            case rel => exact ⟨i + 1, code, size, outs, rfl, rfl, rfl, by omega, hci2, hc0, hc1, hs0, hs1, hol, hown, hbw⟩
            case measure => simp [intOf]; omega
        · obtain rfl : i = l.length := by omega
          unfold Hid at hci
          rw [List.drop_length, cin, Option.bind_some] at hci
          have hci2 : Hid (cout l f (long + 1) (code, size, outs) = some fin) := hci
          clear hci
          go_wp2
          go_roundw
          case rel => exact ⟨f, long + 1, code, size, outs, rfl, rfl, rfl, hci2, by omega, by omega, hc0, hc1, hs0, hs1, hol, hown, hbw⟩
          case measure => simp [intOf]; omega
    · obtain rfl : f = 0 := by omega
      unfold Hid at hco
      rw [cout] at hco
      obtain rfl := Option.some.inj hco
      go_wp2
      go_ret
      exact ⟨rfl, hown, hbw⟩
def impl_codes.f (l0 : List Int) : Option (List ByteArray) := if l0.length ≤ 1000 then (cout l0 12 1 (0, 0, List.replicate l0.length ⟨#[]⟩)).map (fun s => s.2.2) else none
theorem impl_codes.calls (A0 : Option Addr) (c0 : Nat) (l0 : List Int) (r : List ByteArray) (w : World) (hr0 : Kd.C (Kd.int .i64) w A0 l0.length l0) (hc0 : l0.length ≤ c0) (h : impl_codes.f l0 = some r) :
    Calls Tryd.prog 21 #[.slice A0 l0.length c0] w fun e w' => ∃ v0_ : Value, e = .returned (v0_) ∧ Kd.R Kd.string 9 w' w.heap.size (fun _ => True) v0_ r ∧ Below w.heap.size w w' := by
  unfold impl_codes.f at h
  split at h
  · rename_i hn
    obtain ⟨fin, hf, rfl⟩ := Option.map_eq_some_iff.1 h
    have hR : ReadsOf (Value.int .i64) 0 w A0 l0.length l0 := Kd.reads_of_C hr0
    obtain ⟨b, off, hA, hc⟩ : ∃ b off : Nat, (0 < l0.length → A0 = some ⟨b, off, none⟩) ∧ ∀ j, j < l0.length → w.cell? ⟨b, off + j, none⟩ = some (.int .i64 (l0.getD j 0)) := by
      rcases Nat.eq_zero_or_pos l0.length with h0 | h0
      · exact ⟨0, 0, fun h => by omega, fun j hj => by omega⟩
      · obtain ⟨⟨b, off, sp⟩, e, hc⟩ := hR.2.2 h0
        have hsp : sp = none := by
          have h1 := hc 0 h0
          cases sp with
          | none => rfl
          | some x => simp [Addr.add, World.cell?] at h1; split at h1 <;> simp at h1
        subst hsp
        exact ⟨b, off, fun _ => e, fun j hj => (Addr.add_lit b off j) ▸ hc j hj⟩
    exact (Tryd.codes_walk A0 c0 b off l0 fin w hA hc hc0 hn hf).mono fun e w' ⟨he, ho, hb⟩ => ⟨_, he, Kd.R_of_own (enc := Value.string) (h1 := fun _ => rfl) (by
      have hlen : l0.length = fin.2.2.length := by have := ho.1; rw [List.length_map] at this; omega
      rw [← hlen]; exact ho) (fun _ _ => trivial), hb⟩
  · simp at h

/-! ### stringslite_HasPrefix: function 37 -/
def stringslite_HasPrefix.f (a0 : ByteArray) (a1 : ByteArray) : Option (Bool) := if (a0.size : Int) ≥ (a1.size : Int) then (if 0 ≤ (a1.size : Int) then (if (a1.size : Int) ≤ (a0.size : Int) then (some ((a0.extract 0 a1.size).toList == a1.toList)) else (none)) else (none)) else (some false)
set_option maxHeartbeats 8000000 in
set_option maxRecDepth 100000 in
theorem stringslite_HasPrefix.calls (a0 : ByteArray) (a1 : ByteArray) (r : Bool) (w : World) (h : stringslite_HasPrefix.f a0 a1 = some r) :
    Calls Tryd.prog 37 #[.string a0, .string a1] w fun e w' => e = .returned (.bool r) ∧ Drawn0 w w' := by
  have H : (if (a0.size : Int) ≥ (a1.size : Int) then (if 0 ≤ (a1.size : Int) then (if (a1.size : Int) ≤ (a0.size : Int) then (some ((a0.extract 0 a1.size).toList == a1.toList)) else (none)) else (none)) else (some false)) = some r := h
  clear h
  by_cases c3 : (a0.size : Int) ≥ (a1.size : Int)
  · rw [if_pos c3] at H
    have c3b0 : decide ((a1.size : Int) ≤ (a0.size : Int)) = true := decide_eq_true c3
    have c3b1 : decide (a1.size ≤ a0.size) = true := decide_eq_true (Int.ofNat_le.mp c3)
    clear c3
    by_cases c4 : 0 ≤ (a1.size : Int)
    · rw [if_pos c4] at H
      have c4b0 := eq_true c4
      have c4b1 : decide (0 ≤ (a1.size : Int)) = true := decide_eq_true c4
      clear c4
      by_cases c5 : (a1.size : Int) ≤ (a0.size : Int)
      · rw [if_pos c5] at H
        have c5b0 := eq_true c5
        have c5b1 : decide ((a1.size : Int) ≤ (a0.size : Int)) = true := decide_eq_true c5
        clear c5
        obtain rfl := Option.some.inj H
        go_enter Tryd.func37, Tryd.ntmps37
        go_wp2
        go_ret
        exact ⟨by first | rfl | (simp; done) | (simp [*]; done), by repeat (first | exact Drawn0.refl _ | apply Drawn0.step)⟩
      · rw [if_neg c5] at H
        exact absurd H (by simp)
    · rw [if_neg c4] at H
      exact absurd H (by simp)
  · rw [if_neg c3] at H
    have c3b0 : decide ((a1.size : Int) ≤ (a0.size : Int)) = false := decide_eq_false c3
    have c3b1 : decide (a1.size ≤ a0.size) = false := decide_eq_false (fun h => c3 (Int.ofNat_le.mpr h))
    clear c3
    obtain rfl := Option.some.inj H
    go_enter Tryd.func37, Tryd.ntmps37
    go_wp2
    go_ret
    exact ⟨by first | rfl | (simp; done) | (simp [*]; done), by repeat (first | exact Drawn0.refl _ | apply Drawn0.step)⟩

/-! ### strings_HasPrefix: function 24 -/
def strings_HasPrefix.f (a0 : ByteArray) (a1 : ByteArray) : Option (Bool) := (stringslite_HasPrefix.f a0 a1).bind fun t142 => (some t142)
set_option maxHeartbeats 8000000 in
set_option maxRecDepth 100000 in
theorem strings_HasPrefix.calls (a0 : ByteArray) (a1 : ByteArray) (r : Bool) (w : World) (h : strings_HasPrefix.f a0 a1 = some r) :
    Calls Tryd.prog 24 #[.string a0, .string a1] w fun e w' => e = .returned (.bool r) ∧ Drawn0 w w' := by
  have H : ((stringslite_HasPrefix.f a0 a1).bind fun t142 => (some t142)) = some r := h
  clear h
  replace H := Option.bind_eq_some_iff.mp H
  obtain ⟨t142, A30, H⟩ := H
  replace H : (some t142) = some r := H
  have A3 := Aside0.mk A30
  clear A30
  obtain rfl := Option.some.inj H
  go_enter Tryd.func24, Tryd.ntmps24
  go_wp2_with (first | ((with_reducible refine gate_callee (f := 37) rfl ?_); refine goesL_ (some 7) rfl rfl Tryd.func37 (by kernel_rfl) rfl #[.string a0, .string a1] rfl (by (try simp only [List.map_toArray, List.map_cons, List.map_nil]); first | done | rfl | (simp only [List.length_drop, List.length_take]; rfl)) ?_; (with_reducible refine (stringslite_HasPrefix.calls a0 a1 t142 _ A3.out).mono ?_); rintro e w' ⟨rfl, ⟨nd, rfl⟩⟩; refine ⟨_, rfl, ?_⟩))
  go_ret
  exact ⟨by first | rfl | (simp; done) | (simp [*]; done), by repeat (first | exact Drawn0.refl _ | apply Drawn0.step)⟩

/-! ### impl_decode_1: function 23 -/
def impl_decode_1.f (a0 : ByteArray) (a1 : ByteArray) : Option (Bool) := if a0.toList = ([] : List UInt8) then (some false) else ((strings_HasPrefix.f a1 a0).bind fun t143 => (some t143))
set_option maxHeartbeats 8000000 in
set_option maxRecDepth 100000 in
theorem impl_decode_1.calls (a0 : ByteArray) (g1_ : Nat) (a1 : ByteArray) (r : Bool) (w : World) (hg1 : w.heap[g1_]? = some (.cells #[.string a1] 9 (0, 0))) (h : impl_decode_1.f a0 a1 = some r) :
    Calls Tryd.prog 23 #[.string a0, .pointer (some ⟨g1_, 0, none⟩)] w fun e w' => e = .returned (.bool r) ∧ Below w.heap.size w w' := by
  have BK1 := Aside0.mk hg1
  clear hg1
  have HB := Aside0.mk (Below.refl w.heap.size w)
  have H : (if a0.toList = ([] : List UInt8) then (some false) else ((strings_HasPrefix.f a1 a0).bind fun t143 => (some t143))) = some r := h
  clear h
  by_cases c3 : a0.toList = ([] : List UInt8)
  · rw [if_pos c3] at H
    have c3b0 : (a0.toList == ([] : List UInt8)) = true := beq_iff_eq.mpr c3
    have c3b1 : (a0.toList != ([] : List UInt8)) = false := bne_eq_false_iff_eq.mpr c3
    clear c3
    obtain rfl := Option.some.inj H
    go_enter Tryd.func23, Tryd.ntmps23
    go_wp2
    go_ret
    exact ⟨by first | rfl | (simp [errW_none, errW_some] <;> rfl) | (simp [*, errW_none, errW_some] <;> rfl), by repeat (first | (with_reducible first | exact HB.out | apply below_alloc | apply pw_below_drewN | apply below_drew1 | refine below_set ?_ GE1.out) | exact HB.out)⟩
  · rw [if_neg c3] at H
    have c3b0 : (a0.toList == ([] : List UInt8)) = false := beq_eq_false_iff_ne.mpr c3
    have c3b1 : (a0.toList != ([] : List UInt8)) = true := bne_iff_ne.mpr c3
    replace H := Option.bind_eq_some_iff.mp H
    obtain ⟨t143, A40, H⟩ := H
    replace H : (some t143) = some r := H
    have A4 := Aside0.mk A40
    clear A40
    obtain rfl := Option.some.inj H
    have hcz5_0 : w.cell? ⟨g1_, 0, none⟩ = some (.string a1) := (blk_cell BK1.out 0).trans rfl
    have hfz5_0 := blk_frozen BK1.out 0
    go_enter Tryd.func23, Tryd.ntmps23
    go_wp2_with (first | (go_at_call 24; (with_reducible refine (strings_HasPrefix.calls a1 a0 t143 _ A4.out).mono ?_); rintro e w' ⟨rfl, ⟨nd, rfl⟩⟩))
    go_ret
    exact ⟨by first | rfl | (simp [errW_none, errW_some] <;> rfl) | (simp [*, errW_none, errW_some] <;> rfl), by repeat (first | (with_reducible first | exact HB.out | apply below_alloc | apply pw_below_drewN | apply below_drew1 | refine below_set ?_ GE1.out) | exact HB.out)⟩

/-! ### slices_IndexFunc: function 22 -/
set_option maxHeartbeats 2000000 in
set_option maxRecDepth 100000 in
theorem idx22 (g : Nat) (lb : Array Value) (eg : ∀ args w, (callFunc g args).run Tryd.prog w = .ok (.enter g args) w) (f : ByteArray → Option Bool) (A : Option Addr) (c : Nat) (l : List ByteArray) (r : Int) (w : World) (hr : Kd.C Kd.string w A l.length l) (hc : l.length ≤ c)
    (hp : ∀ (W : World) (x : ByteArray) (b : Bool), Below w.heap.size w W → f x = some b → Calls Tryd.prog g (#[.string x] ++ lb) W fun e w' => e = .returned (.bool b) ∧ Below W.heap.size W w')
    (h : idxO f 0 l = some r) :
    Calls Tryd.prog 22 #[.slice A l.length c, .func (.func g) #[] lb] w fun e w' => e = .returned (.int .i64 r) ∧ Below w.heap.size w w' := by
  have HR := Aside0.mk hr
  have HP := Aside0.mk hp
  have HL := Aside0.mk hr.2.1
  have H := Aside0.mk h
  clear hr hp h hc
  go_enter Tryd.func22, Tryd.ntmps22
  go_wp2
  go_loopg [5, 8] (l.length + 1) (fun kq _ v8 w' => ∃ kk : Nat, v8 = .int .i64 kk ∧ Aside0 (kk ≤ l.length ∧ l.length + 1 ≤ kq + kk) ∧ Aside0 (idxO f kk (l.drop kk) = some r) ∧ Aside0 (Below w.heap.size w w'))
  case atStart => exact ⟨0, rfl, ⟨Nat.zero_le _, by omega⟩, ⟨by simpa using H.out⟩, ⟨Below.refl _ _⟩⟩
  case round =>
    obtain ⟨kk, rfl, HK, HI, HB⟩ := hrel
    have hkk := HK.out.1
    by_cases hlt : kk < l.length
    · have hd : l.drop kk = l[kk] :: l.drop (kk + 1) := List.drop_eq_getElem_cons hlt
      have hi := HI.out
      rw [hd] at hi
      simp only [idxO] at hi
      obtain ⟨b, hb, hi⟩ := Option.bind_eq_some_iff.1 hi
      have HW := Aside0.mk (show wrap64 ((kk : Int) + 1) = ((kk + 1 : Nat) : Int) from by have := HL.out; unfold wrap64; omega)
      have p : 0 ≤ (kk : Int) := by omega
      have q : (kk : Int) < (l.length : Int) := by omega
      have q1 : decide (kk < l.length) = true := decide_eq_true hlt
      have q2 : decide ((kk : Int) < (l.length : Int)) = true := decide_eq_true q
      obtain ⟨ad, e1, hx0⟩ := Kd.at_string HR.out (kk : Int) p q
      cases e1
      have hrd : rdOf ByteArray.empty l (kk : Int) = l[kk] := by unfold rdOf; simp [List.getD_eq_getElem?_getD, List.getElem?_eq_getElem hlt]
      rw [hrd] at hx0
      clear hrd
      replace hx0 := (HB.out.cell (World.block_lt_of_cell? w _ hx0)).trans hx0
      rw [Int.toNat_natCast] at hx0
      generalize hy : l[kk] = y at hx0 hb
      clear hy hd
      have HC := Aside0.mk (HP.out wr y b HB.out hb)
      clear HI hkk
      cases b with
      | true =>
        have HE := Aside0.mk (Option.some.inj hi)
        clear hi hb
        go_wp2_with fail
        refine HC.out.mono ?_
        rintro e w' ⟨rfl, hb'⟩
        have HB2 := Aside0.mk (below_step HB.out hb')
        clear HB hb' HC hx0
        have HB := HB2
        clear HB2
        go_wp2_with fail
        go_ret
        exact ⟨by rw [← HE.out]; rfl, HB.out⟩
      | false =>
        have HE := Aside0.mk hi
        clear hi hb
        go_wp2_with fail
        refine HC.out.mono ?_
        rintro e w' ⟨rfl, hb'⟩
        have HB2 := Aside0.mk (below_step HB.out hb')
        clear HB hb' HC hx0
        have HB := HB2
        clear HB2
        go_wp2_with fail
        go_roundg (l.length - kk)
        case measure => have := HK.out; omega
        case rel => exact ⟨kk + 1, by rw [HW.out], ⟨by have := HK.out; omega⟩, ⟨by rw [show ((kk + 1 : Nat) : Int) = (kk : Int) + 1 from by omega]; simpa using HE.out⟩, HB⟩
    · have HE := Aside0.mk (show -1 = r from by have := HI.out; rw [List.drop_eq_nil_of_le (by omega)] at this; simp [idxO] at this; exact this)
      have q1 : decide (kk < l.length) = false := decide_eq_false hlt
      have q2 : decide ((kk : Int) < (l.length : Int)) = false := decide_eq_false (by omega)
      clear HI hkk
      go_wp2
      go_ret
      exact ⟨by rw [← HE.out]; rfl, HB.out⟩

/-! ### impl_decode_1_idx: function 1000001 -/
def impl_decode_1_idx.f (l0 : List ByteArray) (a1 : ByteArray) : Option (Int) := idxO (fun x => impl_decode_1.f x a1) 0 l0
theorem impl_decode_1_idx.calls (A0 : Option Addr) (c0 : Nat) (l0 : List ByteArray) (a1 : ByteArray) (g1_ : Nat) (r : Int) (w : World) (hr0 : Kd.C Kd.string w A0 l0.length l0) (hc0 : l0.length ≤ c0) (hg1 : w.heap[g1_]? = some (.cells #[.string a1] 9 (0, 0))) (h : impl_decode_1_idx.f l0 a1 = some r) :
    Calls Tryd.prog 22 #[.slice A0 l0.length c0, .func (.func 23) #[] #[.pointer (some ⟨g1_, 0, none⟩)]] w fun e w' => e = .returned (.int .i64 r) ∧ Below w.heap.size w w' := by
  exact idx22 23 #[.pointer (some ⟨g1_, 0, none⟩)] (enters_of Tryd.func23 (by kernel_rfl) rfl) (fun x => impl_decode_1.f x a1) A0 c0 l0 r w hr0 hc0 (fun W x b hW hx => (impl_decode_1.calls x g1_ a1 b W   ((hW.block _ (Array.getElem?_eq_some_iff.1 hg1).1).trans hg1) hx).mono fun _ _ h_ => ⟨h_.1, h_.2⟩) h

/-! ### impl_decode: function 14 -/
def impl_decode.l0 : Nat → Int → List ByteArray → List Int → ByteArray → Option (List Int × ByteArray)
  | 0, _, _, _, _ => none
  | k + 1, x2, x8, x9, x145000 => if (x9.length : Int) < x2 then ((impl_decode_1_idx.f x8 x145000).bind fun t148 => (if t148 < 0 then (some (x9, x145000)) else (if x9.length < 17592186044416 then (if 0 ≤ t148 then (if t148 < (x8.length : Int) then (if 0 ≤ ((rdOf ByteArray.empty x8 t148).size : Int) then (if ((rdOf ByteArray.empty x8 t148).size : Int) ≤ (x145000.size : Int) then (impl_decode.l0 k x2 x8 (x9 ++ [t148]) (x145000.extract ((rdOf ByteArray.empty x8 t148).size) x145000.size)) else (none)) else (none)) else (none)) else (none)) else (none)))) else (some (x9, x145000))
def impl_decode.f (k : Nat) (l0 : List Int) (a1 : ByteArray) (a2 : Int) : Option (List Int × ByteArray) := (impl_codes.f l0).bind fun t145 => (impl_decode.l0 k a2 t145 ([] : List Int) a1)
theorem impl_decode.mono_l : ∀ k, (∀ y0 y1 y2 y3, LeO (impl_decode.l0 k y0 y1 y2 y3) (impl_decode.l0 (k + 1) y0 y1 y2 y3))
  | 0 => fun _ _ _ _ r h => by simp [impl_decode.l0] at h
  | k + 1 => by
    have ih0 := impl_decode.mono_l k
    · intro y0 y1 y2 y3
      unfold impl_decode.l0
      repeat' first
      | (with_reducible exact ih0 _ _ _ _)
      | (with_reducible exact LeO.refl _)
      | (with_reducible exact LeO.none _)
      | (with_reducible refine LeO.ite ?_ ?_)
      | (with_reducible refine LeO.bind ?_ (fun _ => ?_))
      | exact ih0 _ _ _ _
      | exact LeO.none _
      | refine LeO.ite ?_ ?_
      | refine LeO.bind ?_ (fun _ => ?_)
theorem impl_decode.mono : ∀ a0 a1 a2 k, LeO (impl_decode.f k a0 a1 a2) (impl_decode.f (k + 1) a0 a1 a2) := by
  intro a0 a1 a2 k
  have ih0 := impl_decode.mono_l k
  unfold impl_decode.f
  repeat' first
      | (with_reducible exact ih0 _ _ _ _)
      | (with_reducible exact LeO.refl _)
      | (with_reducible exact LeO.none _)
      | (with_reducible refine LeO.ite ?_ ?_)
      | (with_reducible refine LeO.bind ?_ (fun _ => ?_))
      | exact ih0 _ _ _ _
      | exact LeO.none _
      | refine LeO.ite ?_ ?_
      | refine LeO.bind ?_ (fun _ => ?_)
def impl_decode.T7 : Bool × List (List Nat × List Nat) := (true, [([], []), ([], []), ([], []), ([1, 2], [1, 2]), ([3], [3]), ([4], [4]), ([0, 5], [0, 5]), ([6, 0, 1, 2, 3, 4, 5, 6], [6])])
def impl_decode.B7 : List Nat := [0, 0, 0, 6, 14, 30, 63, 127]
theorem impl_decode.tab7 : rtab .any (opsOf Tryd.f14 7) = impl_decode.T7 := by kernel_rfl
theorem impl_decode.bits7 : waitsOk impl_decode.T7.2 impl_decode.B7 = true := by kernel_rfl
set_option maxHeartbeats 8000000 in
set_option maxRecDepth 100000 in
theorem impl_decode.calls (k : Nat) (A0 : Option Addr) (c0 : Nat) (l0 : List Int) (a1 : ByteArray) (a2 : Int) (r1 : List Int) (r2 : ByteArray) (w : World) (hr0 : Kd.C (Kd.int .i64) w A0 l0.length l0) (hc0 : l0.length ≤ c0) (h : impl_decode.f k l0 a1 a2 = some (r1, r2)) :
    Calls Tryd.prog 14 #[.slice A0 l0.length c0, .string a1, .int .i64 a2] w fun e w' => ∃ v0_ : Value, e = .returned (.tuple #[v0_, .string r2]) ∧ Kd.R (Kd.int .i64) 3 w' w.heap.size (fun _ => True) v0_ r1 ∧ Below w.heap.size w w' := by
  have HR0 := Aside0.mk hr0
  have HC0 := Aside0.mk hc0
  clear hr0 hc0
  have HB := Aside0.mk (Below.refl w.heap.size w)
  have H : ((impl_codes.f l0).bind fun t145 => (impl_decode.l0 k a2 t145 ([] : List Int) a1)) = some (r1, r2) := h
  clear h
  replace H := Option.bind_eq_some_iff.mp H
  obtain ⟨t145, A40, H⟩ := H
  replace H : (impl_decode.l0 k a2 t145 ([] : List Int) a1) = some (r1, r2) := H
  have A4 := Aside0.mk A40
  clear A40
  have H' := Aside0.mk H
  clear H
  go_enter Tryd.func14, Tryd.ntmps14
  go_wp2_with (first | ((with_reducible refine gate_dst (N := 4) rfl ?_); refine box_event ?hg (N := 4) ?hd (cs := #[.string a1]) (t := 9) ?hr ?_; (case hd => rfl); (case hg => rfl); (case hr => first | (go_simp; done) | (go_simp; simp only [IntKind.wrap_u8]; done) | (go_simp; rfl)); intro gb144 hg w5 hbox hb; have n0_ := Aside0.mk (below_step (by repeat (first | (with_reducible first | exact HB.out | apply below_alloc | apply pw_below_drewN | apply below_drew1) | exact HB.out)) hb); have n1_ := Aside0.mk (hbox); have n2_ := Aside0.mk ((by rw [hg]; exact (below_size (by repeat (first | (with_reducible first | exact HB.out | apply below_alloc | apply pw_below_drewN | apply below_drew1) | exact HB.out))) : w.heap.size ≤ gb144)); have n3_ := Aside0.mk ((by rw [hg]; exact (below_size (by repeat (first | (with_reducible first | exact HB.out | apply below_alloc | apply pw_below_drewN | apply below_drew1) | exact HB.out))) : w.heap.size ≤ gb144)); clear HB; have HB := n0_; have BK144 := n1_; have GW144 := n2_; have GE144 := n3_; clear n0_ n1_ n2_ n3_; clear hb hbox hg) | ((with_reducible refine gate_callee (f := 21) rfl ?_); refine goesL_ (some 12) rfl rfl Tryd.func21 (by kernel_rfl) rfl #[.slice A0 l0.length c0] rfl (by (try simp only [List.map_toArray, List.map_cons, List.map_nil]); first | done | rfl | (simp only [List.length_drop, List.length_take]; rfl)) ?_; (with_reducible refine (impl_codes.calls _ _ l0 t145 _ ?side1 ?side2 A4.out).mono ?_); (case side1 => repeat (first | exact (Kd.C_below HR0.out HB.out) | (with_reducible refine Kd.C_alloc ?_ _) | (with_reducible refine Kd.C_drewN ?_ _) | (with_reducible refine Kd.C_drew ?_))); (case side2 => exact HC0.out); rintro e w6 ⟨v146, rfl, ho0, hb⟩; refine ⟨_, rfl, ?_⟩; have n0_ := Aside0.mk (Kd.R_lower (Kd.R_newB ho0 (g := gb144) (o := .cells #[.string a1] 9 (0, 0)) (by (with_reducible repeat (first | refine blk_drewN ?_ _ | refine blk_drew ?_ | refine blk_alloc ?_ _)); exact BK144.out)) (below_size (by repeat (first | (with_reducible first | exact HB.out | apply below_alloc | apply pw_below_drewN | apply below_drew1 | refine below_set ?_ GE144.out) | exact HB.out)))); have n1_ := Aside0.mk (blk_below (g := gb144) (o := .cells #[.string a1] 9 (0, 0)) (by (with_reducible repeat (first | refine blk_drewN ?_ _ | refine blk_drew ?_ | refine blk_alloc ?_ _)); exact BK144.out) hb); have n2_ := Aside0.mk (below_step (by repeat (first | (with_reducible first | exact HB.out | apply below_alloc | apply pw_below_drewN | apply below_drew1 | refine below_set ?_ GE144.out) | exact HB.out)) hb); clear BK144; clear HB; have HO147 := n0_; have BK144 := n1_; have HB := n2_; clear n0_ n1_ n2_; (try clear hb); (try clear hb2); (try clear hk); (try clear hi); (try clear ho0)))
  go_loopg [9] k (fun kq v9 w' => ∃ (x9_1 : List Int) (x145000_1 : ByteArray), Aside0 (impl_decode.l0 kq a2 t145 x9_1 x145000_1 = some (r1, r2)) ∧ Aside0 (kq ≤ k) ∧ Aside0 (Kd.R Kd.string 9 w' w.heap.size (fun k_ => k_ ≠ gb144) v146 t145) ∧ Aside0 (Kd.R (Kd.int .i64) 3 w' w.heap.size (fun _ => True) v9 x9_1) ∧ Aside0 (w'.heap[gb144]? = some (.cells #[.string x145000_1] 9 (0, 0))) ∧ Aside0 (Below w.heap.size w w'))
  case atStart => exact ⟨(([] : List Int)), (a1), H', ⟨Nat.le_refl _⟩, ⟨by (with_reducible repeat (first | apply Kd.R_alloc | apply Kd.R_drewN | apply Kd.R_drew)); exact Kd.R_mono HO147.out (fun _ hk => hk.2)⟩, ⟨by first | exact Kd.R_nil _ _ _ _ _ | exact Kd.N_nil _ _ _ _ _ | exact Kd.V_nil _ _ _ _ _ | exact Kd.Q_nil _ _ _ _ _ | exact Kd.S_nil _ _ _ _ _⟩, ⟨by (with_reducible repeat (first | refine blk_drewN ?_ _ | refine blk_drew ?_ | refine blk_alloc ?_ _)); exact BK144.out⟩, ⟨by repeat (first | (with_reducible first | exact HB.out | apply below_alloc | apply pw_below_drewN | apply below_drew1 | refine below_set ?_ GE144.out) | exact HB.out)⟩⟩
  case round =>
    clear H'
    try clear c1
    try clear c2
    try clear p2
    obtain ⟨x9_1, x145000_1, HA, HK1, HO_8, HO_9, BK144, HB⟩ := hrel
    cases gk with
    | zero => exact absurd HA.out (by simp [impl_decode.l0])
    | succ k1 =>
      have H := HA.out
      clear HA
      simp only [impl_decode.l0] at H
      by_cases c7 : (x9_1.length : Int) < a2
      · rw [if_pos c7] at H
        have c7b0 : decide ((x9_1.length : Int) < a2) = true := decide_eq_true c7
        clear c7
        replace H := Option.bind_eq_some_iff.mp H
        obtain ⟨t148, A80, H⟩ := H
        replace H : (if t148 < 0 then (some (x9_1, x145000_1)) else (if x9_1.length < 17592186044416 then (if 0 ≤ t148 then (if t148 < (t145.length : Int) then (if 0 ≤ ((rdOf ByteArray.empty t145 t148).size : Int) then (if ((rdOf ByteArray.empty t145 t148).size : Int) ≤ (x145000_1.size : Int) then (impl_decode.l0 k1 a2 t145 (x9_1 ++ [t148]) (x145000_1.extract ((rdOf ByteArray.empty t145 t148).size) x145000_1.size)) else (none)) else (none)) else (none)) else (none)) else (none))) = some (r1, r2) := H
        have A8 := Aside0.mk A80
        clear A80
        by_cases c9 : t148 < 0
        · rw [if_pos c9] at H
          have c9b0 : decide (t148 < 0) = true := decide_eq_true c9
          clear c9
          simp only [Option.some.injEq, Prod.mk.injEq] at H
          obtain ⟨rfl, rfl⟩ := H
          obtain ⟨Ao10, co10, eo10⟩ := Kd.R_slice HO_9.out
          subst eo10
          obtain ⟨Ao11, co11, eo11⟩ := Kd.R_slice HO_8.out
          subst eo11
          try go_wp2_with (first | (go_at_call 22; (with_reducible refine (impl_decode_1_idx.calls _ _ t145 x145000_1 gb144 t148 _ ?side1 ?side2 ?side3 A8.out).mono ?_); (case side1 => repeat (first | exact (Kd.R_reads' HO_8.out).2.2 | (with_reducible refine Kd.C_alloc ?_ _) | (with_reducible refine Kd.C_drewN ?_ _) | (with_reducible refine Kd.C_drew ?_))); (case side2 => exact (Kd.R_reads' HO_8.out).2.1); (case side3 => (with_reducible repeat (first | refine blk_drewN ?_ _ | refine blk_drew ?_ | refine blk_alloc ?_ _)); exact BK144.out); rintro e w12 ⟨rfl, hb⟩; have n0_ := Aside0.mk (Kd.R_below (by (with_reducible repeat (first | apply Kd.R_alloc | apply Kd.R_drewN | apply Kd.R_drew)); exact HO_8.out) hb); have n1_ := Aside0.mk (Kd.R_below (by (with_reducible repeat (first | apply Kd.R_alloc | apply Kd.R_drewN | apply Kd.R_drew)); exact HO_9.out) hb); have n2_ := Aside0.mk (blk_below (g := gb144) (o := .cells #[.string x145000_1] 9 (0, 0)) (by (with_reducible repeat (first | refine blk_drewN ?_ _ | refine blk_drew ?_ | refine blk_alloc ?_ _)); exact BK144.out) hb); have n3_ := Aside0.mk (below_step (by repeat (first | (with_reducible first | exact HB.out | apply below_alloc | apply pw_below_drewN | apply below_drew1 | refine below_set ?_ GE144.out) | exact HB.out)) hb); clear HO_8; clear HO_9; clear BK144; clear HB; have HO_8 := n0_; have HO_9 := n1_; have BK144 := n2_; have HB := n3_; clear n0_ n1_ n2_ n3_; (try clear hb); (try clear hb2); (try clear hk); (try clear hi)))
          have n0_ := Aside0.mk (Kd.R_drew HO_8.out)
          have n1_ := Aside0.mk (Kd.R_drew HO_9.out)
          have n2_ := Aside0.mk (blk_drew BK144.out)
          have n3_ := Aside0.mk (below_drew1 HB.out)
          clear HO_8
          clear HO_9
          clear BK144
          clear HB
          have HO_8 := n0_
          have HO_9 := n1_
          have BK144 := n2_
          have HB := n3_
          clear n0_ n1_ n2_ n3_
          refine start_ (n := 4) (S := fun w' => w'.cell? ⟨gb144, 0, none⟩ = some (.string x145000_1)) (ds := []) #[false, false, false, false] (by kernel_rfl) rfl rfl ((blk_cell BK144.out 0).trans rfl) (fun hHeld => ?_)
          generalize w12.drew = w13 at HO_8 HO_9 BK144 HB hHeld ⊢
          refine pure_ (i := 0) (N := some 33) (v := ?_) (a' := ?_) #[true, false, false, false] rfl rfl (by kernel_rfl) (fun _ _ _ h => h) (Or.inl ⟨by rfl, ?_⟩) ?_ ?_
          rotate_left
          · intro w'
            go_simp
            with_reducible rfl
          rotate_left
          · simp only [Act.put, List.setIfInBounds_toArray, List.set_cons_zero, List.set_cons_succ, i64_w, i32_w]
            rfl
          refine pure_ (i := 2) (N := some 6) (v := ?_) (a' := ?_) #[true, false, true, false] rfl rfl (by kernel_rfl) (fun _ _ _ h => h) (Or.inl ⟨by rfl, ?_⟩) ?_ ?_
          rotate_left
          · intro w'
            go_simp
            with_reducible rfl
          rotate_left
          · simp only [Act.put, List.setIfInBounds_toArray, List.set_cons_zero, List.set_cons_succ, i64_w, i32_w]
            rfl
          refine take_ (i := 1) (N := some 34) (v := ?_) (a' := ?_) #[true, true, true, false] rfl rfl (by kernel_rfl) (fun _ _ _ h => h) (Or.inl ⟨by rfl, ?_⟩) hHeld ?_ ?_
          rotate_left
          · intro w' s0
            go_simp
            with_reducible rfl
          rotate_left
          · simp only [Act.put, List.setIfInBounds_toArray, List.set_cons_zero, List.set_cons_succ, i64_w, i32_w]
            rfl
          refine pure_ (i := 3) (N := some 7) (v := ?_) (a' := ?_) #[true, true, true, true] rfl rfl (by kernel_rfl) (fun _ _ _ h => h) (Or.inl ⟨by rfl, ?_⟩) ?_ ?_
          rotate_left
          · intro w'
            go_simp
            with_reducible rfl
          rotate_left
          · simp only [Act.put, List.setIfInBounds_toArray, List.set_cons_zero, List.set_cons_succ, i64_w, i32_w]
            rfl
          refine done_ (by kernel_rfl) ?_
          try go_wp2
          go_ret2
          exact ⟨_, by first | rfl | (simp [errW_none, errW_some] <;> rfl) | (simp [*, errW_none, errW_some] <;> rfl), by (with_reducible repeat (first | apply Kd.R_alloc | apply Kd.R_drewN | apply Kd.R_drew)); exact HO_9.out, by repeat (first | (with_reducible first | exact HB.out | apply below_alloc | apply pw_below_drewN | apply below_drew1 | refine below_set ?_ GE144.out) | exact HB.out)⟩
        · rw [if_neg c9] at H
          have c9b0 : decide (t148 < 0) = false := decide_eq_false c9
          clear c9
          by_cases c14 : x9_1.length < 17592186044416
          · rw [if_pos c14] at H
            have LMc14 := Aside0.mk c14
            clear c14
            obtain ⟨y149, hy149⟩ : ∃ y_ : List Int, y_ = (x9_1 ++ [t148]) := ⟨_, rfl⟩
            replace H : (if 0 ≤ t148 then (if t148 < (t145.length : Int) then (if 0 ≤ ((rdOf ByteArray.empty t145 t148).size : Int) then (if ((rdOf ByteArray.empty t145 t148).size : Int) ≤ (x145000_1.size : Int) then (impl_decode.l0 k1 a2 t145 y149 (x145000_1.extract ((rdOf ByteArray.empty t145 t148).size) x145000_1.size)) else (none)) else (none)) else (none)) else (none)) = some (r1, r2) := by first | (rw [hy149]; with_reducible exact H) | (have H2_ := (Option.bind_some _ _).symm.trans H; rw [hy149]; with_reducible exact H2_) | (have H2_ := (Option.bind_some _ _).symm.trans H; with_reducible exact H2_) | with_reducible exact H | (rw [hy149]; exact H) | exact H
            have Ny149 := Aside0.mk hy149
            clear hy149
            by_cases c15 : 0 ≤ t148
            · rw [if_pos c15] at H
              have c15b0 : decide (0 ≤ t148) = true := decide_eq_true c15
              clear c15
              by_cases c16 : t148 < (t145.length : Int)
              · rw [if_pos c16] at H
                have c16b0 : decide (t148 < (t145.length : Int)) = true := decide_eq_true c16
                clear c16
                by_cases c17 : 0 ≤ ((rdOf ByteArray.empty t145 t148).size : Int)
                · rw [if_pos c17] at H
                  have c17b0 := eq_true c17
                  have c17b1 : decide (0 ≤ ((rdOf ByteArray.empty t145 t148).size : Int)) = true := decide_eq_true c17
                  clear c17
                  by_cases c18 : ((rdOf ByteArray.empty t145 t148).size : Int) ≤ (x145000_1.size : Int)
                  · rw [if_pos c18] at H
                    have c18b0 := eq_true c18
                    have c18b1 : decide (((rdOf ByteArray.empty t145 t148).size : Int) ≤ (x145000_1.size : Int)) = true := decide_eq_true c18
                    clear c18
                    have H' := Aside0.mk H
                    clear H
                    obtain ⟨Ao19, co19, eo19⟩ := Kd.R_slice HO_9.out
                    subst eo19
                    obtain ⟨Ao20, co20, eo20⟩ := Kd.R_slice HO_8.out
                    subst eo20
                    try go_wp2_with (first | (go_at_call 22; (with_reducible refine (impl_decode_1_idx.calls _ _ t145 x145000_1 gb144 t148 _ ?side1 ?side2 ?side3 A8.out).mono ?_); (case side1 => repeat (first | exact (Kd.R_reads' HO_8.out).2.2 | (with_reducible refine Kd.C_alloc ?_ _) | (with_reducible refine Kd.C_drewN ?_ _) | (with_reducible refine Kd.C_drew ?_))); (case side2 => exact (Kd.R_reads' HO_8.out).2.1); (case side3 => (with_reducible repeat (first | refine blk_drewN ?_ _ | refine blk_drew ?_ | refine blk_alloc ?_ _)); exact BK144.out); rintro e w21 ⟨rfl, hb⟩; have n0_ := Aside0.mk (Kd.R_below (by (with_reducible repeat (first | apply Kd.R_alloc | apply Kd.R_drewN | apply Kd.R_drew)); exact HO_8.out) hb); have n1_ := Aside0.mk (Kd.R_below (by (with_reducible repeat (first | apply Kd.R_alloc | apply Kd.R_drewN | apply Kd.R_drew)); exact HO_9.out) hb); have n2_ := Aside0.mk (blk_below (g := gb144) (o := .cells #[.string x145000_1] 9 (0, 0)) (by (with_reducible repeat (first | refine blk_drewN ?_ _ | refine blk_drew ?_ | refine blk_alloc ?_ _)); exact BK144.out) hb); have n3_ := Aside0.mk (below_step (by repeat (first | (with_reducible first | exact HB.out | apply below_alloc | apply pw_below_drewN | apply below_drew1 | refine below_set ?_ GE144.out) | exact HB.out)) hb); clear HO_8; clear HO_9; clear BK144; clear HB; have HO_8 := n0_; have HO_9 := n1_; have BK144 := n2_; have HB := n3_; clear n0_ n1_ n2_ n3_; (try clear hb); (try clear hb2); (try clear hk); (try clear hi)) | ((with_reducible refine gate_builtin (b := .append) (xs := #[.tmp 22, .tmp 24]) rfl ?_); at_builtin; refine Kd.R_append (Kd.int .i64) (w0 := w) w.heap.size rfl (.tmp 22) (.tmp 24) 22 3 (.int .i64 0) 8 rfl Tryd.underlying22 info3 rfl (by decide) (by first | decide | omega) (.slice Ao19 x9_1.length co19) x9_1 t148 [.int .i64 t148] (fun _ => True) (fun _ => False) rfl rfl ?aP (fun _ hk => hk.elim) ?aF ?aO ?aB ?aS ?aL ?_; (case aP => exact rfl); (case aB => exact (by repeat (first | (with_reducible first | exact HB.out | apply below_alloc | apply pw_below_drewN | apply below_drew1 | refine below_set ?_ GE144.out) | exact HB.out))); (case aF => exact (fun _ _ => trivial)); (case aO => exact (by (with_reducible repeat (first | apply Kd.R_alloc | apply Kd.R_drewN | apply Kd.R_drew)); exact HO_9.out)); (case aS => exact (below_size (by repeat (first | (with_reducible first | exact HB.out | apply below_alloc | apply pw_below_drewN | apply below_drew1 | refine below_set ?_ GE144.out) | exact HB.out)))); (case aL => have := LMc14.out; omega); intro v150 w22 ho hb hg hat; rw [← Ny149.out] at ho; have n0_ := Aside0.mk (Kd.R_over' (by (with_reducible repeat (first | apply Kd.R_alloc | apply Kd.R_drewN | apply Kd.R_drew)); exact HO_8.out) (Kd.R_typed (by (with_reducible repeat (first | apply Kd.R_alloc | apply Kd.R_drewN | apply Kd.R_drew)); exact HO_9.out)) (by decide) hg); have n1_ := Aside0.mk (blk_grown (g := gb144) (o := .cells #[.string x145000_1] 9 (0, 0)) (by (with_reducible repeat (first | refine blk_drewN ?_ _ | refine blk_drew ?_ | refine blk_alloc ?_ _)); exact BK144.out) hg (Kd.R_ne HO_9.out BK144.out (by decide))); have n2_ := Aside0.mk (hb); have n3_ := Aside0.mk (ho); clear HO_8; clear BK144; clear HB; clear HO_9; have HO_8 := n0_; have BK144 := n1_; have HB := n2_; have HO151 := n3_; clear n0_ n1_ n2_ n3_; clear ho hb hg hat))
                    have n0_ := Aside0.mk (Kd.R_drew HO_8.out)
                    have n1_ := Aside0.mk (Kd.R_drew HO151.out)
                    have n2_ := Aside0.mk (blk_drew BK144.out)
                    have n3_ := Aside0.mk (below_drew1 HB.out)
                    clear HO_8
                    clear HO151
                    clear BK144
                    clear HB
                    have HO_8 := n0_
                    have HO151 := n1_
                    have BK144 := n2_
                    have HB := n3_
                    clear n0_ n1_ n2_ n3_
                    have p152 : 0 ≤ (t148 : Int) := of_decide_eq_true (by first | (with_reducible assumption) | assumption)
                    have q152 : t148 < (t145.length : Int) := of_decide_eq_true (by first | (with_reducible assumption) | assumption)
                    obtain ⟨ad152, e152, hx152_0⟩ := Kd.at_string (Kd.R_reads' HO_8.out).2.2 t148 p152 q152
                    cases e152
                    replace p152 := eq_true p152
                    replace q152 := eq_true q152
                    refine start_ (n := 8) (S := fun w' => w'.cell? ⟨gb144, 0, none⟩ = some (.string x145000_1) ∧ w'.cell? (ad152.add (t148).toNat) = some (.string (rdOf ByteArray.empty t145 t148))) (ds := [7]) #[false, false, false, false, false, false, false, false] (by kernel_rfl) rfl rfl ⟨(blk_cell BK144.out 0).trans rfl, hx152_0⟩ (fun hHeld => ?_); refine with_tabW impl_decode.tab7 impl_decode.bits7 (fun HT_ HW_ => ?_)
                    generalize w22.drew = w23 at HO_8 HO151 BK144 HB hx152_0 hHeld ⊢
                    refine pure_ (i := 1) (N := some 27) (v := ?_) (a' := ?_) #[false, true, false, false, false, false, false, false] rfl rfl (any_of HT_.out (by kernel_rfl)) (fun _ _ _ h => h) (Or.inl ⟨by rfl, ?_⟩) ?_ ?_
                    rotate_left
                    · intro w'
                      go_simp
                      with_reducible rfl
                    rotate_left
                    · simp only [Act.put, List.setIfInBounds_toArray, List.set_cons_zero, List.set_cons_succ, i64_w, i32_w]
                      rfl
                    refine pure_ (i := 2) (N := some 28) (v := ?_) (a' := ?_) #[false, true, true, false, false, false, false, false] rfl rfl (any_of HT_.out (by kernel_rfl)) (fun _ _ _ h => h) (Or.inl ⟨by rfl, ?_⟩) ?_ ?_
                    rotate_left
                    · intro w'
                      go_simp
                      with_reducible rfl
                    rotate_left
                    · simp only [Act.put, List.setIfInBounds_toArray, List.set_cons_zero, List.set_cons_succ, i64_w, i32_w]
                      rfl
                    refine pure_ (i := 3) (N := some 29) (v := ?_) (a' := ?_) #[false, true, true, true, false, false, false, false] rfl rfl (any_of HT_.out (by kernel_rfl)) (fun _ _ _ h => h) (Or.inl ⟨by rfl, ?_⟩) ?_ ?_
                    rotate_left
                    · intro w'
                      go_simp
                      with_reducible rfl
                    rotate_left
                    · simp only [Act.put, List.setIfInBounds_toArray, List.set_cons_zero, List.set_cons_succ, i64_w, i32_w]
                      rfl
                    refine take_ (i := 0) (N := some 26) (v := ?_) (a' := ?_) #[true, true, true, true, false, false, false, false] rfl rfl (take_ofW HT_.out HW_.out (by kernel_rfl)) (fun _ _ _ h => h) (Or.inl ⟨by rfl, ?_⟩) hHeld ?_ ?_
                    rotate_left
                    · rintro w' ⟨s0, s1⟩
                      go_simp
                      with_reducible rfl
                    rotate_left
                    · simp only [Act.put, List.setIfInBounds_toArray, List.set_cons_zero, List.set_cons_succ, i64_w, i32_w]
                      rfl
                    refine take_ (i := 4) (N := some 30) (v := ?_) (a' := ?_) #[true, true, true, true, true, false, false, false] rfl rfl (take_ofW HT_.out HW_.out (by kernel_rfl)) (fun _ _ _ h => h) (Or.inl ⟨by rfl, ?_⟩) hHeld ?_ ?_
                    rotate_left
                    · rintro w' ⟨s0, s1⟩
                      go_simp
                      with_reducible rfl
                    rotate_left
                    · simp only [Act.put, List.setIfInBounds_toArray, List.set_cons_zero, List.set_cons_succ, i64_w, i32_w]
                      rfl
                    refine pure_ (i := 5) (N := some 31) (v := ?_) (a' := ?_) #[true, true, true, true, true, true, false, false] rfl rfl (any_of HT_.out (by kernel_rfl)) (fun _ _ _ h => h) (Or.inl ⟨by rfl, ?_⟩) ?_ ?_
                    rotate_left
                    · intro w'
                      go_simp
                      with_reducible rfl
                    rotate_left
                    · simp only [Act.put, List.setIfInBounds_toArray, List.set_cons_zero, List.set_cons_succ, i64_w, i32_w]
                      rfl
                    refine pure_ (i := 6) (N := some 32) (v := ?_) (a' := ?_) #[true, true, true, true, true, true, true, false] rfl rfl (any_of HT_.out (by kernel_rfl)) (fun _ _ _ h => h) (Or.inl ⟨by rfl, ?_⟩) ?_ ?_
                    rotate_left
                    · intro w'
                      go_simp
                      with_reducible rfl
                    rotate_left
                    · simp only [Act.put, List.setIfInBounds_toArray, List.set_cons_zero, List.set_cons_succ, i64_w, i32_w]
                      rfl
                    refine last_ (i := 7) (N := none) #[true, true, true, true, true, true, true, true] rfl rfl (one_of HT_.out (by kernel_rfl)) (by decide) (fun K hK => ?_)
                    have hs24 : w23.cell? ⟨gb144, 0, none⟩ = some (.string x145000_1) := (blk_cell BK144.out 0).trans rfl
                    have hfs24 := blk_frozen BK144.out 0
                    refine skip_ (w1 := ?_) (by rfl) rfl ?_ ?_
                    rotate_left
                    · go_simp
                      rfl
                    refine hK.out _ _ ?_
                    clear hK K
                    refine done_ (done_of HT_.out (by kernel_rfl)) ?_
                    try go_wp2
                    go_roundg k1
                    case measure => have := HK1.out; omega
                    case rel => exact ⟨(y149), (x145000_1.extract ((rdOf ByteArray.empty t145 t148).size) x145000_1.size), H', ⟨by have := HK1.out; omega⟩, ⟨by (with_reducible repeat (first | apply Kd.R_alloc | apply Kd.R_drewN | apply Kd.R_drew)); exact Kd.R_mono (Kd.R_far (p := ⟨gb144, 0, none⟩) (Kd.R_mono HO_8.out (fun k_ hk => (⟨hk, hk⟩ : _ ∧ k_ ≠ gb144))) (fun _ hk => hk.2) (.string (x145000_1.extract ((rdOf ByteArray.empty t145 t148).size) x145000_1.size))) (fun _ hk => hk.1)⟩, ⟨by (with_reducible repeat (first | apply Kd.R_alloc | apply Kd.R_drewN | apply Kd.R_drew)); exact Kd.R_mono (Kd.R_far (p := ⟨gb144, 0, none⟩) (Kd.R_types HO151.out BK144.out (by decide)) (fun _ hk => hk.2) (.string (x145000_1.extract ((rdOf ByteArray.empty t145 t148).size) x145000_1.size))) (fun _ hk => trivial)⟩, ⟨by (with_reducible repeat (first | refine blk_drewN ?_ _ | refine blk_drew ?_ | refine blk_alloc ?_ _)); refine blk_put (cs := #[.string x145000_1]) ?_ 0 _ rfl; (with_reducible repeat (first | refine blk_drewN ?_ _ | refine blk_drew ?_ | refine blk_alloc ?_ _)); exact BK144.out⟩, ⟨by repeat (first | (with_reducible first | exact HB.out | apply below_alloc | apply pw_below_drewN | apply below_drew1 | refine below_set ?_ GE144.out) | exact HB.out)⟩⟩
                  · rw [if_neg c18] at H
                    exact absurd H (by simp)
                · rw [if_neg c17] at H
                  exact absurd H (by simp)
              · rw [if_neg c16] at H
                exact absurd H (by simp)
            · rw [if_neg c15] at H
              exact absurd H (by simp)
          · rw [if_neg c14] at H
            exact absurd H (by simp)
      · rw [if_neg c7] at H
        have c7b0 : decide ((x9_1.length : Int) < a2) = false := decide_eq_false c7
        clear c7
        simp only [Option.some.injEq, Prod.mk.injEq] at H
        obtain ⟨rfl, rfl⟩ := H
        obtain ⟨Ao25, co25, eo25⟩ := Kd.R_slice HO_9.out
        subst eo25
        try go_wp2
        have n0_ := Aside0.mk (Kd.R_drew HO_8.out)
        have n1_ := Aside0.mk (Kd.R_drew HO_9.out)
        have n2_ := Aside0.mk (blk_drew BK144.out)
        have n3_ := Aside0.mk (below_drew1 HB.out)
        clear HO_8
        clear HO_9
        clear BK144
        clear HB
        have HO_8 := n0_
        have HO_9 := n1_
        have BK144 := n2_
        have HB := n3_
        clear n0_ n1_ n2_ n3_
        refine start_ (n := 4) (S := fun w' => w'.cell? ⟨gb144, 0, none⟩ = some (.string x145000_1)) (ds := []) #[false, false, false, false] (by kernel_rfl) rfl rfl ((blk_cell BK144.out 0).trans rfl) (fun hHeld => ?_)
        generalize wr.drew = w26 at HO_8 HO_9 BK144 HB hHeld ⊢
        refine pure_ (i := 0) (N := some 33) (v := ?_) (a' := ?_) #[true, false, false, false] rfl rfl (by kernel_rfl) (fun _ _ _ h => h) (Or.inl ⟨by rfl, ?_⟩) ?_ ?_
        rotate_left
        · intro w'
          go_simp
          with_reducible rfl
        rotate_left
        · simp only [Act.put, List.setIfInBounds_toArray, List.set_cons_zero, List.set_cons_succ, i64_w, i32_w]
          rfl
        refine pure_ (i := 2) (N := some 6) (v := ?_) (a' := ?_) #[true, false, true, false] rfl rfl (by kernel_rfl) (fun _ _ _ h => h) (Or.inl ⟨by rfl, ?_⟩) ?_ ?_
        rotate_left
        · intro w'
          go_simp
          with_reducible rfl
        rotate_left
        · simp only [Act.put, List.setIfInBounds_toArray, List.set_cons_zero, List.set_cons_succ, i64_w, i32_w]
          rfl
        refine take_ (i := 1) (N := some 34) (v := ?_) (a' := ?_) #[true, true, true, false] rfl rfl (by kernel_rfl) (fun _ _ _ h => h) (Or.inl ⟨by rfl, ?_⟩) hHeld ?_ ?_
        rotate_left
        · intro w' s0
          go_simp
          with_reducible rfl
        rotate_left
        · simp only [Act.put, List.setIfInBounds_toArray, List.set_cons_zero, List.set_cons_succ, i64_w, i32_w]
          rfl
        refine pure_ (i := 3) (N := some 7) (v := ?_) (a' := ?_) #[true, true, true, true] rfl rfl (by kernel_rfl) (fun _ _ _ h => h) (Or.inl ⟨by rfl, ?_⟩) ?_ ?_
        rotate_left
        · intro w'
          go_simp
          with_reducible rfl
        rotate_left
        · simp only [Act.put, List.setIfInBounds_toArray, List.set_cons_zero, List.set_cons_succ, i64_w, i32_w]
          rfl
        refine done_ (by kernel_rfl) ?_
        try go_wp2
        go_ret2
        exact ⟨_, by first | rfl | (simp [errW_none, errW_some] <;> rfl) | (simp [*, errW_none, errW_some] <;> rfl), by (with_reducible repeat (first | apply Kd.R_alloc | apply Kd.R_drewN | apply Kd.R_drew)); exact HO_9.out, by repeat (first | (with_reducible first | exact HB.out | apply below_alloc | apply pw_below_drewN | apply below_drew1 | refine below_set ?_ GE144.out) | exact HB.out)⟩

end Go.Proofs.YtcggidlledjgkaaDoor.QFnExactDecodeBy
