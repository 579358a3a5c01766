-- Written by this session's own program (wip/x/xprint.py, over the kit's printer); Lean checks it.
import Derived.Test.YtmgkflkfoccgkabDoorQFnCodedx0
import Derived.Test.YtmgkflkfoccgkabDoorQFnCodedx1
import Derived.Test.YtmgkflkfoccgkabDoorQFnCodedx4
namespace Go.Proofs.YtmgkflkfoccgkabDoor.QFnCoded
open Go.RowKit Go.Proofs.YtmgkflkfoccgkabDoorW.PrintWords Go.Proofs.YtmgkflkfoccgkabDoorW.PrintLast Go.Proofs.YtmgkflkfoccgkabDoorW.PrintMore
attribute [local go_sem] max2_int min2_int max_two min_two max_three min_three max_four min_four   -- for this text's walks alone
set_option linter.unusedVariables false
set_option linter.unusedSimpArgs false

/-! ### impl_codes: function 18, by a walk of this session's own -/
def Tryd.laysWB_ren : Go.Shelf.Ren := ⟨fun | 167 => 32 | 169 => 33 | 240 => 48 | 276 => 61 | n => n, fun | 0 => 0 | 3 => 3 | 4 => 4 | 5 => 5 | 9 => 9 | 20 => 20 | 37 => 22 | 70 => 56 | 72 => 58 | 75 => 60 | 80 => 62 | 164 => 88 | 127 => 77 | n => n, fun | n => n⟩
theorem Tryd.laysWB : Lays.n167 Tryd.prog Tryd.laysWB_ren where
  mixed := by kernel_rfl
  f167 := Tryd.func32.trans (congrArg some (by kernel_rfl))
  f240 := Tryd.func48.trans (congrArg some (by kernel_rfl))
  f276 := Tryd.func61.trans (congrArg some (by kernel_rfl))
  t0 := Tryd.underlying0
  a0 := Tryd.isAgg0
  z0 := Tryd.sizeOf0
  v0 := Tryd.zeroValue0
  t4 := Tryd.underlying4
  a4 := Tryd.isAgg4
  z4 := Tryd.sizeOf4
  v4 := Tryd.zeroValue4
  t5 := Tryd.underlying5
  a5 := Tryd.isAgg5
  z5 := Tryd.sizeOf5
  v5 := Tryd.zeroValue5
  t9 := Tryd.underlying9
  a9 := Tryd.isAgg9
  z9 := Tryd.sizeOf9
  v9 := Tryd.zeroValue9
  t20 := Tryd.underlying20
  a20 := Tryd.isAgg20
  z20 := Tryd.sizeOf20
  v20 := Tryd.zeroValue20
  t37 := Tryd.underlying22
  a37 := Tryd.isAgg22
  z37 := Tryd.sizeOf22
  v37 := Tryd.zeroValue22
  t70 := Tryd.underlying56
  a70 := Tryd.isAgg56
  z70 := Tryd.sizeOf56
  v70 := Tryd.zeroValue56
  t72 := Tryd.underlying58
  a72 := Tryd.isAgg58
  z72 := Tryd.sizeOf58
  v72 := Tryd.zeroValue58
  t75 := Tryd.underlying60
  a75 := Tryd.isAgg60
  z75 := Tryd.sizeOf60
  v75 := Tryd.zeroValue60
  t164 := Tryd.underlying88
  a164 := Tryd.isAgg88
  z164 := Tryd.sizeOf88
  v164 := Tryd.zeroValue88
def Tryd.laysSt_ren : Go.Shelf.Ren := ⟨fun | 167 => 32 | 169 => 33 | 240 => 48 | 276 => 61 | n => n, fun | 0 => 0 | 3 => 3 | 4 => 4 | 5 => 5 | 9 => 9 | 20 => 20 | 37 => 22 | 70 => 56 | 72 => 58 | 75 => 60 | 80 => 62 | 164 => 88 | 127 => 77 | n => n, fun | n => n⟩
theorem Tryd.laysSt : Lays.n169 Tryd.prog Tryd.laysSt_ren where
  mixed := by kernel_rfl
  f169 := Tryd.func33.trans (congrArg some (by kernel_rfl))
  t0 := Tryd.underlying0
  a0 := Tryd.isAgg0
  z0 := Tryd.sizeOf0
  v0 := Tryd.zeroValue0
  t3 := Tryd.underlying3
  a3 := Tryd.isAgg3
  z3 := Tryd.sizeOf3
  v3 := Tryd.zeroValue3
  t9 := Tryd.underlying9
  a9 := Tryd.isAgg9
  z9 := Tryd.sizeOf9
  v9 := Tryd.zeroValue9
  t37 := Tryd.underlying22
  a37 := Tryd.isAgg22
  z37 := Tryd.sizeOf22
  v37 := Tryd.zeroValue22
  t70 := Tryd.underlying56
  a70 := Tryd.isAgg56
  z70 := Tryd.sizeOf56
  v70 := Tryd.zeroValue56
  t72 := Tryd.underlying58
  a72 := Tryd.isAgg58
  z72 := Tryd.sizeOf58
  v72 := Tryd.zeroValue58
  t127 := Tryd.underlying77
  a127 := Tryd.isAgg77
  z127 := Tryd.sizeOf77
  v127 := Tryd.zeroValue77
theorem Tryd.extraWB : Builder.Extra Tryd.prog Tryd.laysWB_ren where
  sizeBuilder := by kernel_rfl
  liesBuilder := by kernel_rfl
  t5 := Tryd.underlying5
  a5 := Tryd.isAgg5
  z5 := Tryd.sizeOf5
  v5 := Tryd.zeroValue5
  infoByte := by kernel_rfl
  cellsByte := by kernel_rfl
  sizeByte := by kernel_rfl
  neB5 := by decide
theorem Tryd.extraSt : Builder.Extra Tryd.prog Tryd.laysSt_ren where
  sizeBuilder := by kernel_rfl
  liesBuilder := by kernel_rfl
  t5 := Tryd.underlying5
  a5 := Tryd.isAgg5
  z5 := Tryd.sizeOf5
  v5 := Tryd.zeroValue5
  infoByte := by kernel_rfl
  cellsByte := by kernel_rfl
  sizeByte := by kernel_rfl
  neB5 := by decide
theorem Tryd.WriteByte (B b : Nat) (bs : List Value) (c : Int) (w : World) (h : Lib.IsBuilderF 58 5 B b bs w) (hlen : bs.length + 1 ≤ 140737488355328) (hBw : B ≤ w.heap.size) :
    Calls Tryd.prog 32 #[.pointer (some ⟨b, 0, none⟩), .int .u8 c] w fun e w' => e = .returned .nilIface ∧ (Lib.BuilderAtF 58 5 B b (.pointer (some ⟨b, 0, none⟩)) (bs ++ [.int .u8 c]) w' ∧ Below B w w' ∧ Lib.OthersKept 5 (some b) w w') := Any.Builder_WriteByte_k Tryd.laysWB Tryd.extraWB B b bs c w h hlen hBw
theorem Tryd.BString (B b : Nat) (l : List UInt8) (w : World) (h : Lib.IsBuilderF 58 5 B b (Lib.byteCells l) w) (hBw : B ≤ w.heap.size) :
    Calls Tryd.prog 33 #[.pointer (some ⟨b, 0, none⟩)] w fun e w' => e = .returned (.string ⟨l.toArray⟩) ∧ (Lib.IsBuilderF 58 5 B b (Lib.byteCells l) w' ∧ Below B w w' ∧ Lib.OthersKept 5 (some b) w w') := Any.Builder_String_any_k Tryd.laysSt Tryd.extraSt B b l w h hBw
theorem and_one_i64 (x : Int) (h0 : 0 ≤ x) (h1 : x < 9223372036854775808) : bits .and .i64 x 1 = x % 2 := bits_mask .i64 63 (by decide) (fun n h2 h3 => by rw [IntKind.wrap_i64]; omega) 1 (by decide) x h0 h1
def cbyte (code : Int) (k : Nat) : UInt8 := UInt8.ofNat (48 + code.toNat / 2 ^ k % 2)
theorem cbyte_val (code : Int) (m : Nat) (h0 : 0 ≤ code) (h1 : code ≤ 1000000) : ((48 + bits BinOp.and .i64 (code / 2 ^ m) 1) % 256 : Int) = ((cbyte code m).toNat : Int) := by
  obtain ⟨c, rfl⟩ : ∃ c : Nat, code = c := ⟨code.toNat, by omega⟩
  have hd : c / 2 ^ m ≤ c := Nat.div_le_self _ _
  have e : ((c : Int) / 2 ^ m) = ((c / 2 ^ m : Nat) : Int) := by simp
  unfold cbyte
  rw [e, Int.toNat_natCast]
  clear e
  generalize c / 2 ^ m = y at hd ⊢
  rw [and_one_i64 _ (by omega) (by omega), UInt8.toNat_ofNat']
  omega
/-- The last so many bits of a code, the greatest first. -/
def cbits (code : Int) : Nat → List UInt8
  | 0 => []
  | k + 1 => cbyte code k :: cbits code k
def cput (long : Int) (i : Nat) (code size : Int) (out : List ByteArray) : Option (Int × Int × List ByteArray) :=
  if (0 ≤ code ∧ code ≤ 1000000) ∧ size ≤ long then some (code, long, out.set i ⟨(cbits code long.toNat).toArray⟩) else none
def cstep (long n : Int) (i : Nat) (s : Int × Int × List ByteArray) : Option (Int × Int × List ByteArray) :=
  if n = long then (if s.2.1 > 0 then cput long i ((s.1 + 1) * 2 ^ (long - s.2.1).toNat) s.2.1 s.2.2 else cput long i s.1 s.2.1 s.2.2) else some s
def cin (long : Int) : List Int → Nat → Int × Int × List ByteArray → Option (Int × Int × List ByteArray)
  | [], _, s => some s
  | n :: t, i, s => (cstep long n i s).bind fun s' => cin long t (i + 1) s'
def cout (l : List Int) : Nat → Int → Int × Int × List ByteArray → Option (Int × Int × List ByteArray)
  | 0, _, s => some s
  | f + 1, long, s => (cin long l 0 s).bind fun s' => cout l f (long + 1) s'
theorem cbits_length (code : Int) (k : Nat) : (cbits code k).length = k := by
  induction k with
  | zero => rfl
  | succ k ih => simp only [cbits, List.length_cons, ih]
theorem row_kept {w w' : World} {B b n : Nat} {xs : List Value} (h : w.ownsRow B 9 1 (.slice (some ⟨B, 0, none⟩) n n) n xs) (k : Lib.OthersKept 5 (some b) w w') (hb : B ≠ b) : w'.ownsRow B 9 1 (.slice (some ⟨B, 0, none⟩) n n) n xs := by
  refine ⟨h.1, ?_⟩
  rcases h.2 with ⟨h', _⟩ | ⟨g, cap, cur, h', hB, hg, rest⟩
  · simp at h'
  · have hgB : B = g := by simp only [Value.slice.injEq, Option.some.injEq, Addr.mk.injEq] at h'; exact h'.1.1
    refine .inr ⟨g, cap, cur, h', hB, k g _ hg (fun e => hb (by rw [hgB]; exact Option.some.inj e)) (fun c fz e => ?_), rest⟩
    injection e with e1 e2 e3
    exact absurd e2 (by decide)
theorem Tryd.codes_info : (Tryd.prog.info? 9).map (fun i => (i.zero, i.size, i.bytes)) = some (some (.string ⟨#[]⟩), 1, 16) := by kernel_rfl
theorem cell_own {w : World} {B n : Nat} {outs : List ByteArray} (h : w.ownsRow B 9 1 (.slice (some ⟨B, 0, none⟩) n n) n (outs.map Value.string)) (j : Nat) (hj : j < outs.length) : w.cell? ⟨B, j, none⟩ = some (.string (outs.getD j ⟨#[]⟩)) := by
  have := h.cells (g := B) rfl j (.string (outs.getD j ⟨#[]⟩)) (by rw [List.getElem?_map, List.getD_eq_getElem?_getD, List.getElem?_eq_getElem hj]; rfl)
  rw [show (⟨B, 0, none⟩ : Addr).add j = ⟨B, j, none⟩ from by unfold Addr.add; split <;> simp_all] at this
  exact this
set_option maxHeartbeats 8000000 in
set_option maxRecDepth 1000000 in
theorem Tryd.codes_walk (A0 : Option Addr) (c0 b off : Nat) (l : List Int) (fin : Int × Int × List ByteArray) (w : World) (hA : 0 < l.length → A0 = some ⟨b, off, none⟩) (hc : ∀ j, j < l.length → w.cell? ⟨b, off + j, none⟩ = some (.int .i64 (l.getD j 0))) (hcl : l.length ≤ c0) (hl : l.length ≤ 1000)
    (hf : cout l 12 1 (0, 0, List.replicate l.length ⟨#[]⟩) = some fin) :
    Calls Tryd.prog 18 #[.slice A0 l.length c0] w fun e w' => e = .returned (.slice (some ⟨w.heap.size, 0, none⟩) l.length l.length) ∧ w'.ownsRow w.heap.size 9 1 (.slice (some ⟨w.heap.size, 0, none⟩) l.length l.length) l.length (fin.2.2.map Value.string) ∧ Below w.heap.size w w' := by
  obtain ⟨i0, hi, hz0, hz1, hz2⟩ := info_parts Tryd.codes_info
  have hfin : Hid (cout l 12 1 (0, 0, List.replicate l.length ⟨#[]⟩) = some fin) := hf
  clear hf
  go_enter Tryd.func18, Tryd.ntmps18
  go_wp2_with (first | (refine wpList_make_full _ rfl _ _ 29 rfl w.heap.size 9 i0 (.string ⟨#[]⟩) 1 Tryd.underlying29 hi hz0 hz1 .i64 .i64 (l.length : Int) (l.length : Int) l.length rfl rfl rfl rfl (by rw [hz2]; omega) (by unfold maxLen; omega) (Nat.le_refl _) ?_) | go_in)
  intro w1 hown hgrow
  have hown1 : Hid (w1.ownsRow w.heap.size 9 1 (.slice (some ⟨w.heap.size, 0, none⟩) l.length l.length) l.length ((List.replicate l.length (⟨#[]⟩ : ByteArray)).map Value.string)) := by
    rw [List.map_replicate]
    have := hown
    rw [toList_madeCells_one] at this
    exact this
  have hbw1 : Hid (Below w.heap.size w w1) := Below.grown (Below.refl w.heap.size w) hgrow (Nat.le_refl _) (fun k h => by cases h)
  clear hown hgrow
  go_wp2
  go_loopw [4, 5, 6] (fun vc vs vl wr => ∃ (f : Nat) (long code size : Int) (outs : List ByteArray), vc = .int .i64 code ∧ vs = .int .i64 size ∧ vl = .int .i64 long ∧ Hid (cout l f long (code, size, outs) = some fin) ∧ long + f = 13 ∧ 1 ≤ long ∧ 0 ≤ code ∧ code ≤ 1000000 ∧ 0 ≤ size ∧ size ≤ 12 ∧ outs.length = l.length ∧ Hid (wr.ownsRow w.heap.size 9 1 (.slice (some ⟨w.heap.size, 0, none⟩) l.length l.length) l.length (outs.map Value.string)) ∧ Hid (Below w.heap.size w wr)) (fun _ _ vl _ => (13 - intOf vl).toNat)
  case atStart => exact ⟨12, 1, 0, 0, _, rfl, rfl, rfl, hfin, by omega, by omega, by omega, by omega, by omega, by omega, by simp, hown1, hbw1⟩
  case round =>
    obtain ⟨f, long, code, size, outs, rfl, rfl, rfl, hco, hlf, hl1, hc0, hc1, hs0, hs1, hol, hown, hbw⟩ := hrel
    clear hown1 hbw1 hfin
    by_cases hp : long ≤ 12
    · obtain ⟨f, rfl⟩ : ∃ g, f = g + 1 := ⟨f - 1, by omega⟩
      go_wp2
      go_loopw [4, 5, 20] (fun vc vs vi wr => ∃ (i : Nat) (code size : Int) (outs : List ByteArray), vc = .int .i64 code ∧ vs = .int .i64 size ∧ vi = .int .i64 i ∧ i ≤ l.length ∧ Hid ((cin long (l.drop i) i (code, size, outs)).bind (fun s => cout l f (long + 1) s) = some fin) ∧ 0 ≤ code ∧ code ≤ 1000000 ∧ 0 ≤ size ∧ size ≤ 12 ∧ outs.length = l.length ∧ Hid (wr.ownsRow w.heap.size 9 1 (.slice (some ⟨w.heap.size, 0, none⟩) l.length l.length) l.length (outs.map Value.string)) ∧ Hid (Below w.heap.size w wr)) (fun _ _ vi _ => l.length - (intOf vi).toNat)
      case atStart => exact ⟨0, code, size, outs, rfl, rfl, rfl, Nat.zero_le _, hco, hc0, hc1, hs0, hs1, hol, hown, hbw⟩
      case round =>
        clear hco hown hbw hc0 hc1 hs0 hs1 hol
        obtain ⟨i, code, size, outs, rfl, rfl, rfl, hil, hci, hc0, hc1, hs0, hs1, hol, hown, hbw⟩ := hrel
        by_cases hin : i < l.length
        · obtain rfl := hA (by omega)
          have hx := hc i hin
          have hbb : b < w.heap.size := World.block_lt_of_cell? w _ hx
          have hdrop : l.drop i = l.getD i 0 :: l.drop (i + 1) := by rw [List.drop_eq_getElem_cons hin, List.getD_eq_getElem?_getD, List.getElem?_eq_getElem hin]; rfl
          unfold Hid at hci
          rw [hdrop, cin] at hci
          generalize l.getD i 0 = n at hx hci
          have hxr : wr.cell? ⟨b, off + i, none⟩ = some (.int .i64 n) := (Below.cell hbw hbb).trans hx
          by_cases hn : n = long
          · subst hn
            have hlt : w.heap.size < wr.heap.size := (World.ownsRow.lt hown w.heap.size rfl).2
            have hcell := cell_own hown i (by omega)
            by_cases hsz : size > 0
            · rw [cstep, if_pos rfl] at hci
              simp only [hsz, if_true] at hci
              rw [cput] at hci
              by_cases hg : (0 ≤ (code + 1) * 2 ^ (n - size).toNat ∧ (code + 1) * 2 ^ (n - size).toNat ≤ 1000000) ∧ size ≤ n
              · rw [if_pos hg, Option.bind_some] at hci
                have hsl := hg.2
                have hci2 : Hid ((cin n (l.drop (i + 1)) (i + 1) ((code + 1) * 2 ^ (n - size).toNat, n, outs.set i ⟨(cbits ((code + 1) * 2 ^ (n - size).toNat) n.toNat).toArray⟩)).bind (fun s => cout l f (n + 1) s) = some fin) := hci
                have hgb := hg.1
                clear hci hdrop hg
                go_wp2
                generalize (code + 1) * 2 ^ (n - size).toNat = code2 at hci2 hgb ⊢
                have hnew : (wr.alloc (.cells #[.pointer none, .slice none 0 0] 58)).heap[wr.heap.size]? = some (.cells #[.pointer none, .slice none 0 0] 58 (0, 0)) := heap_alloc_new wr _
                have hI0 : Hid (Lib.IsBuilderF 58 5 w.heap.size wr.heap.size (Lib.byteCells []) (wr.alloc (.cells #[.pointer none, .slice none 0 0] 58))) := Or.inl ⟨Nat.le_of_lt hlt, .slice none 0 0, hnew, World.ownsRowF_nil _ _ _ _, by simp [Value.ownBlock]⟩
                have hown0 : Hid ((wr.alloc (.cells #[.pointer none, .slice none 0 0] 58)).ownsRow w.heap.size 9 1 (.slice (some ⟨w.heap.size, 0, none⟩) l.length l.length) l.length (outs.map Value.string)) := World.ownsRow.alloc hown _
                have hbw0 : Hid (Below w.heap.size w (wr.alloc (.cells #[.pointer none, .slice none 0 0] 58))) := Below.alloc hbw (Nat.le_of_lt hlt) _
                clear hnew
                generalize hgd : wr.heap.size = g at hI0 hlt ⊢
                go_loopw [10] (fun vk wr => ∃ (m : Nat) (acc : List UInt8), vk = .int .i64 ((m : Int) - 1) ∧ acc.length + m = n.toNat ∧ Hid (acc ++ cbits code2 m = cbits code2 n.toNat) ∧ Hid (Lib.IsBuilderF 58 5 w.heap.size g (Lib.byteCells acc) wr) ∧ Hid (wr.ownsRow w.heap.size 9 1 (.slice (some ⟨w.heap.size, 0, none⟩) l.length l.length) l.length (outs.map Value.string)) ∧ Hid (Below w.heap.size w wr)) (fun vk _ => (intOf vk + 1).toNat)
                case atStart =>
                  exact ⟨n.toNat, [], by congr 1; omega, by simp, rfl, hI0, hown0, hbw0⟩
                case round =>
                  clear hI0 hown0 hbw0
                  obtain ⟨m, acc, rfl, hml, hac, hI, hown2, hbw2⟩ := hrel
                  have hsz2 : w.heap.size ≤ wr.heap.size := hbw2.size
                  by_cases hm : m = 0
                  · subst hm
                    unfold Hid at hac
                    rw [cbits, List.append_nil] at hac
                    subst hac
                    have hcell2 := cell_own hown2 i (by omega)
                    go_wp2_with (go_at_call 33; refine (Tryd.BString w.heap.size g _ _ hI hsz2).mono ?_)
                    rintro e W1 ⟨rfl, _, b1, k1⟩
                    have hown3 : Hid (W1.ownsRow w.heap.size 9 1 (.slice (some ⟨w.heap.size, 0, none⟩) l.length l.length) l.length (outs.map Value.string)) := row_kept hown2 k1 (by omega)
                    have hcell3 := cell_own hown3 i (by omega)
                    have hfro3 := World.ownsRow.frozenAt hown3 i
                    have hbw3 : Hid (Below w.heap.size w W1) := Below.trans hbw2 b1
                    have hown4 : Hid ((W1.setCell ⟨w.heap.size, i, none⟩ (.string ⟨(cbits code2 n.toNat).toArray⟩)).ownsRow w.heap.size 9 1 (.slice (some ⟨w.heap.size, 0, none⟩) l.length l.length) l.length ((outs.set i ⟨(cbits code2 n.toNat).toArray⟩).map Value.string)) := by
                      rw [List.map_set]
                      exact (World.ownsRow.stored hown3 i _).1
                    clear hown2 hbw2
                    go_wp2
                    go_roundw
                    case rel => exact ⟨i + 1, code2, n, outs.set i ⟨(cbits code2 n.toNat).toArray⟩, rfl, rfl, rfl, by omega, hci2, hgb.1, hgb.2, by omega, by omega, by rw [List.length_set]; exact hol, hown4, Below.setCell hbw3 (Nat.le_refl _) _⟩
                    case measure => simp [intOf]; omega
                  · obtain ⟨m, rfl⟩ : ∃ g, m = g + 1 := ⟨m - 1, by omega⟩
                    go_wp2_with (go_at_call 32; refine (Tryd.WriteByte w.heap.size g _ _ _ hI (by rw [Lib.byteCells_length]; omega) hsz2).mono ?_)
                    rintro e W1 ⟨rfl, h1, b1, k1⟩
                    rw [cbyte_val _ _ hgb.1 hgb.2] at h1
                    have hI2 : Hid (Lib.IsBuilderF 58 5 w.heap.size g (Lib.byteCells (acc ++ [cbyte code2 m])) W1) := by
                      rw [Lib.byteCells_append]
                      exact Or.inr h1
                    have hown3 : Hid (W1.ownsRow w.heap.size 9 1 (.slice (some ⟨w.heap.size, 0, none⟩) l.length l.length) l.length (outs.map Value.string)) := row_kept hown2 k1 (by omega)
                    have hbw3 : Hid (Below w.heap.size w W1) := Below.trans hbw2 b1
                    have hac2 : Hid ((acc ++ [cbyte code2 m]) ++ cbits code2 m = cbits code2 n.toNat) := by
                      unfold Hid at hac ⊢
                      rw [cbits] at hac
                      rw [List.append_assoc]
                      exact hac
                    clear hac h1
                    go_wp2
                    go_roundw
                    case rel => exact ⟨m, acc ++ [cbyte code2 m], by first | rfl | (congr 1; omega), by simp; omega, hac2, hI2, hown3, hbw3⟩
                    case measure => simp [intOf]
              · rw [if_neg hg] at hci; cases hci
            · rw [cstep, if_pos rfl] at hci
              simp only [hsz, if_false] at hci
              rw [cput] at hci
              by_cases hg : (0 ≤ code ∧ code ≤ 1000000) ∧ size ≤ n
              · rw [if_pos hg, Option.bind_some] at hci
                have hsl := hg.2
                have hci2 : Hid ((cin n (l.drop (i + 1)) (i + 1) (code, n, outs.set i ⟨(cbits (code) n.toNat).toArray⟩)).bind (fun s => cout l f (n + 1) s) = some fin) := hci
                have hgb := hg.1
                clear hci hdrop hg
                go_wp2
                generalize code = code2 at hci2 hgb ⊢
                have hnew : (wr.alloc (.cells #[.pointer none, .slice none 0 0] 58)).heap[wr.heap.size]? = some (.cells #[.pointer none, .slice none 0 0] 58 (0, 0)) := heap_alloc_new wr _
                have hI0 : Hid (Lib.IsBuilderF 58 5 w.heap.size wr.heap.size (Lib.byteCells []) (wr.alloc (.cells #[.pointer none, .slice none 0 0] 58))) := Or.inl ⟨Nat.le_of_lt hlt, .slice none 0 0, hnew, World.ownsRowF_nil _ _ _ _, by simp [Value.ownBlock]⟩
                have hown0 : Hid ((wr.alloc (.cells #[.pointer none, .slice none 0 0] 58)).ownsRow w.heap.size 9 1 (.slice (some ⟨w.heap.size, 0, none⟩) l.length l.length) l.length (outs.map Value.string)) := World.ownsRow.alloc hown _
                have hbw0 : Hid (Below w.heap.size w (wr.alloc (.cells #[.pointer none, .slice none 0 0] 58))) := Below.alloc hbw (Nat.le_of_lt hlt) _
                clear hnew
                generalize hgd : wr.heap.size = g at hI0 hlt ⊢
                go_loopw [10] (fun vk wr => ∃ (m : Nat) (acc : List UInt8), vk = .int .i64 ((m : Int) - 1) ∧ acc.length + m = n.toNat ∧ Hid (acc ++ cbits code2 m = cbits code2 n.toNat) ∧ Hid (Lib.IsBuilderF 58 5 w.heap.size g (Lib.byteCells acc) wr) ∧ Hid (wr.ownsRow w.heap.size 9 1 (.slice (some ⟨w.heap.size, 0, none⟩) l.length l.length) l.length (outs.map Value.string)) ∧ Hid (Below w.heap.size w wr)) (fun vk _ => (intOf vk + 1).toNat)
                case atStart =>
                  exact ⟨n.toNat, [], by congr 1; omega, by simp, rfl, hI0, hown0, hbw0⟩
                case round =>
                  clear hI0 hown0 hbw0
                  obtain ⟨m, acc, rfl, hml, hac, hI, hown2, hbw2⟩ := hrel
                  have hsz2 : w.heap.size ≤ wr.heap.size := hbw2.size
                  by_cases hm : m = 0
                  · subst hm
                    unfold Hid at hac
                    rw [cbits, List.append_nil] at hac
                    subst hac
                    have hcell2 := cell_own hown2 i (by omega)
                    go_wp2_with (go_at_call 33; refine (Tryd.BString w.heap.size g _ _ hI hsz2).mono ?_)
                    rintro e W1 ⟨rfl, _, b1, k1⟩
                    have hown3 : Hid (W1.ownsRow w.heap.size 9 1 (.slice (some ⟨w.heap.size, 0, none⟩) l.length l.length) l.length (outs.map Value.string)) := row_kept hown2 k1 (by omega)
                    have hcell3 := cell_own hown3 i (by omega)
                    have hfro3 := World.ownsRow.frozenAt hown3 i
                    have hbw3 : Hid (Below w.heap.size w W1) := Below.trans hbw2 b1
                    have hown4 : Hid ((W1.setCell ⟨w.heap.size, i, none⟩ (.string ⟨(cbits code2 n.toNat).toArray⟩)).ownsRow w.heap.size 9 1 (.slice (some ⟨w.heap.size, 0, none⟩) l.length l.length) l.length ((outs.set i ⟨(cbits code2 n.toNat).toArray⟩).map Value.string)) := by
                      rw [List.map_set]
                      exact (World.ownsRow.stored hown3 i _).1
                    clear hown2 hbw2
                    go_wp2
                    go_roundw
                    case rel => exact ⟨i + 1, code2, n, outs.set i ⟨(cbits code2 n.toNat).toArray⟩, rfl, rfl, rfl, by omega, hci2, hgb.1, hgb.2, by omega, by omega, by rw [List.length_set]; exact hol, hown4, Below.setCell hbw3 (Nat.le_refl _) _⟩
                    case measure => simp [intOf]; omega
                  · obtain ⟨m, rfl⟩ : ∃ g, m = g + 1 := ⟨m - 1, by omega⟩
                    go_wp2_with (go_at_call 32; refine (Tryd.WriteByte w.heap.size g _ _ _ hI (by rw [Lib.byteCells_length]; omega) hsz2).mono ?_)
                    rintro e W1 ⟨rfl, h1, b1, k1⟩
                    rw [cbyte_val _ _ hgb.1 hgb.2] at h1
                    have hI2 : Hid (Lib.IsBuilderF 58 5 w.heap.size g (Lib.byteCells (acc ++ [cbyte code2 m])) W1) := by
                      rw [Lib.byteCells_append]
                      exact Or.inr h1
                    have hown3 : Hid (W1.ownsRow w.heap.size 9 1 (.slice (some ⟨w.heap.size, 0, none⟩) l.length l.length) l.length (outs.map Value.string)) := row_kept hown2 k1 (by omega)
                    have hbw3 : Hid (Below w.heap.size w W1) := Below.trans hbw2 b1
                    have hac2 : Hid ((acc ++ [cbyte code2 m]) ++ cbits code2 m = cbits code2 n.toNat) := by
                      unfold Hid at hac ⊢
                      rw [cbits] at hac
                      rw [List.append_assoc]
                      exact hac
                    clear hac h1
                    go_wp2
                    go_roundw
                    case rel => exact ⟨m, acc ++ [cbyte code2 m], by first | rfl | (congr 1; omega), by simp; omega, hac2, hI2, hown3, hbw3⟩
                    case measure => simp [intOf]
              · rw [if_neg hg] at hci; cases hci
          · rw [cstep, if_neg hn, Option.bind_some] at hci
            have hci2 : Hid ((cin long (l.drop (i + 1)) (i + 1) (code, size, outs)).bind (fun s => cout l f (long + 1) s) = some fin) := hci
            clear hci hdrop
            go_wp2
            go_roundw
            case rel => exact ⟨i + 1, code, size, outs, rfl, rfl, rfl, by omega, hci2, hc0, hc1, hs0, hs1, hol, hown, hbw⟩
            case measure => simp [intOf]; omega
        · obtain rfl : i = l.length := by omega
          unfold Hid at hci
          rw [List.drop_length, cin, Option.bind_some] at hci
          have hci2 : Hid (cout l f (long + 1) (code, size, outs) = some fin) := hci
          clear hci
          go_wp2
          go_roundw
          case rel => exact ⟨f, long + 1, code, size, outs, rfl, rfl, rfl, hci2, by omega, by omega, hc0, hc1, hs0, hs1, hol, hown, hbw⟩
          case measure => simp [intOf]; omega
    · obtain rfl : f = 0 := by omega
      unfold Hid at hco
      rw [cout] at hco
      obtain rfl := Option.some.inj hco
      go_wp2
      go_ret
      exact ⟨rfl, hown, hbw⟩
def impl_codes.f (l0 : List Int) : Option (List ByteArray) := if l0.length ≤ 1000 then (cout l0 12 1 (0, 0, List.replicate l0.length ⟨#[]⟩)).map (fun s => s.2.2) else none
theorem impl_codes.calls (A0 : Option Addr) (c0 : Nat) (l0 : List Int) (r : List ByteArray) (w : World) (hr0 : Kd.C (Kd.int .i64) w A0 l0.length l0) (hc0 : l0.length ≤ c0) (h : impl_codes.f l0 = some r) :
    Calls Tryd.prog 18 #[.slice A0 l0.length c0] w fun e w' => ∃ v0_ : Value, e = .returned (v0_) ∧ Kd.R Kd.string 9 w' w.heap.size (fun _ => True) v0_ r ∧ Below w.heap.size w w' := by
  unfold impl_codes.f at h
  split at h
  · rename_i hn
    obtain ⟨fin, hf, rfl⟩ := Option.map_eq_some_iff.1 h
    have hR : ReadsOf (Value.int .i64) 0 w A0 l0.length l0 := Kd.reads_of_C hr0
    obtain ⟨b, off, hA, hc⟩ : ∃ b off : Nat, (0 < l0.length → A0 = some ⟨b, off, none⟩) ∧ ∀ j, j < l0.length → w.cell? ⟨b, off + j, none⟩ = some (.int .i64 (l0.getD j 0)) := by
      rcases Nat.eq_zero_or_pos l0.length with h0 | h0
      · exact ⟨0, 0, fun h => by omega, fun j hj => by omega⟩
      · obtain ⟨⟨b, off, sp⟩, e, hc⟩ := hR.2.2 h0
        have hsp : sp = none := by
          have h1 := hc 0 h0
          cases sp with
          | none => rfl
          | some x => simp [Addr.add, World.cell?] at h1; split at h1 <;> simp at h1
        subst hsp
        exact ⟨b, off, fun _ => e, fun j hj => (Addr.add_lit b off j) ▸ hc j hj⟩
    exact (Tryd.codes_walk A0 c0 b off l0 fin w hA hc hc0 hn hf).mono fun e w' ⟨he, ho, hb⟩ => ⟨_, he, Kd.R_of_own (enc := Value.string) (h1 := fun _ => rfl) (by
      have hlen : l0.length = fin.2.2.length := by have := ho.1; rw [List.length_map] at this; omega
      rw [← hlen]; exact ho) (fun _ _ => trivial), hb⟩
  · simp at h

/-! ### impl_EncodeBy: function 6 -/
mutual
def impl_EncodeBy.j0 : Nat → List Int → List Int → Bool → Option (ByteArray × Bool)
  | 0, _, _, _ => none
  | k + 1, x0, x1, x17 => if x17 = true then (some ((⟨#[]⟩ : ByteArray), false)) else ((impl_codes.f x0).bind fun t252 => (impl_EncodeBy.l0 k t252 (⟨#[]⟩ : ByteArray) x1 (x1.length : Int) 0))
def impl_EncodeBy.l0 : Nat → List ByteArray → ByteArray → List Int → Int → Int → Option (ByteArray × Bool)
  | 0, _, _, _, _, _ => none
  | k + 1, x6, x7, x20, x21, x22 => if x22 < x21 then (if 0 ≤ x22 then (if x22 < (x20.length : Int) then (if (rd x20 x22) < 0 then (some ((⟨#[]⟩ : ByteArray), false)) else (if (rd x20 x22) ≥ (x6.length : Int) then (some ((⟨#[]⟩ : ByteArray), false)) else (if 0 ≤ (rd x20 x22) then (if (rd x20 x22) < (x6.length : Int) then (if (rdOf ByteArray.empty x6 (rd x20 x22)).toList = ([] : List UInt8) then (some ((⟨#[]⟩ : ByteArray), false)) else (if x7.size + (rdOf ByteArray.empty x6 (rd x20 x22)).size ≤ 9223372036854775807 then (impl_EncodeBy.l0 k x6 (x7 ++ (rdOf ByteArray.empty x6 (rd x20 x22))) x20 x21 (wrap64 (x22 + 1))) else (none))) else (none)) else (none)))) else (none)) else (none)) else (some (x7, true))
end
def impl_EncodeBy.f (k : Nat) (l0 : List Int) (l1 : List Int) : Option (ByteArray × Bool) := (impl_GoodLengths.f k l0).bind fun t251 => (if t251 = true then (impl_EncodeBy.j0 k l0 l1 (decide ((l1.length : Int) > 200))) else (impl_EncodeBy.j0 k l0 l1 true))
theorem impl_EncodeBy.mono_l : ∀ k, (∀ y0 y1 y2, LeO (impl_EncodeBy.j0 k y0 y1 y2) (impl_EncodeBy.j0 (k + 1) y0 y1 y2)) ∧ (∀ y0 y1 y2 y3 y4, LeO (impl_EncodeBy.l0 k y0 y1 y2 y3 y4) (impl_EncodeBy.l0 (k + 1) y0 y1 y2 y3 y4))
  | 0 => ⟨fun _ _ _ r h => by simp [impl_EncodeBy.j0] at h, fun _ _ _ _ _ r h => by simp [impl_EncodeBy.l0] at h⟩
  | k + 1 => by
    obtain ⟨ih0, ih1⟩ := impl_EncodeBy.mono_l k
    refine ⟨?_, ?_⟩
    · intro y0 y1 y2
      unfold impl_EncodeBy.j0
      repeat' first
      | (with_reducible exact ih0 _ _ _)
      | (with_reducible exact ih1 _ _ _ _ _)
      | (with_reducible exact impl_GoodLengths.mono _ _)
      | (with_reducible exact LeO.refl _)
      | (with_reducible exact LeO.none _)
      | (with_reducible refine LeO.ite ?_ ?_)
      | (with_reducible refine LeO.bind ?_ (fun _ => ?_))
      | exact ih0 _ _ _
      | exact ih1 _ _ _ _ _
      | exact impl_GoodLengths.mono _ _
      | exact LeO.none _
      | refine LeO.ite ?_ ?_
      | refine LeO.bind ?_ (fun _ => ?_)
    · intro y0 y1 y2 y3 y4
      unfold impl_EncodeBy.l0
      repeat' first
      | (with_reducible exact ih0 _ _ _)
      | (with_reducible exact ih1 _ _ _ _ _)
      | (with_reducible exact impl_GoodLengths.mono _ _)
      | (with_reducible exact LeO.refl _)
      | (with_reducible exact LeO.none _)
      | (with_reducible refine LeO.ite ?_ ?_)
      | (with_reducible refine LeO.bind ?_ (fun _ => ?_))
      | exact ih0 _ _ _
      | exact ih1 _ _ _ _ _
      | exact impl_GoodLengths.mono _ _
      | exact LeO.none _
      | refine LeO.ite ?_ ?_
      | refine LeO.bind ?_ (fun _ => ?_)
theorem impl_EncodeBy.mono : ∀ a0 a1 k, LeO (impl_EncodeBy.f k a0 a1) (impl_EncodeBy.f (k + 1) a0 a1) := by
  intro a0 a1 k
  obtain ⟨ih0, ih1⟩ := impl_EncodeBy.mono_l k
  unfold impl_EncodeBy.f
  repeat' first
      | (with_reducible exact ih0 _ _ _)
      | (with_reducible exact ih1 _ _ _ _ _)
      | (with_reducible exact impl_GoodLengths.mono _ _)
      | (with_reducible exact LeO.refl _)
      | (with_reducible exact LeO.none _)
      | (with_reducible refine LeO.ite ?_ ?_)
      | (with_reducible refine LeO.bind ?_ (fun _ => ?_))
      | exact ih0 _ _ _
      | exact ih1 _ _ _ _ _
      | exact impl_GoodLengths.mono _ _
      | exact LeO.none _
      | refine LeO.ite ?_ ?_
      | refine LeO.bind ?_ (fun _ => ?_)
set_option maxHeartbeats 8000000 in
set_option maxRecDepth 100000 in
theorem impl_EncodeBy.calls (k : Nat) (A0 : Option Addr) (c0 : Nat) (l0 : List Int) (A1 : Option Addr) (c1 : Nat) (l1 : List Int) (r1 : ByteArray) (r2 : Bool) (w : World) (hr0 : Kd.C (Kd.int .i64) w A0 l0.length l0) (hc0 : l0.length ≤ c0) (hr1 : Kd.C (Kd.int .i64) w A1 l1.length l1) (hc1 : l1.length ≤ c1) (h : impl_EncodeBy.f k l0 l1 = some (r1, r2)) :
    Calls Tryd.prog 6 #[.slice A0 l0.length c0, .slice A1 l1.length c1] w fun e w' => e = .returned (.tuple #[.string r1, .bool r2]) ∧ Below w.heap.size w w' := by
  have HR0 := Aside0.mk hr0
  have HC0 := Aside0.mk hc0
  clear hr0 hc0
  have HR1 := Aside0.mk hr1
  have HC1 := Aside0.mk hc1
  clear hr1 hc1
  have HB := Aside0.mk (Below.refl w.heap.size w)
  have H : ((impl_GoodLengths.f k l0).bind fun t251 => (if t251 = true then (impl_EncodeBy.j0 k l0 l1 (decide ((l1.length : Int) > 200))) else (impl_EncodeBy.j0 k l0 l1 true))) = some (r1, r2) := h
  clear h
  have HC3 := Aside0.mk H
  clear H
  go_enter Tryd.func6, Tryd.ntmps6
  go_upto_region 1 with (fail)
  go_cut [17] (fun v17 wc => ∃ (kq : Nat) (x17_2 : Bool), v17 = .bool x17_2 ∧ Aside0 (impl_EncodeBy.j0 kq l0 l1 x17_2 = some (r1, r2)) ∧ Aside0 (kq ≤ k) ∧ Aside0 (Below w.heap.size w wc))
  case first =>
    have H := HC3.out
    clear HC3
    replace H := Option.bind_eq_some_iff.mp H
    obtain ⟨t251, A40, H⟩ := H
    replace H : (if t251 = true then (impl_EncodeBy.j0 k l0 l1 (decide ((l1.length : Int) > 200))) else (impl_EncodeBy.j0 k l0 l1 true)) = some (r1, r2) := H
    have A4 := Aside0.mk A40
    clear A40
    by_cases c5 : t251 = true
    · subst c5
      have H1 : (impl_EncodeBy.j0 k l0 l1 (decide ((l1.length : Int) > 200))) = some (r1, r2) := by rw [if_pos rfl] at H; exact H
      clear H
      have H := H1
      clear H1
      have H' := Aside0.mk H
      clear H
      go_wp2_with (first | ((with_reducible refine gate_callee (f := 17) rfl ?_); refine goesL_ (some 11) rfl rfl Tryd.func17 (by kernel_rfl) rfl #[.slice A0 l0.length c0] rfl (by (try simp only [List.map_toArray, List.map_cons, List.map_nil]); first | done | rfl | (simp only [List.length_drop, List.length_take]; rfl)) ?_; (with_reducible refine (impl_GoodLengths.calls k _ _ l0 true _ ?side1 ?side2 A4.out).mono ?_); (case side1 => repeat (first | exact (Kd.C_below HR0.out HB.out) | (with_reducible refine Kd.C_alloc ?_ _) | (with_reducible refine Kd.C_drewN ?_ _) | (with_reducible refine Kd.C_drew ?_))); (case side2 => exact HC0.out); rintro e w6 ⟨rfl, hb⟩; refine ⟨_, rfl, ?_⟩; have n0_ := Aside0.mk (below_step (by repeat (first | (with_reducible first | exact HB.out | apply below_alloc | apply pw_below_drewN | apply below_drew1) | exact HB.out)) hb); clear HB; have HB := n0_; clear n0_; (try clear hb); (try clear hb2); (try clear hk); (try clear hi)))
      go_meet
      case rel => exact ⟨_, (decide ((l1.length : Int) > 200)), (by first | rfl | (simp; done) | (simp [*]; done)), H', ⟨by first | omega | exact Nat.le_refl _⟩, ⟨by repeat (first | (with_reducible first | exact HB.out | apply below_alloc | apply pw_below_drewN | apply below_drew1) | exact HB.out)⟩⟩
    · replace c5 := Bool.eq_false_iff.mpr c5
      subst c5
      have H1 : (impl_EncodeBy.j0 k l0 l1 true) = some (r1, r2) := by rw [if_neg (show ¬ (false = true) by decide)] at H; exact H
      clear H
      have H := H1
      clear H1
      have H' := Aside0.mk H
      clear H
      go_wp2_with (first | ((with_reducible refine gate_callee (f := 17) rfl ?_); refine goesL_ (some 11) rfl rfl Tryd.func17 (by kernel_rfl) rfl #[.slice A0 l0.length c0] rfl (by (try simp only [List.map_toArray, List.map_cons, List.map_nil]); first | done | rfl | (simp only [List.length_drop, List.length_take]; rfl)) ?_; (with_reducible refine (impl_GoodLengths.calls k _ _ l0 false _ ?side1 ?side2 A4.out).mono ?_); (case side1 => repeat (first | exact (Kd.C_below HR0.out HB.out) | (with_reducible refine Kd.C_alloc ?_ _) | (with_reducible refine Kd.C_drewN ?_ _) | (with_reducible refine Kd.C_drew ?_))); (case side2 => exact HC0.out); rintro e w7 ⟨rfl, hb⟩; refine ⟨_, rfl, ?_⟩; have n0_ := Aside0.mk (below_step (by repeat (first | (with_reducible first | exact HB.out | apply below_alloc | apply pw_below_drewN | apply below_drew1) | exact HB.out)) hb); clear HB; have HB := n0_; clear n0_; (try clear hb); (try clear hb2); (try clear hk); (try clear hi)))
      go_meet
      case rel => exact ⟨_, (true), (by first | rfl | (simp; done) | (simp [*]; done)), H', ⟨by first | omega | exact Nat.le_refl _⟩, ⟨by repeat (first | (with_reducible first | exact HB.out | apply below_alloc | apply pw_below_drewN | apply below_drew1) | exact HB.out)⟩⟩
  case rest =>
    clear HC3
    try clear c1
    try clear p2
    try clear c5
    try clear c6
    obtain ⟨kq, x17_2, rfl, HA, HJ2, HB⟩ := hcut
    cases kq with
    | zero => exact absurd HA.out (by simp [impl_EncodeBy.j0])
    | succ kj2 =>
      have H := HA.out
      clear HA
      simp only [impl_EncodeBy.j0] at H
      by_cases c8 : x17_2 = true
      · subst c8
        have H1 : (some ((⟨#[]⟩ : ByteArray), false)) = some (r1, r2) := by rw [if_pos rfl] at H; exact H
        clear H
        have H := H1
        clear H1
        simp only [Option.some.injEq, Prod.mk.injEq] at H
        obtain ⟨rfl, rfl⟩ := H
        go_wp2
        go_ret2
        exact ⟨by first | rfl | (simp [errW_none, errW_some] <;> rfl) | (simp [*, errW_none, errW_some] <;> rfl), by repeat (first | (with_reducible first | exact HB.out | apply below_alloc | apply pw_below_drewN | apply below_drew1) | exact HB.out)⟩
      · replace c8 := Bool.eq_false_iff.mpr c8
        subst c8
        have H1 : ((impl_codes.f l0).bind fun t252 => (impl_EncodeBy.l0 kj2 t252 (⟨#[]⟩ : ByteArray) l1 (l1.length : Int) 0)) = some (r1, r2) := by rw [if_neg (show ¬ (false = true) by decide)] at H; exact H
        clear H
        have H := H1
        clear H1
        replace H := Option.bind_eq_some_iff.mp H
        obtain ⟨t252, A90, H⟩ := H
        replace H : (impl_EncodeBy.l0 kj2 t252 (⟨#[]⟩ : ByteArray) l1 (l1.length : Int) 0) = some (r1, r2) := H
        have A9 := Aside0.mk A90
        clear A90
        have H' := Aside0.mk H
        clear H
        go_wp2_with (first | ((with_reducible refine gate_callee (f := 18) rfl ?_); refine goesL_ (some 19) rfl rfl Tryd.func18 (by kernel_rfl) rfl #[.slice A0 l0.length c0] rfl (by (try simp only [List.map_toArray, List.map_cons, List.map_nil]); first | done | rfl | (simp only [List.length_drop, List.length_take]; rfl)) ?_; (with_reducible refine (impl_codes.calls _ _ l0 t252 _ ?side1 ?side2 A9.out).mono ?_); (case side1 => repeat (first | exact (Kd.C_below HR0.out HB.out) | (with_reducible refine Kd.C_alloc ?_ _) | (with_reducible refine Kd.C_drewN ?_ _) | (with_reducible refine Kd.C_drew ?_))); (case side2 => exact HC0.out); rintro e w10 ⟨v253, rfl, ho0, hb⟩; refine ⟨_, rfl, ?_⟩; have n0_ := Aside0.mk (Kd.R_lower ho0 (below_size (by repeat (first | (with_reducible first | exact HB.out | apply below_alloc | apply pw_below_drewN | apply below_drew1) | exact HB.out)))); have n1_ := Aside0.mk (below_step (by repeat (first | (with_reducible first | exact HB.out | apply below_alloc | apply pw_below_drewN | apply below_drew1) | exact HB.out)) hb); clear HB; have HO254 := n0_; have HB := n1_; clear n0_ n1_; (try clear hb); (try clear hb2); (try clear hk); (try clear hi); (try clear ho0)))
        go_loopg [7, 22] kj2 (fun kq v7 v22 w' => ∃ (x7_2 : ByteArray) (x22_2 : Int), v7 = .string x7_2 ∧ v22 = .int .i64 x22_2 ∧ Aside0 (impl_EncodeBy.l0 kq t252 x7_2 l1 (l1.length : Int) x22_2 = some (r1, r2)) ∧ Aside0 (kq ≤ kj2) ∧ Aside0 (Kd.R Kd.string 9 w' w.heap.size (fun _ => True) v253 t252) ∧ Aside0 (Below w.heap.size w w'))
        case atStart => exact ⟨((⟨#[]⟩ : ByteArray)), (0), (by first | rfl | (simp; done) | (simp [*]; done)), (by first | rfl | (simp; done) | (simp [*]; done)), H', ⟨Nat.le_refl _⟩, ⟨by (with_reducible repeat (first | apply Kd.R_alloc | apply Kd.R_drewN | apply Kd.R_drew)); exact HO254.out⟩, ⟨by repeat (first | (with_reducible first | exact HB.out | apply below_alloc | apply pw_below_drewN | apply below_drew1) | exact HB.out)⟩⟩
        case round =>
          clear H'
          try clear c1
          try clear p2
          try clear c5
          try clear c6
          try clear c8
          try clear p2
          obtain ⟨x7_2, x22_2, rfl, rfl, HA, HK2, HO_6, HB⟩ := hrel
          cases gk with
          | zero => exact absurd HA.out (by simp [impl_EncodeBy.l0])
          | succ k2 =>
            have H := HA.out
            clear HA
            simp only [impl_EncodeBy.l0] at H
            by_cases c11 : x22_2 < (l1.length : Int)
            · rw [if_pos c11] at H
              have c11b0 : decide (x22_2 < (l1.length : Int)) = true := decide_eq_true c11
              clear c11
              by_cases c12 : 0 ≤ x22_2
              · rw [if_pos c12] at H
                have c12b0 : decide (0 ≤ x22_2) = true := decide_eq_true c12
                clear c12
                by_cases c13 : x22_2 < (l1.length : Int)
                · rw [if_pos c13] at H
                  have c13b0 : decide (x22_2 < (l1.length : Int)) = true := decide_eq_true c13
                  clear c13
                  by_cases c14 : (rd l1 x22_2) < 0
                  · rw [if_pos c14] at H
                    have c14b0 : decide ((rd l1 x22_2) < 0) = true := decide_eq_true c14
                    clear c14
                    simp only [Option.some.injEq, Prod.mk.injEq] at H
                    obtain ⟨rfl, rfl⟩ := H
                    have p255 : 0 ≤ (x22_2 : Int) := of_decide_eq_true (by first | (with_reducible assumption) | assumption)
                    have q255 : x22_2 < (l1.length : Int) := of_decide_eq_true (by first | (with_reducible assumption) | assumption)
                    obtain ⟨ad255, e255, hx255_0⟩ := Kd.at_int HR1.out x22_2 p255 q255
                    cases e255
                    replace hx255_0 := (HB.out.cell (World.block_lt_of_cell? w _ hx255_0)).trans hx255_0
                    replace p255 := eq_true p255
                    replace q255 := eq_true q255
                    go_wp2
                    go_ret2
                    exact ⟨by first | rfl | (simp [errW_none, errW_some] <;> rfl) | (simp [*, errW_none, errW_some] <;> rfl), by repeat (first | (with_reducible first | exact HB.out | apply below_alloc | apply pw_below_drewN | apply below_drew1) | exact HB.out)⟩
                  · rw [if_neg c14] at H
                    have c14b0 : decide ((rd l1 x22_2) < 0) = false := decide_eq_false c14
                    clear c14
                    by_cases c15 : (rd l1 x22_2) ≥ (t252.length : Int)
                    · rw [if_pos c15] at H
                      have c15b0 : decide ((t252.length : Int) ≤ (rd l1 x22_2)) = true := decide_eq_true c15
                      clear c15
                      simp only [Option.some.injEq, Prod.mk.injEq] at H
                      obtain ⟨rfl, rfl⟩ := H
                      have p255 : 0 ≤ (x22_2 : Int) := of_decide_eq_true (by first | (with_reducible assumption) | assumption)
                      have q255 : x22_2 < (l1.length : Int) := of_decide_eq_true (by first | (with_reducible assumption) | assumption)
                      obtain ⟨ad255, e255, hx255_0⟩ := Kd.at_int HR1.out x22_2 p255 q255
                      cases e255
                      replace hx255_0 := (HB.out.cell (World.block_lt_of_cell? w _ hx255_0)).trans hx255_0
                      replace p255 := eq_true p255
                      replace q255 := eq_true q255
                      obtain ⟨Ao16, co16, eo16⟩ := Kd.R_slice HO_6.out
                      subst eo16
                      go_wp2
                      go_ret2
                      exact ⟨by first | rfl | (simp [errW_none, errW_some] <;> rfl) | (simp [*, errW_none, errW_some] <;> rfl), by repeat (first | (with_reducible first | exact HB.out | apply below_alloc | apply pw_below_drewN | apply below_drew1) | exact HB.out)⟩
                    · rw [if_neg c15] at H
                      have c15b0 : decide ((t252.length : Int) ≤ (rd l1 x22_2)) = false := decide_eq_false c15
                      clear c15
                      by_cases c17 : 0 ≤ (rd l1 x22_2)
                      · rw [if_pos c17] at H
                        have c17b0 : decide (0 ≤ (rd l1 x22_2)) = true := decide_eq_true c17
                        clear c17
                        by_cases c18 : (rd l1 x22_2) < (t252.length : Int)
                        · rw [if_pos c18] at H
                          have c18b0 : decide ((rd l1 x22_2) < (t252.length : Int)) = true := decide_eq_true c18
                          clear c18
                          by_cases c19 : (rdOf ByteArray.empty t252 (rd l1 x22_2)).toList = ([] : List UInt8)
                          · rw [if_pos c19] at H
                            have c19b0 : ((rdOf ByteArray.empty t252 (rd l1 x22_2)).toList == ([] : List UInt8)) = true := beq_iff_eq.mpr c19
                            have c19b1 : ((rdOf ByteArray.empty t252 (rd l1 x22_2)).toList != ([] : List UInt8)) = false := bne_eq_false_iff_eq.mpr c19
                            clear c19
                            simp only [Option.some.injEq, Prod.mk.injEq] at H
                            obtain ⟨rfl, rfl⟩ := H
                            have p255 : 0 ≤ (x22_2 : Int) := of_decide_eq_true (by first | (with_reducible assumption) | assumption)
                            have q255 : x22_2 < (l1.length : Int) := of_decide_eq_true (by first | (with_reducible assumption) | assumption)
                            obtain ⟨ad255, e255, hx255_0⟩ := Kd.at_int HR1.out x22_2 p255 q255
                            cases e255
                            replace hx255_0 := (HB.out.cell (World.block_lt_of_cell? w _ hx255_0)).trans hx255_0
                            replace p255 := eq_true p255
                            replace q255 := eq_true q255
                            obtain ⟨Ao20, co20, eo20⟩ := Kd.R_slice HO_6.out
                            subst eo20
                            have p256 : 0 ≤ ((rd l1 x22_2) : Int) := of_decide_eq_true (by first | (with_reducible assumption) | assumption)
                            have q256 : (rd l1 x22_2) < (t252.length : Int) := of_decide_eq_true (by first | (with_reducible assumption) | assumption)
                            obtain ⟨ad256, e256, hx256_0⟩ := Kd.at_string (Kd.R_reads' HO_6.out).2.2 (rd l1 x22_2) p256 q256
                            cases e256
                            replace p256 := eq_true p256
                            replace q256 := eq_true q256
                            go_wp2
                            go_ret2
                            exact ⟨by first | rfl | (simp [errW_none, errW_some] <;> rfl) | (simp [*, errW_none, errW_some] <;> rfl), by repeat (first | (with_reducible first | exact HB.out | apply below_alloc | apply pw_below_drewN | apply below_drew1) | exact HB.out)⟩
                          · rw [if_neg c19] at H
                            have c19b0 : ((rdOf ByteArray.empty t252 (rd l1 x22_2)).toList == ([] : List UInt8)) = false := beq_eq_false_iff_ne.mpr c19
                            have c19b1 : ((rdOf ByteArray.empty t252 (rd l1 x22_2)).toList != ([] : List UInt8)) = true := bne_iff_ne.mpr c19
                            by_cases c21 : x7_2.size + (rdOf ByteArray.empty t252 (rd l1 x22_2)).size ≤ 9223372036854775807
                            · rw [if_pos c21] at H
                              have c21b0 := eq_true c21
                              have c21b1 : decide (x7_2.size + (rdOf ByteArray.empty t252 (rd l1 x22_2)).size ≤ 9223372036854775807) = true := decide_eq_true c21
                              try have c21b2 : (9223372036854775807 < x7_2.size + (rdOf ByteArray.empty t252 (rd l1 x22_2)).size) = False := eq_false (Nat.not_lt.2 c21)
                              have H' := Aside0.mk H
                              clear H
                              have p255 : 0 ≤ (x22_2 : Int) := of_decide_eq_true (by first | (with_reducible assumption) | assumption)
                              have q255 : x22_2 < (l1.length : Int) := of_decide_eq_true (by first | (with_reducible assumption) | assumption)
                              obtain ⟨ad255, e255, hx255_0⟩ := Kd.at_int HR1.out x22_2 p255 q255
                              cases e255
                              replace hx255_0 := (HB.out.cell (World.block_lt_of_cell? w _ hx255_0)).trans hx255_0
                              replace p255 := eq_true p255
                              replace q255 := eq_true q255
                              obtain ⟨Ao22, co22, eo22⟩ := Kd.R_slice HO_6.out
                              subst eo22
                              have p256 : 0 ≤ ((rd l1 x22_2) : Int) := of_decide_eq_true (by first | (with_reducible assumption) | assumption)
                              have q256 : (rd l1 x22_2) < (t252.length : Int) := of_decide_eq_true (by first | (with_reducible assumption) | assumption)
                              obtain ⟨ad256, e256, hx256_0⟩ := Kd.at_string (Kd.R_reads' HO_6.out).2.2 (rd l1 x22_2) p256 q256
                              cases e256
                              replace p256 := eq_true p256
                              replace q256 := eq_true q256
                              have p257 : 0 ≤ ((rd l1 x22_2) : Int) := of_decide_eq_true (by first | (with_reducible assumption) | assumption)
                              have q257 : (rd l1 x22_2) < (t252.length : Int) := of_decide_eq_true (by first | (with_reducible assumption) | assumption)
                              obtain ⟨ad257, e257, hx257_0⟩ := Kd.at_string (Kd.R_reads' HO_6.out).2.2 (rd l1 x22_2) p257 q257
                              obtain rfl : ad256 = ad257 := (by injection e257)
                              replace p257 := eq_true p257
                              replace q257 := eq_true q257
                              go_wp2
                              go_roundg k2
                              case measure => have := HJ2.out; have := HK2.out; omega
                              case rel => exact ⟨(x7_2 ++ (rdOf ByteArray.empty t252 (rd l1 x22_2))), (wrap64 (x22_2 + 1)), (by first | rfl | (simp; done) | (simp [*]; done)), (by first | rfl | (simp; done) | (simp [*]; done)), H', ⟨by have := HJ2.out; have := HK2.out; omega⟩, ⟨by (with_reducible repeat (first | apply Kd.R_alloc | apply Kd.R_drewN | apply Kd.R_drew)); exact HO_6.out⟩, ⟨by repeat (first | (with_reducible first | exact HB.out | apply below_alloc | apply pw_below_drewN | apply below_drew1) | exact HB.out)⟩⟩
                            · rw [if_neg c21] at H
                              exact absurd H (by simp)
                        · rw [if_neg c18] at H
                          exact absurd H (by simp)
                      · rw [if_neg c17] at H
                        exact absurd H (by simp)
                · rw [if_neg c13] at H
                  exact absurd H (by simp)
              · rw [if_neg c12] at H
                exact absurd H (by simp)
            · rw [if_neg c11] at H
              have c11b0 : decide (x22_2 < (l1.length : Int)) = false := decide_eq_false c11
              clear c11
              simp only [Option.some.injEq, Prod.mk.injEq] at H
              obtain ⟨rfl, rfl⟩ := H
              go_wp2
              go_ret2
              exact ⟨by first | rfl | (simp [errW_none, errW_some] <;> rfl) | (simp [*, errW_none, errW_some] <;> rfl), by repeat (first | (with_reducible first | exact HB.out | apply below_alloc | apply pw_below_drewN | apply below_drew1) | exact HB.out)⟩

/-! ### spec_l11Lengths: function 34 -/
def spec_l11Lengths.f (k : Nat) (l0 : List Int) : Option (Bool) := if (l0.length : Int) ≤ 12 then ((spec_l1All.f k l0 0 12).bind fun t258 => (some t258)) else (some false)
theorem spec_l11Lengths.mono : ∀ a0 k, LeO (spec_l11Lengths.f k a0) (spec_l11Lengths.f (k + 1) a0) := by
  intro a0 k
  unfold spec_l11Lengths.f
  repeat' first
      | (with_reducible exact spec_l1All.mono _ _ _ _)
      | (with_reducible exact LeO.refl _)
      | (with_reducible exact LeO.none _)
      | (with_reducible refine LeO.ite ?_ ?_)
      | (with_reducible refine LeO.bind ?_ (fun _ => ?_))
      | exact spec_l1All.mono _ _ _ _
      | exact LeO.none _
      | refine LeO.ite ?_ ?_
      | refine LeO.bind ?_ (fun _ => ?_)
set_option maxHeartbeats 8000000 in
set_option maxRecDepth 100000 in
theorem spec_l11Lengths.calls (k : Nat) (A0 : Option Addr) (c0 : Nat) (l0 : List Int) (r : Bool) (w : World) (hr0 : Kd.C (Kd.int .i64) w A0 l0.length l0) (hc0 : l0.length ≤ c0) (h : spec_l11Lengths.f k l0 = some r) :
    Calls Tryd.prog 34 #[.slice A0 l0.length c0] w fun e w' => e = .returned (.bool r) ∧ Drawn0 w w' := by
  have HR0 := Aside0.mk hr0
  have HC0 := Aside0.mk hc0
  clear hr0 hc0
  have H : (if (l0.length : Int) ≤ 12 then ((spec_l1All.f k l0 0 12).bind fun t258 => (some t258)) else (some false)) = some r := h
  clear h
  by_cases c2 : (l0.length : Int) ≤ 12
  · rw [if_pos c2] at H
    have c2b0 : decide ((l0.length : Int) ≤ 12) = true := decide_eq_true c2
    have c2b1 : decide (l0.length ≤ 12) = true := decide_eq_true (by omega)
    clear c2
    replace H := Option.bind_eq_some_iff.mp H
    obtain ⟨t258, A30, H⟩ := H
    replace H : (some t258) = some r := H
    have A3 := Aside0.mk A30
    clear A30
    obtain rfl := Option.some.inj H
    go_enter Tryd.func34, Tryd.ntmps34
    go_wp2_with (first | (go_at_call 49; (with_reducible refine (spec_l1All.calls k _ _ l0 0 12 t258 _ ?side1 ?side2 A3.out).mono ?_); (case side1 => repeat (first | exact HR0.out | (with_reducible refine Kd.C_alloc ?_ _) | (with_reducible refine Kd.C_drewN ?_ _) | (with_reducible refine Kd.C_drew ?_))); (case side2 => exact HC0.out); rintro e w' ⟨rfl, ⟨nd, rfl⟩⟩))
    go_ret
    exact ⟨by first | rfl | (simp; done) | (simp [*]; done), by repeat (first | exact Drawn0.refl _ | apply Drawn0.step)⟩
  · rw [if_neg c2] at H
    have c2b0 : decide ((l0.length : Int) ≤ 12) = false := decide_eq_false c2
    have c2b1 : decide (l0.length ≤ 12) = false := decide_eq_false (by omega)
    clear c2
    obtain rfl := Option.some.inj H
    go_enter Tryd.func34, Tryd.ntmps34
    go_wp2
    go_ret
    exact ⟨by first | rfl | (simp; done) | (simp [*]; done), by repeat (first | exact Drawn0.refl _ | apply Drawn0.step)⟩

/-! ### spec_l11Kraft: function 35 -/
def spec_l11Kraft.l0 : Nat → Int → List Int → Int → Int → Option (Int)
  | 0, _, _, _, _ => none
  | k + 1, x3, x6, x7, x8 => if x8 < x7 then (if 0 ≤ x8 then (if x8 < (x6.length : Int) then (if (rd x6 x8) > 0 then (if 0 ≤ (IntKind.u64.wrap (rd x6 x8)) then (spec_l11Kraft.l0 k (wrap64 (x3 + (shr .i64 4096 (IntKind.u64.wrap (rd x6 x8))))) x6 x7 (wrap64 (x8 + 1))) else (none)) else (spec_l11Kraft.l0 k x3 x6 x7 (wrap64 (x8 + 1)))) else (none)) else (none)) else (some x3)
def spec_l11Kraft.f (k : Nat) (l0 : List Int) : Option (Int) := spec_l11Kraft.l0 k 0 l0 (l0.length : Int) 0
theorem spec_l11Kraft.mono_l : ∀ k, (∀ y0 y1 y2 y3, LeO (spec_l11Kraft.l0 k y0 y1 y2 y3) (spec_l11Kraft.l0 (k + 1) y0 y1 y2 y3))
  | 0 => fun _ _ _ _ r h => by simp [spec_l11Kraft.l0] at h
  | k + 1 => by
    have ih0 := spec_l11Kraft.mono_l k
    · intro y0 y1 y2 y3
      unfold spec_l11Kraft.l0
      repeat' first
      | (with_reducible exact ih0 _ _ _ _)
      | (with_reducible exact LeO.refl _)
      | (with_reducible exact LeO.none _)
      | (with_reducible refine LeO.ite ?_ ?_)
      | (with_reducible refine LeO.bind ?_ (fun _ => ?_))
      | exact ih0 _ _ _ _
      | exact LeO.none _
      | refine LeO.ite ?_ ?_
      | refine LeO.bind ?_ (fun _ => ?_)
theorem spec_l11Kraft.mono : ∀ a0 k, LeO (spec_l11Kraft.f k a0) (spec_l11Kraft.f (k + 1) a0) := by
  intro a0 k
  have ih0 := spec_l11Kraft.mono_l k
  unfold spec_l11Kraft.f
  repeat' first
      | (with_reducible exact ih0 _ _ _ _)
      | (with_reducible exact LeO.refl _)
      | (with_reducible exact LeO.none _)
      | (with_reducible refine LeO.ite ?_ ?_)
      | (with_reducible refine LeO.bind ?_ (fun _ => ?_))
      | exact ih0 _ _ _ _
      | exact LeO.none _
      | refine LeO.ite ?_ ?_
      | refine LeO.bind ?_ (fun _ => ?_)
set_option maxHeartbeats 8000000 in
set_option maxRecDepth 100000 in
theorem spec_l11Kraft.calls (k : Nat) (A0 : Option Addr) (c0 : Nat) (l0 : List Int) (r : Int) (w : World) (hr0 : Kd.C (Kd.int .i64) w A0 l0.length l0) (hc0 : l0.length ≤ c0) (h : spec_l11Kraft.f k l0 = some r) :
    Calls Tryd.prog 35 #[.slice A0 l0.length c0] w fun e w' => e = .returned (.int .i64 r) ∧ Drawn0 w w' := by
  have HR0 := Aside0.mk hr0
  have HC0 := Aside0.mk hc0
  clear hr0 hc0
  have H : (spec_l11Kraft.l0 k 0 l0 (l0.length : Int) 0) = some r := h
  clear h
  have H' := Aside0.mk H
  clear H
  go_enter Tryd.func35, Tryd.ntmps35
  go_wp2
  go_loopg [3, 8] k (fun kq v3 v8 w' => ∃ (x3_1 : Int) (x8_1 : Int), v3 = .int .i64 x3_1 ∧ v8 = .int .i64 x8_1 ∧ Aside0 (spec_l11Kraft.l0 kq x3_1 l0 (l0.length : Int) x8_1 = some r) ∧ Aside0 (kq ≤ k) ∧ Drawn0 w w')
  case atStart => exact ⟨(0), (0), (by first | rfl | (simp; done) | (simp [*]; done)), (by first | rfl | (simp; done) | (simp [*]; done)), H', ⟨Nat.le_refl _⟩, by repeat (first | exact Drawn0.refl _ | apply Drawn0.step)⟩
  case round =>
    clear H'
    obtain ⟨x3_1, x8_1, rfl, rfl, HA, HK1, ⟨m1, rfl⟩⟩ := hrel
    cases gk with
    | zero => exact absurd HA.out (by simp [spec_l11Kraft.l0])
    | succ k1 =>
      have H := HA.out
      clear HA
      simp only [spec_l11Kraft.l0] at H
      by_cases c2 : x8_1 < (l0.length : Int)
      · rw [if_pos c2] at H
        have c2b0 : decide (x8_1 < (l0.length : Int)) = true := decide_eq_true c2
        clear c2
        by_cases c3 : 0 ≤ x8_1
        · rw [if_pos c3] at H
          have c3b0 : decide (0 ≤ x8_1) = true := decide_eq_true c3
          clear c3
          by_cases c4 : x8_1 < (l0.length : Int)
          · rw [if_pos c4] at H
            have c4b0 : decide (x8_1 < (l0.length : Int)) = true := decide_eq_true c4
            clear c4
            by_cases c5 : (rd l0 x8_1) > 0
            · rw [if_pos c5] at H
              have c5b0 : decide (0 < (rd l0 x8_1)) = true := decide_eq_true c5
              clear c5
              obtain ⟨ji6, hji6⟩ : ∃ j_ : Int, (IntKind.u64.wrap (rd l0 x8_1)) = j_ := ⟨_, rfl⟩
              replace H : (if 0 ≤ (ji6) then (spec_l11Kraft.l0 k1 (wrap64 (x3_1 + (shr .i64 4096 (ji6)))) l0 (l0.length : Int) (wrap64 (x8_1 + 1))) else (none)) = some r := by first | (rw [hji6] at H; exact H) | (simp only [hji6] at H ⊢; exact H)
              by_cases c7 : 0 ≤ (ji6)
              · rw [if_pos c7] at H
                have c7b0 := eq_true c7
                have c7b1 : decide (0 ≤ (ji6)) = true := decide_eq_true c7
                clear c7
                obtain ⟨ji8, hji8⟩ : ∃ j_ : Int, (shr .i64 4096 (ji6)) = j_ := ⟨_, rfl⟩
                replace H : (spec_l11Kraft.l0 k1 (wrap64 (x3_1 + (ji8))) l0 (l0.length : Int) (wrap64 (x8_1 + 1))) = some r := by first | (rw [hji8] at H; exact H) | (simp only [hji8] at H ⊢; exact H)
                have hji8_ : (4096 / 2 ^ min (ji6).toNat 64) = ji8 := hji8
                have hji8z : (ji6) ≤ 64 → (4096 / 2 ^ (ji6).toNat) = ji8 := shr_small hji8
                have H' := Aside0.mk H
                clear H
                have p259 : 0 ≤ (x8_1 : Int) := of_decide_eq_true (by first | (with_reducible assumption) | assumption)
                have q259 : x8_1 < (l0.length : Int) := of_decide_eq_true (by first | (with_reducible assumption) | assumption)
                obtain ⟨ad259, e259, hx259_0⟩ := Kd.at_int HR0.out x8_1 p259 q259
                cases e259
                replace p259 := eq_true p259
                replace q259 := eq_true q259
                go_wp2
                go_roundg k1
                case measure => have := HK1.out; omega
                case rel => exact ⟨(wrap64 (x3_1 + (ji8))), (wrap64 (x8_1 + 1)), (by first | rfl | (simp; done) | (simp only [← hji8] <;> (first | rfl | simp)) | (simp [*]; done)), (by first | rfl | (simp; done) | (simp [*]; done)), H', ⟨by have := HK1.out; omega⟩, by repeat (first | exact Drawn0.refl _ | apply Drawn0.step)⟩
              · rw [if_neg c7] at H
                exact absurd H (by simp)
            · rw [if_neg c5] at H
              have c5b0 : decide (0 < (rd l0 x8_1)) = false := decide_eq_false c5
              clear c5
              have H' := Aside0.mk H
              clear H
              have p259 : 0 ≤ (x8_1 : Int) := of_decide_eq_true (by first | (with_reducible assumption) | assumption)
              have q259 : x8_1 < (l0.length : Int) := of_decide_eq_true (by first | (with_reducible assumption) | assumption)
              obtain ⟨ad259, e259, hx259_0⟩ := Kd.at_int HR0.out x8_1 p259 q259
              cases e259
              replace p259 := eq_true p259
              replace q259 := eq_true q259
              go_wp2
              go_roundg k1
              case measure => have := HK1.out; omega
              case rel => exact ⟨(x3_1), (wrap64 (x8_1 + 1)), (by first | rfl | (simp; done) | (simp [*]; done)), (by first | rfl | (simp; done) | (simp [*]; done)), H', ⟨by have := HK1.out; omega⟩, by repeat (first | exact Drawn0.refl _ | apply Drawn0.step)⟩
          · rw [if_neg c4] at H
            exact absurd H (by simp)
        · rw [if_neg c3] at H
          exact absurd H (by simp)
      · rw [if_neg c2] at H
        have c2b0 : decide (x8_1 < (l0.length : Int)) = false := decide_eq_false c2
        clear c2
        obtain rfl := Option.some.inj H
        go_wp2
        go_ret
        exact ⟨by first | rfl | (simp; done) | (simp [*]; done), by repeat (first | exact Drawn0.refl _ | apply Drawn0.step)⟩

end Go.Proofs.YtmgkflkfoccgkabDoor.QFnCoded
