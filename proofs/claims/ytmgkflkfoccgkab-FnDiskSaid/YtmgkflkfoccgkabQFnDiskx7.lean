-- Written by this session's own program (wip/x/xprint.py, over the kit's printer); Lean checks it.
import Derived.Test.YtmgkflkfoccgkabQFnDiskx0
import Derived.Test.YtmgkflkfoccgkabQFnDiskx6
namespace Go.Proofs.Ytmgkflkfoccgkab.QFnDisk
open Go.RowKit Go.Proofs.YtmgkflkfoccgkabW.PrintWords Go.Proofs.YtmgkflkfoccgkabW.PrintLast Go.Proofs.YtmgkflkfoccgkabW.PrintMore
attribute [local go_sem] max2_int min2_int max_two min_two max_three min_three max_four min_four   -- for this text's walks alone
set_option linter.unusedVariables false
set_option linter.unusedSimpArgs false

/-! ### spec_l1Cur_pick: function 43 -/
def spec_l1Cur_pick.f (s0_0:List Int) (s0_1:Int) (s0_2:Int) (a1:Int):Option (Int × Int × Int):=if a1 ≤ 1 then (some (0,s0_1,s0_2)) else ((spec_l1Cur_next.f s0_0 s0_1 s0_2).bind fun bt226=>(if a1 > 200 then ((spec_l1Cur_next.f s0_0 bt226.2.1 bt226.2.2).bind fun bt229=>(if a1 = 0 then (none) else (some (Int.tmod (wrap64 ((wrap64 (bt226.1 * 256)) + bt229.1)) a1,bt229.2.1,bt229.2.2)))) else (if a1 = 0 then (none) else (some (Int.tmod bt226.1 a1,bt226.2.1,bt226.2.2)))))
set_option maxHeartbeats 8000000 in
set_option maxRecDepth 100000 in
theorem spec_l1Cur_pick.calls (g:Nat) (s0_0:List Int) (s0_1:Int) (s0_2:Int) (a1:Int) (r1:Int) (r2:Int) (r3:Int) (w0 w:World) (hI:IsS57 w0 w g s0_0 s0_1 s0_2) (hB:Below w0.heap.size w0 w) (h:spec_l1Cur_pick.f s0_0 s0_1 s0_2 a1 = some (r1,r2,r3)) :
  Calls Try.prog 43 #[.pointer (some ⟨g,0,none⟩),.int .i64 a1] w fun e w'=>e = .returned (.int .i64 r1) ∧ IsS57 w0 w' g s0_0 r2 r3 ∧ Below w0.heap.size w0 w' ∧ KeepBut w w' g none:=by
 have HI0:=Aside0.mk hI
 have HK:=Aside0.mk (KeepBut.refl w g none)
 have HL:=Aside0.mk hB.size
 clear hI
 have HW0:=Aside0.mk hB.size
 have HB:=Aside0.mk hB
 clear hB
 have H:(if a1 ≤ 1 then (some (0,s0_1,s0_2)) else ((spec_l1Cur_next.f s0_0 s0_1 s0_2).bind fun bt226=>(if a1 > 200 then ((spec_l1Cur_next.f s0_0 bt226.2.1 bt226.2.2).bind fun bt229=>(if a1 = 0 then (none) else (some (Int.tmod (wrap64 ((wrap64 (bt226.1 * 256)) + bt229.1)) a1,bt229.2.1,bt229.2.2)))) else (if a1 = 0 then (none) else (some (Int.tmod bt226.1 a1,bt226.2.1,bt226.2.2)))))) = some (r1,r2,r3):=h
 clear h
 by_cases c3:a1 ≤ 1
 ·rw [if_pos c3] at H
  have c3b0:=decide_eq_true c3
  clear c3
  simp only [Option.some.injEq,Prod.mk.injEq] at H
  obtain ⟨rfl,rfl,rfl⟩:=H
  go_enter Try.func43,Try.ntmps43
  go_wp2
  go_ret
  exact ⟨Yb,iIsS57,bH,kB⟩
 ·rw [if_neg c3] at H
  have c3b0:decide (a1 ≤ 1) = false:=decide_eq_false c3
  clear c3
  replace H:=Option.bind_eq_some_iff.mp H
  obtain ⟨⟨t226,t227,t228⟩,A40,H⟩:=H
  replace H:(if a1 > 200 then ((spec_l1Cur_next.f s0_0 t227 t228).bind fun bt229=>(if a1 = 0 then (none) else (some (Int.tmod (wrap64 ((wrap64 (t226 * 256)) + bt229.1)) a1,bt229.2.1,bt229.2.2)))) else (if a1 = 0 then (none) else (some (Int.tmod t226 a1,t227,t228)))) = some (r1,r2,r3):=H
  have A4:=Aside0.mk A40
  clear A40
  by_cases c5:a1 > 200
  ·rw [if_pos c5] at H
   have c5b0:decide (200 < a1) = true:=decide_eq_true c5
   clear c5
   replace H:=Option.bind_eq_some_iff.mp H
   obtain ⟨⟨t229,t230,t231⟩,A60,H⟩:=H
   replace H:(if a1 = 0 then (none) else (some (Int.tmod (wrap64 ((wrap64 (t226 * 256)) + t229)) a1,t230,t231))) = some (r1,r2,r3):=H
   have A6:=Aside0.mk A60
   clear A60
   by_cases c7:a1 = 0
   ·rw [if_pos c7] at H
    exact absurd H (by simp)
   ·rw [if_neg c7] at H
    have c7b0:(a1 == 0) = false:=beq_eq_false_iff_ne.mpr c7
    have c7b1:(a1 != 0) = true:=bne_iff_ne.mpr c7
    simp only [Option.some.injEq,Prod.mk.injEq] at H
    obtain ⟨rfl,rfl,rfl⟩:=H
    go_enter Try.func43,Try.ntmps43
    go_wp2_with (first|((with_reducible refine gate_callee (f:=76) rfl ?_);refine goesL_ (some 9) rfl rfl Try.func76 (by kernel_rfl) rfl #[.pointer (some ⟨g,0,none⟩)] rfl Ya ?_;(with_reducible refine (spec_l1Cur_next.calls g s0_0 s0_1 s0_2 t226 t227 t228 w0 _ ?side1 ?side2 A4.out).mono ?_);(case side1=>exact iIsS57);(case side2=>exact bH);rintro e w8 ⟨rfl,hi,hb,hk⟩;refine ⟨_,rfl,?_⟩;replace HK:=Aside0.mk (KeepBut.trans kB hk (.inl rfl));replace HB:=Aside0.mk (hb);replace HI0:=Aside0.mk (hi);(try clear hb);(try clear hb2);(try clear hk);(try clear hi))|((with_reducible refine gate_callee (f:=76) rfl ?_);refine goesL_ (some 15) rfl rfl Try.func76 (by kernel_rfl) rfl #[.pointer (some ⟨g,0,none⟩)] rfl Ya ?_;(with_reducible refine (spec_l1Cur_next.calls g s0_0 t227 t228 t229 t230 t231 w0 _ ?side1 ?side2 A6.out).mono ?_);(case side1=>exact iIsS57);(case side2=>exact bH);rintro e w9 ⟨rfl,hi,hb,hk⟩;refine ⟨_,rfl,?_⟩;replace HK:=Aside0.mk (KeepBut.trans kB hk (.inl rfl));replace HB:=Aside0.mk (hb);replace HI0:=Aside0.mk (hi);(try clear hb);(try clear hb2);(try clear hk);(try clear hi)))
    go_ret
    exact ⟨Yb,iIsS57,bH,kB⟩
  ·rw [if_neg c5] at H
   have c5b0:decide (200 < a1) = false:=decide_eq_false c5
   clear c5
   by_cases c10:a1 = 0
   ·rw [if_pos c10] at H
    exact absurd H (by simp)
   ·rw [if_neg c10] at H
    have c10b0:(a1 == 0) = false:=beq_eq_false_iff_ne.mpr c10
    have c10b1:(a1 != 0) = true:=bne_iff_ne.mpr c10
    simp only [Option.some.injEq,Prod.mk.injEq] at H
    obtain ⟨rfl,rfl,rfl⟩:=H
    go_enter Try.func43,Try.ntmps43
    go_wp2_with (first|((with_reducible refine gate_callee (f:=76) rfl ?_);refine goesL_ (some 9) rfl rfl Try.func76 (by kernel_rfl) rfl #[.pointer (some ⟨g,0,none⟩)] rfl Ya ?_;(with_reducible refine (spec_l1Cur_next.calls g s0_0 s0_1 s0_2 t226 t227 t228 w0 _ ?side1 ?side2 A4.out).mono ?_);(case side1=>exact iIsS57);(case side2=>exact bH);rintro e w11 ⟨rfl,hi,hb,hk⟩;refine ⟨_,rfl,?_⟩;replace HK:=Aside0.mk (KeepBut.trans kB hk (.inl rfl));replace HB:=Aside0.mk (hb);replace HI0:=Aside0.mk (hi);(try clear hb);(try clear hb2);(try clear hk);(try clear hi)))
    go_ret
    exact ⟨Yb,iIsS57,bH,kB⟩

/-! ### spec_l1Cur_of: function 87 -/
def spec_l1Cur_of.f (s0_0:List Int) (s0_1:Int) (s0_2:Int) (l1:List ByteArray):Option (ByteArray × Int × Int):=(spec_l1Cur_pick.f s0_0 s0_1 s0_2 (l1.length:Int)).bind fun bt232=>(if 0 ≤ bt232.1 then (if bt232.1 < (l1.length:Int) then (some (rdOf ByteArray.empty l1 bt232.1,bt232.2.1,bt232.2.2)) else (none)) else (none))
set_option maxHeartbeats 8000000 in
set_option maxRecDepth 100000 in
theorem spec_l1Cur_of.calls (g:Nat) (s0_0:List Int) (s0_1:Int) (s0_2:Int) (A1:Option Addr) (c1:Nat) (l1:List ByteArray) (r1:ByteArray) (r2:Int) (r3:Int) (w0 w:World) (hI:IsS57 w0 w g s0_0 s0_1 s0_2) (hB:Below w0.heap.size w0 w) (hr1:Kd.C Kd.string w A1 l1.length l1) (hc1:l1.length ≤ c1) (hf1:∀ ad,A1 = some ad → 0 < l1.length → ad.block ≠ g) (h:spec_l1Cur_of.f s0_0 s0_1 s0_2 l1 = some (r1,r2,r3)) :
  Calls Try.prog 87 #[.pointer (some ⟨g,0,none⟩),.slice A1 l1.length c1] w fun e w'=>e = .returned (.string r1) ∧ IsS57 w0 w' g s0_0 r2 r3 ∧ Below w0.heap.size w0 w' ∧ KeepBut w w' g none:=by
 have HR1:=Aside0.mk hr1
 have HC1:=Aside0.mk hc1
 clear hr1 hc1
 have HI0:=Aside0.mk hI
 have HK:=Aside0.mk (KeepBut.refl w g none)
 have HL:=Aside0.mk hB.size
 clear hI
 have HW0:=Aside0.mk hB.size
 have HB:=Aside0.mk hB
 clear hB
 have H:((spec_l1Cur_pick.f s0_0 s0_1 s0_2 (l1.length:Int)).bind fun bt232=>(if 0 ≤ bt232.1 then (if bt232.1 < (l1.length:Int) then (some (rdOf ByteArray.empty l1 bt232.1,bt232.2.1,bt232.2.2)) else (none)) else (none))) = some (r1,r2,r3):=h
 clear h
 replace H:=Option.bind_eq_some_iff.mp H
 obtain ⟨⟨t232,t233,t234⟩,A30,H⟩:=H
 replace H:(if 0 ≤ t232 then (if t232 < (l1.length:Int) then (some (rdOf ByteArray.empty l1 t232,t233,t234)) else (none)) else (none)) = some (r1,r2,r3):=H
 have A3:=Aside0.mk A30
 clear A30
 by_cases c4:0 ≤ t232
 ·rw [if_pos c4] at H
  have c4b0:=decide_eq_true c4
  clear c4
  by_cases c5:t232 < (l1.length:Int)
  ·rw [if_pos c5] at H
   have c5b0:=decide_eq_true c5
   clear c5
   simp only [Option.some.injEq,Prod.mk.injEq] at H
   obtain ⟨rfl,rfl,rfl⟩:=H
   go_enter Try.func87,Try.ntmps87
   go_wp2_with (first|((with_reducible refine gate_callee (f:=43) rfl ?_);refine goesL_ (some 9) rfl rfl Try.func43 (by kernel_rfl) rfl #[.pointer (some ⟨g,0,none⟩),.int .i64 (l1.length:Int)] rfl Ya ?_;(with_reducible refine (spec_l1Cur_pick.calls g s0_0 s0_1 s0_2 (l1.length:Int) t232 t233 t234 w0 _ ?side1 ?side2 A3.out).mono ?_);(case side1=>exact iIsS57);(case side2=>exact bH);rintro e w6 ⟨rfl,hi,hb,hk⟩;refine ⟨_,rfl,?_⟩;replace HK:=Aside0.mk (KeepBut.trans kB hk (.inl rfl));replace HB:=Aside0.mk (hb);replace HI0:=Aside0.mk (hi);(try clear hb);(try clear hb2);(try clear hk);(try clear hi);have p235:0 ≤ (t232:Int):=oD;have q235:t232 < (l1.length:Int):=oD;obtain ⟨ad235,e235,hx235_0⟩:=Kd.at_string HR1.out t232 p235 q235;cases e235;replace hx235_0:=keep_cell HK.out hx235_0 (by first|(rw [add_block];exact hf1 _ rfl (by omega))|exact hf1 _ rfl (by omega)|exact hf1 ad235 rfl (by omega));replace p235:=eq_true p235;replace q235:=eq_true q235))
   go_ret
   exact ⟨Yb,iIsS57,bH,kB⟩
  ·rw [if_neg c5] at H
   exact absurd H (by simp)
 ·rw [if_neg c4] at H
  exact absurd H (by simp)

/-! ### spec_l1Cur_piece: function 54 -/
def spec_l1Cur_piece.f (s0_0:List Int) (s0_1:Int) (s0_2:Int):Option (ByteArray × Int × Int):=(spec_l1Cur_of.f s0_0 s0_1 s0_2 (([(⟨#[]⟩:ByteArray),(⟨#[97]⟩:ByteArray),(⟨#[116,101,110,32,98,121,116,101,115,46]⟩:ByteArray),(⟨#[101,108,101,118,101,110,32,98,121,116,101,115]⟩:ByteArray),(⟨#[97,32,116,101,120,116,32,116,104,97,116,32,116,97,107,101,115,32,116,104,114,101,101,32,111,102,32,116,104,101,109]⟩:ByteArray)]:List ByteArray))).bind fun bt239=>(some (bt239.1,bt239.2.1,bt239.2.2))
set_option maxHeartbeats 8000000 in
set_option maxRecDepth 100000 in
theorem spec_l1Cur_piece.calls (g:Nat) (s0_0:List Int) (s0_1:Int) (s0_2:Int) (r1:ByteArray) (r2:Int) (r3:Int) (w0 w:World) (hI:IsS57 w0 w g s0_0 s0_1 s0_2) (hB:Below w0.heap.size w0 w) (h:spec_l1Cur_piece.f s0_0 s0_1 s0_2 = some (r1,r2,r3)) :
  Calls Try.prog 54 #[.pointer (some ⟨g,0,none⟩)] w fun e w'=>e = .returned (.string r1) ∧ IsS57 w0 w' g s0_0 r2 r3 ∧ Below w0.heap.size w0 w' ∧ KeepBut w w' g none:=by
 have HI0:=Aside0.mk hI
 have HK:=Aside0.mk (KeepBut.refl w g none)
 have HL:=Aside0.mk hB.size
 clear hI
 have HW0:=Aside0.mk hB.size
 have HB:=Aside0.mk hB
 clear hB
 have H:((spec_l1Cur_of.f s0_0 s0_1 s0_2 (([(⟨#[]⟩:ByteArray),(⟨#[97]⟩:ByteArray),(⟨#[116,101,110,32,98,121,116,101,115,46]⟩:ByteArray),(⟨#[101,108,101,118,101,110,32,98,121,116,101,115]⟩:ByteArray),(⟨#[97,32,116,101,120,116,32,116,104,97,116,32,116,97,107,101,115,32,116,104,114,101,101,32,111,102,32,116,104,101,109]⟩:ByteArray)]:List ByteArray))).bind fun bt239=>(some (bt239.1,bt239.2.1,bt239.2.2))) = some (r1,r2,r3):=h
 clear h
 obtain ⟨y236,hy236⟩:∃ y_:List ByteArray,y_ = (([(⟨#[]⟩:ByteArray),(⟨#[97]⟩:ByteArray),(⟨#[116,101,110,32,98,121,116,101,115,46]⟩:ByteArray),(⟨#[101,108,101,118,101,110,32,98,121,116,101,115]⟩:ByteArray),(⟨#[97,32,116,101,120,116,32,116,104,97,116,32,116,97,107,101,115,32,116,104,114,101,101,32,111,102,32,116,104,101,109]⟩:ByteArray)]:List ByteArray)):=⟨_,rfl⟩
 replace H:((spec_l1Cur_of.f s0_0 s0_1 s0_2 y236).bind fun bt239=>(some (bt239.1,bt239.2.1,bt239.2.2))) = some (r1,r2,r3):=by first|(rw [hy236];with_reducible exact H)|(have H2_:=(Option.bind_some _ _).symm.trans H;rw [hy236];with_reducible exact H2_)|(have H2_:=(Option.bind_some _ _).symm.trans H;with_reducible exact H2_)|with_reducible exact H|(rw [hy236];exact H)|exact H
 have Ny236:=Aside0.mk hy236
 clear hy236
 replace H:=Option.bind_eq_some_iff.mp H
 obtain ⟨⟨t239,t240,t241⟩,A20,H⟩:=H
 replace H:(some (t239,t240,t241)) = some (r1,r2,r3):=H
 have A2:=Aside0.mk A20
 clear A20
 simp only [Option.some.injEq,Prod.mk.injEq] at H
 obtain ⟨rfl,rfl,rfl⟩:=H
 go_enter Try.func54,Try.ntmps54
 go_wp2_with (first|((with_reducible refine gate_dst (N:=4) rfl ?_);refine Kd.R_lit Kd.string _ 9 ?hg (N:=4) ?hd (xs:=([(⟨#[]⟩:ByteArray),(⟨#[97]⟩:ByteArray),(⟨#[116,101,110,32,98,121,116,101,115,46]⟩:ByteArray),(⟨#[101,108,101,118,101,110,32,98,121,116,101,115]⟩:ByteArray),(⟨#[97,32,116,101,120,116,32,116,104,97,116,32,116,97,107,101,115,32,116,104,114,101,101,32,111,102,32,116,104,101,109]⟩:ByteArray)]:List ByteArray)) (inner:=[.string (⟨#[]⟩:ByteArray),.string (⟨#[97]⟩:ByteArray),.string (⟨#[116,101,110,32,98,121,116,101,115,46]⟩:ByteArray),.string (⟨#[101,108,101,118,101,110,32,98,121,116,101,115]⟩:ByteArray),.string (⟨#[97,32,116,101,120,116,32,116,104,97,116,32,116,97,107,101,115,32,116,104,114,101,101,32,111,102,32,116,104,101,109]⟩:ByteArray)]) (ok:=fun _=>True) (okp:=fun _=>True) ?hr ?hp (fun _ hk=>hk) trivial (Below.refl _ _) (Nat.le_refl _) (by simp) ?_;(case hd=>rfl);(case hg=>rfl);(case hr=>exact Yg);(case hp=>exact (Reps.one (show Kd.M Kd.string _ _ _ (⟨#[]⟩:ByteArray) [.string (⟨#[]⟩:ByteArray)] from rfl) (Reps.one (show Kd.M Kd.string _ _ _ (⟨#[97]⟩:ByteArray) [.string (⟨#[97]⟩:ByteArray)] from rfl) (Reps.one (show Kd.M Kd.string _ _ _ (⟨#[116,101,110,32,98,121,116,101,115,46]⟩:ByteArray) [.string (⟨#[116,101,110,32,98,121,116,101,115,46]⟩:ByteArray)] from rfl) (Reps.one (show Kd.M Kd.string _ _ _ (⟨#[101,108,101,118,101,110,32,98,121,116,101,115]⟩:ByteArray) [.string (⟨#[101,108,101,118,101,110,32,98,121,116,101,115]⟩:ByteArray)] from rfl) (Reps.one (show Kd.M Kd.string _ _ _ (⟨#[97,32,116,101,120,116,32,116,104,97,116,32,116,97,107,101,115,32,116,104,114,101,101,32,111,102,32,116,104,101,109]⟩:ByteArray) [.string (⟨#[97,32,116,101,120,116,32,116,104,97,116,32,116,97,107,101,115,32,116,104,114,101,101,32,111,102,32,116,104,101,109]⟩:ByteArray)] from rfl) (Reps.none _ _)))))));intro v237 w3 ho4 hb hg_ hnew_;clear hg_ hnew_;(first|rw [← Ny236.out] at ho4|(simp only [Int.reduceToNat] at ho4;rw [← Ny236.out] at ho4));have HO238:=Aside0.mk (Kd.R_lower ho4 (keep_size (w:=w) (g:=g) (row:=none) kB));replace HK:=Aside0.mk (KeepBut.trans kB (KeepBut.of_below hb g none) (.inl rfl));replace HB:=Aside0.mk (below_step bH hb);replace HI0:=Aside0.mk (IsS57.below iIsS57 hb);clear hb ho4;obtain ⟨Ao5,co5,eo5⟩:=Kd.R_slice HO238.out;subst eo5)|((with_reducible refine gate_callee (f:=87) rfl ?_);refine goesL_ (some 5) rfl rfl Try.func87 (by kernel_rfl) rfl #[.pointer (some ⟨g,0,none⟩),.slice Ao5 y236.length co5] rfl Ya ?_;(with_reducible refine (spec_l1Cur_of.calls g s0_0 s0_1 s0_2 _ _ y236 t239 t240 t241 w0 _ ?side1 ?side2 ?side3 ?side4 ?side5 A2.out).mono ?_);(case side1=>exact iIsS57);(case side2=>exact bH);(case side3=>repeat (first|exact (Kd.R_reads' HO238.out).2.2|(with_reducible refine Kd.C_alloc ?_ _)|(with_reducible refine Kd.C_drewN ?_ _)|(with_reducible refine Kd.C_drew ?_)));(case side4=>exact (Kd.R_reads' HO238.out).2.1);(case side5=>exact far_slice (IsS57.own_ne HI0.out HO238.out (by decide)));rintro e w6 ⟨rfl,hi,hb,hk⟩;refine ⟨_,rfl,?_⟩;replace HO238:=Aside0.mk (Kd.R_mono (Kd.R_keep (IsS57.apart (show IsS57 w0 _ g s0_0 s0_1 s0_2 from iIsS57) (rR HO238) (by decide)) hk (fun _ h=>h.2)) (fun _ h=>h.1));replace HK:=Aside0.mk (KeepBut.trans kB hk (.inl rfl));replace HB:=Aside0.mk (hb);replace HI0:=Aside0.mk (hi);(try clear hb);(try clear hb2);(try clear hk);(try clear hi)))
 go_ret
 exact ⟨Yb,iIsS57,bH,kB⟩

/-! ### spec_l1Cur_one: function 60 -/
def spec_l1Cur_one.f (s0_0:List Int) (s0_1:Int) (s0_2:Int) (a1:Int):Option (Bool × Int × Int):=(spec_l1Cur_pick.f s0_0 s0_1 s0_2 a1).bind fun bt242=>(some ((bt242.1 == 0),bt242.2.1,bt242.2.2))
set_option maxHeartbeats 8000000 in
set_option maxRecDepth 100000 in
theorem spec_l1Cur_one.calls (g:Nat) (s0_0:List Int) (s0_1:Int) (s0_2:Int) (a1:Int) (r1:Bool) (r2:Int) (r3:Int) (w0 w:World) (hI:IsS57 w0 w g s0_0 s0_1 s0_2) (hB:Below w0.heap.size w0 w) (h:spec_l1Cur_one.f s0_0 s0_1 s0_2 a1 = some (r1,r2,r3)) :
  Calls Try.prog 60 #[.pointer (some ⟨g,0,none⟩),.int .i64 a1] w fun e w'=>e = .returned (.bool r1) ∧ IsS57 w0 w' g s0_0 r2 r3 ∧ Below w0.heap.size w0 w' ∧ KeepBut w w' g none:=by
 have HI0:=Aside0.mk hI
 have HK:=Aside0.mk (KeepBut.refl w g none)
 have HL:=Aside0.mk hB.size
 clear hI
 have HW0:=Aside0.mk hB.size
 have HB:=Aside0.mk hB
 clear hB
 have H:((spec_l1Cur_pick.f s0_0 s0_1 s0_2 a1).bind fun bt242=>(some ((bt242.1 == 0),bt242.2.1,bt242.2.2))) = some (r1,r2,r3):=h
 clear h
 replace H:=Option.bind_eq_some_iff.mp H
 obtain ⟨⟨t242,t243,t244⟩,A30,H⟩:=H
 replace H:(some ((t242 == 0),t243,t244)) = some (r1,r2,r3):=H
 have A3:=Aside0.mk A30
 clear A30
 simp only [Option.some.injEq,Prod.mk.injEq] at H
 obtain ⟨rfl,rfl,rfl⟩:=H
 go_enter Try.func60,Try.ntmps60
 go_wp2_with (first|((with_reducible refine gate_callee (f:=43) rfl ?_);refine goesL_ (some 7) rfl rfl Try.func43 (by kernel_rfl) rfl #[.pointer (some ⟨g,0,none⟩),.int .i64 a1] rfl Ya ?_;(with_reducible refine (spec_l1Cur_pick.calls g s0_0 s0_1 s0_2 a1 t242 t243 t244 w0 _ ?side1 ?side2 A3.out).mono ?_);(case side1=>exact iIsS57);(case side2=>exact bH);rintro e w4 ⟨rfl,hi,hb,hk⟩;refine ⟨_,rfl,?_⟩;replace HK:=Aside0.mk (KeepBut.trans kB hk (.inl rfl));replace HB:=Aside0.mk (hb);replace HI0:=Aside0.mk (hi);(try clear hb);(try clear hb2);(try clear hk);(try clear hi)))
 go_ret
 exact ⟨Yb,iIsS57,bH,kB⟩

/-! ### spec_l1Cur_spoilt: function 75 -/
mutual
def spec_l1Cur_spoilt.l0:Nat → ByteArray → ByteArray → Int → List Int → Int → Int → Option (ByteArray × Int × Int)
 | 0,_,_,_,_,_,_=>none
 | k + 1,x1,x2,x7,x1000,x1001,x1002=>if x7 > 0 then (spec_l1Cur_spoilt.j1 k x1 x2 x7 (decide ((x1.size:Int) > 0)) x1000 x1001 x1002) else (spec_l1Cur_spoilt.j1 k x1 x2 x7 false x1000 x1001 x1002)
def spec_l1Cur_spoilt.j1:Nat → ByteArray → ByteArray → Int → Bool → List Int → Int → Int → Option (ByteArray × Int × Int)
 | 0,_,_,_,_,_,_,_=>none
 | k + 1,x1,x2,x7,x19,x1000,x1001,x1002=>if x19 = true then ((spec_l1Cur_pick.f x1000 x1001 x1002 (x1.size:Int)).bind fun bt248=>((spec_l1Cur_pick.f x1000 bt248.2.1 bt248.2.2 (x2.size:Int)).bind fun bt251=>(if 0 ≤ bt251.1 then (if bt251.1 < (x2.size:Int) then ((some (([bt x2 bt251.1]:List Int):List Int)).bind fun y254=>((spec_l1Cur_pick.f x1000 bt251.2.1 bt251.2.2 3).bind fun bt257=>(if bt257.1 = 0 then (if 0 ≤ bt248.1 then (if bt248.1 ≤ (x1.size:Int) then (if (x1.extract 0 (bt248.1:Int).toNat).size + (strOfNums y254).size ≤ 9223372036854775807 then (if ((x1.extract 0 (bt248.1:Int).toNat) ++ (strOfNums y254)).size + (x1.extract (bt248.1:Int).toNat x1.size).size ≤ 9223372036854775807 then (spec_l1Cur_spoilt.l0 k (((x1.extract 0 (bt248.1:Int).toNat) ++ (strOfNums y254)) ++ (x1.extract (bt248.1:Int).toNat x1.size)) x2 (wrap64 (x7 - 1)) x1000 bt257.2.1 bt257.2.2) else (none)) else (none)) else (none)) else (none)) else (if bt257.1 = 1 then (if 0 ≤ bt248.1 then (if bt248.1 ≤ (x1.size:Int) then (if (x1.extract 0 (bt248.1:Int).toNat).size + (strOfNums y254).size ≤ 9223372036854775807 then (if 0 ≤ (wrap64 (bt248.1 + 1)) then (if (wrap64 (bt248.1 + 1)) ≤ (x1.size:Int) then (if ((x1.extract 0 (bt248.1:Int).toNat) ++ (strOfNums y254)).size + (x1.extract ((wrap64 (bt248.1 + 1)):Int).toNat x1.size).size ≤ 9223372036854775807 then (spec_l1Cur_spoilt.l0 k (((x1.extract 0 (bt248.1:Int).toNat) ++ (strOfNums y254)) ++ (x1.extract ((wrap64 (bt248.1 + 1)):Int).toNat x1.size)) x2 (wrap64 (x7 - 1)) x1000 bt257.2.1 bt257.2.2) else (none)) else (none)) else (none)) else (none)) else (none)) else (none)) else (if 0 ≤ bt248.1 then (if bt248.1 ≤ (x1.size:Int) then (if 0 ≤ (wrap64 (bt248.1 + 1)) then (if (wrap64 (bt248.1 + 1)) ≤ (x1.size:Int) then (if (x1.extract 0 (bt248.1:Int).toNat).size + (x1.extract ((wrap64 (bt248.1 + 1)):Int).toNat x1.size).size ≤ 9223372036854775807 then (spec_l1Cur_spoilt.l0 k ((x1.extract 0 (bt248.1:Int).toNat) ++ (x1.extract ((wrap64 (bt248.1 + 1)):Int).toNat x1.size)) x2 (wrap64 (x7 - 1)) x1000 bt257.2.1 bt257.2.2) else (none)) else (none)) else (none)) else (none)) else (none)))))) else (none)) else (none)))) else (some (x1,x1001,x1002))
end
def spec_l1Cur_spoilt.f (k:Nat) (s0_0:List Int) (s0_1:Int) (s0_2:Int) (a1:ByteArray) (a2:ByteArray):Option (ByteArray × Int × Int):=(spec_l1Cur_pick.f s0_0 s0_1 s0_2 2).bind fun bt245=>(spec_l1Cur_spoilt.l0 k a1 a2 (wrap64 (1 + bt245.1)) s0_0 bt245.2.1 bt245.2.2)
theorem spec_l1Cur_spoilt.mono_l:∀ k,(∀ y0 y1 y2 y3 y4 y5,LeO (spec_l1Cur_spoilt.l0 k y0 y1 y2 y3 y4 y5) (spec_l1Cur_spoilt.l0 (k + 1) y0 y1 y2 y3 y4 y5)) ∧ (∀ y0 y1 y2 y3 y4 y5 y6,LeO (spec_l1Cur_spoilt.j1 k y0 y1 y2 y3 y4 y5 y6) (spec_l1Cur_spoilt.j1 (k + 1) y0 y1 y2 y3 y4 y5 y6))
 | 0=>⟨fun _ _ _ _ _ _ r h=>by simp [spec_l1Cur_spoilt.l0] at h,fun _ _ _ _ _ _ _ r h=>by simp [spec_l1Cur_spoilt.j1] at h⟩
 | k + 1=>by
  obtain ⟨ih0,ih1⟩:=spec_l1Cur_spoilt.mono_l k
  refine ⟨?_,?_⟩
  ·intro y0 y1 y2 y3 y4 y5
   unfold spec_l1Cur_spoilt.l0
   exact mO
  ·intro y0 y1 y2 y3 y4 y5 y6
   unfold spec_l1Cur_spoilt.j1
   exact mO
theorem spec_l1Cur_spoilt.mono:∀ a0 a1 a2 a3 a4 k,LeO (spec_l1Cur_spoilt.f k a0 a1 a2 a3 a4) (spec_l1Cur_spoilt.f (k + 1) a0 a1 a2 a3 a4):=by
 intro a0 a1 a2 a3 a4 k
 obtain ⟨ih0,ih1⟩:=spec_l1Cur_spoilt.mono_l k
 unfold spec_l1Cur_spoilt.f
 exact mO
set_option maxHeartbeats 8000000 in
set_option maxRecDepth 100000 in
theorem spec_l1Cur_spoilt.calls (k:Nat) (g:Nat) (s0_0:List Int) (s0_1:Int) (s0_2:Int) (a1:ByteArray) (a2:ByteArray) (r1:ByteArray) (r2:Int) (r3:Int) (w0 w:World) (hI:IsS57 w0 w g s0_0 s0_1 s0_2) (hB:Below w0.heap.size w0 w) (h:spec_l1Cur_spoilt.f k s0_0 s0_1 s0_2 a1 a2 = some (r1,r2,r3)) :
  Calls Try.prog 75 #[.pointer (some ⟨g,0,none⟩),.string a1,.string a2] w fun e w'=>e = .returned (.string r1) ∧ IsS57 w0 w' g s0_0 r2 r3 ∧ Below w0.heap.size w0 w' ∧ KeepBut w w' g none:=by
 have HI0:=Aside0.mk hI
 have HK:=Aside0.mk (KeepBut.refl w g none)
 have HL:=Aside0.mk hB.size
 clear hI
 have HW0:=Aside0.mk hB.size
 have HB:=Aside0.mk hB
 clear hB
 have H:((spec_l1Cur_pick.f s0_0 s0_1 s0_2 2).bind fun bt245=>(spec_l1Cur_spoilt.l0 k a1 a2 (wrap64 (1 + bt245.1)) s0_0 bt245.2.1 bt245.2.2)) = some (r1,r2,r3):=h
 clear h
 replace H:=Option.bind_eq_some_iff.mp H
 obtain ⟨⟨t245,t246,t247⟩,A40,H⟩:=H
 replace H:(spec_l1Cur_spoilt.l0 k a1 a2 (wrap64 (1 + t245)) s0_0 t246 t247) = some (r1,r2,r3):=H
 have A4:=Aside0.mk A40
 clear A40
 have H':=Aside0.mk H
 clear H
 go_enter Try.func75,Try.ntmps75
 go_wp2_with (first|(go_at_call 43;(with_reducible refine (spec_l1Cur_pick.calls g s0_0 s0_1 s0_2 2 t245 t246 t247 w0 _ ?side1 ?side2 A4.out).mono ?_);(case side1=>exact iIsS57);(case side2=>exact bH);rintro e w5 ⟨rfl,hi,hb,hk⟩;replace HK:=Aside0.mk (KeepBut.trans kB hk (.inl rfl));replace HB:=Aside0.mk (hb);replace HI0:=Aside0.mk (hi);(try clear hb);(try clear hb2);(try clear hk);(try clear hi)))
 repeat (go_quiet (first|(go_at_call 43;(with_reducible refine (spec_l1Cur_pick.calls g s0_0 s0_1 s0_2 2 t245 t246 t247 w0 _ ?side1 ?side2 A4.out).mono ?_);(case side1=>exact iIsS57);(case side2=>exact bH);rintro e w5 ⟨rfl,hi,hb,hk⟩;replace HK:=Aside0.mk (KeepBut.trans kB hk (.inl rfl));replace HB:=Aside0.mk (hb);replace HI0:=Aside0.mk (hi);(try clear hb);(try clear hb2);(try clear hk);(try clear hi)));try go_wp2_with (first|(go_at_call 43;(with_reducible refine (spec_l1Cur_pick.calls g s0_0 s0_1 s0_2 2 t245 t246 t247 w0 _ ?side1 ?side2 A4.out).mono ?_);(case side1=>exact iIsS57);(case side2=>exact bH);rintro e w5 ⟨rfl,hi,hb,hk⟩;replace HK:=Aside0.mk (KeepBut.trans kB hk (.inl rfl));replace HB:=Aside0.mk (hb);replace HI0:=Aside0.mk (hi);(try clear hb);(try clear hb2);(try clear hk);(try clear hi))))
 go_loopg [1,7] k (fun kq v1 v7 w'=>∃ (x1_1:ByteArray) (x7_1:Int) (x1001_1:Int) (x1002_1:Int),v1 = .string x1_1 ∧ v7 = .int .i64 x7_1 ∧ Aside0 (spec_l1Cur_spoilt.l0 kq x1_1 a2 x7_1 s0_0 x1001_1 x1002_1 = some (r1,r2,r3)) ∧ Aside0 (kq ≤ k) ∧ Aside0 (IsS57 w0 w' g s0_0 x1001_1 x1002_1) ∧ Aside0 (KeepBut w w' g none) ∧ Aside0 (Below w0.heap.size w0 w'))
 case atStart=>exact ⟨(a1),(wrap64 (1 + t245)),(t246),(t247),Yh,Yh,H',⟨Nat.le_refl _⟩,⟨iIsS57⟩,⟨kB⟩,⟨bH⟩⟩
 case round =>
  clear H'
  try clear p2
  obtain ⟨x1_1,x7_1,x1001_1,x1002_1,rfl,rfl,HA,HK1,HI0,HK,HB⟩:=hrel
  cases gk with
  | zero=>exact absurd HA.out (by simp [spec_l1Cur_spoilt.l0])
  | succ k1 =>
   have H:=HA.out
   clear HA
   simp only [spec_l1Cur_spoilt.l0] at H
   have HC6:=Aside0.mk H
   clear H
   go_upto_region 2 with (fail)
   repeat (go_quiet (fail);go_upto_region 2 with (fail))
   go_cut [19] (fun v19 wc=>∃ (kq:Nat) (x19_5:Bool),v19 = .bool x19_5 ∧ Aside0 (spec_l1Cur_spoilt.j1 kq x1_1 a2 x7_1 x19_5 s0_0 x1001_1 x1002_1 = some (r1,r2,r3)) ∧ Aside0 (kq ≤ k1) ∧ Aside0 (IsS57 w0 wc g s0_0 x1001_1 x1002_1) ∧ Aside0 (KeepBut w wc g none) ∧ Aside0 (Below w0.heap.size w0 wc))
   case first =>
    have H:=HC6.out
    clear HC6
    by_cases c7:x7_1 > 0
    ·rw [if_pos c7] at H
     have c7b0:decide (0 < x7_1) = true:=decide_eq_true c7
     clear c7
     (first|rw [c7b0]|(simp only [i64_w,i32_w];rw [c7b0])|skip)
     have H':=Aside0.mk H
     clear H
     go_wp2
     repeat (go_quiet (fail);try go_wp2)
     go_meet
     case rel=>exact ⟨_,(decide ((x1_1.size:Int) > 0)),Yh,H',⟨ZM⟩,⟨iIsS57⟩,⟨kB⟩,⟨bH⟩⟩
    ·rw [if_neg c7] at H
     have c7b0:decide (0 < x7_1) = false:=decide_eq_false c7
     clear c7
     (first|rw [c7b0]|(simp only [i64_w,i32_w];rw [c7b0])|skip)
     have H':=Aside0.mk H
     clear H
     go_wp2
     repeat (go_quiet (fail);try go_wp2)
     go_meet
     case rel=>exact ⟨_,(false),Yh,H',⟨ZM⟩,⟨iIsS57⟩,⟨kB⟩,⟨bH⟩⟩
   case rest =>
    clear HC6
    try clear p2
    try clear p6
    try clear c7
    try clear c7b0
    try clear p2
    obtain ⟨kq,x19_5,rfl,HA,HJ5,HI0,HK,HB⟩:=hcut
    cases kq with
    | zero=>exact absurd HA.out (by simp [spec_l1Cur_spoilt.j1])
    | succ kj5 =>
     have H:=HA.out
     clear HA
     simp only [spec_l1Cur_spoilt.j1] at H
     by_cases c8:x19_5 = true
     ·subst c8
      have H1:((spec_l1Cur_pick.f s0_0 x1001_1 x1002_1 (x1_1.size:Int)).bind fun bt248=>((spec_l1Cur_pick.f s0_0 bt248.2.1 bt248.2.2 (a2.size:Int)).bind fun bt251=>(if 0 ≤ bt251.1 then (if bt251.1 < (a2.size:Int) then ((some (([bt a2 bt251.1]:List Int):List Int)).bind fun y254=>((spec_l1Cur_pick.f s0_0 bt251.2.1 bt251.2.2 3).bind fun bt257=>(if bt257.1 = 0 then (if 0 ≤ bt248.1 then (if bt248.1 ≤ (x1_1.size:Int) then (if (x1_1.extract 0 (bt248.1:Int).toNat).size + (strOfNums y254).size ≤ 9223372036854775807 then (if ((x1_1.extract 0 (bt248.1:Int).toNat) ++ (strOfNums y254)).size + (x1_1.extract (bt248.1:Int).toNat x1_1.size).size ≤ 9223372036854775807 then (spec_l1Cur_spoilt.l0 kj5 (((x1_1.extract 0 (bt248.1:Int).toNat) ++ (strOfNums y254)) ++ (x1_1.extract (bt248.1:Int).toNat x1_1.size)) a2 (wrap64 (x7_1 - 1)) s0_0 bt257.2.1 bt257.2.2) else (none)) else (none)) else (none)) else (none)) else (if bt257.1 = 1 then (if 0 ≤ bt248.1 then (if bt248.1 ≤ (x1_1.size:Int) then (if (x1_1.extract 0 (bt248.1:Int).toNat).size + (strOfNums y254).size ≤ 9223372036854775807 then (if 0 ≤ (wrap64 (bt248.1 + 1)) then (if (wrap64 (bt248.1 + 1)) ≤ (x1_1.size:Int) then (if ((x1_1.extract 0 (bt248.1:Int).toNat) ++ (strOfNums y254)).size + (x1_1.extract ((wrap64 (bt248.1 + 1)):Int).toNat x1_1.size).size ≤ 9223372036854775807 then (spec_l1Cur_spoilt.l0 kj5 (((x1_1.extract 0 (bt248.1:Int).toNat) ++ (strOfNums y254)) ++ (x1_1.extract ((wrap64 (bt248.1 + 1)):Int).toNat x1_1.size)) a2 (wrap64 (x7_1 - 1)) s0_0 bt257.2.1 bt257.2.2) else (none)) else (none)) else (none)) else (none)) else (none)) else (none)) else (if 0 ≤ bt248.1 then (if bt248.1 ≤ (x1_1.size:Int) then (if 0 ≤ (wrap64 (bt248.1 + 1)) then (if (wrap64 (bt248.1 + 1)) ≤ (x1_1.size:Int) then (if (x1_1.extract 0 (bt248.1:Int).toNat).size + (x1_1.extract ((wrap64 (bt248.1 + 1)):Int).toNat x1_1.size).size ≤ 9223372036854775807 then (spec_l1Cur_spoilt.l0 kj5 ((x1_1.extract 0 (bt248.1:Int).toNat) ++ (x1_1.extract ((wrap64 (bt248.1 + 1)):Int).toNat x1_1.size)) a2 (wrap64 (x7_1 - 1)) s0_0 bt257.2.1 bt257.2.2) else (none)) else (none)) else (none)) else (none)) else (none)))))) else (none)) else (none)))) = some (r1,r2,r3):=by rw [if_pos rfl] at H;exact H
      clear H
      have H:=H1
      clear H1
      replace H:=Option.bind_eq_some_iff.mp H
      obtain ⟨⟨t248,t249,t250⟩,A90,H⟩:=H
      replace H:((spec_l1Cur_pick.f s0_0 t249 t250 (a2.size:Int)).bind fun bt251=>(if 0 ≤ bt251.1 then (if bt251.1 < (a2.size:Int) then ((some (([bt a2 bt251.1]:List Int):List Int)).bind fun y254=>((spec_l1Cur_pick.f s0_0 bt251.2.1 bt251.2.2 3).bind fun bt257=>(if bt257.1 = 0 then (if 0 ≤ t248 then (if t248 ≤ (x1_1.size:Int) then (if (x1_1.extract 0 (t248:Int).toNat).size + (strOfNums y254).size ≤ 9223372036854775807 then (if ((x1_1.extract 0 (t248:Int).toNat) ++ (strOfNums y254)).size + (x1_1.extract (t248:Int).toNat x1_1.size).size ≤ 9223372036854775807 then (spec_l1Cur_spoilt.l0 kj5 (((x1_1.extract 0 (t248:Int).toNat) ++ (strOfNums y254)) ++ (x1_1.extract (t248:Int).toNat x1_1.size)) a2 (wrap64 (x7_1 - 1)) s0_0 bt257.2.1 bt257.2.2) else (none)) else (none)) else (none)) else (none)) else (if bt257.1 = 1 then (if 0 ≤ t248 then (if t248 ≤ (x1_1.size:Int) then (if (x1_1.extract 0 (t248:Int).toNat).size + (strOfNums y254).size ≤ 9223372036854775807 then (if 0 ≤ (wrap64 (t248 + 1)) then (if (wrap64 (t248 + 1)) ≤ (x1_1.size:Int) then (if ((x1_1.extract 0 (t248:Int).toNat) ++ (strOfNums y254)).size + (x1_1.extract ((wrap64 (t248 + 1)):Int).toNat x1_1.size).size ≤ 9223372036854775807 then (spec_l1Cur_spoilt.l0 kj5 (((x1_1.extract 0 (t248:Int).toNat) ++ (strOfNums y254)) ++ (x1_1.extract ((wrap64 (t248 + 1)):Int).toNat x1_1.size)) a2 (wrap64 (x7_1 - 1)) s0_0 bt257.2.1 bt257.2.2) else (none)) else (none)) else (none)) else (none)) else (none)) else (none)) else (if 0 ≤ t248 then (if t248 ≤ (x1_1.size:Int) then (if 0 ≤ (wrap64 (t248 + 1)) then (if (wrap64 (t248 + 1)) ≤ (x1_1.size:Int) then (if (x1_1.extract 0 (t248:Int).toNat).size + (x1_1.extract ((wrap64 (t248 + 1)):Int).toNat x1_1.size).size ≤ 9223372036854775807 then (spec_l1Cur_spoilt.l0 kj5 ((x1_1.extract 0 (t248:Int).toNat) ++ (x1_1.extract ((wrap64 (t248 + 1)):Int).toNat x1_1.size)) a2 (wrap64 (x7_1 - 1)) s0_0 bt257.2.1 bt257.2.2) else (none)) else (none)) else (none)) else (none)) else (none)))))) else (none)) else (none))) = some (r1,r2,r3):=H
      have A9:=Aside0.mk A90
      clear A90
      replace H:=Option.bind_eq_some_iff.mp H
      obtain ⟨⟨t251,t252,t253⟩,A100,H⟩:=H
      replace H:(if 0 ≤ t251 then (if t251 < (a2.size:Int) then ((some (([bt a2 t251]:List Int):List Int)).bind fun y254=>((spec_l1Cur_pick.f s0_0 t252 t253 3).bind fun bt257=>(if bt257.1 = 0 then (if 0 ≤ t248 then (if t248 ≤ (x1_1.size:Int) then (if (x1_1.extract 0 (t248:Int).toNat).size + (strOfNums y254).size ≤ 9223372036854775807 then (if ((x1_1.extract 0 (t248:Int).toNat) ++ (strOfNums y254)).size + (x1_1.extract (t248:Int).toNat x1_1.size).size ≤ 9223372036854775807 then (spec_l1Cur_spoilt.l0 kj5 (((x1_1.extract 0 (t248:Int).toNat) ++ (strOfNums y254)) ++ (x1_1.extract (t248:Int).toNat x1_1.size)) a2 (wrap64 (x7_1 - 1)) s0_0 bt257.2.1 bt257.2.2) else (none)) else (none)) else (none)) else (none)) else (if bt257.1 = 1 then (if 0 ≤ t248 then (if t248 ≤ (x1_1.size:Int) then (if (x1_1.extract 0 (t248:Int).toNat).size + (strOfNums y254).size ≤ 9223372036854775807 then (if 0 ≤ (wrap64 (t248 + 1)) then (if (wrap64 (t248 + 1)) ≤ (x1_1.size:Int) then (if ((x1_1.extract 0 (t248:Int).toNat) ++ (strOfNums y254)).size + (x1_1.extract ((wrap64 (t248 + 1)):Int).toNat x1_1.size).size ≤ 9223372036854775807 then (spec_l1Cur_spoilt.l0 kj5 (((x1_1.extract 0 (t248:Int).toNat) ++ (strOfNums y254)) ++ (x1_1.extract ((wrap64 (t248 + 1)):Int).toNat x1_1.size)) a2 (wrap64 (x7_1 - 1)) s0_0 bt257.2.1 bt257.2.2) else (none)) else (none)) else (none)) else (none)) else (none)) else (none)) else (if 0 ≤ t248 then (if t248 ≤ (x1_1.size:Int) then (if 0 ≤ (wrap64 (t248 + 1)) then (if (wrap64 (t248 + 1)) ≤ (x1_1.size:Int) then (if (x1_1.extract 0 (t248:Int).toNat).size + (x1_1.extract ((wrap64 (t248 + 1)):Int).toNat x1_1.size).size ≤ 9223372036854775807 then (spec_l1Cur_spoilt.l0 kj5 ((x1_1.extract 0 (t248:Int).toNat) ++ (x1_1.extract ((wrap64 (t248 + 1)):Int).toNat x1_1.size)) a2 (wrap64 (x7_1 - 1)) s0_0 bt257.2.1 bt257.2.2) else (none)) else (none)) else (none)) else (none)) else (none)))))) else (none)) else (none)) = some (r1,r2,r3):=H
      have A10:=Aside0.mk A100
      clear A100
      by_cases c11:0 ≤ t251
      ·rw [if_pos c11] at H
       have c11b0:=decide_eq_true c11
       clear c11
       by_cases c12:t251 < (a2.size:Int)
       ·rw [if_pos c12] at H
        have c12b0:=decide_eq_true c12
        clear c12
        obtain ⟨y254,hy254⟩:∃ y_:List Int,y_ = (([bt a2 t251]:List Int)):=⟨_,rfl⟩
        replace H:((spec_l1Cur_pick.f s0_0 t252 t253 3).bind fun bt257=>(if bt257.1 = 0 then (if 0 ≤ t248 then (if t248 ≤ (x1_1.size:Int) then (if (x1_1.extract 0 (t248:Int).toNat).size + (strOfNums y254).size ≤ 9223372036854775807 then (if ((x1_1.extract 0 (t248:Int).toNat) ++ (strOfNums y254)).size + (x1_1.extract (t248:Int).toNat x1_1.size).size ≤ 9223372036854775807 then (spec_l1Cur_spoilt.l0 kj5 (((x1_1.extract 0 (t248:Int).toNat) ++ (strOfNums y254)) ++ (x1_1.extract (t248:Int).toNat x1_1.size)) a2 (wrap64 (x7_1 - 1)) s0_0 bt257.2.1 bt257.2.2) else (none)) else (none)) else (none)) else (none)) else (if bt257.1 = 1 then (if 0 ≤ t248 then (if t248 ≤ (x1_1.size:Int) then (if (x1_1.extract 0 (t248:Int).toNat).size + (strOfNums y254).size ≤ 9223372036854775807 then (if 0 ≤ (wrap64 (t248 + 1)) then (if (wrap64 (t248 + 1)) ≤ (x1_1.size:Int) then (if ((x1_1.extract 0 (t248:Int).toNat) ++ (strOfNums y254)).size + (x1_1.extract ((wrap64 (t248 + 1)):Int).toNat x1_1.size).size ≤ 9223372036854775807 then (spec_l1Cur_spoilt.l0 kj5 (((x1_1.extract 0 (t248:Int).toNat) ++ (strOfNums y254)) ++ (x1_1.extract ((wrap64 (t248 + 1)):Int).toNat x1_1.size)) a2 (wrap64 (x7_1 - 1)) s0_0 bt257.2.1 bt257.2.2) else (none)) else (none)) else (none)) else (none)) else (none)) else (none)) else (if 0 ≤ t248 then (if t248 ≤ (x1_1.size:Int) then (if 0 ≤ (wrap64 (t248 + 1)) then (if (wrap64 (t248 + 1)) ≤ (x1_1.size:Int) then (if (x1_1.extract 0 (t248:Int).toNat).size + (x1_1.extract ((wrap64 (t248 + 1)):Int).toNat x1_1.size).size ≤ 9223372036854775807 then (spec_l1Cur_spoilt.l0 kj5 ((x1_1.extract 0 (t248:Int).toNat) ++ (x1_1.extract ((wrap64 (t248 + 1)):Int).toNat x1_1.size)) a2 (wrap64 (x7_1 - 1)) s0_0 bt257.2.1 bt257.2.2) else (none)) else (none)) else (none)) else (none)) else (none))))) = some (r1,r2,r3):=by first|(rw [hy254];with_reducible exact H)|(have H2_:=(Option.bind_some _ _).symm.trans H;rw [hy254];with_reducible exact H2_)|(have H2_:=(Option.bind_some _ _).symm.trans H;with_reducible exact H2_)|with_reducible exact H|(rw [hy254];exact H)|exact H
        have Ny254:=Aside0.mk hy254
        clear hy254
        replace H:=Option.bind_eq_some_iff.mp H
        obtain ⟨⟨t257,t258,t259⟩,A140,H⟩:=H
        replace H:(if t257 = 0 then (if 0 ≤ t248 then (if t248 ≤ (x1_1.size:Int) then (if (x1_1.extract 0 (t248:Int).toNat).size + (strOfNums y254).size ≤ 9223372036854775807 then (if ((x1_1.extract 0 (t248:Int).toNat) ++ (strOfNums y254)).size + (x1_1.extract (t248:Int).toNat x1_1.size).size ≤ 9223372036854775807 then (spec_l1Cur_spoilt.l0 kj5 (((x1_1.extract 0 (t248:Int).toNat) ++ (strOfNums y254)) ++ (x1_1.extract (t248:Int).toNat x1_1.size)) a2 (wrap64 (x7_1 - 1)) s0_0 t258 t259) else (none)) else (none)) else (none)) else (none)) else (if t257 = 1 then (if 0 ≤ t248 then (if t248 ≤ (x1_1.size:Int) then (if (x1_1.extract 0 (t248:Int).toNat).size + (strOfNums y254).size ≤ 9223372036854775807 then (if 0 ≤ (wrap64 (t248 + 1)) then (if (wrap64 (t248 + 1)) ≤ (x1_1.size:Int) then (if ((x1_1.extract 0 (t248:Int).toNat) ++ (strOfNums y254)).size + (x1_1.extract ((wrap64 (t248 + 1)):Int).toNat x1_1.size).size ≤ 9223372036854775807 then (spec_l1Cur_spoilt.l0 kj5 (((x1_1.extract 0 (t248:Int).toNat) ++ (strOfNums y254)) ++ (x1_1.extract ((wrap64 (t248 + 1)):Int).toNat x1_1.size)) a2 (wrap64 (x7_1 - 1)) s0_0 t258 t259) else (none)) else (none)) else (none)) else (none)) else (none)) else (none)) else (if 0 ≤ t248 then (if t248 ≤ (x1_1.size:Int) then (if 0 ≤ (wrap64 (t248 + 1)) then (if (wrap64 (t248 + 1)) ≤ (x1_1.size:Int) then (if (x1_1.extract 0 (t248:Int).toNat).size + (x1_1.extract ((wrap64 (t248 + 1)):Int).toNat x1_1.size).size ≤ 9223372036854775807 then (spec_l1Cur_spoilt.l0 kj5 ((x1_1.extract 0 (t248:Int).toNat) ++ (x1_1.extract ((wrap64 (t248 + 1)):Int).toNat x1_1.size)) a2 (wrap64 (x7_1 - 1)) s0_0 t258 t259) else (none)) else (none)) else (none)) else (none)) else (none)))) = some (r1,r2,r3):=H
        have A14:=Aside0.mk A140
        clear A140
        by_cases c15:t257 = 0
        ·rw [if_pos c15] at H
         have c15b0:(t257 == 0) = true:=beq_iff_eq.mpr c15
         have c15b1:(t257 != 0) = false:=bne_eq_false_iff_eq.mpr c15
         clear c15
         by_cases c16:0 ≤ t248
         ·rw [if_pos c16] at H
          have c16b0:=eq_true c16
          have c16b1:=decide_eq_true c16
          clear c16
          by_cases c17:t248 ≤ (x1_1.size:Int)
          ·rw [if_pos c17] at H
           have c17b0:=eq_true c17
           have c17b1:=decide_eq_true c17
           clear c17
           by_cases c18:(x1_1.extract 0 (t248:Int).toNat).size + (strOfNums y254).size ≤ 9223372036854775807
           ·rw [if_pos c18] at H
            have c18b0:=eq_true c18
            have c18b1:=decide_eq_true c18
            try have c18b2:(9223372036854775807 < (x1_1.extract 0 (t248:Int).toNat).size + (strOfNums y254).size) = False:=eq_false (Nat.not_lt.2 c18)
            try (have e_:(x1_1.extract 0 (t248:Int).toNat).size = (t248:Int).toNat:=(by simp only [ByteArray.size_extract];have h_:t248 ≤ (x1_1.size:Int):=of_decide_eq_true (by assumption);omega);have c18b3:=c18b2;rw [e_] at c18b3)
            have c19b0:=eq_true (oD:0 ≤ t248)
            have c20b0:=eq_true (oD:t248 ≤ (x1_1.size:Int))
            by_cases c21:((x1_1.extract 0 (t248:Int).toNat) ++ (strOfNums y254)).size + (x1_1.extract (t248:Int).toNat x1_1.size).size ≤ 9223372036854775807
            ·rw [if_pos c21] at H
             have c21b0:=eq_true c21
             have c21b1:=decide_eq_true c21
             try have c21b2:(9223372036854775807 < ((x1_1.extract 0 (t248:Int).toNat) ++ (strOfNums y254)).size + (x1_1.extract (t248:Int).toNat x1_1.size).size) = False:=eq_false (Nat.not_lt.2 c21)
             try (have c21b3:=c21b2;simp only [ByteArray.size_append] at c21b3)
             have H':=Aside0.mk H
             clear H
             go_wp2_with (first|(go_at_call 43;(with_reducible refine (spec_l1Cur_pick.calls g s0_0 x1001_1 x1002_1 (x1_1.size:Int) t248 t249 t250 w0 _ ?side1 ?side2 A9.out).mono ?_);(case side1=>exact iIsS57);(case side2=>exact bH);rintro e w22 ⟨rfl,hi,hb,hk⟩;replace HK:=Aside0.mk (KeepBut.trans kB hk (.inl rfl));replace HB:=Aside0.mk (hb);replace HI0:=Aside0.mk (hi);(try clear hb);(try clear hb2);(try clear hk);(try clear hi))|(go_at_call 43;(with_reducible refine (spec_l1Cur_pick.calls g s0_0 t249 t250 (a2.size:Int) t251 t252 t253 w0 _ ?side1 ?side2 A10.out).mono ?_);(case side1=>exact iIsS57);(case side2=>exact bH);rintro e w23 ⟨rfl,hi,hb,hk⟩;replace HK:=Aside0.mk (KeepBut.trans kB hk (.inl rfl));replace HB:=Aside0.mk (hb);replace HI0:=Aside0.mk (hi);(try clear hb);(try clear hb2);(try clear hk);(try clear hi);have p13:0 ≤ (t251:Int):=oD;have q13:t251 < (a2.size:Int):=oD;have hx13:=bt_at a2 t251;replace p13:=eq_true p13;replace q13:=eq_true q13)|((with_reducible refine gate_dst (N:=32) rfl ?_);(try (refine gate_guard (by rfl) ?_;dsimp only));refine Kd.R_lit (Kd.int .u8) _ 5 ?hg (N:=32) ?hd (xs:=([bt a2 t251]:List Int)) (inner:=[.int .u8 (bt a2 t251)]) (ok:=fun _=>True) (okp:=fun _=>True) ?hr ?hp (fun _ hk=>hk) trivial (Below.refl _ _) (Nat.le_refl _) (by simp) ?_;(case hd=>rfl);(case hg=>rfl);(case hr=>exact Yn);(case hp=>exact Yu);intro v255 w24 ho25 hb hg_ hnew_;clear hg_ hnew_;(first|rw [← Ny254.out] at ho25|(simp only [Int.reduceToNat] at ho25;rw [← Ny254.out] at ho25));have HO256:=Aside0.mk (Kd.R_lower ho25 (keep_size (w:=w) (g:=g) (row:=none) kB));replace HK:=Aside0.mk (KeepBut.trans kB (KeepBut.of_below hb g none) (.inl rfl));replace HB:=Aside0.mk (below_step bH hb);replace HI0:=Aside0.mk (IsS57.below iIsS57 hb);clear hb ho25;have hcv26:=own_string (P:=Try.prog) Try.underlying22 Try.underlying5 Try.underlying9 (Kd.own_of_R HO256.out))|(go_at_call 43;(with_reducible refine (spec_l1Cur_pick.calls g s0_0 t252 t253 3 t257 t258 t259 w0 _ ?side1 ?side2 A14.out).mono ?_);(case side1=>exact iIsS57);(case side2=>exact bH);rintro e w27 ⟨rfl,hi,hb,hk⟩;replace HO256:=Aside0.mk (Kd.R_mono (Kd.R_keep (IsS57.apart (show IsS57 w0 _ g s0_0 t252 t253 from iIsS57) (rR HO256) (by decide)) hk (fun _ h=>h.2)) (fun _ h=>h.1));replace HK:=Aside0.mk (KeepBut.trans kB hk (.inl rfl));replace HB:=Aside0.mk (hb);replace HI0:=Aside0.mk (hi);(try clear hb);(try clear hb2);(try clear hk);(try clear hi)))
             repeat (go_quiet (first|(go_at_call 43;(with_reducible refine (spec_l1Cur_pick.calls g s0_0 x1001_1 x1002_1 (x1_1.size:Int) t248 t249 t250 w0 _ ?side1 ?side2 A9.out).mono ?_);(case side1=>exact iIsS57);(case side2=>exact bH);rintro e w22 ⟨rfl,hi,hb,hk⟩;replace HK:=Aside0.mk (KeepBut.trans kB hk (.inl rfl));replace HB:=Aside0.mk (hb);replace HI0:=Aside0.mk (hi);(try clear hb);(try clear hb2);(try clear hk);(try clear hi))|(go_at_call 43;(with_reducible refine (spec_l1Cur_pick.calls g s0_0 t249 t250 (a2.size:Int) t251 t252 t253 w0 _ ?side1 ?side2 A10.out).mono ?_);(case side1=>exact iIsS57);(case side2=>exact bH);rintro e w23 ⟨rfl,hi,hb,hk⟩;replace HK:=Aside0.mk (KeepBut.trans kB hk (.inl rfl));replace HB:=Aside0.mk (hb);replace HI0:=Aside0.mk (hi);(try clear hb);(try clear hb2);(try clear hk);(try clear hi);have p13:0 ≤ (t251:Int):=oD;have q13:t251 < (a2.size:Int):=oD;have hx13:=bt_at a2 t251;replace p13:=eq_true p13;replace q13:=eq_true q13)|((with_reducible refine gate_dst (N:=32) rfl ?_);(try (refine gate_guard (by rfl) ?_;dsimp only));refine Kd.R_lit (Kd.int .u8) _ 5 ?hg (N:=32) ?hd (xs:=([bt a2 t251]:List Int)) (inner:=[.int .u8 (bt a2 t251)]) (ok:=fun _=>True) (okp:=fun _=>True) ?hr ?hp (fun _ hk=>hk) trivial (Below.refl _ _) (Nat.le_refl _) (by simp) ?_;(case hd=>rfl);(case hg=>rfl);(case hr=>exact Yn);(case hp=>exact Yu);intro v255 w24 ho25 hb hg_ hnew_;clear hg_ hnew_;(first|rw [← Ny254.out] at ho25|(simp only [Int.reduceToNat] at ho25;rw [← Ny254.out] at ho25));have HO256:=Aside0.mk (Kd.R_lower ho25 (keep_size (w:=w) (g:=g) (row:=none) kB));replace HK:=Aside0.mk (KeepBut.trans kB (KeepBut.of_below hb g none) (.inl rfl));replace HB:=Aside0.mk (below_step bH hb);replace HI0:=Aside0.mk (IsS57.below iIsS57 hb);clear hb ho25;have hcv26:=own_string (P:=Try.prog) Try.underlying22 Try.underlying5 Try.underlying9 (Kd.own_of_R HO256.out))|(go_at_call 43;(with_reducible refine (spec_l1Cur_pick.calls g s0_0 t252 t253 3 t257 t258 t259 w0 _ ?side1 ?side2 A14.out).mono ?_);(case side1=>exact iIsS57);(case side2=>exact bH);rintro e w27 ⟨rfl,hi,hb,hk⟩;replace HO256:=Aside0.mk (Kd.R_mono (Kd.R_keep (IsS57.apart (show IsS57 w0 _ g s0_0 t252 t253 from iIsS57) (rR HO256) (by decide)) hk (fun _ h=>h.2)) (fun _ h=>h.1));replace HK:=Aside0.mk (KeepBut.trans kB hk (.inl rfl));replace HB:=Aside0.mk (hb);replace HI0:=Aside0.mk (hi);(try clear hb);(try clear hb2);(try clear hk);(try clear hi)));try go_wp2_with (first|(go_at_call 43;(with_reducible refine (spec_l1Cur_pick.calls g s0_0 x1001_1 x1002_1 (x1_1.size:Int) t248 t249 t250 w0 _ ?side1 ?side2 A9.out).mono ?_);(case side1=>exact iIsS57);(case side2=>exact bH);rintro e w22 ⟨rfl,hi,hb,hk⟩;replace HK:=Aside0.mk (KeepBut.trans kB hk (.inl rfl));replace HB:=Aside0.mk (hb);replace HI0:=Aside0.mk (hi);(try clear hb);(try clear hb2);(try clear hk);(try clear hi))|(go_at_call 43;(with_reducible refine (spec_l1Cur_pick.calls g s0_0 t249 t250 (a2.size:Int) t251 t252 t253 w0 _ ?side1 ?side2 A10.out).mono ?_);(case side1=>exact iIsS57);(case side2=>exact bH);rintro e w23 ⟨rfl,hi,hb,hk⟩;replace HK:=Aside0.mk (KeepBut.trans kB hk (.inl rfl));replace HB:=Aside0.mk (hb);replace HI0:=Aside0.mk (hi);(try clear hb);(try clear hb2);(try clear hk);(try clear hi);have p13:0 ≤ (t251:Int):=oD;have q13:t251 < (a2.size:Int):=oD;have hx13:=bt_at a2 t251;replace p13:=eq_true p13;replace q13:=eq_true q13)|((with_reducible refine gate_dst (N:=32) rfl ?_);(try (refine gate_guard (by rfl) ?_;dsimp only));refine Kd.R_lit (Kd.int .u8) _ 5 ?hg (N:=32) ?hd (xs:=([bt a2 t251]:List Int)) (inner:=[.int .u8 (bt a2 t251)]) (ok:=fun _=>True) (okp:=fun _=>True) ?hr ?hp (fun _ hk=>hk) trivial (Below.refl _ _) (Nat.le_refl _) (by simp) ?_;(case hd=>rfl);(case hg=>rfl);(case hr=>exact Yn);(case hp=>exact Yu);intro v255 w24 ho25 hb hg_ hnew_;clear hg_ hnew_;(first|rw [← Ny254.out] at ho25|(simp only [Int.reduceToNat] at ho25;rw [← Ny254.out] at ho25));have HO256:=Aside0.mk (Kd.R_lower ho25 (keep_size (w:=w) (g:=g) (row:=none) kB));replace HK:=Aside0.mk (KeepBut.trans kB (KeepBut.of_below hb g none) (.inl rfl));replace HB:=Aside0.mk (below_step bH hb);replace HI0:=Aside0.mk (IsS57.below iIsS57 hb);clear hb ho25;have hcv26:=own_string (P:=Try.prog) Try.underlying22 Try.underlying5 Try.underlying9 (Kd.own_of_R HO256.out))|(go_at_call 43;(with_reducible refine (spec_l1Cur_pick.calls g s0_0 t252 t253 3 t257 t258 t259 w0 _ ?side1 ?side2 A14.out).mono ?_);(case side1=>exact iIsS57);(case side2=>exact bH);rintro e w27 ⟨rfl,hi,hb,hk⟩;replace HO256:=Aside0.mk (Kd.R_mono (Kd.R_keep (IsS57.apart (show IsS57 w0 _ g s0_0 t252 t253 from iIsS57) (rR HO256) (by decide)) hk (fun _ h=>h.2)) (fun _ h=>h.1));replace HK:=Aside0.mk (KeepBut.trans kB hk (.inl rfl));replace HB:=Aside0.mk (hb);replace HI0:=Aside0.mk (hi);(try clear hb);(try clear hb2);(try clear hk);(try clear hi))))
             go_roundg kj5
             case measure=>have:=HK1.out;have:=HJ5.out;omega
             case rel=>exact ⟨(((x1_1.extract 0 (t248:Int).toNat) ++ (strOfNums y254)) ++ (x1_1.extract (t248:Int).toNat x1_1.size)),(wrap64 (x7_1 - 1)),(t258),(t259),Yh,Yh,H',⟨by have:=HK1.out;have:=HJ5.out;omega⟩,⟨iIsS57⟩,⟨kB⟩,⟨bH⟩⟩
            ·rw [if_neg c21] at H
             exact absurd H (by simp)
           ·rw [if_neg c18] at H
            exact absurd H (by simp)
          ·rw [if_neg c17] at H
           exact absurd H (by simp)
         ·rw [if_neg c16] at H
          exact absurd H (by simp)
        ·rw [if_neg c15] at H
         have c15b0:(t257 == 0) = false:=beq_eq_false_iff_ne.mpr c15
         have c15b1:(t257 != 0) = true:=bne_iff_ne.mpr c15
         by_cases c28:t257 = 1
         ·rw [if_pos c28] at H
          have c28b0:(t257 == 1) = true:=beq_iff_eq.mpr c28
          have c28b1:(t257 != 1) = false:=bne_eq_false_iff_eq.mpr c28
          clear c28
          by_cases c29:0 ≤ t248
          ·rw [if_pos c29] at H
           have c29b0:=eq_true c29
           have c29b1:=decide_eq_true c29
           clear c29
           by_cases c30:t248 ≤ (x1_1.size:Int)
           ·rw [if_pos c30] at H
            have c30b0:=eq_true c30
            have c30b1:=decide_eq_true c30
            clear c30
            by_cases c31:(x1_1.extract 0 (t248:Int).toNat).size + (strOfNums y254).size ≤ 9223372036854775807
            ·rw [if_pos c31] at H
             have c31b0:=eq_true c31
             have c31b1:=decide_eq_true c31
             try have c31b2:(9223372036854775807 < (x1_1.extract 0 (t248:Int).toNat).size + (strOfNums y254).size) = False:=eq_false (Nat.not_lt.2 c31)
             try (have e_:(x1_1.extract 0 (t248:Int).toNat).size = (t248:Int).toNat:=(by simp only [ByteArray.size_extract];have h_:t248 ≤ (x1_1.size:Int):=of_decide_eq_true (by assumption);omega);have c31b3:=c31b2;rw [e_] at c31b3)
             obtain ⟨ji32,hji32⟩:∃ j_:Int,(wrap64 (t248 + 1)) = j_:=⟨_,rfl⟩
             replace H:(if 0 ≤ (ji32) then (if (ji32) ≤ (x1_1.size:Int) then (if ((x1_1.extract 0 (t248:Int).toNat) ++ (strOfNums y254)).size + (x1_1.extract ((ji32):Int).toNat x1_1.size).size ≤ 9223372036854775807 then (spec_l1Cur_spoilt.l0 kj5 (((x1_1.extract 0 (t248:Int).toNat) ++ (strOfNums y254)) ++ (x1_1.extract ((ji32):Int).toNat x1_1.size)) a2 (wrap64 (x7_1 - 1)) s0_0 t258 t259) else (none)) else (none)) else (none)) = some (r1,r2,r3):=by first|(rw [hji32] at H;exact H)|(simp only [hji32] at H ⊢;exact H)
             (try rw [hji32] at A9)
             (try rw [hji32] at A10)
             (try rw [hji32] at A14)
             have hji32w:(IntKind.i64.wrap (t248 + 1)) = ji32:=(i64_w _).trans hji32
             by_cases c33:0 ≤ (ji32)
             ·rw [if_pos c33] at H
              have c33b0:=eq_true c33
              have c33b1:=decide_eq_true c33
              clear c33
              by_cases c34:(ji32) ≤ (x1_1.size:Int)
              ·rw [if_pos c34] at H
               have c34b0:=eq_true c34
               have c34b1:=decide_eq_true c34
               clear c34
               by_cases c35:((x1_1.extract 0 (t248:Int).toNat) ++ (strOfNums y254)).size + (x1_1.extract ((ji32):Int).toNat x1_1.size).size ≤ 9223372036854775807
               ·rw [if_pos c35] at H
                have c35b0:=eq_true c35
                have c35b1:=decide_eq_true c35
                try have c35b2:(9223372036854775807 < ((x1_1.extract 0 (t248:Int).toNat) ++ (strOfNums y254)).size + (x1_1.extract ((ji32):Int).toNat x1_1.size).size) = False:=eq_false (Nat.not_lt.2 c35)
                try (have c35b3:=c35b2;simp only [ByteArray.size_append] at c35b3)
                have H':=Aside0.mk H
                clear H
                go_wp2_with (first|(go_at_call 43;(with_reducible refine (spec_l1Cur_pick.calls g s0_0 x1001_1 x1002_1 (x1_1.size:Int) t248 t249 t250 w0 _ ?side1 ?side2 A9.out).mono ?_);(case side1=>exact iIsS57);(case side2=>exact bH);rintro e w36 ⟨rfl,hi,hb,hk⟩;replace HK:=Aside0.mk (KeepBut.trans kB hk (.inl rfl));replace HB:=Aside0.mk (hb);replace HI0:=Aside0.mk (hi);(try clear hb);(try clear hb2);(try clear hk);(try clear hi))|(go_at_call 43;(with_reducible refine (spec_l1Cur_pick.calls g s0_0 t249 t250 (a2.size:Int) t251 t252 t253 w0 _ ?side1 ?side2 A10.out).mono ?_);(case side1=>exact iIsS57);(case side2=>exact bH);rintro e w37 ⟨rfl,hi,hb,hk⟩;replace HK:=Aside0.mk (KeepBut.trans kB hk (.inl rfl));replace HB:=Aside0.mk (hb);replace HI0:=Aside0.mk (hi);(try clear hb);(try clear hb2);(try clear hk);(try clear hi);have p13:0 ≤ (t251:Int):=oD;have q13:t251 < (a2.size:Int):=oD;have hx13:=bt_at a2 t251;replace p13:=eq_true p13;replace q13:=eq_true q13)|((with_reducible refine gate_dst (N:=32) rfl ?_);(try (refine gate_guard (by rfl) ?_;dsimp only));refine Kd.R_lit (Kd.int .u8) _ 5 ?hg (N:=32) ?hd (xs:=([bt a2 t251]:List Int)) (inner:=[.int .u8 (bt a2 t251)]) (ok:=fun _=>True) (okp:=fun _=>True) ?hr ?hp (fun _ hk=>hk) trivial (Below.refl _ _) (Nat.le_refl _) (by simp) ?_;(case hd=>rfl);(case hg=>rfl);(case hr=>exact Yn);(case hp=>exact Yu);intro v255 w38 ho39 hb hg_ hnew_;clear hg_ hnew_;(first|rw [← Ny254.out] at ho39|(simp only [Int.reduceToNat] at ho39;rw [← Ny254.out] at ho39));have HO256:=Aside0.mk (Kd.R_lower ho39 (keep_size (w:=w) (g:=g) (row:=none) kB));replace HK:=Aside0.mk (KeepBut.trans kB (KeepBut.of_below hb g none) (.inl rfl));replace HB:=Aside0.mk (below_step bH hb);replace HI0:=Aside0.mk (IsS57.below iIsS57 hb);clear hb ho39;have hcv40:=own_string (P:=Try.prog) Try.underlying22 Try.underlying5 Try.underlying9 (Kd.own_of_R HO256.out))|(go_at_call 43;(with_reducible refine (spec_l1Cur_pick.calls g s0_0 t252 t253 3 t257 t258 t259 w0 _ ?side1 ?side2 A14.out).mono ?_);(case side1=>exact iIsS57);(case side2=>exact bH);rintro e w41 ⟨rfl,hi,hb,hk⟩;replace HO256:=Aside0.mk (Kd.R_mono (Kd.R_keep (IsS57.apart (show IsS57 w0 _ g s0_0 t252 t253 from iIsS57) (rR HO256) (by decide)) hk (fun _ h=>h.2)) (fun _ h=>h.1));replace HK:=Aside0.mk (KeepBut.trans kB hk (.inl rfl));replace HB:=Aside0.mk (hb);replace HI0:=Aside0.mk (hi);(try clear hb);(try clear hb2);(try clear hk);(try clear hi)))
                repeat (go_quiet (first|(go_at_call 43;(with_reducible refine (spec_l1Cur_pick.calls g s0_0 x1001_1 x1002_1 (x1_1.size:Int) t248 t249 t250 w0 _ ?side1 ?side2 A9.out).mono ?_);(case side1=>exact iIsS57);(case side2=>exact bH);rintro e w36 ⟨rfl,hi,hb,hk⟩;replace HK:=Aside0.mk (KeepBut.trans kB hk (.inl rfl));replace HB:=Aside0.mk (hb);replace HI0:=Aside0.mk (hi);(try clear hb);(try clear hb2);(try clear hk);(try clear hi))|(go_at_call 43;(with_reducible refine (spec_l1Cur_pick.calls g s0_0 t249 t250 (a2.size:Int) t251 t252 t253 w0 _ ?side1 ?side2 A10.out).mono ?_);(case side1=>exact iIsS57);(case side2=>exact bH);rintro e w37 ⟨rfl,hi,hb,hk⟩;replace HK:=Aside0.mk (KeepBut.trans kB hk (.inl rfl));replace HB:=Aside0.mk (hb);replace HI0:=Aside0.mk (hi);(try clear hb);(try clear hb2);(try clear hk);(try clear hi);have p13:0 ≤ (t251:Int):=oD;have q13:t251 < (a2.size:Int):=oD;have hx13:=bt_at a2 t251;replace p13:=eq_true p13;replace q13:=eq_true q13)|((with_reducible refine gate_dst (N:=32) rfl ?_);(try (refine gate_guard (by rfl) ?_;dsimp only));refine Kd.R_lit (Kd.int .u8) _ 5 ?hg (N:=32) ?hd (xs:=([bt a2 t251]:List Int)) (inner:=[.int .u8 (bt a2 t251)]) (ok:=fun _=>True) (okp:=fun _=>True) ?hr ?hp (fun _ hk=>hk) trivial (Below.refl _ _) (Nat.le_refl _) (by simp) ?_;(case hd=>rfl);(case hg=>rfl);(case hr=>exact Yn);(case hp=>exact Yu);intro v255 w38 ho39 hb hg_ hnew_;clear hg_ hnew_;(first|rw [← Ny254.out] at ho39|(simp only [Int.reduceToNat] at ho39;rw [← Ny254.out] at ho39));have HO256:=Aside0.mk (Kd.R_lower ho39 (keep_size (w:=w) (g:=g) (row:=none) kB));replace HK:=Aside0.mk (KeepBut.trans kB (KeepBut.of_below hb g none) (.inl rfl));replace HB:=Aside0.mk (below_step bH hb);replace HI0:=Aside0.mk (IsS57.below iIsS57 hb);clear hb ho39;have hcv40:=own_string (P:=Try.prog) Try.underlying22 Try.underlying5 Try.underlying9 (Kd.own_of_R HO256.out))|(go_at_call 43;(with_reducible refine (spec_l1Cur_pick.calls g s0_0 t252 t253 3 t257 t258 t259 w0 _ ?side1 ?side2 A14.out).mono ?_);(case side1=>exact iIsS57);(case side2=>exact bH);rintro e w41 ⟨rfl,hi,hb,hk⟩;replace HO256:=Aside0.mk (Kd.R_mono (Kd.R_keep (IsS57.apart (show IsS57 w0 _ g s0_0 t252 t253 from iIsS57) (rR HO256) (by decide)) hk (fun _ h=>h.2)) (fun _ h=>h.1));replace HK:=Aside0.mk (KeepBut.trans kB hk (.inl rfl));replace HB:=Aside0.mk (hb);replace HI0:=Aside0.mk (hi);(try clear hb);(try clear hb2);(try clear hk);(try clear hi)));try go_wp2_with (first|(go_at_call 43;(with_reducible refine (spec_l1Cur_pick.calls g s0_0 x1001_1 x1002_1 (x1_1.size:Int) t248 t249 t250 w0 _ ?side1 ?side2 A9.out).mono ?_);(case side1=>exact iIsS57);(case side2=>exact bH);rintro e w36 ⟨rfl,hi,hb,hk⟩;replace HK:=Aside0.mk (KeepBut.trans kB hk (.inl rfl));replace HB:=Aside0.mk (hb);replace HI0:=Aside0.mk (hi);(try clear hb);(try clear hb2);(try clear hk);(try clear hi))|(go_at_call 43;(with_reducible refine (spec_l1Cur_pick.calls g s0_0 t249 t250 (a2.size:Int) t251 t252 t253 w0 _ ?side1 ?side2 A10.out).mono ?_);(case side1=>exact iIsS57);(case side2=>exact bH);rintro e w37 ⟨rfl,hi,hb,hk⟩;replace HK:=Aside0.mk (KeepBut.trans kB hk (.inl rfl));replace HB:=Aside0.mk (hb);replace HI0:=Aside0.mk (hi);(try clear hb);(try clear hb2);(try clear hk);(try clear hi);have p13:0 ≤ (t251:Int):=oD;have q13:t251 < (a2.size:Int):=oD;have hx13:=bt_at a2 t251;replace p13:=eq_true p13;replace q13:=eq_true q13)|((with_reducible refine gate_dst (N:=32) rfl ?_);(try (refine gate_guard (by rfl) ?_;dsimp only));refine Kd.R_lit (Kd.int .u8) _ 5 ?hg (N:=32) ?hd (xs:=([bt a2 t251]:List Int)) (inner:=[.int .u8 (bt a2 t251)]) (ok:=fun _=>True) (okp:=fun _=>True) ?hr ?hp (fun _ hk=>hk) trivial (Below.refl _ _) (Nat.le_refl _) (by simp) ?_;(case hd=>rfl);(case hg=>rfl);(case hr=>exact Yn);(case hp=>exact Yu);intro v255 w38 ho39 hb hg_ hnew_;clear hg_ hnew_;(first|rw [← Ny254.out] at ho39|(simp only [Int.reduceToNat] at ho39;rw [← Ny254.out] at ho39));have HO256:=Aside0.mk (Kd.R_lower ho39 (keep_size (w:=w) (g:=g) (row:=none) kB));replace HK:=Aside0.mk (KeepBut.trans kB (KeepBut.of_below hb g none) (.inl rfl));replace HB:=Aside0.mk (below_step bH hb);replace HI0:=Aside0.mk (IsS57.below iIsS57 hb);clear hb ho39;have hcv40:=own_string (P:=Try.prog) Try.underlying22 Try.underlying5 Try.underlying9 (Kd.own_of_R HO256.out))|(go_at_call 43;(with_reducible refine (spec_l1Cur_pick.calls g s0_0 t252 t253 3 t257 t258 t259 w0 _ ?side1 ?side2 A14.out).mono ?_);(case side1=>exact iIsS57);(case side2=>exact bH);rintro e w41 ⟨rfl,hi,hb,hk⟩;replace HO256:=Aside0.mk (Kd.R_mono (Kd.R_keep (IsS57.apart (show IsS57 w0 _ g s0_0 t252 t253 from iIsS57) (rR HO256) (by decide)) hk (fun _ h=>h.2)) (fun _ h=>h.1));replace HK:=Aside0.mk (KeepBut.trans kB hk (.inl rfl));replace HB:=Aside0.mk (hb);replace HI0:=Aside0.mk (hi);(try clear hb);(try clear hb2);(try clear hk);(try clear hi))))
                go_roundg kj5
                case measure=>have:=HK1.out;have:=HJ5.out;omega
                case rel=>exact ⟨(((x1_1.extract 0 (t248:Int).toNat) ++ (strOfNums y254)) ++ (x1_1.extract ((ji32):Int).toNat x1_1.size)),(wrap64 (x7_1 - 1)),(t258),(t259),(by first|rfl|(simp;done)|(simp only [← hji32] <;> (first|rfl|simp))|(simp [*];done)),Yh,H',⟨by have:=HK1.out;have:=HJ5.out;omega⟩,⟨iIsS57⟩,⟨kB⟩,⟨bH⟩⟩
               ·rw [if_neg c35] at H
                exact absurd H (by simp)
              ·rw [if_neg c34] at H
               exact absurd H (by simp)
             ·rw [if_neg c33] at H
              exact absurd H (by simp)
            ·rw [if_neg c31] at H
             exact absurd H (by simp)
           ·rw [if_neg c30] at H
            exact absurd H (by simp)
          ·rw [if_neg c29] at H
           exact absurd H (by simp)
         ·rw [if_neg c28] at H
          have c28b0:(t257 == 1) = false:=beq_eq_false_iff_ne.mpr c28
          have c28b1:(t257 != 1) = true:=bne_iff_ne.mpr c28
          by_cases c42:0 ≤ t248
          ·rw [if_pos c42] at H
           have c42b0:=eq_true c42
           have c42b1:=decide_eq_true c42
           clear c42
           by_cases c43:t248 ≤ (x1_1.size:Int)
           ·rw [if_pos c43] at H
            have c43b0:=eq_true c43
            have c43b1:=decide_eq_true c43
            clear c43
            obtain ⟨ji44,hji44⟩:∃ j_:Int,(wrap64 (t248 + 1)) = j_:=⟨_,rfl⟩
            replace H:(if 0 ≤ (ji44) then (if (ji44) ≤ (x1_1.size:Int) then (if (x1_1.extract 0 (t248:Int).toNat).size + (x1_1.extract ((ji44):Int).toNat x1_1.size).size ≤ 9223372036854775807 then (spec_l1Cur_spoilt.l0 kj5 ((x1_1.extract 0 (t248:Int).toNat) ++ (x1_1.extract ((ji44):Int).toNat x1_1.size)) a2 (wrap64 (x7_1 - 1)) s0_0 t258 t259) else (none)) else (none)) else (none)) = some (r1,r2,r3):=by first|(rw [hji44] at H;exact H)|(simp only [hji44] at H ⊢;exact H)
            (try rw [hji44] at A9)
            (try rw [hji44] at A10)
            (try rw [hji44] at A14)
            have hji44w:(IntKind.i64.wrap (t248 + 1)) = ji44:=(i64_w _).trans hji44
            by_cases c45:0 ≤ (ji44)
            ·rw [if_pos c45] at H
             have c45b0:=eq_true c45
             have c45b1:=decide_eq_true c45
             clear c45
             by_cases c46:(ji44) ≤ (x1_1.size:Int)
             ·rw [if_pos c46] at H
              have c46b0:=eq_true c46
              have c46b1:=decide_eq_true c46
              clear c46
              by_cases c47:(x1_1.extract 0 (t248:Int).toNat).size + (x1_1.extract ((ji44):Int).toNat x1_1.size).size ≤ 9223372036854775807
              ·rw [if_pos c47] at H
               have c47b0:=eq_true c47
               have c47b1:=decide_eq_true c47
               try have c47b2:(9223372036854775807 < (x1_1.extract 0 (t248:Int).toNat).size + (x1_1.extract ((ji44):Int).toNat x1_1.size).size) = False:=eq_false (Nat.not_lt.2 c47)
               try (have e_:(x1_1.extract 0 (t248:Int).toNat).size = (t248:Int).toNat:=(by simp only [ByteArray.size_extract];have h_:t248 ≤ (x1_1.size:Int):=of_decide_eq_true (by assumption);omega);have c47b3:=c47b2;rw [e_] at c47b3)
               have H':=Aside0.mk H
               clear H
               go_wp2_with (first|(go_at_call 43;(with_reducible refine (spec_l1Cur_pick.calls g s0_0 x1001_1 x1002_1 (x1_1.size:Int) t248 t249 t250 w0 _ ?side1 ?side2 A9.out).mono ?_);(case side1=>exact iIsS57);(case side2=>exact bH);rintro e w48 ⟨rfl,hi,hb,hk⟩;replace HK:=Aside0.mk (KeepBut.trans kB hk (.inl rfl));replace HB:=Aside0.mk (hb);replace HI0:=Aside0.mk (hi);(try clear hb);(try clear hb2);(try clear hk);(try clear hi))|(go_at_call 43;(with_reducible refine (spec_l1Cur_pick.calls g s0_0 t249 t250 (a2.size:Int) t251 t252 t253 w0 _ ?side1 ?side2 A10.out).mono ?_);(case side1=>exact iIsS57);(case side2=>exact bH);rintro e w49 ⟨rfl,hi,hb,hk⟩;replace HK:=Aside0.mk (KeepBut.trans kB hk (.inl rfl));replace HB:=Aside0.mk (hb);replace HI0:=Aside0.mk (hi);(try clear hb);(try clear hb2);(try clear hk);(try clear hi);have p13:0 ≤ (t251:Int):=oD;have q13:t251 < (a2.size:Int):=oD;have hx13:=bt_at a2 t251;replace p13:=eq_true p13;replace q13:=eq_true q13)|((with_reducible refine gate_dst (N:=32) rfl ?_);(try (refine gate_guard (by rfl) ?_;dsimp only));refine Kd.R_lit (Kd.int .u8) _ 5 ?hg (N:=32) ?hd (xs:=([bt a2 t251]:List Int)) (inner:=[.int .u8 (bt a2 t251)]) (ok:=fun _=>True) (okp:=fun _=>True) ?hr ?hp (fun _ hk=>hk) trivial (Below.refl _ _) (Nat.le_refl _) (by simp) ?_;(case hd=>rfl);(case hg=>rfl);(case hr=>exact Yn);(case hp=>exact Yu);intro v255 w50 ho51 hb hg_ hnew_;clear hg_ hnew_;(first|rw [← Ny254.out] at ho51|(simp only [Int.reduceToNat] at ho51;rw [← Ny254.out] at ho51));have HO256:=Aside0.mk (Kd.R_lower ho51 (keep_size (w:=w) (g:=g) (row:=none) kB));replace HK:=Aside0.mk (KeepBut.trans kB (KeepBut.of_below hb g none) (.inl rfl));replace HB:=Aside0.mk (below_step bH hb);replace HI0:=Aside0.mk (IsS57.below iIsS57 hb);clear hb ho51;have hcv52:=own_string (P:=Try.prog) Try.underlying22 Try.underlying5 Try.underlying9 (Kd.own_of_R HO256.out))|(go_at_call 43;(with_reducible refine (spec_l1Cur_pick.calls g s0_0 t252 t253 3 t257 t258 t259 w0 _ ?side1 ?side2 A14.out).mono ?_);(case side1=>exact iIsS57);(case side2=>exact bH);rintro e w53 ⟨rfl,hi,hb,hk⟩;replace HO256:=Aside0.mk (Kd.R_mono (Kd.R_keep (IsS57.apart (show IsS57 w0 _ g s0_0 t252 t253 from iIsS57) (rR HO256) (by decide)) hk (fun _ h=>h.2)) (fun _ h=>h.1));replace HK:=Aside0.mk (KeepBut.trans kB hk (.inl rfl));replace HB:=Aside0.mk (hb);replace HI0:=Aside0.mk (hi);(try clear hb);(try clear hb2);(try clear hk);(try clear hi)))
               repeat (go_quiet (first|(go_at_call 43;(with_reducible refine (spec_l1Cur_pick.calls g s0_0 x1001_1 x1002_1 (x1_1.size:Int) t248 t249 t250 w0 _ ?side1 ?side2 A9.out).mono ?_);(case side1=>exact iIsS57);(case side2=>exact bH);rintro e w48 ⟨rfl,hi,hb,hk⟩;replace HK:=Aside0.mk (KeepBut.trans kB hk (.inl rfl));replace HB:=Aside0.mk (hb);replace HI0:=Aside0.mk (hi);(try clear hb);(try clear hb2);(try clear hk);(try clear hi))|(go_at_call 43;(with_reducible refine (spec_l1Cur_pick.calls g s0_0 t249 t250 (a2.size:Int) t251 t252 t253 w0 _ ?side1 ?side2 A10.out).mono ?_);(case side1=>exact iIsS57);(case side2=>exact bH);rintro e w49 ⟨rfl,hi,hb,hk⟩;replace HK:=Aside0.mk (KeepBut.trans kB hk (.inl rfl));replace HB:=Aside0.mk (hb);replace HI0:=Aside0.mk (hi);(try clear hb);(try clear hb2);(try clear hk);(try clear hi);have p13:0 ≤ (t251:Int):=oD;have q13:t251 < (a2.size:Int):=oD;have hx13:=bt_at a2 t251;replace p13:=eq_true p13;replace q13:=eq_true q13)|((with_reducible refine gate_dst (N:=32) rfl ?_);(try (refine gate_guard (by rfl) ?_;dsimp only));refine Kd.R_lit (Kd.int .u8) _ 5 ?hg (N:=32) ?hd (xs:=([bt a2 t251]:List Int)) (inner:=[.int .u8 (bt a2 t251)]) (ok:=fun _=>True) (okp:=fun _=>True) ?hr ?hp (fun _ hk=>hk) trivial (Below.refl _ _) (Nat.le_refl _) (by simp) ?_;(case hd=>rfl);(case hg=>rfl);(case hr=>exact Yn);(case hp=>exact Yu);intro v255 w50 ho51 hb hg_ hnew_;clear hg_ hnew_;(first|rw [← Ny254.out] at ho51|(simp only [Int.reduceToNat] at ho51;rw [← Ny254.out] at ho51));have HO256:=Aside0.mk (Kd.R_lower ho51 (keep_size (w:=w) (g:=g) (row:=none) kB));replace HK:=Aside0.mk (KeepBut.trans kB (KeepBut.of_below hb g none) (.inl rfl));replace HB:=Aside0.mk (below_step bH hb);replace HI0:=Aside0.mk (IsS57.below iIsS57 hb);clear hb ho51;have hcv52:=own_string (P:=Try.prog) Try.underlying22 Try.underlying5 Try.underlying9 (Kd.own_of_R HO256.out))|(go_at_call 43;(with_reducible refine (spec_l1Cur_pick.calls g s0_0 t252 t253 3 t257 t258 t259 w0 _ ?side1 ?side2 A14.out).mono ?_);(case side1=>exact iIsS57);(case side2=>exact bH);rintro e w53 ⟨rfl,hi,hb,hk⟩;replace HO256:=Aside0.mk (Kd.R_mono (Kd.R_keep (IsS57.apart (show IsS57 w0 _ g s0_0 t252 t253 from iIsS57) (rR HO256) (by decide)) hk (fun _ h=>h.2)) (fun _ h=>h.1));replace HK:=Aside0.mk (KeepBut.trans kB hk (.inl rfl));replace HB:=Aside0.mk (hb);replace HI0:=Aside0.mk (hi);(try clear hb);(try clear hb2);(try clear hk);(try clear hi)));try go_wp2_with (first|(go_at_call 43;(with_reducible refine (spec_l1Cur_pick.calls g s0_0 x1001_1 x1002_1 (x1_1.size:Int) t248 t249 t250 w0 _ ?side1 ?side2 A9.out).mono ?_);(case side1=>exact iIsS57);(case side2=>exact bH);rintro e w48 ⟨rfl,hi,hb,hk⟩;replace HK:=Aside0.mk (KeepBut.trans kB hk (.inl rfl));replace HB:=Aside0.mk (hb);replace HI0:=Aside0.mk (hi);(try clear hb);(try clear hb2);(try clear hk);(try clear hi))|(go_at_call 43;(with_reducible refine (spec_l1Cur_pick.calls g s0_0 t249 t250 (a2.size:Int) t251 t252 t253 w0 _ ?side1 ?side2 A10.out).mono ?_);(case side1=>exact iIsS57);(case side2=>exact bH);rintro e w49 ⟨rfl,hi,hb,hk⟩;replace HK:=Aside0.mk (KeepBut.trans kB hk (.inl rfl));replace HB:=Aside0.mk (hb);replace HI0:=Aside0.mk (hi);(try clear hb);(try clear hb2);(try clear hk);(try clear hi);have p13:0 ≤ (t251:Int):=oD;have q13:t251 < (a2.size:Int):=oD;have hx13:=bt_at a2 t251;replace p13:=eq_true p13;replace q13:=eq_true q13)|((with_reducible refine gate_dst (N:=32) rfl ?_);(try (refine gate_guard (by rfl) ?_;dsimp only));refine Kd.R_lit (Kd.int .u8) _ 5 ?hg (N:=32) ?hd (xs:=([bt a2 t251]:List Int)) (inner:=[.int .u8 (bt a2 t251)]) (ok:=fun _=>True) (okp:=fun _=>True) ?hr ?hp (fun _ hk=>hk) trivial (Below.refl _ _) (Nat.le_refl _) (by simp) ?_;(case hd=>rfl);(case hg=>rfl);(case hr=>exact Yn);(case hp=>exact Yu);intro v255 w50 ho51 hb hg_ hnew_;clear hg_ hnew_;(first|rw [← Ny254.out] at ho51|(simp only [Int.reduceToNat] at ho51;rw [← Ny254.out] at ho51));have HO256:=Aside0.mk (Kd.R_lower ho51 (keep_size (w:=w) (g:=g) (row:=none) kB));replace HK:=Aside0.mk (KeepBut.trans kB (KeepBut.of_below hb g none) (.inl rfl));replace HB:=Aside0.mk (below_step bH hb);replace HI0:=Aside0.mk (IsS57.below iIsS57 hb);clear hb ho51;have hcv52:=own_string (P:=Try.prog) Try.underlying22 Try.underlying5 Try.underlying9 (Kd.own_of_R HO256.out))|(go_at_call 43;(with_reducible refine (spec_l1Cur_pick.calls g s0_0 t252 t253 3 t257 t258 t259 w0 _ ?side1 ?side2 A14.out).mono ?_);(case side1=>exact iIsS57);(case side2=>exact bH);rintro e w53 ⟨rfl,hi,hb,hk⟩;replace HO256:=Aside0.mk (Kd.R_mono (Kd.R_keep (IsS57.apart (show IsS57 w0 _ g s0_0 t252 t253 from iIsS57) (rR HO256) (by decide)) hk (fun _ h=>h.2)) (fun _ h=>h.1));replace HK:=Aside0.mk (KeepBut.trans kB hk (.inl rfl));replace HB:=Aside0.mk (hb);replace HI0:=Aside0.mk (hi);(try clear hb);(try clear hb2);(try clear hk);(try clear hi))))
               go_roundg kj5
               case measure=>have:=HK1.out;have:=HJ5.out;omega
               case rel=>exact ⟨((x1_1.extract 0 (t248:Int).toNat) ++ (x1_1.extract ((ji44):Int).toNat x1_1.size)),(wrap64 (x7_1 - 1)),(t258),(t259),(by first|rfl|(simp;done)|(simp only [← hji44] <;> (first|rfl|simp))|(simp [*];done)),Yh,H',⟨by have:=HK1.out;have:=HJ5.out;omega⟩,⟨iIsS57⟩,⟨kB⟩,⟨bH⟩⟩
              ·rw [if_neg c47] at H
               exact absurd H (by simp)
             ·rw [if_neg c46] at H
              exact absurd H (by simp)
            ·rw [if_neg c45] at H
             exact absurd H (by simp)
           ·rw [if_neg c43] at H
            exact absurd H (by simp)
          ·rw [if_neg c42] at H
           exact absurd H (by simp)
       ·rw [if_neg c12] at H
        exact absurd H (by simp)
      ·rw [if_neg c11] at H
       exact absurd H (by simp)
     ·replace c8:=Bool.eq_false_iff.mpr c8
      subst c8
      have H1:(some (x1_1,x1001_1,x1002_1)) = some (r1,r2,r3):=by rw [if_neg (show ¬ (false = true) by decide)] at H;exact H
      clear H
      have H:=H1
      clear H1
      simp only [Option.some.injEq,Prod.mk.injEq] at H
      obtain ⟨rfl,rfl,rfl⟩:=H
      go_wp2
      repeat (go_quiet (fail);try go_wp2)
      go_ret
      exact ⟨Yb,iIsS57,bH,kB⟩

end Go.Proofs.Ytmgkflkfoccgkab.QFnDisk
