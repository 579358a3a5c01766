-- Written by this session's own program (wip/x/xprint.py, over the kit's printer); Lean checks it.
import Derived.Test.YtmgkflkfoccgkaaQFnPutForx0
import Derived.Test.YtmgkflkfoccgkaaQFnPutForx1
import Derived.Test.YtmgkflkfoccgkaaQFnPutForx2
import Derived.Test.YtmgkflkfoccgkaaQFnPutForx3
namespace Go.Proofs.Ytmgkflkfoccgkaa.QFnPutFor
open Go.RowKit Go.Proofs.YtmgkflkfoccgkaaW.PrintWords Go.Proofs.YtmgkflkfoccgkaaW.PrintLast Go.Proofs.YtmgkflkfoccgkaaW.PrintMore
attribute [local go_sem] max2_int min2_int max_two min_two max_three min_three max_four min_four   -- for this text's walks alone
set_option linter.unusedVariables false
set_option linter.unusedSimpArgs false

/-! ### spec_l1Cur_anyTerm: function 37 -/
def spec_l1Cur_anyTerm.f (k:Nat) (s0_0:List Int) (s0_1:Int) (s0_2:Int) (l1_0:List Int):Option (List Int × Int × Int):=(spec_l1Cur_pick.f s0_0 s0_1 s0_2 4).bind fun bt166=>((spec_l1Cur_term.f k s0_0 bt166.2.1 bt166.2.2 l1_0 (wrap64 (1 + bt166.1)) 3).bind fun bt169=>((spec_l1Cur_pick.f s0_0 bt169.2.1 bt169.2.2 40).bind fun bt174=>(if bt174.1 = 0 then (if bt169.1.length < 17592186044416 then (some ((bt169.1 ++ [1]),bt174.2.1,bt174.2.2)) else (none)) else (if bt174.1 = 1 then ((spec_l1Cur_among.f s0_0 bt174.2.1 bt174.2.2 (([(-13),(-12),10,9]:List Int))).bind fun bt183=>(if 0 < (bt169.1.length:Int) then (some ((bt169.1.set (0:Int).toNat bt183.1),bt183.2.1,bt183.2.2)) else (none))) else (if bt174.1 = 2 then (if 1 ≤ (bt169.1.length:Int) then (some ((bt169.1.drop (1:Int).toNat),bt174.2.1,bt174.2.2)) else (none)) else (some (bt169.1,bt174.2.1,bt174.2.2)))))))
theorem spec_l1Cur_anyTerm.mono:∀ a0 a1 a2 a3 k,LeO (spec_l1Cur_anyTerm.f k a0 a1 a2 a3) (spec_l1Cur_anyTerm.f (k + 1) a0 a1 a2 a3):=by
 intro a0 a1 a2 a3 k
 unfold spec_l1Cur_anyTerm.f
 have m0:=@spec_l1Cur_term.mono
 exact mO
set_option maxHeartbeats 8000000 in
set_option maxRecDepth 100000 in
theorem spec_l1Cur_anyTerm.calls (k:Nat) (g:Nat) (s0_0:List Int) (s0_1:Int) (s0_2:Int) (A1_0:Option Addr) (c1_0:Nat) (l1_0:List Int) (r1:List Int) (r2:Int) (r3:Int) (w0 w:World) (hI:IsS60 w0 w g s0_0 s0_1 s0_2) (hB:Below w0.heap.size w0 w) (hr1_0:Kd.C (Kd.int .i64) w A1_0 l1_0.length l1_0) (hc1_0:l1_0.length ≤ c1_0) (hf1_0:∀ ad,A1_0 = some ad → 0 < l1_0.length → ad.block ≠ g) (h:spec_l1Cur_anyTerm.f k s0_0 s0_1 s0_2 l1_0 = some (r1,r2,r3)) :
  Calls Try.prog 37 #[.pointer (some ⟨g,0,none⟩),.agg #[.slice A1_0 l1_0.length c1_0]] w fun e w'=>∃ v0_:Value,e = .returned (v0_) ∧ Kd.Q (Kd.int .i64) 3 w' w.heap.size (fun _=>True) v0_ r1 ∧ IsS60 w0 w' g s0_0 r2 r3 ∧ Below w0.heap.size w0 w' ∧ KeepBut w w' g none:=by
 have hu26:=Try.underlying26
 have HR1_0:=Aside0.mk hr1_0
 have HC1_0:=Aside0.mk hc1_0
 clear hr1_0 hc1_0
 have HI0:=Aside0.mk hI
 have HK:=Aside0.mk (KeepBut.refl w g none)
 have HL:=Aside0.mk hB.size
 clear hI
 have HW0:=Aside0.mk hB.size
 have HB:=Aside0.mk hB
 clear hB
 have H:((spec_l1Cur_pick.f s0_0 s0_1 s0_2 4).bind fun bt166=>((spec_l1Cur_term.f k s0_0 bt166.2.1 bt166.2.2 l1_0 (wrap64 (1 + bt166.1)) 3).bind fun bt169=>((spec_l1Cur_pick.f s0_0 bt169.2.1 bt169.2.2 40).bind fun bt174=>(if bt174.1 = 0 then (if bt169.1.length < 17592186044416 then (some ((bt169.1 ++ [1]),bt174.2.1,bt174.2.2)) else (none)) else (if bt174.1 = 1 then ((spec_l1Cur_among.f s0_0 bt174.2.1 bt174.2.2 (([(-13),(-12),10,9]:List Int))).bind fun bt183=>(if 0 < (bt169.1.length:Int) then (some ((bt169.1.set (0:Int).toNat bt183.1),bt183.2.1,bt183.2.2)) else (none))) else (if bt174.1 = 2 then (if 1 ≤ (bt169.1.length:Int) then (some ((bt169.1.drop (1:Int).toNat),bt174.2.1,bt174.2.2)) else (none)) else (some (bt169.1,bt174.2.1,bt174.2.2)))))))) = some (r1,r2,r3):=h
 clear h
 replace H:=Option.bind_eq_some_iff.mp H
 obtain ⟨⟨t166,t167,t168⟩,A30,H⟩:=H
 replace H:((spec_l1Cur_term.f k s0_0 t167 t168 l1_0 (wrap64 (1 + t166)) 3).bind fun bt169=>((spec_l1Cur_pick.f s0_0 bt169.2.1 bt169.2.2 40).bind fun bt174=>(if bt174.1 = 0 then (if bt169.1.length < 17592186044416 then (some ((bt169.1 ++ [1]),bt174.2.1,bt174.2.2)) else (none)) else (if bt174.1 = 1 then ((spec_l1Cur_among.f s0_0 bt174.2.1 bt174.2.2 (([(-13),(-12),10,9]:List Int))).bind fun bt183=>(if 0 < (bt169.1.length:Int) then (some ((bt169.1.set (0:Int).toNat bt183.1),bt183.2.1,bt183.2.2)) else (none))) else (if bt174.1 = 2 then (if 1 ≤ (bt169.1.length:Int) then (some ((bt169.1.drop (1:Int).toNat),bt174.2.1,bt174.2.2)) else (none)) else (some (bt169.1,bt174.2.1,bt174.2.2))))))) = some (r1,r2,r3):=H
 have A3:=Aside0.mk A30
 clear A30
 replace H:=Option.bind_eq_some_iff.mp H
 obtain ⟨⟨t169,t172,t173⟩,A40,H⟩:=H
 replace H:((spec_l1Cur_pick.f s0_0 t172 t173 40).bind fun bt174=>(if bt174.1 = 0 then (if t169.length < 17592186044416 then (some ((t169 ++ [1]),bt174.2.1,bt174.2.2)) else (none)) else (if bt174.1 = 1 then ((spec_l1Cur_among.f s0_0 bt174.2.1 bt174.2.2 (([(-13),(-12),10,9]:List Int))).bind fun bt183=>(if 0 < (t169.length:Int) then (some ((t169.set (0:Int).toNat bt183.1),bt183.2.1,bt183.2.2)) else (none))) else (if bt174.1 = 2 then (if 1 ≤ (t169.length:Int) then (some ((t169.drop (1:Int).toNat),bt174.2.1,bt174.2.2)) else (none)) else (some (t169,bt174.2.1,bt174.2.2)))))) = some (r1,r2,r3):=H
 have A4:=Aside0.mk A40
 clear A40
 replace H:=Option.bind_eq_some_iff.mp H
 obtain ⟨⟨t174,t175,t176⟩,A50,H⟩:=H
 replace H:(if t174 = 0 then (if t169.length < 17592186044416 then (some ((t169 ++ [1]),t175,t176)) else (none)) else (if t174 = 1 then ((spec_l1Cur_among.f s0_0 t175 t176 (([(-13),(-12),10,9]:List Int))).bind fun bt183=>(if 0 < (t169.length:Int) then (some ((t169.set (0:Int).toNat bt183.1),bt183.2.1,bt183.2.2)) else (none))) else (if t174 = 2 then (if 1 ≤ (t169.length:Int) then (some ((t169.drop (1:Int).toNat),t175,t176)) else (none)) else (some (t169,t175,t176))))) = some (r1,r2,r3):=H
 have A5:=Aside0.mk A50
 clear A50
 by_cases c6:t174 = 0
 ·rw [if_pos c6] at H
  have c6b0:(t174 == 0) = true:=beq_iff_eq.mpr c6
  have c6b1:(t174 != 0) = false:=bne_eq_false_iff_eq.mpr c6
  clear c6
  by_cases c7:t169.length < 17592186044416
  ·rw [if_pos c7] at H
   have LMc7:=Aside0.mk c7
   clear c7
   obtain ⟨y177,hy177⟩:∃ y_:List Int,y_ = (t169 ++ [1]):=⟨_,rfl⟩
   replace H:(some (y177,t175,t176)) = some (r1,r2,r3):=by first|(rw [hy177];with_reducible exact H)|(have H2_:=(Option.bind_some _ _).symm.trans H;rw [hy177];with_reducible exact H2_)|(have H2_:=(Option.bind_some _ _).symm.trans H;with_reducible exact H2_)|with_reducible exact H|(rw [hy177];exact H)|exact H
   have Ny177:=Aside0.mk hy177
   clear hy177
   simp only [Option.some.injEq,Prod.mk.injEq] at H
   obtain ⟨rfl,rfl,rfl⟩:=H
   go_enter Try.func37,Try.ntmps37
   try go_wp2_with (first|((with_reducible refine gate_dst (N:=3) rfl ?_);refine box_event ?hg (N:=3) ?hd (cs:=#[.slice A1_0 l1_0.length c1_0]) (t:=26) ?hr ?_;(case hd=>rfl);(case hg=>rfl);(case hr=>exact Yd);intro gb165 hg w8 hbox hb;replace HB:=Aside0.mk (below_step bH hb);have BK165:=Aside0.mk (hbox);have GW165:=Aside0.mk ((by rw [hg];exact (keep_size (w:=w) (g:=g) (row:=none) kB):w.heap.size ≤ gb165));have GE165:=Aside0.mk ((Nat.le_trans HW0.out (by rw [hg];exact (keep_size (w:=w) (g:=g) (row:=none) kB):w.heap.size ≤ gb165):w0.heap.size ≤ gb165));replace HK:=Aside0.mk (KeepBut.trans kB (KeepBut.of_below hb g none) (.inl rfl));have NB0_165:=Aside0.mk ((by rw [hg];exact Nat.ne_of_lt (IsS60.lt (show IsS60 w0 _ g s0_0 s0_1 s0_2 from iIsS60)):g ≠ gb165));have NB165_0:=Aside0.mk ((by rw [hg];exact Nat.ne_of_gt (IsS60.lt (show IsS60 w0 _ g s0_0 s0_1 s0_2 from iIsS60)):gb165 ≠ g));replace HI0:=Aside0.mk (IsS60.below iIsS60 hb);clear hb hbox hg))
   replace BK165:=Aside0.mk (blk_drew BK165.out);replace HI0:=Aside0.mk (IsS60.drew HI0.out);replace HK:=Aside0.mk (keep_drew HK.out);replace HB:=Aside0.mk (below_drew1 HB.out)
   refine start_ (n:=7) (S:=fun w'=>w'.cell? ⟨gb165,0,none⟩ = some (.slice A1_0 l1_0.length c1_0)) (ds:=[]) #[false,false,false,false,false,false,false] (by kernel_rfl) rfl rfl ((blk_cell BK165.out 0).trans rfl) (fun hHeld=>?_)
   generalize w8.drew = w9 at BK165 HI0 HK HB hHeld ⊢
   refine pU (i:=0) (N:=some 6) #[true,false,false,false,false,false,false] (by kernel_rfl) ?_
   refine pU (i:=2) (N:=some 8) #[true,false,true,false,false,false,false] (by kernel_rfl) ?_
   refine tK1 (i:=1) (N:=some 7) #[true,true,true,false,false,false,false] (by kernel_rfl) hHeld ?_
   refine one_ (i:=3) (N:=some 9) #[true,true,true,true,false,false,false] rfl rfl (by kernel_rfl) (by decide) (fun K hK=>?_)
   refine goes_ Try.func73 (by kernel_rfl) rfl #[.pointer (some ⟨g,0,none⟩),.int .i64 4] (by rfl) rfl rfl Ya ?_
   with_reducible refine (spec_l1Cur_pick.calls g s0_0 s0_1 s0_2 4 t166 t167 t168 w0 _ ?side1 ?side2 A3.out).mono ?_
   (case side1=>exact iIsS60)
   (case side2=>exact bH)
   rintro e w10 ⟨rfl,hi,hb,hk⟩
   refine ⟨_,rfl,?_⟩
   replace BK165:=Aside0.mk (KeepBut.blk hk (g':=gb165) (o:=.cells #[.slice A1_0 l1_0.length c1_0] 26 (0,0)) (bB BK165) NB165_0.out (by simp));replace HK:=Aside0.mk (KeepBut.trans kB hk (.inl rfl));replace HB:=Aside0.mk (hb);replace HI0:=Aside0.mk (hi)
   (try clear hb)
   (try clear hb2)
   (try clear hk)
   (try clear hi)
   refine hK.out _ _ ((blk_cell BK165.out 0).trans rfl) (fun hHeld=>?_)
   clear hK K
   refine nM (N:=some 9) ?_
   refine pU (i:=4) (N:=some 10) #[true,true,true,true,true,false,false] (by kernel_rfl) ?_
   refine one_ (i:=5) (N:=some 11) #[true,true,true,true,true,true,false] rfl rfl (by kernel_rfl) (by decide) (fun K hK=>?_)
   refine goes_ Try.func74 (by kernel_rfl) rfl #[.pointer (some ⟨g,0,none⟩),.agg #[.slice A1_0 l1_0.length c1_0],.int .i64 (wrap64 (1 + t166)),.int .i64 3] (by rfl) rfl rfl Ya ?_
   with_reducible refine (spec_l1Cur_term.calls k g s0_0 t167 t168 _ _ l1_0 (wrap64 (1 + t166)) 3 t169 t172 t173 w0 _ ?side1 ?side2 ?side3 ?side4 ?side5 A4.out).mono ?_
   (case side1=>exact iIsS60)
   (case side2=>exact bH)
   (case side3=>exact YF)
   (case side4=>exact Zh)
   (case side5=>exact hf1_0)
   rintro e w11 ⟨v170,rfl,ho0,hi,hb,hk⟩
   refine ⟨_,rfl,?_⟩
   replace BK165:=Aside0.mk (KeepBut.blk hk (g':=gb165) (o:=.cells #[.slice A1_0 l1_0.length c1_0] 26 (0,0)) (bB BK165) NB165_0.out (by simp));have HO171:=Aside0.mk (Kd.R_lower ho0 (keep_size (w:=w) (g:=g) (row:=none) kB));replace HK:=Aside0.mk (KeepBut.trans kB hk (.inl rfl));replace HB:=Aside0.mk (hb);replace HI0:=Aside0.mk (hi)
   (try clear hb)
   (try clear hb2)
   (try clear hk)
   (try clear hi)
   (try clear ho0)
   refine hK.out _ _ ((blk_cell BK165.out 0).trans rfl) (fun hHeld=>?_)
   clear hK K
   refine nM (N:=some 11) ?_
   refine pU (i:=6) (N:=some 5) #[true,true,true,true,true,true,true] (by kernel_rfl) ?_
   refine done_ (by kernel_rfl) ?_
   try go_wp2_with (first|((with_reducible refine gate_callee (f:=73) rfl ?_);refine goesL_ (some 13) rfl rfl Try.func73 (by kernel_rfl) rfl #[.pointer (some ⟨g,0,none⟩),.int .i64 40] rfl Ya ?_;(with_reducible refine (spec_l1Cur_pick.calls g s0_0 t172 t173 40 t174 t175 t176 w0 _ ?side1 ?side2 A5.out).mono ?_);(case side1=>exact iIsS60);(case side2=>exact bH);rintro e w12 ⟨rfl,hi,hb,hk⟩;refine ⟨_,rfl,?_⟩;replace BK165:=Aside0.mk (KeepBut.blk hk (g':=gb165) (o:=.cells #[.slice A1_0 l1_0.length c1_0] 26 (0,0)) (bB BK165) NB165_0.out (by simp));replace HO171:=Aside0.mk (Kd.R_mono (Kd.R_keep (IsS60.apart (show IsS60 w0 _ g s0_0 t172 t173 from iIsS60) (rR HO171) (by decide)) hk (fun _ h=>h.2)) (fun _ h=>h.1));replace HK:=Aside0.mk (KeepBut.trans kB hk (.inl rfl));replace HB:=Aside0.mk (hb);replace HI0:=Aside0.mk (hi);(try clear hb);(try clear hb2);(try clear hk);(try clear hi))|((with_reducible refine gate_builtin (b:=.append) (xs:=#[.tmp 16,.tmp 17]) rfl ?_);at_builtin;refine Kd.R_append (Kd.int .i64) w.heap.size rfl (.tmp 16) (.tmp 17) 24 3 (.int .i64 0) 8 rfl Try.underlying24 info3 rfl (by decide) Zc v170 t169 1 [.int .i64 1] (fun _=>True) (fun _=>False) rfl rfl ?aP (fun _ hk=>hk.elim) ?aF ?aO (Below.refl _ _) ?aS ?aL ?_;(case aP=>exact rfl);(case aF=>exact YW);(case aO=>exact (rR HO171));(case aS=>exact YO);(case aL=>have:=LMc7.out;omega);intro v178 w13 ho hb hg hat;rw [← Ny177.out] at ho;have n0_:=Aside0.mk (IsS60.grown iIsS60 hg (IsS60.own_ne HI0.out HO171.out (by decide)));have n1_:=Aside0.mk (blk_grown (bB BK165) hg (Kd.R_ne HO171.out BK165.out (by decide)));have n2_:=Aside0.mk (below_weaken bH HL.out hb);have n3_:=Aside0.mk (KeepBut.trans kB (KeepBut.of_grown hg g) (Kd.R_base2 HO171.out));have n4_:=Aside0.mk (ho);clear HI0;clear BK165;clear HB;clear HK;clear HO171;have HI0:=n0_;have BK165:=n1_;have HB:=n2_;have HK:=n3_;have HO179:=n4_;clear n0_ n1_ n2_ n3_ n4_;clear ho hb hg hat))
   go_ret
   exact ⟨_,Yb,Kd.Q_of_R (rR HO179),iIsS60,bH,kB⟩
  ·rw [if_neg c7] at H
   exact absurd H (by simp)
 ·rw [if_neg c6] at H
  have c6b0:(t174 == 0) = false:=beq_eq_false_iff_ne.mpr c6
  have c6b1:(t174 != 0) = true:=bne_iff_ne.mpr c6
  by_cases c14:t174 = 1
  ·rw [if_pos c14] at H
   have c14b0:(t174 == 1) = true:=beq_iff_eq.mpr c14
   have c14b1:(t174 != 1) = false:=bne_eq_false_iff_eq.mpr c14
   clear c14
   obtain ⟨y180,hy180⟩:∃ y_:List Int,y_ = (([(-13),(-12),10,9]:List Int)):=⟨_,rfl⟩
   replace H:((spec_l1Cur_among.f s0_0 t175 t176 y180).bind fun bt183=>(if 0 < (t169.length:Int) then (some ((t169.set (0:Int).toNat bt183.1),bt183.2.1,bt183.2.2)) else (none))) = some (r1,r2,r3):=by first|(rw [hy180];with_reducible exact H)|(have H2_:=(Option.bind_some _ _).symm.trans H;rw [hy180];with_reducible exact H2_)|(have H2_:=(Option.bind_some _ _).symm.trans H;with_reducible exact H2_)|with_reducible exact H|(rw [hy180];exact H)|exact H
   have Ny180:=Aside0.mk hy180
   clear hy180
   replace H:=Option.bind_eq_some_iff.mp H
   obtain ⟨⟨t183,t184,t185⟩,A150,H⟩:=H
   replace H:(if 0 < (t169.length:Int) then (some ((t169.set (0:Int).toNat t183),t184,t185)) else (none)) = some (r1,r2,r3):=H
   have A15:=Aside0.mk A150
   clear A150
   by_cases c16:0 < (t169.length:Int)
   ·rw [if_pos c16] at H
    have c16b0:=decide_eq_true c16
    have c16b1:decide (0 < t169.length) = true:=decide_eq_true (by omega)
    clear c16
    obtain ⟨y186,hy186⟩:∃ y_:List Int,y_ = (t169.set (0:Int).toNat t183):=⟨_,rfl⟩
    replace H:(some (y186,t184,t185)) = some (r1,r2,r3):=by first|(rw [hy186];with_reducible exact H)|(have H2_:=(Option.bind_some _ _).symm.trans H;rw [hy186];with_reducible exact H2_)|(have H2_:=(Option.bind_some _ _).symm.trans H;with_reducible exact H2_)|with_reducible exact H|(rw [hy186];exact H)|exact H
    have Ny186:=Aside0.mk hy186
    clear hy186
    simp only [Option.some.injEq,Prod.mk.injEq] at H
    obtain ⟨rfl,rfl,rfl⟩:=H
    go_enter Try.func37,Try.ntmps37
    try go_wp2_with (first|((with_reducible refine gate_dst (N:=3) rfl ?_);refine box_event ?hg (N:=3) ?hd (cs:=#[.slice A1_0 l1_0.length c1_0]) (t:=26) ?hr ?_;(case hd=>rfl);(case hg=>rfl);(case hr=>exact Yd);intro gb165 hg w18 hbox hb;replace HB:=Aside0.mk (below_step bH hb);have BK165:=Aside0.mk (hbox);have GW165:=Aside0.mk ((by rw [hg];exact (keep_size (w:=w) (g:=g) (row:=none) kB):w.heap.size ≤ gb165));have GE165:=Aside0.mk ((Nat.le_trans HW0.out (by rw [hg];exact (keep_size (w:=w) (g:=g) (row:=none) kB):w.heap.size ≤ gb165):w0.heap.size ≤ gb165));replace HK:=Aside0.mk (KeepBut.trans kB (KeepBut.of_below hb g none) (.inl rfl));have NB0_165:=Aside0.mk ((by rw [hg];exact Nat.ne_of_lt (IsS60.lt (show IsS60 w0 _ g s0_0 s0_1 s0_2 from iIsS60)):g ≠ gb165));have NB165_0:=Aside0.mk ((by rw [hg];exact Nat.ne_of_gt (IsS60.lt (show IsS60 w0 _ g s0_0 s0_1 s0_2 from iIsS60)):gb165 ≠ g));replace HI0:=Aside0.mk (IsS60.below iIsS60 hb);clear hb hbox hg))
    replace BK165:=Aside0.mk (blk_drew BK165.out);replace HI0:=Aside0.mk (IsS60.drew HI0.out);replace HK:=Aside0.mk (keep_drew HK.out);replace HB:=Aside0.mk (below_drew1 HB.out)
    refine start_ (n:=7) (S:=fun w'=>w'.cell? ⟨gb165,0,none⟩ = some (.slice A1_0 l1_0.length c1_0)) (ds:=[]) #[false,false,false,false,false,false,false] (by kernel_rfl) rfl rfl ((blk_cell BK165.out 0).trans rfl) (fun hHeld=>?_)
    generalize w18.drew = w19 at BK165 HI0 HK HB hHeld ⊢
    refine pU (i:=0) (N:=some 6) #[true,false,false,false,false,false,false] (by kernel_rfl) ?_
    refine pU (i:=2) (N:=some 8) #[true,false,true,false,false,false,false] (by kernel_rfl) ?_
    refine tK1 (i:=1) (N:=some 7) #[true,true,true,false,false,false,false] (by kernel_rfl) hHeld ?_
    refine one_ (i:=3) (N:=some 9) #[true,true,true,true,false,false,false] rfl rfl (by kernel_rfl) (by decide) (fun K hK=>?_)
    refine goes_ Try.func73 (by kernel_rfl) rfl #[.pointer (some ⟨g,0,none⟩),.int .i64 4] (by rfl) rfl rfl Ya ?_
    with_reducible refine (spec_l1Cur_pick.calls g s0_0 s0_1 s0_2 4 t166 t167 t168 w0 _ ?side1 ?side2 A3.out).mono ?_
    (case side1=>exact iIsS60)
    (case side2=>exact bH)
    rintro e w20 ⟨rfl,hi,hb,hk⟩
    refine ⟨_,rfl,?_⟩
    replace BK165:=Aside0.mk (KeepBut.blk hk (g':=gb165) (o:=.cells #[.slice A1_0 l1_0.length c1_0] 26 (0,0)) (bB BK165) NB165_0.out (by simp));replace HK:=Aside0.mk (KeepBut.trans kB hk (.inl rfl));replace HB:=Aside0.mk (hb);replace HI0:=Aside0.mk (hi)
    (try clear hb)
    (try clear hb2)
    (try clear hk)
    (try clear hi)
    refine hK.out _ _ ((blk_cell BK165.out 0).trans rfl) (fun hHeld=>?_)
    clear hK K
    refine nM (N:=some 9) ?_
    refine pU (i:=4) (N:=some 10) #[true,true,true,true,true,false,false] (by kernel_rfl) ?_
    refine one_ (i:=5) (N:=some 11) #[true,true,true,true,true,true,false] rfl rfl (by kernel_rfl) (by decide) (fun K hK=>?_)
    refine goes_ Try.func74 (by kernel_rfl) rfl #[.pointer (some ⟨g,0,none⟩),.agg #[.slice A1_0 l1_0.length c1_0],.int .i64 (wrap64 (1 + t166)),.int .i64 3] (by rfl) rfl rfl Ya ?_
    with_reducible refine (spec_l1Cur_term.calls k g s0_0 t167 t168 _ _ l1_0 (wrap64 (1 + t166)) 3 t169 t172 t173 w0 _ ?side1 ?side2 ?side3 ?side4 ?side5 A4.out).mono ?_
    (case side1=>exact iIsS60)
    (case side2=>exact bH)
    (case side3=>exact YF)
    (case side4=>exact Zh)
    (case side5=>exact hf1_0)
    rintro e w21 ⟨v170,rfl,ho0,hi,hb,hk⟩
    refine ⟨_,rfl,?_⟩
    replace BK165:=Aside0.mk (KeepBut.blk hk (g':=gb165) (o:=.cells #[.slice A1_0 l1_0.length c1_0] 26 (0,0)) (bB BK165) NB165_0.out (by simp));have HO171:=Aside0.mk (Kd.R_lower ho0 (keep_size (w:=w) (g:=g) (row:=none) kB));replace HK:=Aside0.mk (KeepBut.trans kB hk (.inl rfl));replace HB:=Aside0.mk (hb);replace HI0:=Aside0.mk (hi)
    (try clear hb)
    (try clear hb2)
    (try clear hk)
    (try clear hi)
    (try clear ho0)
    refine hK.out _ _ ((blk_cell BK165.out 0).trans rfl) (fun hHeld=>?_)
    clear hK K
    refine nM (N:=some 11) ?_
    refine pU (i:=6) (N:=some 5) #[true,true,true,true,true,true,true] (by kernel_rfl) ?_
    refine done_ (by kernel_rfl) ?_
    try go_wp2_with (first|((with_reducible refine gate_callee (f:=73) rfl ?_);refine goesL_ (some 13) rfl rfl Try.func73 (by kernel_rfl) rfl #[.pointer (some ⟨g,0,none⟩),.int .i64 40] rfl Ya ?_;(with_reducible refine (spec_l1Cur_pick.calls g s0_0 t172 t173 40 t174 t175 t176 w0 _ ?side1 ?side2 A5.out).mono ?_);(case side1=>exact iIsS60);(case side2=>exact bH);rintro e w22 ⟨rfl,hi,hb,hk⟩;refine ⟨_,rfl,?_⟩;replace BK165:=Aside0.mk (KeepBut.blk hk (g':=gb165) (o:=.cells #[.slice A1_0 l1_0.length c1_0] 26 (0,0)) (bB BK165) NB165_0.out (by simp));replace HO171:=Aside0.mk (Kd.R_mono (Kd.R_keep (IsS60.apart (show IsS60 w0 _ g s0_0 t172 t173 from iIsS60) (rR HO171) (by decide)) hk (fun _ h=>h.2)) (fun _ h=>h.1));replace HK:=Aside0.mk (KeepBut.trans kB hk (.inl rfl));replace HB:=Aside0.mk (hb);replace HI0:=Aside0.mk (hi);(try clear hb);(try clear hb2);(try clear hk);(try clear hi))|((with_reducible refine gate_dst (N:=23) rfl ?_);refine Kd.R_lit (Kd.int .i64) _ 3 ?hg (N:=23) ?hd (xs:=([(-13),(-12),10,9]:List Int)) (inner:=[.int .i64 (-13),.int .i64 (-12),.int .i64 10,.int .i64 9]) (ok:=fun _=>True) (okp:=fun _=>True) ?hr ?hp (fun _ hk=>hk) trivial (Below.refl _ _) (Nat.le_refl _) (by simp) ?_;(case hd=>rfl);(case hg=>rfl);(case hr=>exact Yd);(case hp=>exact (Reps.one (show Kd.M (Kd.int .i64) _ _ _ (-13) [.int .i64 (-13)] from rfl) (Reps.one (show Kd.M (Kd.int .i64) _ _ _ (-12) [.int .i64 (-12)] from rfl) (Reps.one (show Kd.M (Kd.int .i64) _ _ _ 10 [.int .i64 10] from rfl) (Reps.one (show Kd.M (Kd.int .i64) _ _ _ 9 [.int .i64 9] from rfl) (Reps.none _ _))))));intro v181 w23 ho24 hb hg_ hnew_;clear hg_ hnew_;(first|rw [← Ny180.out] at ho24|(simp only [Int.reduceToNat] at ho24;rw [← Ny180.out] at ho24));have HO182:=Aside0.mk (Kd.R_lower (Kd.R_new' ho24 (Kd.R_lt (rR HO171))) (keep_size (w:=w) (g:=g) (row:=none) kB));replace HO171:=Aside0.mk (Kd.R_elder' (rR HO171) (Kd.R_base ho24) hb);replace BK165:=Aside0.mk (blk_below (bB BK165) hb);replace HK:=Aside0.mk (KeepBut.trans kB (KeepBut.of_below hb g none) (.inl rfl));replace HB:=Aside0.mk (below_step bH hb);replace HI0:=Aside0.mk (IsS60.below iIsS60 hb);clear hb ho24;obtain ⟨Ao25,co25,eo25⟩:=Kd.R_slice HO182.out;subst eo25)|((with_reducible refine gate_callee (f:=76) rfl ?_);refine goesL_ (some 24) rfl rfl Try.func76 (by kernel_rfl) rfl #[.pointer (some ⟨g,0,none⟩),.slice Ao25 y180.length co25] rfl Ya ?_;(with_reducible refine (spec_l1Cur_among.calls g s0_0 t175 t176 _ _ y180 t183 t184 t185 w0 _ ?side1 ?side2 ?side3 ?side4 ?side5 A15.out).mono ?_);(case side1=>exact iIsS60);(case side2=>exact bH);(case side3=>repeat (first|exact (Kd.R_reads' HO182.out).2.2|(with_reducible refine Kd.C_alloc ?_ _)|(with_reducible refine Kd.C_drewN ?_ _)|(with_reducible refine Kd.C_drew ?_)));(case side4=>exact (Kd.R_reads' HO182.out).2.1);(case side5=>exact far_slice (IsS60.own_ne HI0.out HO182.out (by decide)));rintro e w26 ⟨rfl,hi,hb,hk⟩;refine ⟨_,rfl,?_⟩;replace BK165:=Aside0.mk (KeepBut.blk hk (g':=gb165) (o:=.cells #[.slice A1_0 l1_0.length c1_0] 26 (0,0)) (bB BK165) NB165_0.out (by simp));replace HO171:=Aside0.mk (Kd.R_mono (Kd.R_keep (IsS60.apart (show IsS60 w0 _ g s0_0 t175 t176 from iIsS60) (rR HO171) (by decide)) hk (fun _ h=>h.2)) (fun _ h=>h.1));replace HO182:=Aside0.mk (Kd.R_mono (Kd.R_keep (IsS60.apart (show IsS60 w0 _ g s0_0 t175 t176 from iIsS60) (rR HO182) (by decide)) hk (fun _ h=>h.2)) (fun _ h=>h.1));replace HK:=Aside0.mk (KeepBut.trans kB hk (.inl rfl));replace HB:=Aside0.mk (hb);replace HI0:=Aside0.mk (hi);(try clear hb);(try clear hb2);(try clear hk);(try clear hi);have p17:0 ≤ (0:Int):=(by omega);have q17:(0:Int) < ((t169.length:Int):Int):=oD;have qi17:(0 < t169.length) = True:=eq_true (by omega);obtain ⟨go17,co17,eo17,gb17,gl17,cl17,HG17⟩:=Kd.R_form HO171.out (by omega);(first|cases eo17|(injection eo17 with ea_ en_ ec_;(first|subst ea_|(injection ea_ with ea_;subst ea_));subst ec_;clear en_));have GB17:=Aside0.mk gb17;have GG17:=Aside0.mk HG17;clear gb17 gl17 HG17;obtain ⟨hx17_0,hf17_0⟩:=Kd.R_celln 0 HO171.out (0:Int) p17 q17;(try rw [show ((0:Int)).toNat = 0 from rfl] at hx17_0);(try simp only [Nat.reduceMul,Nat.zero_mul,Nat.zero_add,Nat.reduceAdd] at hx17_0);(try rw [show ((0:Int)).toNat = 0 from rfl] at hf17_0);(try simp only [Nat.reduceMul,Nat.zero_mul,Nat.zero_add,Nat.reduceAdd] at hf17_0);replace p17:=eq_true p17;replace q17:=eq_true q17;have n_:=Aside0.mk (Kd.R_mono (ok':=(fun k_=>some k_ ≠ (.slice Ao25 y180.length co25:Value).ownBlock)) HO171.out (fun k_ hk=>hk.2));clear HO171;have HO171:=n_;clear n_;obtain ⟨hy27_,hz27_⟩:=Kd.R_celln 0 HO171.out (0:Int) (by omega) (oD);(try simp only [Int.reduceToNat,Int.toNat_zero,Int.toNat_ofNat,Nat.reduceMul,Nat.zero_mul,Nat.zero_add] at hy27_ hz27_);(try rw [show ((0:Int)).toNat = 0 from rfl] at hy27_);(try rw [show ((0:Int)).toNat = 0 from rfl] at hz27_);have HP27:=Kd.R_putg HO171.out (0:Int) t183)|((with_reducible refine gate_store (t:=3) (p:=25) rfl ?_);refine store_event (t:=3) (p:=25) (v:=?vo_w28) (w1:=(w26.setCell ⟨go17,(0:Int).toNat,none⟩ (.int .i64 t183))) ?hg ?ho ?hn ?hr ?_;(case ho=>rfl);(case hg=>rfl);(case hn=>rfl);(case hr=>exact Yd);intro w28 hw;have hg:w26.grownBy w28 (some go17):=(by rw [hw];exact HP27.2);have hp_:Kd.R (Kd.int .i64) 3 w28 w.heap.size (fun k_=>some k_ ≠ (.slice Ao25 y180.length co25:Value).ownBlock) (.slice (some ⟨go17,0,none⟩) t169.length co17) y186:=(by rw [hw,Ny186.out];exact HP27.1);clear HP27;replace HI0:=Aside0.mk (IsS60.grown iIsS60 hg (IsS60.own_ne HI0.out HO171.out (by decide)));replace BK165:=Aside0.mk (blk_grown (bB BK165) hg (Kd.R_ne HO171.out BK165.out (by decide)));replace HO182:=Aside0.mk (Kd.R_after (v:=(.slice (some ⟨go17,0,none⟩) t169.length co17)) (v1:=(.slice (some ⟨go17,0,none⟩) t169.length co17)) (ok:=(fun _=>True)) (rR HO182) hg (.inl rfl));replace HB:=Aside0.mk ((by rw [hw];exact below_set (HB.out) (Nat.le_trans HL.out GB17.out):Below w0.heap.size w0 w28));replace HK:=Aside0.mk (KeepBut.trans kB (KeepBut.of_grown hg g) (Kd.R_base2 HO171.out));replace HO171:=Aside0.mk (hp_);clear hg hw hp_))
    go_ret
    exact ⟨_,Yb,Kd.Q_of_R (by (with_reducible repeat (first|apply Kd.R_alloc|apply Kd.R_drewN|apply Kd.R_drew));exact Kd.R_mono HO171.out (fun _ hk=>trivial)),iIsS60,bH,kB⟩
   ·rw [if_neg c16] at H
    exact absurd H (by simp)
  ·rw [if_neg c14] at H
   have c14b0:(t174 == 1) = false:=beq_eq_false_iff_ne.mpr c14
   have c14b1:(t174 != 1) = true:=bne_iff_ne.mpr c14
   by_cases c29:t174 = 2
   ·rw [if_pos c29] at H
    have c29b0:(t174 == 2) = true:=beq_iff_eq.mpr c29
    have c29b1:(t174 != 2) = false:=bne_eq_false_iff_eq.mpr c29
    clear c29
    by_cases c30:1 ≤ (t169.length:Int)
    ·rw [if_pos c30] at H
     have c30b0:=eq_true c30
     have c30b1:=decide_eq_true c30
     clear c30
     obtain ⟨y187,hy187⟩:∃ y_:List Int,y_ = (t169.drop (1:Int).toNat):=⟨_,rfl⟩
     replace H:(some (y187,t175,t176)) = some (r1,r2,r3):=by first|(rw [hy187];with_reducible exact H)|(have H2_:=(Option.bind_some _ _).symm.trans H;rw [hy187];with_reducible exact H2_)|(have H2_:=(Option.bind_some _ _).symm.trans H;with_reducible exact H2_)|with_reducible exact H|(rw [hy187];exact H)|exact H
     have Ny187:=Aside0.mk hy187
     clear hy187
     simp only [Option.some.injEq,Prod.mk.injEq] at H
     obtain ⟨rfl,rfl,rfl⟩:=H
     go_enter Try.func37,Try.ntmps37
     try go_wp2_with (first|((with_reducible refine gate_dst (N:=3) rfl ?_);refine box_event ?hg (N:=3) ?hd (cs:=#[.slice A1_0 l1_0.length c1_0]) (t:=26) ?hr ?_;(case hd=>rfl);(case hg=>rfl);(case hr=>exact Yd);intro gb165 hg w31 hbox hb;replace HB:=Aside0.mk (below_step bH hb);have BK165:=Aside0.mk (hbox);have GW165:=Aside0.mk ((by rw [hg];exact (keep_size (w:=w) (g:=g) (row:=none) kB):w.heap.size ≤ gb165));have GE165:=Aside0.mk ((Nat.le_trans HW0.out (by rw [hg];exact (keep_size (w:=w) (g:=g) (row:=none) kB):w.heap.size ≤ gb165):w0.heap.size ≤ gb165));replace HK:=Aside0.mk (KeepBut.trans kB (KeepBut.of_below hb g none) (.inl rfl));have NB0_165:=Aside0.mk ((by rw [hg];exact Nat.ne_of_lt (IsS60.lt (show IsS60 w0 _ g s0_0 s0_1 s0_2 from iIsS60)):g ≠ gb165));have NB165_0:=Aside0.mk ((by rw [hg];exact Nat.ne_of_gt (IsS60.lt (show IsS60 w0 _ g s0_0 s0_1 s0_2 from iIsS60)):gb165 ≠ g));replace HI0:=Aside0.mk (IsS60.below iIsS60 hb);clear hb hbox hg))
     replace BK165:=Aside0.mk (blk_drew BK165.out);replace HI0:=Aside0.mk (IsS60.drew HI0.out);replace HK:=Aside0.mk (keep_drew HK.out);replace HB:=Aside0.mk (below_drew1 HB.out)
     refine start_ (n:=7) (S:=fun w'=>w'.cell? ⟨gb165,0,none⟩ = some (.slice A1_0 l1_0.length c1_0)) (ds:=[]) #[false,false,false,false,false,false,false] (by kernel_rfl) rfl rfl ((blk_cell BK165.out 0).trans rfl) (fun hHeld=>?_)
     generalize w31.drew = w32 at BK165 HI0 HK HB hHeld ⊢
     refine pU (i:=0) (N:=some 6) #[true,false,false,false,false,false,false] (by kernel_rfl) ?_
     refine pU (i:=2) (N:=some 8) #[true,false,true,false,false,false,false] (by kernel_rfl) ?_
     refine tK1 (i:=1) (N:=some 7) #[true,true,true,false,false,false,false] (by kernel_rfl) hHeld ?_
     refine one_ (i:=3) (N:=some 9) #[true,true,true,true,false,false,false] rfl rfl (by kernel_rfl) (by decide) (fun K hK=>?_)
     refine goes_ Try.func73 (by kernel_rfl) rfl #[.pointer (some ⟨g,0,none⟩),.int .i64 4] (by rfl) rfl rfl Ya ?_
     with_reducible refine (spec_l1Cur_pick.calls g s0_0 s0_1 s0_2 4 t166 t167 t168 w0 _ ?side1 ?side2 A3.out).mono ?_
     (case side1=>exact iIsS60)
     (case side2=>exact bH)
     rintro e w33 ⟨rfl,hi,hb,hk⟩
     refine ⟨_,rfl,?_⟩
     replace BK165:=Aside0.mk (KeepBut.blk hk (g':=gb165) (o:=.cells #[.slice A1_0 l1_0.length c1_0] 26 (0,0)) (bB BK165) NB165_0.out (by simp));replace HK:=Aside0.mk (KeepBut.trans kB hk (.inl rfl));replace HB:=Aside0.mk (hb);replace HI0:=Aside0.mk (hi)
     (try clear hb)
     (try clear hb2)
     (try clear hk)
     (try clear hi)
     refine hK.out _ _ ((blk_cell BK165.out 0).trans rfl) (fun hHeld=>?_)
     clear hK K
     refine nM (N:=some 9) ?_
     refine pU (i:=4) (N:=some 10) #[true,true,true,true,true,false,false] (by kernel_rfl) ?_
     refine one_ (i:=5) (N:=some 11) #[true,true,true,true,true,true,false] rfl rfl (by kernel_rfl) (by decide) (fun K hK=>?_)
     refine goes_ Try.func74 (by kernel_rfl) rfl #[.pointer (some ⟨g,0,none⟩),.agg #[.slice A1_0 l1_0.length c1_0],.int .i64 (wrap64 (1 + t166)),.int .i64 3] (by rfl) rfl rfl Ya ?_
     with_reducible refine (spec_l1Cur_term.calls k g s0_0 t167 t168 _ _ l1_0 (wrap64 (1 + t166)) 3 t169 t172 t173 w0 _ ?side1 ?side2 ?side3 ?side4 ?side5 A4.out).mono ?_
     (case side1=>exact iIsS60)
     (case side2=>exact bH)
     (case side3=>exact YF)
     (case side4=>exact Zh)
     (case side5=>exact hf1_0)
     rintro e w34 ⟨v170,rfl,ho0,hi,hb,hk⟩
     refine ⟨_,rfl,?_⟩
     replace BK165:=Aside0.mk (KeepBut.blk hk (g':=gb165) (o:=.cells #[.slice A1_0 l1_0.length c1_0] 26 (0,0)) (bB BK165) NB165_0.out (by simp));have HO171:=Aside0.mk (Kd.R_lower ho0 (keep_size (w:=w) (g:=g) (row:=none) kB));replace HK:=Aside0.mk (KeepBut.trans kB hk (.inl rfl));replace HB:=Aside0.mk (hb);replace HI0:=Aside0.mk (hi)
     (try clear hb)
     (try clear hb2)
     (try clear hk)
     (try clear hi)
     (try clear ho0)
     refine hK.out _ _ ((blk_cell BK165.out 0).trans rfl) (fun hHeld=>?_)
     clear hK K
     refine nM (N:=some 11) ?_
     refine pU (i:=6) (N:=some 5) #[true,true,true,true,true,true,true] (by kernel_rfl) ?_
     refine done_ (by kernel_rfl) ?_
     try go_wp2_with (first|((with_reducible refine gate_callee (f:=73) rfl ?_);refine goesL_ (some 13) rfl rfl Try.func73 (by kernel_rfl) rfl #[.pointer (some ⟨g,0,none⟩),.int .i64 40] rfl Ya ?_;(with_reducible refine (spec_l1Cur_pick.calls g s0_0 t172 t173 40 t174 t175 t176 w0 _ ?side1 ?side2 A5.out).mono ?_);(case side1=>exact iIsS60);(case side2=>exact bH);rintro e w35 ⟨rfl,hi,hb,hk⟩;refine ⟨_,rfl,?_⟩;replace BK165:=Aside0.mk (KeepBut.blk hk (g':=gb165) (o:=.cells #[.slice A1_0 l1_0.length c1_0] 26 (0,0)) (bB BK165) NB165_0.out (by simp));replace HO171:=Aside0.mk (Kd.R_mono (Kd.R_keep (IsS60.apart (show IsS60 w0 _ g s0_0 t172 t173 from iIsS60) (rR HO171) (by decide)) hk (fun _ h=>h.2)) (fun _ h=>h.1));replace HK:=Aside0.mk (KeepBut.trans kB hk (.inl rfl));replace HB:=Aside0.mk (hb);replace HI0:=Aside0.mk (hi);(try clear hb);(try clear hb2);(try clear hk);(try clear hi);obtain ⟨Ao36,co36,eo36⟩:=Kd.R_slice HO171.out;subst eo36;have q37:(1:Int) ≤ ((t169.length:Int):Int):=oD;obtain ⟨i037,hi037,_,hsz37,_⟩:=info_parts info3;have hcut37:=cut_from (P:=Try.prog) 24 3 .i64 Try.underlying24 hi037 1 hsz37 Ao36 t169.length co36 1 (by omega) q37;have hr37:=Kd.Q_drop (k:=(1:Int).toNat) (Kd.Q_of_R HO171.out) (by omega);obtain ⟨A37,hA37⟩:∃ A1_,A1_ = (if co36 = (1:Int).toNat then Ao36 else (Ao36:Option Addr).map (·.add ((1:Int).toNat * 1))):=⟨_,rfl⟩;obtain ⟨c37,hc37⟩:∃ c1_,c1_ = co36 - (1:Int).toNat:=⟨_,rfl⟩;have hy37:y187.length = t169.length - (1:Int).toNat:=(by rw [Ny187.out,List.length_drop]);rw [← Ny187.out] at hr37;rw [← hy37,← hA37,← hc37] at hcut37;replace hr37:Kd.Q (Kd.int .i64) 3 w35 w.heap.size (fun _=>True) (.slice A37 y187.length c37) y187:=(by rw [hA37,hc37,hy37];exact hr37);have HE37:Aside0 ((Value.slice A37 y187.length c37).ownBlock = (.slice Ao36 t169.length co36:Value).ownBlock):=⟨by rw [hA37];split <;> (cases (Ao36:Option Addr) <;> rfl)⟩;clear hy37 hi037 hsz37 HO171 hA37 hc37;have HO189:=Aside0.mk hr37;clear hr37;replace q37:=eq_true q37))
     go_ret
     exact ⟨_,Yb,rQ HO189,iIsS60,bH,kB⟩
    ·rw [if_neg c30] at H
     exact absurd H (by simp)
   ·rw [if_neg c29] at H
    have c29b0:(t174 == 2) = false:=beq_eq_false_iff_ne.mpr c29
    have c29b1:(t174 != 2) = true:=bne_iff_ne.mpr c29
    simp only [Option.some.injEq,Prod.mk.injEq] at H
    obtain ⟨rfl,rfl,rfl⟩:=H
    go_enter Try.func37,Try.ntmps37
    try go_wp2_with (first|((with_reducible refine gate_dst (N:=3) rfl ?_);refine box_event ?hg (N:=3) ?hd (cs:=#[.slice A1_0 l1_0.length c1_0]) (t:=26) ?hr ?_;(case hd=>rfl);(case hg=>rfl);(case hr=>exact Yd);intro gb165 hg w38 hbox hb;replace HB:=Aside0.mk (below_step bH hb);have BK165:=Aside0.mk (hbox);have GW165:=Aside0.mk ((by rw [hg];exact (keep_size (w:=w) (g:=g) (row:=none) kB):w.heap.size ≤ gb165));have GE165:=Aside0.mk ((Nat.le_trans HW0.out (by rw [hg];exact (keep_size (w:=w) (g:=g) (row:=none) kB):w.heap.size ≤ gb165):w0.heap.size ≤ gb165));replace HK:=Aside0.mk (KeepBut.trans kB (KeepBut.of_below hb g none) (.inl rfl));have NB0_165:=Aside0.mk ((by rw [hg];exact Nat.ne_of_lt (IsS60.lt (show IsS60 w0 _ g s0_0 s0_1 s0_2 from iIsS60)):g ≠ gb165));have NB165_0:=Aside0.mk ((by rw [hg];exact Nat.ne_of_gt (IsS60.lt (show IsS60 w0 _ g s0_0 s0_1 s0_2 from iIsS60)):gb165 ≠ g));replace HI0:=Aside0.mk (IsS60.below iIsS60 hb);clear hb hbox hg))
    replace BK165:=Aside0.mk (blk_drew BK165.out);replace HI0:=Aside0.mk (IsS60.drew HI0.out);replace HK:=Aside0.mk (keep_drew HK.out);replace HB:=Aside0.mk (below_drew1 HB.out)
    refine start_ (n:=7) (S:=fun w'=>w'.cell? ⟨gb165,0,none⟩ = some (.slice A1_0 l1_0.length c1_0)) (ds:=[]) #[false,false,false,false,false,false,false] (by kernel_rfl) rfl rfl ((blk_cell BK165.out 0).trans rfl) (fun hHeld=>?_)
    generalize w38.drew = w39 at BK165 HI0 HK HB hHeld ⊢
    refine pU (i:=0) (N:=some 6) #[true,false,false,false,false,false,false] (by kernel_rfl) ?_
    refine pU (i:=2) (N:=some 8) #[true,false,true,false,false,false,false] (by kernel_rfl) ?_
    refine tK1 (i:=1) (N:=some 7) #[true,true,true,false,false,false,false] (by kernel_rfl) hHeld ?_
    refine one_ (i:=3) (N:=some 9) #[true,true,true,true,false,false,false] rfl rfl (by kernel_rfl) (by decide) (fun K hK=>?_)
    refine goes_ Try.func73 (by kernel_rfl) rfl #[.pointer (some ⟨g,0,none⟩),.int .i64 4] (by rfl) rfl rfl Ya ?_
    with_reducible refine (spec_l1Cur_pick.calls g s0_0 s0_1 s0_2 4 t166 t167 t168 w0 _ ?side1 ?side2 A3.out).mono ?_
    (case side1=>exact iIsS60)
    (case side2=>exact bH)
    rintro e w40 ⟨rfl,hi,hb,hk⟩
    refine ⟨_,rfl,?_⟩
    replace BK165:=Aside0.mk (KeepBut.blk hk (g':=gb165) (o:=.cells #[.slice A1_0 l1_0.length c1_0] 26 (0,0)) (bB BK165) NB165_0.out (by simp));replace HK:=Aside0.mk (KeepBut.trans kB hk (.inl rfl));replace HB:=Aside0.mk (hb);replace HI0:=Aside0.mk (hi)
    (try clear hb)
    (try clear hb2)
    (try clear hk)
    (try clear hi)
    refine hK.out _ _ ((blk_cell BK165.out 0).trans rfl) (fun hHeld=>?_)
    clear hK K
    refine nM (N:=some 9) ?_
    refine pU (i:=4) (N:=some 10) #[true,true,true,true,true,false,false] (by kernel_rfl) ?_
    refine one_ (i:=5) (N:=some 11) #[true,true,true,true,true,true,false] rfl rfl (by kernel_rfl) (by decide) (fun K hK=>?_)
    refine goes_ Try.func74 (by kernel_rfl) rfl #[.pointer (some ⟨g,0,none⟩),.agg #[.slice A1_0 l1_0.length c1_0],.int .i64 (wrap64 (1 + t166)),.int .i64 3] (by rfl) rfl rfl Ya ?_
    with_reducible refine (spec_l1Cur_term.calls k g s0_0 t167 t168 _ _ l1_0 (wrap64 (1 + t166)) 3 t169 t172 t173 w0 _ ?side1 ?side2 ?side3 ?side4 ?side5 A4.out).mono ?_
    (case side1=>exact iIsS60)
    (case side2=>exact bH)
    (case side3=>exact YF)
    (case side4=>exact Zh)
    (case side5=>exact hf1_0)
    rintro e w41 ⟨v170,rfl,ho0,hi,hb,hk⟩
    refine ⟨_,rfl,?_⟩
    replace BK165:=Aside0.mk (KeepBut.blk hk (g':=gb165) (o:=.cells #[.slice A1_0 l1_0.length c1_0] 26 (0,0)) (bB BK165) NB165_0.out (by simp));have HO171:=Aside0.mk (Kd.R_lower ho0 (keep_size (w:=w) (g:=g) (row:=none) kB));replace HK:=Aside0.mk (KeepBut.trans kB hk (.inl rfl));replace HB:=Aside0.mk (hb);replace HI0:=Aside0.mk (hi)
    (try clear hb)
    (try clear hb2)
    (try clear hk)
    (try clear hi)
    (try clear ho0)
    refine hK.out _ _ ((blk_cell BK165.out 0).trans rfl) (fun hHeld=>?_)
    clear hK K
    refine nM (N:=some 11) ?_
    refine pU (i:=6) (N:=some 5) #[true,true,true,true,true,true,true] (by kernel_rfl) ?_
    refine done_ (by kernel_rfl) ?_
    try go_wp2_with (first|((with_reducible refine gate_callee (f:=73) rfl ?_);refine goesL_ (some 13) rfl rfl Try.func73 (by kernel_rfl) rfl #[.pointer (some ⟨g,0,none⟩),.int .i64 40] rfl Ya ?_;(with_reducible refine (spec_l1Cur_pick.calls g s0_0 t172 t173 40 t174 t175 t176 w0 _ ?side1 ?side2 A5.out).mono ?_);(case side1=>exact iIsS60);(case side2=>exact bH);rintro e w42 ⟨rfl,hi,hb,hk⟩;refine ⟨_,rfl,?_⟩;replace BK165:=Aside0.mk (KeepBut.blk hk (g':=gb165) (o:=.cells #[.slice A1_0 l1_0.length c1_0] 26 (0,0)) (bB BK165) NB165_0.out (by simp));replace HO171:=Aside0.mk (Kd.R_mono (Kd.R_keep (IsS60.apart (show IsS60 w0 _ g s0_0 t172 t173 from iIsS60) (rR HO171) (by decide)) hk (fun _ h=>h.2)) (fun _ h=>h.1));replace HK:=Aside0.mk (KeepBut.trans kB hk (.inl rfl));replace HB:=Aside0.mk (hb);replace HI0:=Aside0.mk (hi);(try clear hb);(try clear hb2);(try clear hk);(try clear hi)))
    go_ret
    exact ⟨_,Yb,Kd.Q_of_R (rR HO171),iIsS60,bH,kB⟩

/-! ### spec_DrawApply: function 6 -/
def spec_DrawApply.f (k:Nat) (l0:List Int):Option (List Int × (List (List Int)) × List Int):=(spec_l1Cur_sign.f l0 0 0).bind fun bt192=>((spec_l1Cur_subst.f k l0 bt192.2.1 bt192.2.2 bt192.1).bind fun bt198=>((spec_l1Cur_anyTerm.f k l0 bt198.2.1 bt198.2.2 bt192.1).bind fun bt203=>(some (bt192.1,bt198.1,bt203.1))))
theorem spec_DrawApply.mono:∀ a0 k,LeO (spec_DrawApply.f k a0) (spec_DrawApply.f (k + 1) a0):=by
 intro a0 k
 unfold spec_DrawApply.f
 have m0:=@spec_l1Cur_anyTerm.mono
 have m1:=@spec_l1Cur_subst.mono
 exact mO
def spec_DrawApply.T3:Bool × List (List Nat × List Nat):=(true,[([],[]),([],[]),([],[]),([1,2],[1,2]),([],[]),([],[]),([4,5,3],[4,5]),([0,6,0],[0]),([3,7,0,1,2,3,7],[3]),([6,8,0,1,2,3,4,5,6,7,8],[6])])
def spec_DrawApply.B3:List Nat:=[0,0,0,6,0,0,62,127,255,511]
theorem spec_DrawApply.tab3:rtab .any (opsOf Try.f6 3) = spec_DrawApply.T3:=by kernel_rfl
theorem spec_DrawApply.bits3:waitsOk spec_DrawApply.T3.2 spec_DrawApply.B3 = true:=by kernel_rfl
set_option maxHeartbeats 8000000 in
set_option maxRecDepth 100000 in
theorem spec_DrawApply.calls (k:Nat) (A0:Option Addr) (c0:Nat) (l0:List Int) (r1:List Int) (r2:List (List Int)) (r3:List Int) (w:World) (hr0:Kd.C (Kd.int .u8) w A0 l0.length l0) (hc0:l0.length ≤ c0) (h:spec_DrawApply.f k l0 = some (r1,r2,r3)) :
  Calls Try.prog 6 #[.slice A0 l0.length c0] w fun e w'=>∃ v0_ v1_ v2_:Value,e = .returned (.tuple #[.agg #[v0_],v1_,v2_]) ∧ Kd.R (Kd.int .i64) 3 w' w.heap.size (fun k_=>some k_ ≠ (v2_:Value).ownBlock) v0_ r1 ∧ Kd.Q (Kd.slice 3 (Kd.int .i64)) 24 w' w.heap.size (fun k_=>some k_ ≠ (v0_:Value).ownBlock ∧ some k_ ≠ (v2_:Value).ownBlock) v1_ r2 ∧ Kd.Q (Kd.int .i64) 3 w' w.heap.size (fun k_=>some k_ ≠ (v0_:Value).ownBlock) v2_ r3 ∧ Below w.heap.size w w':=by
 have hu26:=Try.underlying26
 have hu60:=Try.underlying60
 have HR0:=Aside0.mk hr0
 have HC0:=Aside0.mk hc0
 clear hr0 hc0
 have HB:=Aside0.mk (Below.refl w.heap.size w)
 have H:((spec_l1Cur_sign.f l0 0 0).bind fun bt192=>((spec_l1Cur_subst.f k l0 bt192.2.1 bt192.2.2 bt192.1).bind fun bt198=>((spec_l1Cur_anyTerm.f k l0 bt198.2.1 bt198.2.2 bt192.1).bind fun bt203=>(some (bt192.1,bt198.1,bt203.1))))) = some (r1,r2,r3):=h
 clear h
 replace H:=Option.bind_eq_some_iff.mp H
 obtain ⟨⟨t192,t195,t196⟩,A20,H⟩:=H
 replace H:((spec_l1Cur_subst.f k l0 t195 t196 t192).bind fun bt198=>((spec_l1Cur_anyTerm.f k l0 bt198.2.1 bt198.2.2 t192).bind fun bt203=>(some (t192,bt198.1,bt203.1)))) = some (r1,r2,r3):=H
 have A2:=Aside0.mk A20
 clear A20
 replace H:=Option.bind_eq_some_iff.mp H
 obtain ⟨⟨t198,t201,t202⟩,A30,H⟩:=H
 replace H:((spec_l1Cur_anyTerm.f k l0 t201 t202 t192).bind fun bt203=>(some (t192,t198,bt203.1))) = some (r1,r2,r3):=H
 have A3:=Aside0.mk A30
 clear A30
 replace H:=Option.bind_eq_some_iff.mp H
 obtain ⟨⟨t203,t206,t207⟩,A40,H⟩:=H
 replace H:(some (t192,t198,t203)) = some (r1,r2,r3):=H
 have A4:=Aside0.mk A40
 clear A40
 simp only [Option.some.injEq,Prod.mk.injEq] at H
 obtain ⟨rfl,rfl,rfl⟩:=H
 go_enter Try.func6,Try.ntmps6
 try go_wp2_with (first|((with_reducible refine gate_dst (N:=2) rfl ?_);refine box_event ?hg (N:=2) ?hd (cs:=#[.slice none 0 0]) (t:=26) ?hr ?_;(case hd=>rfl);(case hg=>rfl);(case hr=>exact Yd);intro gb190 hg w5 hbox hb;have BK190:=Aside0.mk (hbox);have GW190:=Aside0.mk ((hZ:w.heap.size ≤ gb190));have GE190:=Aside0.mk ((hZ:w.heap.size ≤ gb190));replace HB:=Aside0.mk (below_step bH hb);clear hb hbox hg)|((with_reducible refine gate_dst (N:=9) rfl ?_);refine box_event ?hg (N:=9) ?hd (cs:=#[.slice A0 l0.length c0,.int .i64 0,.int .u64 0]) (t:=60) ?hr ?_;(case hd=>rfl);(case hg=>rfl);(case hr=>exact Yd);intro gb191 hg w6 hbox hb;have BK191:=Aside0.mk (hbox);have GW191:=Aside0.mk ((hZ:w.heap.size ≤ gb191));have GE191:=Aside0.mk ((hZ:w.heap.size ≤ gb191));replace HB:=Aside0.mk (below_step bH hb);have NB190_191:=Aside0.mk ((nL BK190:gb190 ≠ gb191));have NB191_190:=Aside0.mk ((nG BK190:gb191 ≠ gb190));replace BK190:=Aside0.mk (blk_below (bB BK190) hb);clear hb hbox hg;have HI191:=Aside0.mk (show IsS60 w w6 gb191 l0 0 0 from ⟨_,_,BK191.out,GW191.out,HR0.out⟩);clear BK191)|((with_reducible refine gate_callee (f:=35) rfl ?_);refine goesL_ (some 11) rfl rfl Try.func35 (by kernel_rfl) rfl #[.pointer (some ⟨gb191,0,none⟩)] rfl Ya ?_;(with_reducible refine (spec_l1Cur_sign.calls gb191 l0 0 0 t192 t195 t196 w _ ?side1 ?side2 A2.out).mono ?_);(case side1=>exact YI);(case side2=>exact bH);rintro e w7 ⟨v193,rfl,ho0,hi,hb,hk⟩;refine ⟨_,rfl,?_⟩;replace BK190:=Aside0.mk (KeepBut.blk hk (g':=gb190) (o:=.cells #[.slice none 0 0] 26 (0,0)) (bB BK190) NB190_191.out (by simp));have HO194:=Aside0.mk (Kd.R_lower ho0 (below_size bH));replace HB:=Aside0.mk (hb);replace HI191:=Aside0.mk (hi);(try clear hb);(try clear hb2);(try clear hk);(try clear hi);(try clear ho0))|((with_reducible refine gate_dst (N:=6) rfl ?_);refine box_event ?hg (N:=6) ?hd (cs:=#[.slice none 0 0]) (t:=26) ?hr ?_;(case hd=>rfl);(case hg=>rfl);(case hr=>exact Yd);intro gb197 hg w8 hbox hb;replace HO194:=Aside0.mk (Kd.R_below (rR HO194) hb);have BK197:=Aside0.mk (hbox);have GW197:=Aside0.mk ((by rw [hg];exact (below_size bH):w.heap.size ≤ gb197));have GE197:=Aside0.mk ((by rw [hg];exact (below_size bH):w.heap.size ≤ gb197));replace HB:=Aside0.mk (below_step bH hb);have NB190_197:=Aside0.mk ((nL BK190:gb190 ≠ gb197));have NB197_190:=Aside0.mk ((nG BK190:gb197 ≠ gb190));replace BK190:=Aside0.mk (blk_below (bB BK190) hb);have NB191_197:=Aside0.mk ((by rw [hg];exact Nat.ne_of_lt (IsS60.lt (show IsS60 w _ gb191 l0 t195 t196 from YI)):gb191 ≠ gb197));have NB197_191:=Aside0.mk ((by rw [hg];exact Nat.ne_of_gt (IsS60.lt (show IsS60 w _ gb191 l0 t195 t196 from YI)):gb197 ≠ gb191));replace HI191:=Aside0.mk (IsS60.below YI hb);clear hb hbox hg;obtain ⟨Ao9,co9,eo9⟩:=Kd.R_slice HO194.out;subst eo9;have hnb10:=NB197_190.out;have hnc10:=NB190_197.out;have hnb11:=NB197_191.out;have hnc11:=NB191_197.out;have hcz12_0:w8.cell? ⟨gb197,0,none⟩ = some (.slice none 0 0):=(blk_cell BK197.out 0).trans rfl;have hfz12_0:=blk_frozen BK197.out 0))
 have n0_:Aside0 (Kd.R (Kd.int .i64) 3 (w8.setCell ⟨gb197,0,none⟩ (.slice Ao9 t192.length co9)) w.heap.size (fun _=>True) (.slice Ao9 t192.length co9) t192):=⟨by (with_reducible repeat (first|apply Kd.R_alloc|apply Kd.R_drewN|apply Kd.R_drew));exact Kd.R_mono (Kd.R_far (p:=⟨gb197,0,none⟩) (Kd.R_types HO194.out BK197.out (by decide)) (fun _ hk=>hk.2) (.slice Ao9 t192.length co9)) (fun _ hk=>trivial)⟩
 have n1_:Aside0 ((w8.setCell ⟨gb197,0,none⟩ (.slice Ao9 t192.length co9)).heap[gb190]? = some (.cells #[.slice none 0 0] 26 (0,0))):=⟨by (with_reducible repeat (first|refine blk_drewN ?_ _|refine blk_drew ?_|refine blk_alloc ?_ _));refine blk_far ?_ NB190_197.out _;(with_reducible repeat (first|refine blk_drewN ?_ _|refine blk_drew ?_|refine blk_alloc ?_ _));exact BK190.out⟩
 have n2_:Aside0 ((w8.setCell ⟨gb197,0,none⟩ (.slice Ao9 t192.length co9)).heap[gb197]? = some (.cells #[.slice Ao9 t192.length co9] 26 (0,0))):=⟨by (with_reducible repeat (first|refine blk_drewN ?_ _|refine blk_drew ?_|refine blk_alloc ?_ _));refine blk_put (cs:=#[.slice none 0 0]) ?_ 0 _ rfl;(with_reducible repeat (first|refine blk_drewN ?_ _|refine blk_drew ?_|refine blk_alloc ?_ _));exact BK197.out⟩
 have n3_:Aside0 (IsS60 w (w8.setCell ⟨gb197,0,none⟩ (.slice Ao9 t192.length co9)) gb191 l0 t195 t196):=⟨Yt⟩
 have n4_:Aside0 (Below w.heap.size w (w8.setCell ⟨gb197,0,none⟩ (.slice Ao9 t192.length co9))):=⟨bH⟩
 (try clear HO194)
 (try clear BK190)
 (try clear BK197)
 (try clear HI191)
 (try clear HB)
 generalize (w8.setCell ⟨gb197,0,none⟩ (.slice Ao9 t192.length co9)) = w13 at n0_ n1_ n2_ n3_ n4_ ⊢
 have HO194:=n0_
 have BK190:=n1_
 have BK197:=n2_
 have HI191:=n3_
 have HB:=n4_
 clear n0_ n1_ n2_ n3_ n4_
 replace HO194:=Aside0.mk (Kd.R_drew HO194.out);replace BK190:=Aside0.mk (blk_drew BK190.out);replace BK197:=Aside0.mk (blk_drew BK197.out);replace HI191:=Aside0.mk (IsS60.drew HI191.out);replace HB:=Aside0.mk (below_drew1 HB.out)
 refine start_ (n:=10) (S:=fun w'=>w'.cell? ⟨gb197,0,none⟩ = some (.slice Ao9 t192.length co9)) (ds:=[]) #[false,false,false,false,false,false,false,false,false,false] (by kernel_rfl) rfl rfl ((blk_cell BK197.out 0).trans rfl) (fun hHeld=>?_);refine with_tabW spec_DrawApply.tab3 spec_DrawApply.bits3 (fun HT_ HW_=>?_)
 generalize w13.drew = w14 at HO194 BK190 BK197 HI191 HB hHeld ⊢
 refine pU (i:=1) (N:=some 13) #[false,true,false,false,false,false,false,false,false,false] (any_of HT_.out (by kernel_rfl)) ?_
 refine pU (i:=4) (N:=some 16) #[false,true,false,false,true,false,false,false,false,false] (any_of HT_.out (by kernel_rfl)) ?_
 refine tK1 (i:=0) (N:=some 12) #[true,true,false,false,true,false,false,false,false,false] (take_ofW HT_.out HW_.out (by kernel_rfl)) hHeld ?_
 refine tK1 (i:=2) (N:=some 14) #[true,true,true,false,true,false,false,false,false,false] (take_ofW HT_.out HW_.out (by kernel_rfl)) hHeld ?_
 refine tK1 (i:=5) (N:=some 17) #[true,true,true,false,true,true,false,false,false,false] (take_ofW HT_.out HW_.out (by kernel_rfl)) hHeld ?_
 refine one_ (i:=3) (N:=some 15) #[true,true,true,true,true,true,false,false,false,false] rfl rfl (one_of HT_.out (by kernel_rfl)) (by decide) (fun K hK=>?_)
 refine goes_ Try.func36 (by kernel_rfl) rfl #[.pointer (some ⟨gb191,0,none⟩),.agg #[.slice Ao9 t192.length co9]] (by rfl) rfl rfl Ya ?_
 with_reducible refine (spec_l1Cur_subst.calls k gb191 l0 t195 t196 _ _ t192 t198 t201 t202 w _ ?side1 ?side2 ?side3 ?side4 ?side5 A3.out).mono ?_
 (case side1=>exact Yt)
 (case side2=>exact bH)
 (case side3=>repeat (first|exact (Kd.R_reads' HO194.out).2.2|(with_reducible refine Kd.C_alloc ?_ _)|(with_reducible refine Kd.C_drewN ?_ _)|(with_reducible refine Kd.C_drew ?_)))
 (case side4=>exact (Kd.R_reads' HO194.out).2.1)
 (case side5=>exact far_slice (IsS60.own_ne HI191.out HO194.out (by decide)))
 rintro e w15 ⟨v199,rfl,ho0,hi,hb,hk⟩
 refine ⟨_,rfl,?_⟩
 replace BK190:=Aside0.mk (KeepBut.blk hk (g':=gb190) (o:=.cells #[.slice none 0 0] 26 (0,0)) (bB BK190) NB190_191.out (by simp));replace BK197:=Aside0.mk (KeepBut.blk hk (g':=gb197) (o:=.cells #[.slice Ao9 t192.length co9] 26 (0,0)) (bB BK197) NB197_191.out (by simp));have HO200:=Aside0.mk (Kd.Q_lower (Kd.Q_new' ho0 (Kd.R_lt (rR HO194))) (below_size bH));replace HO194:=Aside0.mk (Kd.R_mono (Kd.R_keep (IsS60.apart (show IsS60 w _ gb191 l0 t195 t196 from Yt) (rR HO194) (by decide)) hk (fun _ h=>h.2)) (fun _ h=>h.1));replace HB:=Aside0.mk (hb);replace HI191:=Aside0.mk (hi)
 (try clear hb)
 (try clear hb2)
 (try clear hk)
 (try clear hi)
 (try clear ho0)
 refine hK.out _ _ ((blk_cell BK197.out 0).trans rfl) (fun hHeld=>?_)
 clear hK K
 refine nM (N:=some 15) ?_
 refine one_ (i:=6) (N:=some 18) #[true,true,true,true,true,true,true,false,false,false] rfl rfl (one_of HT_.out (by kernel_rfl)) (by decide) (fun K hK=>?_)
 refine goes_ Try.func37 (by kernel_rfl) rfl #[.pointer (some ⟨gb191,0,none⟩),.agg #[.slice Ao9 t192.length co9]] (by rfl) rfl rfl Ya ?_
 with_reducible refine (spec_l1Cur_anyTerm.calls k gb191 l0 t201 t202 _ _ t192 t203 t206 t207 w _ ?side1 ?side2 ?side3 ?side4 ?side5 A4.out).mono ?_
 (case side1=>exact Yt)
 (case side2=>exact bH)
 (case side3=>repeat (first|exact (Kd.R_reads' HO194.out).2.2|(with_reducible refine Kd.C_alloc ?_ _)|(with_reducible refine Kd.C_drewN ?_ _)|(with_reducible refine Kd.C_drew ?_)))
 (case side4=>exact (Kd.R_reads' HO194.out).2.1)
 (case side5=>exact far_slice (IsS60.own_ne HI191.out HO194.out (by decide)))
 rintro e w16 ⟨v204,rfl,ho0,hi,hb,hk⟩
 refine ⟨_,rfl,?_⟩
 replace BK190:=Aside0.mk (KeepBut.blk hk (g':=gb190) (o:=.cells #[.slice none 0 0] 26 (0,0)) (bB BK190) NB190_191.out (by simp));replace BK197:=Aside0.mk (KeepBut.blk hk (g':=gb197) (o:=.cells #[.slice Ao9 t192.length co9] 26 (0,0)) (bB BK197) NB197_191.out (by simp));replace HO200:=Aside0.mk (Kd.Q_mono (Kd.Q_told (Kd.Q_oldK (IsS60.apartQ (show IsS60 w _ gb191 l0 t201 t202 from Yt) (rQ HO200) (by decide)) hk) (Kd.Q_base ho0)) (fun _ h_=>h_.1));have HO205:=Aside0.mk (Kd.Q_lower (Kd.Q_new' ho0 (Kd.R_lt (rR HO194))) (below_size bH));replace HO194:=Aside0.mk (Kd.R_mono (Kd.R_told (Kd.R_oldK (IsS60.apart (show IsS60 w _ gb191 l0 t201 t202 from Yt) (rR HO194) (by decide)) hk) (Kd.Q_base ho0)) (fun _ h_=>h_.1));replace HB:=Aside0.mk (hb);replace HI191:=Aside0.mk (hi)
 (try clear hb)
 (try clear hb2)
 (try clear hk)
 (try clear hi)
 (try clear ho0)
 refine hK.out _ _ ((blk_cell BK197.out 0).trans rfl) (fun hHeld=>?_)
 clear hK K
 refine nM (N:=some 18) ?_
 refine one_ (i:=7) (N:=none) #[true,true,true,true,true,true,true,true,false,false] rfl rfl (one_of HT_.out (by kernel_rfl)) (by decide) (fun K hK=>?_)
 have hs17:w16.cell? ⟨gb190,0,none⟩ = some (.slice none 0 0):=(blk_cell BK190.out 0).trans rfl
 have hfs17:=blk_frozen BK190.out 0
 have hns17_1:=NB197_190.out
 have hms17_1:=NB190_197.out
 refine skip_ (w1:=?_) (by rfl) rfl ?_ ?_
 rotate_left
 ·go_simp
  rfl
 refine hK.out _ _ (((cell_far (p:=⟨gb190,_,none⟩) NB197_190.out _).trans (hHeld))) (fun hHeld=>?_)
 clear hK K
 refine pU (i:=8) (N:=some 3) #[true,true,true,true,true,true,true,true,true,false] (any_of HT_.out (by kernel_rfl)) ?_
 refine pU (i:=9) (N:=some 4) #[true,true,true,true,true,true,true,true,true,true] (any_of HT_.out (by kernel_rfl)) ?_
 refine done_ (done_of HT_.out (by kernel_rfl)) ?_
 try go_wp2
 refine bodyPost_ret (results_ctt rfl _ _ gb190 26 #[.slice Ao9 t192.length co9] (0,0) _ rfl (by (with_reducible repeat (first|refine blk_drewN ?_ _|refine blk_drew ?_|refine blk_alloc ?_ _));refine blk_put (cs:=#[.slice none 0 0]) ?_ 0 _ rfl;(with_reducible repeat (first|refine blk_drewN ?_ _|refine blk_drew ?_|refine blk_alloc ?_ _));exact BK190.out) Try.underlying26 rfl (by kernel_rfl)) rfl ?_
 exact ⟨_,_,_,Yb,by (with_reducible repeat (first|apply Kd.R_alloc|apply Kd.R_drewN|apply Kd.R_drew));exact Kd.R_mono (Kd.R_far (p:=⟨gb190,0,none⟩) (Kd.R_types HO194.out BK190.out (by decide)) (fun _ hk=>hk.2) (.slice Ao9 t192.length co9)) (fun _ hk=>hk.1.2),by (with_reducible repeat (first|apply Kd.Q_alloc|apply Kd.Q_drewN|apply Kd.Q_drew));exact Kd.Q_mono (Kd.Q_far (p:=⟨gb190,0,none⟩) (Kd.Q_types HO200.out BK190.out (by decide)) (fun _ hk=>hk.2) (.slice Ao9 t192.length co9)) (fun _ hk=>⟨hk.1.1.2,hk.1.2⟩),by (with_reducible repeat (first|apply Kd.Q_alloc|apply Kd.Q_drewN|apply Kd.Q_drew));exact Kd.Q_mono (Kd.Q_far (p:=⟨gb190,0,none⟩) (Kd.Q_types HO205.out BK190.out (by decide)) (fun _ hk=>hk.2) (.slice Ao9 t192.length co9)) (fun _ hk=>hk.1.2),bH⟩

end Go.Proofs.Ytmgkflkfoccgkaa.QFnPutFor
