-- Written by this session's own program (wip/x/xprint.py, over the kit's printer); Lean checks it.
import Derived.Test.YtmgkflkfoccgkabQFnDiskx0
import Derived.Test.YtmgkflkfoccgkabQFnDiskx9
import Derived.Test.YtmgkflkfoccgkabQFnDiskx12
namespace Go.Proofs.Ytmgkflkfoccgkab.QFnDisk
open Go.RowKit Go.Proofs.YtmgkflkfoccgkabW.PrintWords Go.Proofs.YtmgkflkfoccgkabW.PrintLast Go.Proofs.YtmgkflkfoccgkabW.PrintMore
attribute [local go_sem] max2_int min2_int max_two min_two max_three min_three max_four min_four   -- for this text's walks alone
set_option linter.unusedVariables false
set_option linter.unusedSimpArgs false

/-! ### impl_Disk_texts: function 50 -/
def impl_Disk_texts.l0:Nat → List ByteArray → ByteArray → Int → List ByteArray → Int → Int → Option (List ByteArray × Int)
 | 0,_,_,_,_,_,_=>none
 | k + 1,x4,x5,x6,x17,x18,x19=>if x19 < x18 then (if 0 ≤ x19 then (if x19 < (x17.length:Int) then ((impl_ReadSector.f k x19 (rdOf ByteArray.empty x17 x19)).bind fun bt409=>(if bt409.2.2 = true then (if x5.size + bt409.1.size ≤ 9223372036854775807 then (if bt409.2.1 = true then (if x4.length < 8796093022208 then (impl_Disk_texts.l0 k (x4 ++ [x5 ++ bt409.1]) (⟨#[]⟩:ByteArray) (wrap64 (x19 + 1)) x17 x18 (wrap64 (x19 + 1))) else (none)) else (impl_Disk_texts.l0 k x4 (x5 ++ bt409.1) x6 x17 x18 (wrap64 (x19 + 1)))) else (none)) else (some (x4,x6)))) else (none)) else (none)) else (some (x4,x6))
def impl_Disk_texts.f (k:Nat) (l0_0:List ByteArray) (l0_1:List ByteArray):Option (List ByteArray × Int):=(slices_Concat_string_string.f k (([l0_0,l0_1]:List (List ByteArray)))).bind fun t405=>(impl_Disk_texts.l0 k ([]:List ByteArray) (⟨#[]⟩:ByteArray) 0 t405 (t405.length:Int) 0)
theorem impl_Disk_texts.mono_l:∀ k,(∀ y0 y1 y2 y3 y4 y5,LeO (impl_Disk_texts.l0 k y0 y1 y2 y3 y4 y5) (impl_Disk_texts.l0 (k + 1) y0 y1 y2 y3 y4 y5))
 | 0=>fun _ _ _ _ _ _ r h=>by simp [impl_Disk_texts.l0] at h
 | k + 1=>by
  have ih0:=impl_Disk_texts.mono_l k
  ·intro y0 y1 y2 y3 y4 y5
   unfold impl_Disk_texts.l0
   have m0:=@impl_ReadSector.mono
   have m1:=@slices_Concat_string_string.mono
   exact mO
theorem impl_Disk_texts.mono:∀ a0 a1 k,LeO (impl_Disk_texts.f k a0 a1) (impl_Disk_texts.f (k + 1) a0 a1):=by
 intro a0 a1 k
 have ih0:=impl_Disk_texts.mono_l k
 unfold impl_Disk_texts.f
 have m0:=@impl_ReadSector.mono
 have m1:=@slices_Concat_string_string.mono
 exact mO
set_option maxHeartbeats 8000000 in
set_option maxRecDepth 100000 in
theorem impl_Disk_texts.calls (k:Nat) (P0_0_:Nat → Prop) (A0_0:Option Addr) (c0_0:Nat) (l0_0:List ByteArray) (P0_1_:Nat → Prop) (A0_1:Option Addr) (c0_1:Nat) (l0_1:List ByteArray) (r1:List ByteArray) (r2:Int) (w:World) (hs0_0:Kd.V Kd.string 9 w w.heap.size (fun k_=>P0_0_ k_) (.slice A0_0 l0_0.length c0_0) l0_0) (hs0_1:Kd.V Kd.string 9 w w.heap.size (fun k_=>P0_1_ k_) (.slice A0_1 l0_1.length c0_1) l0_1) (h:impl_Disk_texts.f k l0_0 l0_1 = some (r1,r2)) :
  Calls Try.prog 50 #[.agg #[.slice A0_0 l0_0.length c0_0,.slice A0_1 l0_1.length c0_1]] w fun e w'=>∃ v0_:Value,e = .returned (.tuple #[v0_,.int .i64 r2]) ∧ Kd.R Kd.string 9 w' w.heap.size (fun k_=>(w.heap.size ≤ k_)) v0_ r1 ∧ Below w.heap.size w w':=by
 have hu26:=Try.underlying26
 have HO0_0:=Aside0.mk (show Kd.V Kd.string 9 w w.heap.size (fun k_=>((P0_0_ k_ ∨ P0_1_ k_) ∨ w.heap.size ≤ k_)) (.slice A0_0 l0_0.length c0_0) l0_0 from Kd.V_mono hs0_0 (fun k_ hk=>.inl (.inl hk)))
 have HO0_1:=Aside0.mk (show Kd.V Kd.string 9 w w.heap.size (fun k_=>((P0_0_ k_ ∨ P0_1_ k_) ∨ w.heap.size ≤ k_)) (.slice A0_1 l0_1.length c0_1) l0_1 from Kd.V_mono hs0_1 (fun k_ hk=>.inl (.inr hk)))
 have HB:=Aside0.mk (Below.refl w.heap.size w)
 have H:((slices_Concat_string_string.f k (([l0_0,l0_1]:List (List ByteArray)))).bind fun t405=>(impl_Disk_texts.l0 k ([]:List ByteArray) (⟨#[]⟩:ByteArray) 0 t405 (t405.length:Int) 0)) = some (r1,r2):=h
 clear h
 obtain ⟨y402,hy402⟩:∃ y_:List (List ByteArray),y_ = (([l0_0,l0_1]:List (List ByteArray))):=⟨_,rfl⟩
 replace H:((slices_Concat_string_string.f k y402).bind fun t405=>(impl_Disk_texts.l0 k ([]:List ByteArray) (⟨#[]⟩:ByteArray) 0 t405 (t405.length:Int) 0)) = some (r1,r2):=by first|(rw [hy402];with_reducible exact H)|(have H2_:=(Option.bind_some _ _).symm.trans H;rw [hy402];with_reducible exact H2_)|(have H2_:=(Option.bind_some _ _).symm.trans H;with_reducible exact H2_)|with_reducible exact H|(rw [hy402];exact H)|exact H
 have Ny402:=Aside0.mk hy402
 clear hy402
 replace H:=Option.bind_eq_some_iff.mp H
 obtain ⟨t405,A20,H⟩:=H
 replace H:(impl_Disk_texts.l0 k ([]:List ByteArray) (⟨#[]⟩:ByteArray) 0 t405 (t405.length:Int) 0) = some (r1,r2):=H
 have A2:=Aside0.mk A20
 clear A20
 have H':=Aside0.mk H
 clear H
 go_enter Try.func50,Try.ntmps50
 go_wp2_with (first|((with_reducible refine gate_dst (N:=1) rfl ?_);refine box_event ?hg (N:=1) ?hd (cs:=#[.slice A0_0 l0_0.length c0_0,.slice A0_1 l0_1.length c0_1]) (t:=26) ?hr ?_;(case hd=>rfl);(case hg=>rfl);(case hr=>exact Yg);intro gb401 hg w3 hbox hb;replace HO0_0:=Aside0.mk (Kd.V_below (Kd.V_elderB (rV HO0_0) gb401 (Nat.le_of_eq hg.symm)) hb);replace HO0_1:=Aside0.mk (Kd.V_below (Kd.V_elderB (rV HO0_1) gb401 (Nat.le_of_eq hg.symm)) hb);have BK401:=Aside0.mk (hbox);have GW401:=Aside0.mk ((hZ:w.heap.size ≤ gb401));have GE401:=Aside0.mk ((hZ:w.heap.size ≤ gb401));replace HB:=Aside0.mk (below_step bH hb);clear hb hbox hg;have hcz4_0:w3.cell? ⟨gb401,0,none⟩ = some (.slice A0_0 l0_0.length c0_0):=(blk_cell BK401.out 0).trans rfl;have hcz4_1:w3.cell? ⟨gb401,1,none⟩ = some (.slice A0_1 l0_1.length c0_1):=(blk_cell BK401.out 1).trans rfl;have hfz4_0:=blk_frozen BK401.out 0;have hfz4_1:=blk_frozen BK401.out 1)|((with_reducible refine gate_dst (N:=16) rfl ?_);refine Kd.N_lit (Kd.slice 9 Kd.string) _ 24 ?hg (N':=16) ?hd (xs:=([l0_0,l0_1]:List (List ByteArray))) (inner:=[.slice A0_0 l0_0.length c0_0,.slice A0_1 l0_1.length c0_1]) (ok:=(fun k_=>((P0_0_ k_ ∨ P0_1_ k_) ∨ w.heap.size ≤ k_) ∧ k_ ≠ gb401)) (okp:=(fun k_=>((P0_0_ k_ ∨ P0_1_ k_) ∨ w.heap.size ≤ k_) ∧ k_ ≠ gb401)) ?hr ?hp (fun _ hk=>hk) ((show ∀ k_,w3.heap.size ≤ k_ → (fun k_=>((P0_0_ k_ ∨ P0_1_ k_) ∨ w.heap.size ≤ k_) ∧ k_ ≠ gb401) k_ from fun k_ hk=>⟨(.inr (Nat.le_trans (below_size bH) hk)),Kd.freshB (bB BK401) k_ hk⟩) _ (Nat.le_refl _)) (Below.refl _ _) (Nat.le_refl _) (by simp) ?_;(case hd=>rfl);(case hg=>rfl);(case hr=>exact Yg);(case hp=>exact (Reps.one (show Kd.FK (Kd.slice 9 Kd.string) _ _ l0_0 [.slice A0_0 l0_0.length c0_0] from (Kd.FK_slice_mk (Kd.V_reads' (Kd.V_mono (ok':=(fun k_=>((P0_0_ k_ ∨ P0_1_ k_) ∨ w.heap.size ≤ k_) ∧ k_ ≠ gb401)) (HO0_0.out) (fun k_ hk=>⟨hk.1,hk.2⟩))).2.1 (Kd.V_F (Kd.V_mono (ok':=(fun k_=>((P0_0_ k_ ∨ P0_1_ k_) ∨ w.heap.size ≤ k_) ∧ k_ ≠ gb401)) (HO0_0.out) (fun k_ hk=>⟨hk.1,hk.2⟩))))) (Reps.one (show Kd.FK (Kd.slice 9 Kd.string) _ _ l0_1 [.slice A0_1 l0_1.length c0_1] from (Kd.FK_slice_mk (Kd.V_reads' (Kd.V_mono (ok':=(fun k_=>((P0_0_ k_ ∨ P0_1_ k_) ∨ w.heap.size ≤ k_) ∧ k_ ≠ gb401)) (HO0_1.out) (fun k_ hk=>⟨hk.1,hk.2⟩))).2.1 (Kd.V_F (Kd.V_mono (ok':=(fun k_=>((P0_0_ k_ ∨ P0_1_ k_) ∨ w.heap.size ≤ k_) ∧ k_ ≠ gb401)) (HO0_1.out) (fun k_ hk=>⟨hk.1,hk.2⟩))))) (Reps.none _ _))));intro v403 w5 ho6 hb hg_ hnew_;clear hg_ hnew_;(first|rw [← Ny402.out] at ho6|(simp only [Int.reduceToNat] at ho6;rw [← Ny402.out] at ho6));replace HO0_0:=Aside0.mk (Kd.V_elder' (rV HO0_0) (Kd.N_base ho6) hb);replace HO0_1:=Aside0.mk (Kd.V_elder' (rV HO0_1) (Kd.N_base ho6) hb);have HO404:=Aside0.mk (Kd.N_lower ho6 (below_size bH));replace BK401:=Aside0.mk (blk_below (bB BK401) hb);replace HB:=Aside0.mk (below_step bH hb);clear hb ho6;obtain ⟨Ao7,co7,eo7⟩:=Kd.N_slice HO404.out;subst eo7)|((with_reducible refine gate_callee (f:=44) rfl ?_);refine goesL_ (some 17) rfl rfl Try.func44 (by kernel_rfl) rfl #[.slice Ao7 y402.length co7] rfl Ya ?_;(with_reducible refine (slices_Concat_string_string.calls k _ _ y402 t405 _ ?side1 ?side2 A2.out).mono ?_);(case side1=>repeat (first|exact (Kd.N_reads' HO404.out).2.2|(with_reducible refine Kd.C_alloc ?_ _)|(with_reducible refine Kd.C_drewN ?_ _)|(with_reducible refine Kd.C_drew ?_)));(case side2=>exact (Kd.N_reads' HO404.out).2.1);rintro e w8 ⟨v406,rfl,ho0,hb⟩;refine ⟨_,rfl,?_⟩;replace HO0_0:=Aside0.mk (Kd.V_elder' (rV HO0_0) (Kd.R_base ho0) hb);replace HO0_1:=Aside0.mk (Kd.V_elder' (rV HO0_1) (Kd.R_base ho0) hb);replace HO404:=Aside0.mk (Kd.N_elder' (rN HO404) (Kd.R_base ho0) hb);have HO407:=Aside0.mk (Kd.R_lower (Kd.R_newM (M:=fun k_=>(w.heap.size ≤ k_)) ho0 (below_size bH) (fun k_ h_=>h_)) (below_size bH));replace BK401:=Aside0.mk (blk_below (bB BK401) hb);replace HB:=Aside0.mk (below_step bH hb);(try clear hb);(try clear hb2);(try clear hk);(try clear hi);(try clear ho0);obtain ⟨Ao9,co9,eo9⟩:=Kd.R_slice HO407.out;subst eo9))
 go_loopg [4,5,6,19] k (fun kq v4 v5 v6 v19 w'=>∃ (x4_1:List ByteArray) (x5_1:ByteArray) (x6_1:Int) (x19_1:Int),v5 = .string x5_1 ∧ v6 = .int .i64 x6_1 ∧ v19 = .int .i64 x19_1 ∧ Aside0 (impl_Disk_texts.l0 kq x4_1 x5_1 x6_1 t405 (t405.length:Int) x19_1 = some (r1,r2)) ∧ Aside0 (kq ≤ k) ∧ Aside0 (Kd.R Kd.string 9 w' w.heap.size (fun k_=>(w.heap.size ≤ k_) ∧ some k_ ≠ ((.slice Ao9 t405.length co9):Value).ownBlock) v4 x4_1) ∧ Aside0 (Kd.R Kd.string 9 w' w.heap.size (fun k_=>(w.heap.size ≤ k_) ∧ some k_ ≠ (v4:Value).ownBlock) (.slice Ao9 t405.length co9) t405) ∧ Aside0 (Below w.heap.size w w'))
 case atStart=>exact ⟨(([]:List ByteArray)),((⟨#[]⟩:ByteArray)),(0),(0),Yh,Yh,Yh,H',⟨Nat.le_refl _⟩,⟨Yd⟩,⟨by (with_reducible repeat (first|apply Kd.R_alloc|apply Kd.R_drewN|apply Kd.R_drew));exact Kd.R_mono HO407.out (fun _ hk=>⟨hk.1,ZR⟩)⟩,⟨bH⟩⟩
 case round =>
  clear H'
  try clear p2
  try clear c4
  try clear c5
  try clear hcz4_0
  try clear hcz4_1
  try clear hfz4_0
  try clear hfz4_1
  obtain ⟨x4_1,x5_1,x6_1,x19_1,rfl,rfl,rfl,HA,HK1,HO_4,HO_17,HB⟩:=hrel
  cases gk with
  | zero=>exact absurd HA.out (by simp [impl_Disk_texts.l0])
  | succ k1 =>
   have H:=HA.out
   clear HA
   simp only [impl_Disk_texts.l0] at H
   by_cases c10:x19_1 < (t405.length:Int)
   ·rw [if_pos c10] at H
    have c10b0:=decide_eq_true c10
    clear c10
    by_cases c11:0 ≤ x19_1
    ·rw [if_pos c11] at H
     have c11b0:=decide_eq_true c11
     clear c11
     by_cases c12:x19_1 < (t405.length:Int)
     ·rw [if_pos c12] at H
      have c12b0:=decide_eq_true c12
      clear c12
      replace H:=Option.bind_eq_some_iff.mp H
      obtain ⟨⟨t409,t410,t411⟩,A130,H⟩:=H
      replace H:(if t411 = true then (if x5_1.size + t409.size ≤ 9223372036854775807 then (if t410 = true then (if x4_1.length < 8796093022208 then (impl_Disk_texts.l0 k1 (x4_1 ++ [x5_1 ++ t409]) (⟨#[]⟩:ByteArray) (wrap64 (x19_1 + 1)) t405 (t405.length:Int) (wrap64 (x19_1 + 1))) else (none)) else (impl_Disk_texts.l0 k1 x4_1 (x5_1 ++ t409) x6_1 t405 (t405.length:Int) (wrap64 (x19_1 + 1)))) else (none)) else (some (x4_1,x6_1))) = some (r1,r2):=H
      have A13:=Aside0.mk A130
      clear A130
      by_cases c14:t411 = true
      ·subst c14
       have H1:(if x5_1.size + t409.size ≤ 9223372036854775807 then (if t410 = true then (if x4_1.length < 8796093022208 then (impl_Disk_texts.l0 k1 (x4_1 ++ [x5_1 ++ t409]) (⟨#[]⟩:ByteArray) (wrap64 (x19_1 + 1)) t405 (t405.length:Int) (wrap64 (x19_1 + 1))) else (none)) else (impl_Disk_texts.l0 k1 x4_1 (x5_1 ++ t409) x6_1 t405 (t405.length:Int) (wrap64 (x19_1 + 1)))) else (none)) = some (r1,r2):=by rw [if_pos rfl] at H;exact H
       clear H
       have H:=H1
       clear H1
       by_cases c15:x5_1.size + t409.size ≤ 9223372036854775807
       ·rw [if_pos c15] at H
        have c15b0:=eq_true c15
        have c15b1:=decide_eq_true c15
        try have c15b2:(9223372036854775807 < x5_1.size + t409.size) = False:=eq_false (Nat.not_lt.2 c15)
        by_cases c16:t410 = true
        ·subst c16
         have H1:(if x4_1.length < 8796093022208 then (impl_Disk_texts.l0 k1 (x4_1 ++ [x5_1 ++ t409]) (⟨#[]⟩:ByteArray) (wrap64 (x19_1 + 1)) t405 (t405.length:Int) (wrap64 (x19_1 + 1))) else (none)) = some (r1,r2):=by rw [if_pos rfl] at H;exact H
         clear H
         have H:=H1
         clear H1
         by_cases c17:x4_1.length < 8796093022208
         ·rw [if_pos c17] at H
          have LMc17:=Aside0.mk c17
          clear c17
          obtain ⟨y412,hy412⟩:∃ y_:List ByteArray,y_ = (x4_1 ++ [x5_1 ++ t409]):=⟨_,rfl⟩
          replace H:(impl_Disk_texts.l0 k1 y412 (⟨#[]⟩:ByteArray) (wrap64 (x19_1 + 1)) t405 (t405.length:Int) (wrap64 (x19_1 + 1))) = some (r1,r2):=by first|(rw [hy412];with_reducible exact H)|(have H2_:=(Option.bind_some _ _).symm.trans H;rw [hy412];with_reducible exact H2_)|(have H2_:=(Option.bind_some _ _).symm.trans H;with_reducible exact H2_)|with_reducible exact H|(rw [hy412];exact H)|exact H
          have Ny412:=Aside0.mk hy412
          clear hy412
          have H':=Aside0.mk H
          clear H
          have p408:0 ≤ (x19_1:Int):=oD
          have q408:x19_1 < (t405.length:Int):=oD
          obtain ⟨ad408,e408,hx408_0⟩:=Kd.at_string (Kd.R_reads' HO_17.out).2.2 x19_1 p408 q408
          cases e408
          replace p408:=eq_true p408
          replace q408:=eq_true q408
          go_wp2_with (first|((with_reducible refine gate_callee (f:=85) rfl ?_);refine goesL_ (some 27) rfl rfl Try.func85 (by kernel_rfl) rfl #[.int .i64 x19_1,.string (rdOf ByteArray.empty t405 x19_1)] rfl Ya ?_;(with_reducible refine (impl_ReadSector.calls k1 x19_1 (rdOf ByteArray.empty t405 x19_1) t409 true true _ A13.out).mono ?_);rintro e w18 ⟨rfl,hb⟩;refine ⟨_,rfl,?_⟩;replace HO_4:=Aside0.mk (Kd.R_below (rR HO_4) hb);replace HO_17:=Aside0.mk (Kd.R_below (rR HO_17) hb);replace HB:=Aside0.mk (below_step bH hb);(try clear hb);(try clear hb2);(try clear hk);(try clear hi))|((with_reducible refine gate_builtin (b:=.append) (xs:=#[.tmp 37,.tmp 39]) rfl ?_);at_builtin;refine Kd.R_append Kd.string (w0:=w) w.heap.size rfl (.tmp 37) (.tmp 39) 24 9 (.string ⟨#[]⟩) 16 rfl Try.underlying24 info9 rfl (by decide) Yy u4 x4_1 (x5_1 ++ t409) [.string (x5_1 ++ t409)] (fun k_=>(w.heap.size ≤ k_) ∧ some k_ ≠ (.slice (some ad408) t405.length co9:Value).ownBlock) (fun _=>False) rfl rfl ?aP (fun _ hk=>hk.elim) ?aF ?aO ?aB ?aS ?aL ?_;(case aP=>exact rfl);(case aB=>exact bH);(case aF=>exact (fun k_ hk=>⟨(Nat.le_trans (below_size bH) hk),Kd.fresh' (Kd.R_lt (rR HO_17)) k_ hk⟩));(case aO=>exact (rR HO_4));(case aS=>exact YB);(case aL=>have:=LMc17.out;omega);intro v413 w19 ho hb hg hat;rw [← Ny412.out] at ho;have n0_:=Aside0.mk (Kd.R_after (ok:=(fun k_=>(w.heap.size ≤ k_))) (rR HO_17) hg hat);have n1_:=Aside0.mk (hb);have n2_:=Aside0.mk (ho);clear HO_17;clear HB;clear HO_4;have HO_17:=n0_;have HB:=n1_;have HO414:=n2_;clear n0_ n1_ n2_;clear ho hb hg hat))
          go_roundg k1
          case measure=>have:=HK1.out;omega
          case rel=>exact ⟨(y412),((⟨#[]⟩:ByteArray)),(wrap64 (x19_1 + 1)),(wrap64 (x19_1 + 1)),Yh,Yh,Yh,H',⟨by have:=HK1.out;omega⟩,⟨rR HO414⟩,⟨rR HO_17⟩,⟨bH⟩⟩
         ·rw [if_neg c17] at H
          exact absurd H (by simp)
        ·replace c16:=Bool.eq_false_iff.mpr c16
         subst c16
         have H1:(impl_Disk_texts.l0 k1 x4_1 (x5_1 ++ t409) x6_1 t405 (t405.length:Int) (wrap64 (x19_1 + 1))) = some (r1,r2):=by rw [if_neg (show ¬ (false = true) by decide)] at H;exact H
         clear H
         have H:=H1
         clear H1
         have H':=Aside0.mk H
         clear H
         have p408:0 ≤ (x19_1:Int):=oD
         have q408:x19_1 < (t405.length:Int):=oD
         obtain ⟨ad408,e408,hx408_0⟩:=Kd.at_string (Kd.R_reads' HO_17.out).2.2 x19_1 p408 q408
         cases e408
         replace p408:=eq_true p408
         replace q408:=eq_true q408
         go_wp2_with (first|((with_reducible refine gate_callee (f:=85) rfl ?_);refine goesL_ (some 27) rfl rfl Try.func85 (by kernel_rfl) rfl #[.int .i64 x19_1,.string (rdOf ByteArray.empty t405 x19_1)] rfl Ya ?_;(with_reducible refine (impl_ReadSector.calls k1 x19_1 (rdOf ByteArray.empty t405 x19_1) t409 false true _ A13.out).mono ?_);rintro e w20 ⟨rfl,hb⟩;refine ⟨_,rfl,?_⟩;replace HO_4:=Aside0.mk (Kd.R_below (rR HO_4) hb);replace HO_17:=Aside0.mk (Kd.R_below (rR HO_17) hb);replace HB:=Aside0.mk (below_step bH hb);(try clear hb);(try clear hb2);(try clear hk);(try clear hi)))
         go_roundg k1
         case measure=>have:=HK1.out;omega
         case rel=>exact ⟨(x4_1),(x5_1 ++ t409),(x6_1),(wrap64 (x19_1 + 1)),Yh,Yh,Yh,H',⟨by have:=HK1.out;omega⟩,⟨rR HO_4⟩,⟨rR HO_17⟩,⟨bH⟩⟩
       ·rw [if_neg c15] at H
        exact absurd H (by simp)
      ·replace c14:=Bool.eq_false_iff.mpr c14
       subst c14
       have H1:(some (x4_1,x6_1)) = some (r1,r2):=by rw [if_neg (show ¬ (false = true) by decide)] at H;exact H
       clear H
       have H:=H1
       clear H1
       simp only [Option.some.injEq,Prod.mk.injEq] at H
       obtain ⟨rfl,rfl⟩:=H
       have p408:0 ≤ (x19_1:Int):=oD
       have q408:x19_1 < (t405.length:Int):=oD
       obtain ⟨ad408,e408,hx408_0⟩:=Kd.at_string (Kd.R_reads' HO_17.out).2.2 x19_1 p408 q408
       cases e408
       replace p408:=eq_true p408
       replace q408:=eq_true q408
       go_wp2_with (first|((with_reducible refine gate_callee (f:=85) rfl ?_);refine goesL_ (some 27) rfl rfl Try.func85 (by kernel_rfl) rfl #[.int .i64 x19_1,.string (rdOf ByteArray.empty t405 x19_1)] rfl Ya ?_;(with_reducible refine (impl_ReadSector.calls k1 x19_1 (rdOf ByteArray.empty t405 x19_1) t409 t410 false _ A13.out).mono ?_);rintro e w21 ⟨rfl,hb⟩;refine ⟨_,rfl,?_⟩;replace HO_4:=Aside0.mk (Kd.R_below (rR HO_4) hb);replace HO_17:=Aside0.mk (Kd.R_below (rR HO_17) hb);replace HB:=Aside0.mk (below_step bH hb);(try clear hb);(try clear hb2);(try clear hk);(try clear hi)))
       go_ret2
       exact ⟨_,Yb,by (with_reducible repeat (first|apply Kd.R_alloc|apply Kd.R_drewN|apply Kd.R_drew));exact Kd.R_mono HO_4.out (fun _ hk=>hk.1),bH⟩
     ·rw [if_neg c12] at H
      exact absurd H (by simp)
    ·rw [if_neg c11] at H
     exact absurd H (by simp)
   ·rw [if_neg c10] at H
    have c10b0:decide (x19_1 < (t405.length:Int)) = false:=decide_eq_false c10
    clear c10
    simp only [Option.some.injEq,Prod.mk.injEq] at H
    obtain ⟨rfl,rfl⟩:=H
    go_wp2
    go_ret2
    exact ⟨_,Yb,by (with_reducible repeat (first|apply Kd.R_alloc|apply Kd.R_drewN|apply Kd.R_drew));exact Kd.R_mono HO_4.out (fun _ hk=>hk.1),bH⟩

/-! ### impl_TextsOn: function 13 -/
def impl_TextsOn.f (k:Nat) (l0_0:List ByteArray) (l0_1:List ByteArray):Option (List ByteArray × Int × Bool):=(impl_GoodDisk.f k l0_0 l0_1).bind fun t416=>(if t416 = true then ((impl_Disk_texts.f k l0_0 l0_1).bind fun bt417=>(some (bt417.1,bt417.2,true))) else (some (([]:List ByteArray),0,false)))
theorem impl_TextsOn.mono:∀ a0 a1 k,LeO (impl_TextsOn.f k a0 a1) (impl_TextsOn.f (k + 1) a0 a1):=by
 intro a0 a1 k
 unfold impl_TextsOn.f
 have m0:=@impl_Disk_texts.mono
 have m1:=@impl_GoodDisk.mono
 exact mO
set_option maxHeartbeats 8000000 in
set_option maxRecDepth 100000 in
theorem impl_TextsOn.calls (k:Nat) (A0_0:Option Addr) (c0_0:Nat) (l0_0:List ByteArray) (A0_1:Option Addr) (c0_1:Nat) (l0_1:List ByteArray) (r1:List ByteArray) (r2:Int) (r3:Bool) (w:World) (hr0_0:Kd.C Kd.string w A0_0 l0_0.length l0_0) (hc0_0:l0_0.length ≤ c0_0) (hr0_1:Kd.C Kd.string w A0_1 l0_1.length l0_1) (hc0_1:l0_1.length ≤ c0_1) (h:impl_TextsOn.f k l0_0 l0_1 = some (r1,r2,r3)) :
  Calls Try.prog 13 #[.agg #[.slice A0_0 l0_0.length c0_0,.slice A0_1 l0_1.length c0_1]] w fun e w'=>∃ v0_:Value,e = .returned (.tuple #[v0_,.int .i64 r2,.bool r3]) ∧ Kd.R Kd.string 9 w' w.heap.size (fun _=>True) v0_ r1 ∧ Below w.heap.size w w':=by
 have hu26:=Try.underlying26
 have HR0_0:=Aside0.mk hr0_0
 have HC0_0:=Aside0.mk hc0_0
 clear hr0_0 hc0_0
 have HR0_1:=Aside0.mk hr0_1
 have HC0_1:=Aside0.mk hc0_1
 clear hr0_1 hc0_1
 have HB:=Aside0.mk (Below.refl w.heap.size w)
 have H:((impl_GoodDisk.f k l0_0 l0_1).bind fun t416=>(if t416 = true then ((impl_Disk_texts.f k l0_0 l0_1).bind fun bt417=>(some (bt417.1,bt417.2,true))) else (some (([]:List ByteArray),0,false)))) = some (r1,r2,r3):=h
 clear h
 replace H:=Option.bind_eq_some_iff.mp H
 obtain ⟨t416,A20,H⟩:=H
 replace H:(if t416 = true then ((impl_Disk_texts.f k l0_0 l0_1).bind fun bt417=>(some (bt417.1,bt417.2,true))) else (some (([]:List ByteArray),0,false))) = some (r1,r2,r3):=H
 have A2:=Aside0.mk A20
 clear A20
 by_cases c3:t416 = true
 ·subst c3
  have H1:((impl_Disk_texts.f k l0_0 l0_1).bind fun bt417=>(some (bt417.1,bt417.2,true))) = some (r1,r2,r3):=by rw [if_pos rfl] at H;exact H
  clear H
  have H:=H1
  clear H1
  replace H:=Option.bind_eq_some_iff.mp H
  obtain ⟨⟨t417,t420⟩,A40,H⟩:=H
  replace H:(some (t417,t420,true)) = some (r1,r2,r3):=H
  have A4:=Aside0.mk A40
  clear A40
  simp only [Option.some.injEq,Prod.mk.injEq] at H
  obtain ⟨rfl,rfl,rfl⟩:=H
  go_enter Try.func13,Try.ntmps13
  go_wp2_with (first|((with_reducible refine gate_dst (N:=1) rfl ?_);refine box_event ?hg (N:=1) ?hd (cs:=#[.slice A0_0 l0_0.length c0_0,.slice A0_1 l0_1.length c0_1]) (t:=26) ?hr ?_;(case hd=>rfl);(case hg=>rfl);(case hr=>exact Yg);intro gb415 hg w5 hbox hb;have BK415:=Aside0.mk (hbox);have GW415:=Aside0.mk ((hZ:w.heap.size ≤ gb415));have GE415:=Aside0.mk ((hZ:w.heap.size ≤ gb415));replace HB:=Aside0.mk (below_step bH hb);clear hb hbox hg;have hcz6_0:w5.cell? ⟨gb415,0,none⟩ = some (.slice A0_0 l0_0.length c0_0):=(blk_cell BK415.out 0).trans rfl;have hcz6_1:w5.cell? ⟨gb415,1,none⟩ = some (.slice A0_1 l0_1.length c0_1):=(blk_cell BK415.out 1).trans rfl;have hfz6_0:=blk_frozen BK415.out 0;have hfz6_1:=blk_frozen BK415.out 1)|((with_reducible refine gate_callee (f:=11) rfl ?_);refine goesL_ (some 8) rfl rfl Try.func11 (by kernel_rfl) rfl #[.agg #[.slice A0_0 l0_0.length c0_0,.slice A0_1 l0_1.length c0_1]] rfl Ya ?_;(with_reducible refine (impl_GoodDisk.calls k (fun k_=>k_ < w.heap.size) _ _ l0_0 (fun k_=>k_ < w.heap.size) _ _ l0_1 true _ ?side1 ?side2 A2.out).mono ?_);(case side1=>exact YA);(case side2=>exact Yz);rintro e w7 ⟨rfl,hb⟩;refine ⟨_,rfl,?_⟩;replace BK415:=Aside0.mk (blk_below (bB BK415) hb);replace HB:=Aside0.mk (below_step bH hb);(try clear hb);(try clear hb2);(try clear hk);(try clear hi);have hcz8_0:w7.cell? ⟨gb415,0,none⟩ = some (.slice A0_0 l0_0.length c0_0):=(blk_cell BK415.out 0).trans rfl;have hcz8_1:w7.cell? ⟨gb415,1,none⟩ = some (.slice A0_1 l0_1.length c0_1):=(blk_cell BK415.out 1).trans rfl;have hfz8_0:=blk_frozen BK415.out 0;have hfz8_1:=blk_frozen BK415.out 1)|((with_reducible refine gate_callee (f:=50) rfl ?_);refine goesL_ (some 12) rfl rfl Try.func50 (by kernel_rfl) rfl #[.agg #[.slice A0_0 l0_0.length c0_0,.slice A0_1 l0_1.length c0_1]] rfl Ya ?_;(with_reducible refine (impl_Disk_texts.calls k (fun k_=>k_ < w.heap.size) _ _ l0_0 (fun k_=>k_ < w.heap.size) _ _ l0_1 t417 t420 _ ?side1 ?side2 A4.out).mono ?_);(case side1=>exact YA);(case side2=>exact Yz);rintro e w9 ⟨v418,rfl,ho0,hb⟩;refine ⟨_,rfl,?_⟩;have HO419:=Aside0.mk (Kd.R_lower (Kd.R_mono (ok':=fun k_=>True) ho0 (fun _ hk_=>trivial)) (below_size bH));replace BK415:=Aside0.mk (blk_below (bB BK415) hb);replace HB:=Aside0.mk (below_step bH hb);(try clear hb);(try clear hb2);(try clear hk);(try clear hi);(try clear ho0)))
  go_ret3
  exact ⟨_,Yb,rR HO419,bH⟩
 ·replace c3:=Bool.eq_false_iff.mpr c3
  subst c3
  have H1:(some (([]:List ByteArray),0,false)) = some (r1,r2,r3):=by rw [if_neg (show ¬ (false = true) by decide)] at H;exact H
  clear H
  have H:=H1
  clear H1
  simp only [Option.some.injEq,Prod.mk.injEq] at H
  obtain ⟨rfl,rfl,rfl⟩:=H
  go_enter Try.func13,Try.ntmps13
  go_wp2_with (first|((with_reducible refine gate_dst (N:=1) rfl ?_);refine box_event ?hg (N:=1) ?hd (cs:=#[.slice A0_0 l0_0.length c0_0,.slice A0_1 l0_1.length c0_1]) (t:=26) ?hr ?_;(case hd=>rfl);(case hg=>rfl);(case hr=>exact Yg);intro gb415 hg w10 hbox hb;have BK415:=Aside0.mk (hbox);have GW415:=Aside0.mk ((hZ:w.heap.size ≤ gb415));have GE415:=Aside0.mk ((hZ:w.heap.size ≤ gb415));replace HB:=Aside0.mk (below_step bH hb);clear hb hbox hg;have hcz11_0:w10.cell? ⟨gb415,0,none⟩ = some (.slice A0_0 l0_0.length c0_0):=(blk_cell BK415.out 0).trans rfl;have hcz11_1:w10.cell? ⟨gb415,1,none⟩ = some (.slice A0_1 l0_1.length c0_1):=(blk_cell BK415.out 1).trans rfl;have hfz11_0:=blk_frozen BK415.out 0;have hfz11_1:=blk_frozen BK415.out 1)|((with_reducible refine gate_callee (f:=11) rfl ?_);refine goesL_ (some 8) rfl rfl Try.func11 (by kernel_rfl) rfl #[.agg #[.slice A0_0 l0_0.length c0_0,.slice A0_1 l0_1.length c0_1]] rfl Ya ?_;(with_reducible refine (impl_GoodDisk.calls k (fun k_=>k_ < w.heap.size) _ _ l0_0 (fun k_=>k_ < w.heap.size) _ _ l0_1 false _ ?side1 ?side2 A2.out).mono ?_);(case side1=>exact YA);(case side2=>exact Yz);rintro e w12 ⟨rfl,hb⟩;refine ⟨_,rfl,?_⟩;replace BK415:=Aside0.mk (blk_below (bB BK415) hb);replace HB:=Aside0.mk (below_step bH hb);(try clear hb);(try clear hb2);(try clear hk);(try clear hi)))
  go_ret3
  exact ⟨_,Yb,Yd,bH⟩

/-! ### slices_Clone_string_string: function 51, by the kit's own contract -/
open Go.Shelf in
shelf_lay Lays2.n16 Nm2 16 at Try as Try.laysCloneLays2n16
theorem Try.flaysCloneLays2n16:Try.laysCloneLays2n16_ren.f 16 = 51:=by kernel_rfl
theorem Try.tlaysCloneLays2n16:Try.laysCloneLays2n16_ren.t 9 = 9:=by kernel_rfl
def slices_Clone_string_string.f (l0:List ByteArray):Option (List ByteArray):=if l0.length ≤ 8796093022208 then some l0 else none
theorem slices_Clone_string_string.calls (A0:Option Addr) (c0:Nat) (l0:List ByteArray) (r:List ByteArray) (w:World) (hr0:Kd.C Kd.string w A0 l0.length l0) (hc0:l0.length ≤ c0) (h:slices_Clone_string_string.f l0 = some r) :
  Calls Try.prog 51 #[.slice A0 l0.length c0] w fun e w'=>∃ v0_:Value,e = .returned (v0_) ∧ Kd.R Kd.string 9 w' w.heap.size (fun _=>True) v0_ r ∧ Below w.heap.size w w':=by
 unfold slices_Clone_string_string.f at h
 split at h
 ·rename_i hn
  obtain rfl:=Option.some.inj h
  have hR:ReadsOf Value.string ByteArray.empty w A0 l0.length l0:=Kd.reads_of_C hr0
  rcases A0 with _|⟨b,off,sp⟩
  ·have h0:l0 = []:=by
    rcases Nat.eq_zero_or_pos l0.length with h|h
    ·exact List.eq_nil_of_length_eq_zero h
    ·obtain ⟨ad,e,_⟩:=hR.2.2 h
     cases e
   subst h0
   have h':=Any.slices_Clone_string_nil Try.laysCloneLays2n16 0 c0 w
   rw [Try.flaysCloneLays2n16] at h'
   exact h'.mono fun e w' ⟨he,hw⟩=>⟨_,he,Kd.R_nil _ _ _ _ _,hw ▸ Below.refl _ _⟩
  ·rcases Nat.eq_zero_or_pos l0.length with h0|h0
   ·obtain rfl:l0 = []:=List.eq_nil_of_length_eq_zero h0
    have h':=Any.slices_Clone_string_zero Try.laysCloneLays2n16 ⟨b,off,sp⟩ c0 w
    rw [Try.flaysCloneLays2n16,Try.tlaysCloneLays2n16] at h'
    exact h'.mono fun e w' ⟨v,he,ho,_,hb⟩=>⟨v,he,Kd.R_of_own (enc:=Value.string) (h1:=fun _=>rfl) ho (fun _ _=>trivial),hb⟩
   ·obtain ⟨ad,e,hc⟩:=hR.2.2 h0
    injection e with e
    subst e
    have hsp:sp = none:=by
     have h1:=hc 0 h0
     cases sp with
     | none=>rfl
     | some x=>simp [Addr.add,World.cell?] at h1;split at h1 <;> simp at h1
    subst hsp
    have h':=Any.slices_Clone_string Try.laysCloneLays2n16 b off l0.length c0 l0 w (Nat.le_refl _) (by omega) (fun j hj=>(Addr.add_lit b off j) ▸ hc j hj)
    rw [Try.flaysCloneLays2n16,Try.tlaysCloneLays2n16,List.take_length] at h'
    exact h'.mono fun e w' ⟨v,he,ho,_,hb⟩=>⟨v,he,Kd.R_of_own (enc:=Value.string) (h1:=fun _=>rfl) ho (fun _ _=>trivial),hb⟩
 ·simp at h

/-! ### impl_MendDisk: function 14 -/
def impl_MendDisk.j0:Nat → Bool → List ByteArray → List ByteArray → Option (List ByteArray × List ByteArray × Bool)
 | 0,_,_,_=>none
 | k + 1,x14,x422000,x422001=>if x14 = true then (some (([]:List ByteArray),([]:List ByteArray),false)) else ((impl_Disk_texts.f k x422000 x422001).bind fun bt424=>(if 0 ≤ bt424.2 then (if bt424.2 ≤ (x422000.length:Int) then ((slices_Clone_string_string.f (x422000.take (bt424.2:Int).toNat)).bind fun t429=>(some (t429,([]:List ByteArray),true))) else (none)) else (none)))
def impl_MendDisk.f (k:Nat) (l0_0:List ByteArray) (l0_1:List ByteArray):Option (List ByteArray × List ByteArray × Bool):=(impl_GoodDisk.f k l0_0 l0_1).bind fun t423=>(if t423 = true then (impl_MendDisk.j0 k (decide ((l0_1.length:Int) > 0)) l0_0 l0_1) else (impl_MendDisk.j0 k true l0_0 l0_1))
theorem impl_MendDisk.mono_l:∀ k,(∀ y0 y1 y2,LeO (impl_MendDisk.j0 k y0 y1 y2) (impl_MendDisk.j0 (k + 1) y0 y1 y2))
 | 0=>fun _ _ _ r h=>by simp [impl_MendDisk.j0] at h
 | k + 1=>by
  have ih0:=impl_MendDisk.mono_l k
  ·intro y0 y1 y2
   unfold impl_MendDisk.j0
   have m0:=@impl_Disk_texts.mono
   have m1:=@impl_GoodDisk.mono
   exact mO
theorem impl_MendDisk.mono:∀ a0 a1 k,LeO (impl_MendDisk.f k a0 a1) (impl_MendDisk.f (k + 1) a0 a1):=by
 intro a0 a1 k
 have ih0:=impl_MendDisk.mono_l k
 unfold impl_MendDisk.f
 have m0:=@impl_Disk_texts.mono
 have m1:=@impl_GoodDisk.mono
 exact mO
set_option maxHeartbeats 8000000 in
set_option maxRecDepth 100000 in
theorem impl_MendDisk.calls (k:Nat) (A0_0:Option Addr) (c0_0:Nat) (l0_0:List ByteArray) (A0_1:Option Addr) (c0_1:Nat) (l0_1:List ByteArray) (r1:List ByteArray) (r2:List ByteArray) (r3:Bool) (w:World) (hr0_0:Kd.C Kd.string w A0_0 l0_0.length l0_0) (hc0_0:l0_0.length ≤ c0_0) (hr0_1:Kd.C Kd.string w A0_1 l0_1.length l0_1) (hc0_1:l0_1.length ≤ c0_1) (h:impl_MendDisk.f k l0_0 l0_1 = some (r1,r2,r3)) :
  Calls Try.prog 14 #[.agg #[.slice A0_0 l0_0.length c0_0,.slice A0_1 l0_1.length c0_1]] w fun e w'=>∃ v0_ v1_:Value,e = .returned (.tuple #[.agg #[v0_,v1_],.bool r3]) ∧ Kd.R Kd.string 9 w' w.heap.size (fun k_=>some k_ ≠ (v1_:Value).ownBlock) v0_ r1 ∧ Kd.R Kd.string 9 w' w.heap.size (fun k_=>some k_ ≠ (v0_:Value).ownBlock) v1_ r2 ∧ Below w.heap.size w w':=by
 have hu26:=Try.underlying26
 have HR0_0:=Aside0.mk hr0_0
 have HC0_0:=Aside0.mk hc0_0
 clear hr0_0 hc0_0
 have HR0_1:=Aside0.mk hr0_1
 have HC0_1:=Aside0.mk hc0_1
 clear hr0_1 hc0_1
 have HB:=Aside0.mk (Below.refl w.heap.size w)
 have H:((impl_GoodDisk.f k l0_0 l0_1).bind fun t423=>(if t423 = true then (impl_MendDisk.j0 k (decide ((l0_1.length:Int) > 0)) l0_0 l0_1) else (impl_MendDisk.j0 k true l0_0 l0_1))) = some (r1,r2,r3):=h
 clear h
 have HC2:=Aside0.mk H
 clear H
 go_enter Try.func14,Try.ntmps14
 go_upto_region 1 with (first|((with_reducible refine gate_dst (N:=1) rfl ?_);(try (refine gate_guard (by rfl) ?_;dsimp only));refine box_event ?hg (N:=1) ?hd (cs:=#[.slice A0_0 l0_0.length c0_0,.slice A0_1 l0_1.length c0_1]) (t:=26) ?hr ?_;(case hd=>rfl);(case hg=>rfl);(case hr=>exact Yg);intro gb421 hg w3 hbox hb;have BK421:=Aside0.mk (hbox);have GW421:=Aside0.mk ((hZ:w.heap.size ≤ gb421));have GE421:=Aside0.mk ((hZ:w.heap.size ≤ gb421));replace HB:=Aside0.mk (below_step bH hb);clear hb hbox hg)|((with_reducible refine gate_dst (N:=2) rfl ?_);(try (refine gate_guard (by rfl) ?_;dsimp only));refine box_event ?hg (N:=2) ?hd (cs:=#[.slice none 0 0,.slice none 0 0]) (t:=26) ?hr ?_;(case hd=>rfl);(case hg=>rfl);(case hr=>exact Yg);intro gb422 hg w4 hbox hb;have BK422:=Aside0.mk (hbox);have GW422:=Aside0.mk ((hZ:w.heap.size ≤ gb422));have GE422:=Aside0.mk ((hZ:w.heap.size ≤ gb422));replace HB:=Aside0.mk (below_step bH hb);have NB421_422:=Aside0.mk ((nL BK421:gb421 ≠ gb422));have NB422_421:=Aside0.mk ((nG BK421:gb422 ≠ gb421));replace BK421:=Aside0.mk (blk_below (bB BK421) hb);clear hb hbox hg))
 (try simp only [Act.put,List.setIfInBounds_toArray,List.set_cons_zero,List.set_cons_succ])
 go_cut [14] (fun v14 wc=>∃ (kq:Nat) (x14_1:Bool),v14 = .bool x14_1 ∧ Aside0 (impl_MendDisk.j0 kq x14_1 l0_0 l0_1 = some (r1,r2,r3)) ∧ Aside0 (kq ≤ k) ∧ Aside0 (wc.heap[gb421]? = some (.cells #[(.slice A0_0 l0_0.length c0_0),(.slice A0_1 l0_1.length c0_1)] 26 (0,0))) ∧ Aside0 (wc.heap[gb422]? = some (.cells #[(.slice none 0 0),(.slice none 0 0)] 26 (0,0))) ∧ Aside0 (Below w.heap.size w wc))
 case first =>
  have H:=HC2.out
  clear HC2
  replace H:=Option.bind_eq_some_iff.mp H
  obtain ⟨t423,A50,H⟩:=H
  replace H:(if t423 = true then (impl_MendDisk.j0 k (decide ((l0_1.length:Int) > 0)) l0_0 l0_1) else (impl_MendDisk.j0 k true l0_0 l0_1)) = some (r1,r2,r3):=H
  have A5:=Aside0.mk A50
  clear A50
  by_cases c6:t423 = true
  ·subst c6
   have H1:(impl_MendDisk.j0 k (decide ((l0_1.length:Int) > 0)) l0_0 l0_1) = some (r1,r2,r3):=by rw [if_pos rfl] at H;exact H
   clear H
   have H:=H1
   clear H1
   have H':=Aside0.mk H
   clear H
   have hnb7:=NB421_422.out
   have hnc7:=NB422_421.out
   have hcz8_0:w4.cell? ⟨gb421,0,none⟩ = some (.slice A0_0 l0_0.length c0_0):=(blk_cell BK421.out 0).trans rfl
   have hcz8_1:w4.cell? ⟨gb421,1,none⟩ = some (.slice A0_1 l0_1.length c0_1):=(blk_cell BK421.out 1).trans rfl
   have hfz8_0:=blk_frozen BK421.out 0
   have hfz8_1:=blk_frozen BK421.out 1
   go_wp2_with (first|((with_reducible refine gate_callee (f:=11) rfl ?_);refine goesL_ (some 7) rfl rfl Try.func11 (by kernel_rfl) rfl #[.agg #[.slice A0_0 l0_0.length c0_0,.slice A0_1 l0_1.length c0_1]] rfl Ya ?_;(with_reducible refine (impl_GoodDisk.calls k (fun k_=>k_ < w.heap.size) _ _ l0_0 (fun k_=>k_ < w.heap.size) _ _ l0_1 true _ ?side1 ?side2 A5.out).mono ?_);(case side1=>exact YA);(case side2=>exact Yz);rintro e w9 ⟨rfl,hb⟩;refine ⟨_,rfl,?_⟩;replace BK421:=Aside0.mk (blk_below (bB BK421) hb);replace BK422:=Aside0.mk (blk_below (bB BK422) hb);replace HB:=Aside0.mk (below_step bH hb);(try clear hb);(try clear hb2);(try clear hk);(try clear hi);have hcz10_0:w9.cell? ⟨gb421,0,none⟩ = some (.slice A0_0 l0_0.length c0_0):=(blk_cell BK421.out 0).trans rfl;have hcz10_1:w9.cell? ⟨gb421,1,none⟩ = some (.slice A0_1 l0_1.length c0_1):=(blk_cell BK421.out 1).trans rfl;have hfz10_0:=blk_frozen BK421.out 0;have hfz10_1:=blk_frozen BK421.out 1))
   go_meet
   case rel=>exact ⟨_,(decide ((l0_1.length:Int) > 0)),Yh,H',⟨YQ⟩,⟨by (with_reducible repeat (first|refine blk_drewN ?_ _|refine blk_drew ?_|refine blk_alloc ?_ _));exact BK421.out⟩,⟨by (with_reducible repeat (first|refine blk_drewN ?_ _|refine blk_drew ?_|refine blk_alloc ?_ _));exact BK422.out⟩,⟨bH⟩⟩
  ·replace c6:=Bool.eq_false_iff.mpr c6
   subst c6
   have H1:(impl_MendDisk.j0 k true l0_0 l0_1) = some (r1,r2,r3):=by rw [if_neg (show ¬ (false = true) by decide)] at H;exact H
   clear H
   have H:=H1
   clear H1
   have H':=Aside0.mk H
   clear H
   have hnb11:=NB421_422.out
   have hnc11:=NB422_421.out
   have hcz12_0:w4.cell? ⟨gb421,0,none⟩ = some (.slice A0_0 l0_0.length c0_0):=(blk_cell BK421.out 0).trans rfl
   have hcz12_1:w4.cell? ⟨gb421,1,none⟩ = some (.slice A0_1 l0_1.length c0_1):=(blk_cell BK421.out 1).trans rfl
   have hfz12_0:=blk_frozen BK421.out 0
   have hfz12_1:=blk_frozen BK421.out 1
   go_wp2_with (first|((with_reducible refine gate_callee (f:=11) rfl ?_);refine goesL_ (some 7) rfl rfl Try.func11 (by kernel_rfl) rfl #[.agg #[.slice A0_0 l0_0.length c0_0,.slice A0_1 l0_1.length c0_1]] rfl Ya ?_;(with_reducible refine (impl_GoodDisk.calls k (fun k_=>k_ < w.heap.size) _ _ l0_0 (fun k_=>k_ < w.heap.size) _ _ l0_1 false _ ?side1 ?side2 A5.out).mono ?_);(case side1=>exact YA);(case side2=>exact Yz);rintro e w13 ⟨rfl,hb⟩;refine ⟨_,rfl,?_⟩;replace BK421:=Aside0.mk (blk_below (bB BK421) hb);replace BK422:=Aside0.mk (blk_below (bB BK422) hb);replace HB:=Aside0.mk (below_step bH hb);(try clear hb);(try clear hb2);(try clear hk);(try clear hi)))
   go_meet
   case rel=>exact ⟨_,(true),Yh,H',⟨YQ⟩,⟨by (with_reducible repeat (first|refine blk_drewN ?_ _|refine blk_drew ?_|refine blk_alloc ?_ _));exact BK421.out⟩,⟨by (with_reducible repeat (first|refine blk_drewN ?_ _|refine blk_drew ?_|refine blk_alloc ?_ _));exact BK422.out⟩,⟨bH⟩⟩
 case rest =>
  clear HC2
  try clear c1
  try clear p2
  try clear c6
  try clear c7
  try clear c11
  try clear hcz10_0
  try clear hcz10_1
  try clear hcz12_0
  try clear hcz12_1
  try clear hcz8_0
  try clear hcz8_1
  try clear hfz10_0
  try clear hfz10_1
  try clear hfz12_0
  try clear hfz12_1
  try clear hfz8_0
  try clear hfz8_1
  obtain ⟨kq,x14_1,rfl,HA,HJ1,BK421,BK422,HB⟩:=hcut
  cases kq with
  | zero=>exact absurd HA.out (by simp [impl_MendDisk.j0])
  | succ kj1 =>
   have H:=HA.out
   clear HA
   simp only [impl_MendDisk.j0] at H
   by_cases c14:x14_1 = true
   ·subst c14
    have H1:(some (([]:List ByteArray),([]:List ByteArray),false)) = some (r1,r2,r3):=by rw [if_pos rfl] at H;exact H
    clear H
    have H:=H1
    clear H1
    simp only [Option.some.injEq,Prod.mk.injEq] at H
    obtain ⟨rfl,rfl,rfl⟩:=H
    have hnb15:=NB422_421.out
    have hnc15:=NB421_422.out
    have hcz16_0:wc.cell? ⟨gb422,0,none⟩ = some (.slice none 0 0):=(blk_cell BK422.out 0).trans rfl
    have hcz16_1:wc.cell? ⟨gb422,1,none⟩ = some (.slice none 0 0):=(blk_cell BK422.out 1).trans rfl
    have hfz16_0:=blk_frozen BK422.out 0
    have hfz16_1:=blk_frozen BK422.out 1
    go_wp2
    refine bodyPost_ret (results_ct rfl _ _ gb422 26 #[.slice none 0 0,.slice none 0 0] (0,0) _ rfl (by (with_reducible repeat (first|refine blk_drewN ?_ _|refine blk_drew ?_|refine blk_alloc ?_ _));refine blk_put (cs:=#[.slice none 0 0,.slice none 0 0]) ?_ 1 _ rfl;(with_reducible repeat (first|refine blk_drewN ?_ _|refine blk_drew ?_|refine blk_alloc ?_ _));refine blk_put (cs:=#[.slice none 0 0,.slice none 0 0]) ?_ 0 _ rfl;(with_reducible repeat (first|refine blk_drewN ?_ _|refine blk_drew ?_|refine blk_alloc ?_ _));exact BK422.out) Try.underlying26 rfl (by kernel_rfl)) rfl ?_
    exact ⟨_,_,Yb,Yd,Yd,bH⟩
   ·replace c14:=Bool.eq_false_iff.mpr c14
    subst c14
    have H1:((impl_Disk_texts.f kj1 l0_0 l0_1).bind fun bt424=>(if 0 ≤ bt424.2 then (if bt424.2 ≤ (l0_0.length:Int) then ((slices_Clone_string_string.f (l0_0.take (bt424.2:Int).toNat)).bind fun t429=>(some (t429,([]:List ByteArray),true))) else (none)) else (none))) = some (r1,r2,r3):=by rw [if_neg (show ¬ (false = true) by decide)] at H;exact H
    clear H
    have H:=H1
    clear H1
    replace H:=Option.bind_eq_some_iff.mp H
    obtain ⟨⟨t424,t427⟩,A170,H⟩:=H
    replace H:(if 0 ≤ t427 then (if t427 ≤ (l0_0.length:Int) then ((slices_Clone_string_string.f (l0_0.take (t427:Int).toNat)).bind fun t429=>(some (t429,([]:List ByteArray),true))) else (none)) else (none)) = some (r1,r2,r3):=H
    have A17:=Aside0.mk A170
    clear A170
    by_cases c18:0 ≤ t427
    ·rw [if_pos c18] at H
     have c18b0:=eq_true c18
     have c18b1:=decide_eq_true c18
     clear c18
     by_cases c19:t427 ≤ (l0_0.length:Int)
     ·rw [if_pos c19] at H
      have c19b0:=eq_true c19
      have c19b1:=decide_eq_true c19
      clear c19
      replace H:=Option.bind_eq_some_iff.mp H
      obtain ⟨t429,A200,H⟩:=H
      replace H:(some (t429,([]:List ByteArray),true)) = some (r1,r2,r3):=H
      have A20:=Aside0.mk A200
      clear A200
      simp only [Option.some.injEq,Prod.mk.injEq] at H
      obtain ⟨rfl,rfl,rfl⟩:=H
      have hnb21:=NB421_422.out
      have hnc21:=NB422_421.out
      have hcz22_0:wc.cell? ⟨gb421,0,none⟩ = some (.slice A0_0 l0_0.length c0_0):=(blk_cell BK421.out 0).trans rfl
      have hcz22_1:wc.cell? ⟨gb421,1,none⟩ = some (.slice A0_1 l0_1.length c0_1):=(blk_cell BK421.out 1).trans rfl
      have hfz22_0:=blk_frozen BK421.out 0
      have hfz22_1:=blk_frozen BK421.out 1
      go_wp2_with (first|((with_reducible refine gate_callee (f:=50) rfl ?_);refine goesL_ (some 18) rfl rfl Try.func50 (by kernel_rfl) rfl #[.agg #[.slice A0_0 l0_0.length c0_0,.slice A0_1 l0_1.length c0_1]] rfl Ya ?_;(with_reducible refine (impl_Disk_texts.calls kj1 (fun k_=>k_ < w.heap.size) _ _ l0_0 (fun k_=>k_ < w.heap.size) _ _ l0_1 t424 t427 _ ?side1 ?side2 A17.out).mono ?_);(case side1=>exact YA);(case side2=>exact Yz);rintro e w23 ⟨v425,rfl,ho0,hb⟩;refine ⟨_,rfl,?_⟩;have HO426:=Aside0.mk (Kd.R_lower (Kd.R_mono (ok':=fun k_=>True) ho0 (fun _ hk_=>trivial)) (below_size bH));replace BK421:=Aside0.mk (blk_below (bB BK421) hb);replace BK422:=Aside0.mk (blk_below (bB BK422) hb);replace HB:=Aside0.mk (below_step bH hb);(try clear hb);(try clear hb2);(try clear hk);(try clear hi);(try clear ho0);have hcz24_0:w23.cell? ⟨gb421,0,none⟩ = some (.slice A0_0 l0_0.length c0_0):=(blk_cell BK421.out 0).trans rfl;have hcz24_1:w23.cell? ⟨gb421,1,none⟩ = some (.slice A0_1 l0_1.length c0_1):=(blk_cell BK421.out 1).trans rfl;have hfz24_0:=blk_frozen BK421.out 0;have hfz24_1:=blk_frozen BK421.out 1;obtain ⟨i025,hi025,_,hsz25,_⟩:=info_parts info9;obtain ⟨hcut25,hA25,hC25⟩:=print_take_of (P:=Try.prog) Value.string (⟨#[]⟩:ByteArray) 24 9 .i64 Try.underlying24 hi025 hsz25 A0_0 c0_0 l0_0 t427 (oD) (oD) HC0_0.out;have HR428:=Aside0.mk (Kd.C_of_reads (h1:=fun _=>rfl) (hA25 _ (Kd.reads_of_C HR0_0.out)));have HC428:=Aside0.mk hC25;clear hA25 hC25 hi025 hsz25)|((with_reducible refine gate_callee (f:=51) rfl ?_);refine goesL_ (some 25) rfl rfl Try.func51 (by kernel_rfl) rfl #[.slice A0_0 (l0_0.take (t427:Int).toNat).length c0_0] rfl (by (try simp only [List.map_toArray,List.map_cons,List.map_nil]);first|done|(rw [show (l0_0.take (t427:Int).toNat).length = t427.toNat from (by rw [List.length_take];have h_:(t427:Int) ≤ (l0_0.length:Int):=oD;omega)] <;> rfl)|rfl|(simp only [List.length_drop,List.length_take];rfl)) ?_;(with_reducible refine (slices_Clone_string_string.calls _ _ (l0_0.take (t427:Int).toNat) t429 _ ?side1 ?side2 A20.out).mono ?_);(case side1=>exact sC HR428);(case side2=>exact HC428.out);rintro e w26 ⟨v430,rfl,ho0,hb⟩;refine ⟨_,rfl,?_⟩;have HO431:=Aside0.mk (Kd.R_lower (Kd.R_new' ho0 (Kd.R_lt (rR HO426))) (below_size bH));replace HO426:=Aside0.mk (Kd.R_elder' (rR HO426) (Kd.R_base ho0) hb);replace BK421:=Aside0.mk (blk_below (bB BK421) hb);replace BK422:=Aside0.mk (blk_below (bB BK422) hb);replace HB:=Aside0.mk (below_step bH hb);(try clear hb);(try clear hb2);(try clear hk);(try clear hi);(try clear ho0);obtain ⟨Ao27,co27,eo27⟩:=Kd.R_slice HO431.out;subst eo27;have hcz28_0:w26.cell? ⟨gb422,0,none⟩ = some (.slice none 0 0):=(blk_cell BK422.out 0).trans rfl;have hcz28_1:w26.cell? ⟨gb422,1,none⟩ = some (.slice none 0 0):=(blk_cell BK422.out 1).trans rfl;have hfz28_0:=blk_frozen BK422.out 0;have hfz28_1:=blk_frozen BK422.out 1))
      refine bodyPost_ret (results_ct rfl _ _ gb422 26 #[.slice Ao27 t429.length co27,.slice none 0 0] (0,0) _ rfl (by (with_reducible repeat (first|refine blk_drewN ?_ _|refine blk_drew ?_|refine blk_alloc ?_ _));refine blk_put (cs:=#[.slice Ao27 t429.length co27,.slice none 0 0]) ?_ 1 _ rfl;(with_reducible repeat (first|refine blk_drewN ?_ _|refine blk_drew ?_|refine blk_alloc ?_ _));refine blk_put (cs:=#[.slice none 0 0,.slice none 0 0]) ?_ 0 _ rfl;(with_reducible repeat (first|refine blk_drewN ?_ _|refine blk_drew ?_|refine blk_alloc ?_ _));exact BK422.out) Try.underlying26 rfl (by kernel_rfl)) rfl ?_
      exact ⟨_,_,Yb,by (with_reducible repeat (first|apply Kd.R_alloc|apply Kd.R_drewN|apply Kd.R_drew));exact Kd.R_mono (Kd.R_far (p:=⟨gb422,1,none⟩) (Kd.R_far (p:=⟨gb422,0,none⟩) (Kd.R_types HO431.out BK422.out (by decide)) (fun _ hk=>hk.2) (.slice Ao27 t429.length co27)) (fun _ hk=>hk.2) (.slice none 0 0)) (fun _ hk=>ZR),Yd,bH⟩
     ·rw [if_neg c19] at H
      exact absurd H (by simp)
    ·rw [if_neg c18] at H
     exact absurd H (by simp)

/-! ### impl_Disk_copied: function 52 -/
def impl_Disk_copied.f (l0_0:List ByteArray) (l0_1:List ByteArray):Option (List ByteArray × List ByteArray):=(slices_Clone_string_string.f l0_0).bind fun t434=>((slices_Clone_string_string.f l0_1).bind fun t437=>(some (t434,t437)))
def impl_Disk_copied.T1:Bool × List (List Nat × List Nat):=(true,[([],[]),([0],[0]),([1],[1]),([],[]),([3],[3]),([4,2],[4]),([2,5],[2,5]),([6,5,0,1,2,3,4,5,6],[6])])
def impl_Disk_copied.B1:List Nat:=[0,1,3,0,8,31,63,127]
theorem impl_Disk_copied.tab1:rtab .any (opsOf Try.f52 1) = impl_Disk_copied.T1:=by kernel_rfl
theorem impl_Disk_copied.bits1:waitsOk impl_Disk_copied.T1.2 impl_Disk_copied.B1 = true:=by kernel_rfl
set_option maxHeartbeats 8000000 in
set_option maxRecDepth 100000 in
theorem impl_Disk_copied.calls (A0_0:Option Addr) (c0_0:Nat) (l0_0:List ByteArray) (A0_1:Option Addr) (c0_1:Nat) (l0_1:List ByteArray) (r1:List ByteArray) (r2:List ByteArray) (w:World) (hr0_0:Kd.C Kd.string w A0_0 l0_0.length l0_0) (hc0_0:l0_0.length ≤ c0_0) (hr0_1:Kd.C Kd.string w A0_1 l0_1.length l0_1) (hc0_1:l0_1.length ≤ c0_1) (h:impl_Disk_copied.f l0_0 l0_1 = some (r1,r2)) :
  Calls Try.prog 52 #[.agg #[.slice A0_0 l0_0.length c0_0,.slice A0_1 l0_1.length c0_1]] w fun e w'=>∃ v0_ v1_:Value,e = .returned (.agg #[v0_,v1_]) ∧ Kd.R Kd.string 9 w' w.heap.size (fun k_=>some k_ ≠ (v1_:Value).ownBlock) v0_ r1 ∧ Kd.R Kd.string 9 w' w.heap.size (fun k_=>some k_ ≠ (v0_:Value).ownBlock) v1_ r2 ∧ Below w.heap.size w w':=by
 have hu26:=Try.underlying26
 have HR0_0:=Aside0.mk hr0_0
 have HC0_0:=Aside0.mk hc0_0
 clear hr0_0 hc0_0
 have HR0_1:=Aside0.mk hr0_1
 have HC0_1:=Aside0.mk hc0_1
 clear hr0_1 hc0_1
 have HB:=Aside0.mk (Below.refl w.heap.size w)
 have H:((slices_Clone_string_string.f l0_0).bind fun t434=>((slices_Clone_string_string.f l0_1).bind fun t437=>(some (t434,t437)))) = some (r1,r2):=h
 clear h
 replace H:=Option.bind_eq_some_iff.mp H
 obtain ⟨t434,A20,H⟩:=H
 replace H:((slices_Clone_string_string.f l0_1).bind fun t437=>(some (t434,t437))) = some (r1,r2):=H
 have A2:=Aside0.mk A20
 clear A20
 replace H:=Option.bind_eq_some_iff.mp H
 obtain ⟨t437,A30,H⟩:=H
 replace H:(some (t434,t437)) = some (r1,r2):=H
 have A3:=Aside0.mk A30
 clear A30
 simp only [Option.some.injEq,Prod.mk.injEq] at H
 obtain ⟨rfl,rfl⟩:=H
 go_enter Try.func52,Try.ntmps52
 try go_wp2_with (first|((with_reducible refine gate_dst (N:=1) rfl ?_);refine box_event ?hg (N:=1) ?hd (cs:=#[.slice A0_0 l0_0.length c0_0,.slice A0_1 l0_1.length c0_1]) (t:=26) ?hr ?_;(case hd=>rfl);(case hg=>rfl);(case hr=>exact Yg);intro gb432 hg w4 hbox hb;have BK432:=Aside0.mk (hbox);have GW432:=Aside0.mk ((hZ:w.heap.size ≤ gb432));have GE432:=Aside0.mk ((hZ:w.heap.size ≤ gb432));replace HB:=Aside0.mk (below_step bH hb);clear hb hbox hg)|((with_reducible refine gate_dst (N:=2) rfl ?_);refine box_event ?hg (N:=2) ?hd (cs:=#[.slice none 0 0,.slice none 0 0]) (t:=26) ?hr ?_;(case hd=>rfl);(case hg=>rfl);(case hr=>exact Yg);intro gb433 hg w5 hbox hb;have BK433:=Aside0.mk (hbox);have GW433:=Aside0.mk ((hZ:w.heap.size ≤ gb433));have GE433:=Aside0.mk ((hZ:w.heap.size ≤ gb433));replace HB:=Aside0.mk (below_step bH hb);have NB432_433:=Aside0.mk ((nL BK432:gb432 ≠ gb433));have NB433_432:=Aside0.mk ((nG BK432:gb433 ≠ gb432));replace BK432:=Aside0.mk (blk_below (bB BK432) hb);clear hb hbox hg))
 replace BK432:=Aside0.mk (blk_drew BK432.out);replace BK433:=Aside0.mk (blk_drew BK433.out);replace HB:=Aside0.mk (below_drew1 HB.out)
 refine start_ (n:=8) (S:=fun w'=>w'.cell? ⟨gb432,0,none⟩ = some (.slice A0_0 l0_0.length c0_0) ∧ w'.cell? ⟨gb432,1,none⟩ = some (.slice A0_1 l0_1.length c0_1)) (ds:=[]) #[false,false,false,false,false,false,false,false] (by kernel_rfl) rfl rfl ⟨(blk_cell BK432.out 0).trans rfl,(blk_cell BK432.out 1).trans rfl⟩ (fun hHeld=>?_);refine with_tabW impl_Disk_copied.tab1 impl_Disk_copied.bits1 (fun HT_ HW_=>?_)
 generalize w5.drew = w6 at BK432 BK433 HB hHeld ⊢
 refine pU (i:=0) (N:=some 3) #[true,false,false,false,false,false,false,false] (any_of HT_.out (by kernel_rfl)) ?_
 refine pU (i:=3) (N:=some 6) #[true,false,false,true,false,false,false,false] (any_of HT_.out (by kernel_rfl)) ?_
 refine take_ (i:=1) (N:=some 4) (v:=?_) (a':=?_) #[true,true,false,true,false,false,false,false] rfl rfl (take_ofW HT_.out HW_.out (by kernel_rfl)) (fun _ _ _ h=>h) (Or.inl ⟨by rfl,?_⟩) hHeld ?_ ?_
 rotate_left
 ·rintro w' ⟨s0,s1⟩
  go_simp
  with_reducible rfl
 rotate_left
 ·simp only [Act.put,List.setIfInBounds_toArray,List.set_cons_zero,List.set_cons_succ,i64_w,i32_w]
  rfl
 refine take_ (i:=4) (N:=some 7) (v:=?_) (a':=?_) #[true,true,false,true,true,false,false,false] rfl rfl (take_ofW HT_.out HW_.out (by kernel_rfl)) (fun _ _ _ h=>h) (Or.inl ⟨by rfl,?_⟩) hHeld ?_ ?_
 rotate_left
 ·rintro w' ⟨s0,s1⟩
  go_simp
  with_reducible rfl
 rotate_left
 ·simp only [Act.put,List.setIfInBounds_toArray,List.set_cons_zero,List.set_cons_succ,i64_w,i32_w]
  rfl
 refine one_ (i:=2) (N:=some 5) #[true,true,true,true,true,false,false,false] rfl rfl (one_of HT_.out (by kernel_rfl)) (by decide) (fun K hK=>?_)
 refine goes_ Try.func51 (by kernel_rfl) rfl #[.slice A0_0 l0_0.length c0_0] (by rfl) rfl rfl Ya ?_
 with_reducible refine (slices_Clone_string_string.calls _ _ l0_0 t434 _ ?side1 ?side2 A2.out).mono ?_
 (case side1=>exact ZB)
 (case side2=>exact ZL)
 rintro e w7 ⟨v435,rfl,ho0,hb⟩
 refine ⟨_,rfl,?_⟩
 have HO436:=Aside0.mk (Kd.R_lower ho0 (below_size bH));replace BK432:=Aside0.mk (blk_below (bB BK432) hb);replace BK433:=Aside0.mk (blk_below (bB BK433) hb);replace HB:=Aside0.mk (below_step bH hb)
 (try clear hb)
 (try clear hb2)
 (try clear hk)
 (try clear hi)
 (try clear ho0)
 refine hK.out _ _ ⟨(blk_cell BK432.out 0).trans rfl,(blk_cell BK432.out 1).trans rfl⟩ (fun hHeld=>?_)
 clear hK K
 refine nM (N:=some 5) ?_
 refine one_ (i:=5) (N:=some 8) #[true,true,true,true,true,true,false,false] rfl rfl (one_of HT_.out (by kernel_rfl)) (by decide) (fun K hK=>?_)
 refine goes_ Try.func51 (by kernel_rfl) rfl #[.slice A0_1 l0_1.length c0_1] (by rfl) rfl rfl Ya ?_
 with_reducible refine (slices_Clone_string_string.calls _ _ l0_1 t437 _ ?side1 ?side2 A3.out).mono ?_
 (case side1=>exact ZP)
 (case side2=>exact ZO)
 rintro e w8 ⟨v438,rfl,ho0,hb⟩
 refine ⟨_,rfl,?_⟩
 have HO439:=Aside0.mk (Kd.R_lower (Kd.R_new' ho0 (Kd.R_lt (rR HO436))) (below_size bH));replace HO436:=Aside0.mk (Kd.R_elder' (rR HO436) (Kd.R_base ho0) hb);replace BK432:=Aside0.mk (blk_below (bB BK432) hb);replace BK433:=Aside0.mk (blk_below (bB BK433) hb);replace HB:=Aside0.mk (below_step bH hb)
 (try clear hb)
 (try clear hb2)
 (try clear hk)
 (try clear hi)
 (try clear ho0)
 obtain ⟨Ao9,co9,eo9⟩:=Kd.R_slice HO439.out
 (first|subst eo9|(injection eo9 with f1_ f2_ f3_;have f4_:=f1_.symm;have f5_:=f3_.symm;clear f1_ f2_ f3_;subst f4_;subst f5_))
 obtain ⟨Ao10,co10,eo10⟩:=Kd.R_slice HO436.out
 (first|subst eo10|(injection eo10 with f1_ f2_ f3_;have f4_:=f1_.symm;have f5_:=f3_.symm;clear f1_ f2_ f3_;subst f4_;subst f5_))
 refine hK.out _ _ ⟨(blk_cell BK432.out 0).trans rfl,(blk_cell BK432.out 1).trans rfl⟩ (fun hHeld=>?_)
 clear hK K
 refine nM (N:=some 8) ?_
 refine pU (i:=6) (N:=some 9) #[true,true,true,true,true,true,true,false] (any_of HT_.out (by kernel_rfl)) ?_
 refine one_ (i:=7) (N:=none) #[true,true,true,true,true,true,true,true] rfl rfl (one_of HT_.out (by kernel_rfl)) (by decide) (fun K hK=>?_)
 have hs11:w8.cell? ⟨gb433,0,none⟩ = some (.slice none 0 0):=(blk_cell BK433.out 0).trans rfl
 have hfs11:=blk_frozen BK433.out 0
 have hns11_0:=NB432_433.out
 have hms11_0:=NB433_432.out
 have hs12:w8.cell? ⟨gb433,1,none⟩ = some (.slice none 0 0):=(blk_cell BK433.out 1).trans rfl
 have hfs12:=blk_frozen BK433.out 1
 have hns12_0:=NB432_433.out
 have hms12_0:=NB433_432.out
 refine skip_ (w1:=?_) (by rfl) rfl ?_ ?_
 rotate_left
 ·go_simp
  rfl
 refine hK.out _ _ ⟨((cell_far (p:=⟨gb433,_,none⟩) NB432_433.out _).trans (((cell_far (p:=⟨gb433,_,none⟩) NB432_433.out _).trans (hHeld.1)))),((cell_far (p:=⟨gb433,_,none⟩) NB432_433.out _).trans (((cell_far (p:=⟨gb433,_,none⟩) NB432_433.out _).trans (hHeld.2))))⟩ (fun hHeld=>?_)
 clear hK K
 refine done_ (done_of HT_.out (by kernel_rfl)) ?_
 try go_wp2
 refine bodyPost_ret (results_cell_row rfl _ _ gb433 26 #[.slice Ao10 t434.length co10,.slice Ao9 t437.length co9] (0,0) _ rfl (by (with_reducible repeat (first|refine blk_drewN ?_ _|refine blk_drew ?_|refine blk_alloc ?_ _));refine blk_put (cs:=#[.slice Ao10 t434.length co10,.slice none 0 0]) ?_ 1 _ rfl;(with_reducible repeat (first|refine blk_drewN ?_ _|refine blk_drew ?_|refine blk_alloc ?_ _));refine blk_put (cs:=#[.slice none 0 0,.slice none 0 0]) ?_ 0 _ rfl;(with_reducible repeat (first|refine blk_drewN ?_ _|refine blk_drew ?_|refine blk_alloc ?_ _));exact BK433.out) Try.underlying26 rfl (by kernel_rfl)) rfl ?_
 exact ⟨_,_,Yb,by (with_reducible repeat (first|apply Kd.R_alloc|apply Kd.R_drewN|apply Kd.R_drew));exact Kd.R_mono (Kd.R_far (p:=⟨gb433,1,none⟩) (Kd.R_far (p:=⟨gb433,0,none⟩) (Kd.R_types HO436.out BK433.out (by decide)) (fun _ hk=>hk.2) (.slice Ao10 t434.length co10)) (fun _ hk=>hk.2) (.slice Ao9 t437.length co9)) (fun _ hk=>hk.1.2),by (with_reducible repeat (first|apply Kd.R_alloc|apply Kd.R_drewN|apply Kd.R_drew));exact Kd.R_mono (Kd.R_far (p:=⟨gb433,1,none⟩) (Kd.R_far (p:=⟨gb433,0,none⟩) (Kd.R_types HO439.out BK433.out (by decide)) (fun _ hk=>hk.2) (.slice Ao10 t434.length co10)) (fun _ hk=>hk.2) (.slice Ao9 t437.length co9)) (fun _ hk=>hk.1.2),bH⟩

end Go.Proofs.Ytmgkflkfoccgkab.QFnDisk
