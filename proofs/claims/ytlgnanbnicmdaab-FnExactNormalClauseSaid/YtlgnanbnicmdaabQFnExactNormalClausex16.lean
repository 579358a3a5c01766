-- Written by this session's own program (wip/x/xprint.py, over the kit's printer); Lean checks it.
import Derived.Test.YtlgnanbnicmdaabQFnExactNormalClausex0
import Derived.Test.YtlgnanbnicmdaabQFnExactNormalClausex10
import Derived.Test.YtlgnanbnicmdaabQFnExactNormalClausex11
import Derived.Test.YtlgnanbnicmdaabQFnExactNormalClausex15
namespace Go.Proofs.Ytlgnanbnicmdaab.QFnExactNormalClause
open Go.RowKit Go.Proofs.YtlgnanbnicmdaabW.PrintWords Go.Proofs.YtlgnanbnicmdaabW.PrintLast Go.Proofs.YtlgnanbnicmdaabW.PrintMore
attribute [local go_sem] max2_int min2_int max_two min_two max_three min_three max_four min_four   -- for this text's walks alone
set_option linter.unusedVariables false
set_option linter.unusedSimpArgs false

/-! ### impl_tidy: function 120, by a walk of this session's own -/
def impl_tidy_1_any.f (k:Nat) (l0:List S65) (a1_0:Bool) (l1_1:List Int) (l1_2:List Int):Option Bool:=anyO (fun x=>impl_tidy_1.f k x.f0 x.f1 x.f2 a1_0 l1_1 l1_2) l0
theorem impl_tidy_1_any.calls (k:Nat) (A0:Option Addr) (c0:Nat) (l0:List S65) (a1_0:Bool) (A1_1:Option Addr) (c1_1:Nat) (l1_1:List Int) (A1_2:Option Addr) (c1_2:Nat) (l1_2:List Int) (g1_:Nat) (r:Bool) (w:World) (hr0:Kd.C k65 w A0 l0.length l0) (hc0:l0.length ≤ c0) (hr1_1:Kd.C (Kd.int .i64) w A1_1 l1_1.length l1_1) (hc1_1:l1_1.length ≤ c1_1) (hr1_2:Kd.C (Kd.int .i64) w A1_2 l1_2.length l1_2) (hc1_2:l1_2.length ≤ c1_2) (hg1:w.heap[g1_]? = some (.cells #[.bool a1_0,.slice A1_1 l1_1.length c1_1,.slice A1_2 l1_2.length c1_2] 65 (0,0))) (h:impl_tidy_1_any.f k l0 a1_0 l1_1 l1_2 = some r) :
    Calls Try.prog 75 #[.slice A0 l0.length c0,.func (.func 140) #[] #[.pointer (some ⟨g1_,0,none⟩)]] w fun e w'=>e = .returned (.bool r) ∧ Below w.heap.size w w':=by
  exact any75 140 #[.pointer (some ⟨g1_,0,none⟩)] (enters_of Try.func140 (by kernel_rfl) rfl) (fun x=>impl_tidy_1.f k x.f0 x.f1 x.f2 a1_0 l1_1 l1_2) A0 c0 l0 r w hr0 hc0 (fun W x b E1 e1 E2 e2 hW hE1 he1 hE2 he2 hx=>(impl_tidy_1.calls k x.f0 E1 e1 x.f1 E2 e2 x.f2 g1_ a1_0 A1_1 c1_1 l1_1 A1_2 c1_2 l1_2 b W hE1 he1 hE2 he2 (Kd.C_below hr1_1 hW) hc1_1 (Kd.C_below hr1_2 hW) hc1_2 ((hW.block _ (Array.getElem?_eq_some_iff.1 hg1).1).trans hg1) hx).mono fun _ _ h_=>⟨h_.1,h_.2⟩) h
def tidI (k:Nat):List S65 → List S65 → Option (List S65)
  | acc,[]=>some acc
  | acc,x :: t=>(if x.f0 = true then some false else slices_Equal_int_int.f k x.f1 x.f2).bind fun skip=>if skip = true then tidI k acc t else (impl_tidy_1_any.f k acc x.f0 x.f1 x.f2).bind fun there=>if there = true then tidI k acc t else (impl_copyLit.f x.f0 x.f1 x.f2).bind fun b=>tidI k (acc ++ [⟨b.1,b.2.1,b.2.2⟩]) t
def impl_tidy.f (k:Nat) (l:List S65):Option (List S65):=if l.length ≤ 1048576 then tidI k [] l else none
set_option maxHeartbeats 16000000 in
set_option maxRecDepth 1000000 in
theorem impl_tidy.calls (k:Nat) (A0:Option Addr) (c0:Nat) (l0:List S65) (r:List S65) (w:World) (hr0:Kd.C k65 w A0 l0.length l0) (hc0:l0.length ≤ c0) (h:impl_tidy.f k l0 = some r) :
    Calls Try.prog 120 #[.slice A0 l0.length c0] w fun e w'=>∃ v0_:Value,e = .returned v0_ ∧ Kd.N k65 65 w' w.heap.size (fun _=>True) v0_ r ∧ Below w.heap.size w w':=by
  unfold impl_tidy.f at h
  split at h
  rotate_left
  · cases h
  rename_i hn
  have H0:=Aside0.mk hr0
  have HO0:=Aside0.mk h
  clear h hr0
  go_enter Try.func120,Try.ntmps120
  go_wp2
  go_loopw [3,8] (fun v3 v8 wr=>∃ (j:Nat) (acc:List S65),j ≤ l0.length ∧ acc.length ≤ j ∧ v8 = .int .i64 j ∧ Hid (tidI k acc (l0.drop j) = some r) ∧ Hid (Kd.N k65 65 wr w.heap.size (fun _=>True) v3 acc) ∧ Hid (Below w.heap.size w wr)) (fun _ v8 _=>l0.length - (intOf v8).toNat)
  case atStart=>exact ⟨0,[],Nat.zero_le _,Nat.zero_le _,rfl,HO0.out,Kd.N_nil _ _ _ _ _,Below.refl _ _⟩
  case round =>
    clear HO0
    obtain ⟨j,acc,hj,hal,rfl,htd,hN,hB⟩:=hrel
    unfold Hid at htd hN hB
    obtain ⟨A3,c3,rfl⟩:=Kd.N_slice hN
    by_cases hp:j < l0.length
    · obtain ⟨ad,L1,e1,L2,e2,eA,q0,q1,q2,z1,i1,z2,i2⟩:=at_T65 H0.out (j:Int) (by omega) (by omega)
      have hrd:rd_T65 l0 (j:Int) = l0[j]:=by unfold rd_T65;simp [List.getD_eq_getElem?_getD,hp]
      rw [Int.toNat_natCast] at q0 q1 q2
      rw [hrd] at q0 q1 q2 z1 i1 z2 i2
      subst eA
      rw [List.drop_eq_getElem_cons hp] at htd
      generalize l0[j] = x at htd q0 q1 q2 z1 i1 z2 i2
      clear hrd
      obtain ⟨xp,xa,xb⟩:=x
      simp only at q0 q1 q2 z1 i1 z2 i2
      simp only [tidI] at htd
      obtain ⟨skip,hskip,htd⟩:=Option.bind_eq_some_iff.1 htd
      have HFK:=Aside0.mk (k65_mkF w (fun k_=>k_ < w.heap.size) (⟨xp,xa,xb⟩:S65) z1 (Kd.C_F (Kd.heap_int _) i1) z2 (Kd.C_F (Kd.heap_int _) i2))
      replace q0:=(hB.cell (World.block_lt_of_cell? w _ q0)).trans q0
      replace q1:=(hB.cell (World.block_lt_of_cell? w _ q1)).trans q1
      replace q2:=(hB.cell (World.block_lt_of_cell? w _ q2)).trans q2
      have I1:=Aside0.mk i1
      have I2:=Aside0.mk i2
      have HSK:=Aside0.mk hskip
      have HR:=Aside0.mk htd
      have HN:=Aside0.mk hN
      have HB:=Aside0.mk hB
      have HAL:=Aside0.mk hal
      have halb:acc.length ≤ 1048576:=by omega
      clear htd hN hB i1 i2 hskip hal
      go_upto_region 5 with fail
      have hbl:=below_alloc (Below.refl wr.heap.size wr) (.cells #[.bool xp,.slice L1 xa.length e1,.slice L2 xb.length e2] 65)
      have HX:=Aside0.mk (heap_alloc_new wr (.cells #[.bool xp,.slice L1 xa.length e1,.slice L2 xb.length e2] 65))
      have HN:=Aside0.mk (Kd.N_alloc HN.out (.cells #[.bool xp,.slice L1 xa.length e1,.slice L2 xb.length e2] 65))
      have HB:=Aside0.mk (below_step HB.out hbl)
      clear q0 q1 q2 hbl
      obtain ⟨g,hg⟩:∃ g,g = wr.heap.size:=⟨_,rfl⟩
      generalize wr.alloc (.cells #[.bool xp,.slice L1 xa.length e1,.slice L2 xb.length e2] 65) = W3 at HX HN HB ⊢
      rw [← hg] at HX ⊢
      clear hg
      have a0:W3.cell? ⟨g,0,none⟩ = some (.bool xp):=(blk_cell HX.out 0).trans rfl
      have a1:W3.cell? ⟨g,1,none⟩ = some (.slice L1 xa.length e1):=(blk_cell HX.out 1).trans rfl
      have a2:W3.cell? ⟨g,2,none⟩ = some (.slice L2 xb.length e2):=(blk_cell HX.out 2).trans rfl
      cases xp with
      | true =>
        have hsk:=HSK.out
        simp only [if_true,Option.some.injEq] at hsk
        subst hsk
        have hr9:=HR.out
        simp only [Bool.false_eq_true,if_false] at hr9
        obtain ⟨there,han,hr9⟩:=Option.bind_eq_some_iff.1 hr9
        have HR:=Aside0.mk hr9
        have HAN:=Aside0.mk han
        clear hr9 han HSK
        have hcall:=impl_tidy_1_any.calls k A3 c3 acc true L1 e1 xa L2 e2 xb g there W3 (Kd.N_reads' HN.out).2.2 (Kd.N_reads' HN.out).2.1 (Kd.C_below I1.out HB.out) z1 (Kd.C_below I2.out HB.out) z2 HX.out HAN.out
        clear HAN
        cases there with
        | true =>
          go_wp2_with (go_at_call 75;refine hcall.mono ?_;first|rintro e_ W5 rfl hd|rintro e_ W5 ⟨rfl,hd⟩;have HN:=Aside0.mk (Kd.N_below HN.out hd);have HB:=Aside0.mk (below_step HB.out hd);clear hd)
          go_roundw
          case rel=>exact ⟨j + 1,acc,hp,by have:=HAL.out;omega,rfl,by have:=HR.out;unfold Hid;simpa using this,HN.out,HB.out⟩
          case measure=>simp [intOf];omega
        | false =>
          have hr8:=HR.out
          simp only [Bool.false_eq_true,if_false] at hr8
          obtain ⟨⟨d0,d1,d2⟩,hcp,hr8⟩:=Option.bind_eq_some_iff.1 hr8
          have HCP:=Aside0.mk hcp
          have HR:=Aside0.mk hr8
          clear hr8 hcp
          go_upto_region 7 with (go_at_call 75;refine hcall.mono ?_;first|rintro e_ W5 rfl hd|rintro e_ W5 ⟨rfl,hd⟩;have HN:=Aside0.mk (Kd.N_below HN.out hd);have HX:=Aside0.mk ((hd.block g (blk_lt HX.out)).trans HX.out);have HB:=Aside0.mk (below_step HB.out hd);clear hd)
          clear hcall
          have HN5:=HN
          have a0:W5.cell? ⟨g,0,none⟩ = some (.bool true):=(blk_cell HX.out 0).trans rfl
          have a1:W5.cell? ⟨g,1,none⟩ = some (.slice L1 xa.length e1):=(blk_cell HX.out 1).trans rfl
          have a2:W5.cell? ⟨g,2,none⟩ = some (.slice L2 xb.length e2):=(blk_cell HX.out 2).trans rfl
          have hcall:=impl_copyLit.calls true L1 e1 xa L2 e2 xb d0 d1 d2 W5 (Kd.C_below I1.out HB.out) z1 (Kd.C_below I2.out HB.out) z2 HCP.out
          go_wp2_with (first|(go_at_call 142;refine hcall.mono ?_;first|rintro e_ W6 v1 v2 rfl hr1 hr2 hd|rintro e_ W6 ⟨v1,v2,rfl,hr1,hr2,hd⟩;have HN:=Aside0.mk (Kd.N_below HN.out hd);have HSZ:=Aside0.mk hd.size;have HBo:=Aside0.mk HB.out.size;have HB:=Aside0.mk (below_step HB.out hd);obtain ⟨D1,g1,rfl⟩:=Kd.R_slice hr1;obtain ⟨D2,g2,rfl⟩:=Kd.R_slice hr2;have HFK:=Aside0.mk (k65_mkF W6 (fun k_=>W5.heap.size ≤ k_) (⟨d0,d1,d2⟩:S65) (Kd.R_reads' hr1).2.1 (Kd.R_F (Kd.R_mono (Kd.R_bound hr1) (fun k_ h=>h.2.1))) (Kd.R_reads' hr2).2.1 (Kd.R_F (Kd.R_mono (Kd.R_bound hr2) (fun k_ h=>h.2.1))));have HNL:=Aside0.mk (Kd.N_lt HN5.out);clear hr1 hr2 hd)|((with_reducible refine gate_builtin (b:=.append) (xs:=#[.tmp 26,.tmp 29]) rfl ?_);at_builtin;refine Kd.N_append k65 (w0:=w) w.heap.size rfl (.tmp 26) (.tmp 29) 33 65 (.agg #[.bool false,.slice none 0 0,.slice none 0 0]) 56 rfl Try.underlying33 info65 rfl (by decide) (by decide) (.slice A3 acc.length c3) acc (⟨d0,d1,d2⟩:S65) [.bool d0,.slice D1 d1.length g1,.slice D2 d2.length g2] (fun _=>True) (fun k_=>W5.heap.size ≤ k_) rfl rfl HFK.out (fun k_ hk=>⟨trivial,fun q_=>by have:=HNL.out k_ q_.symm;omega⟩) (fun _ _=>trivial) HN.out HB.out HB.out.size (by have:=HAL.out;omega) ?_;intro v1 w1 ho hb hg_ hat_;have HO:=Aside0.mk ho;have HB:=Aside0.mk hb;clear ho hb hg_ hat_))
          go_roundw
          case rel=>exact ⟨j + 1,acc ++ [(⟨d0,d1,d2⟩:S65)],hp,by have:=HAL.out;rw [List.length_append,List.length_singleton];omega,rfl,HR.out,HO.out,HB.out⟩
          case measure=>simp [intOf];omega
      | false =>
        have hsk:=HSK.out
        simp only [Bool.false_eq_true,if_false] at hsk
        have hcall:=slices_Equal_int_int.calls k L1 e1 xa L2 e2 xb skip W3 (Kd.C_below I1.out HB.out) z1 (Kd.C_below I2.out HB.out) z2 hsk
        clear hsk HSK
        cases skip with
        | true =>
          go_wp2_with (go_at_call 130;refine hcall.mono ?_;first|rintro e_ W4 rfl hd|rintro e_ W4 ⟨rfl,hd⟩;have HN:=Aside0.mk (Kd.N_below HN.out hd.below);have HB:=Aside0.mk (below_step HB.out hd.below);clear hd)
          go_roundw
          case rel=>exact ⟨j + 1,acc,hp,by have:=HAL.out;omega,rfl,by have:=HR.out;unfold Hid;simpa using this,HN.out,HB.out⟩
          case measure=>simp [intOf];omega
        | false =>
          have hr9:=HR.out
          simp only [Bool.false_eq_true,if_false] at hr9
          obtain ⟨there,han,hr9⟩:=Option.bind_eq_some_iff.1 hr9
          have HR:=Aside0.mk hr9
          have HAN:=Aside0.mk han
          clear hr9 han
          go_upto_region 6 with (go_at_call 130;refine hcall.mono ?_;first|rintro e_ W4 rfl hd|rintro e_ W4 ⟨rfl,hd⟩;have HN:=Aside0.mk (Kd.N_below HN.out hd.below);have HX:=Aside0.mk ((hd.below.block g (blk_lt HX.out)).trans HX.out);have HB:=Aside0.mk (below_step HB.out hd.below);clear hd)
          clear hcall a0 a1 a2
          have hcall:=impl_tidy_1_any.calls k A3 c3 acc false L1 e1 xa L2 e2 xb g there W4 (Kd.N_reads' HN.out).2.2 (Kd.N_reads' HN.out).2.1 (Kd.C_below I1.out HB.out) z1 (Kd.C_below I2.out HB.out) z2 HX.out HAN.out
          clear HAN
          cases there with
          | true =>
            go_wp2_with (go_at_call 75;refine hcall.mono ?_;first|rintro e_ W5 rfl hd|rintro e_ W5 ⟨rfl,hd⟩;have HN:=Aside0.mk (Kd.N_below HN.out hd);have HB:=Aside0.mk (below_step HB.out hd);clear hd)
            go_roundw
            case rel=>exact ⟨j + 1,acc,hp,by have:=HAL.out;omega,rfl,by have:=HR.out;unfold Hid;simpa using this,HN.out,HB.out⟩
            case measure=>simp [intOf];omega
          | false =>
            have hr8:=HR.out
            simp only [Bool.false_eq_true,if_false] at hr8
            obtain ⟨⟨d0,d1,d2⟩,hcp,hr8⟩:=Option.bind_eq_some_iff.1 hr8
            have HCP:=Aside0.mk hcp
            have HR:=Aside0.mk hr8
            clear hr8 hcp
            go_upto_region 7 with (go_at_call 75;refine hcall.mono ?_;first|rintro e_ W5 rfl hd|rintro e_ W5 ⟨rfl,hd⟩;have HN:=Aside0.mk (Kd.N_below HN.out hd);have HX:=Aside0.mk ((hd.block g (blk_lt HX.out)).trans HX.out);have HB:=Aside0.mk (below_step HB.out hd);clear hd)
            clear hcall
            have HN5:=HN
            have a0:W5.cell? ⟨g,0,none⟩ = some (.bool false):=(blk_cell HX.out 0).trans rfl
            have a1:W5.cell? ⟨g,1,none⟩ = some (.slice L1 xa.length e1):=(blk_cell HX.out 1).trans rfl
            have a2:W5.cell? ⟨g,2,none⟩ = some (.slice L2 xb.length e2):=(blk_cell HX.out 2).trans rfl
            have hcall:=impl_copyLit.calls false L1 e1 xa L2 e2 xb d0 d1 d2 W5 (Kd.C_below I1.out HB.out) z1 (Kd.C_below I2.out HB.out) z2 HCP.out
            go_wp2_with (first|(go_at_call 142;refine hcall.mono ?_;first|rintro e_ W6 v1 v2 rfl hr1 hr2 hd|rintro e_ W6 ⟨v1,v2,rfl,hr1,hr2,hd⟩;have HN:=Aside0.mk (Kd.N_below HN.out hd);have HSZ:=Aside0.mk hd.size;have HBo:=Aside0.mk HB.out.size;have HB:=Aside0.mk (below_step HB.out hd);obtain ⟨D1,g1,rfl⟩:=Kd.R_slice hr1;obtain ⟨D2,g2,rfl⟩:=Kd.R_slice hr2;have HFK:=Aside0.mk (k65_mkF W6 (fun k_=>W5.heap.size ≤ k_) (⟨d0,d1,d2⟩:S65) (Kd.R_reads' hr1).2.1 (Kd.R_F (Kd.R_mono (Kd.R_bound hr1) (fun k_ h=>h.2.1))) (Kd.R_reads' hr2).2.1 (Kd.R_F (Kd.R_mono (Kd.R_bound hr2) (fun k_ h=>h.2.1))));have HNL:=Aside0.mk (Kd.N_lt HN5.out);clear hr1 hr2 hd)|((with_reducible refine gate_builtin (b:=.append) (xs:=#[.tmp 26,.tmp 29]) rfl ?_);at_builtin;refine Kd.N_append k65 (w0:=w) w.heap.size rfl (.tmp 26) (.tmp 29) 33 65 (.agg #[.bool false,.slice none 0 0,.slice none 0 0]) 56 rfl Try.underlying33 info65 rfl (by decide) (by decide) (.slice A3 acc.length c3) acc (⟨d0,d1,d2⟩:S65) [.bool d0,.slice D1 d1.length g1,.slice D2 d2.length g2] (fun _=>True) (fun k_=>W5.heap.size ≤ k_) rfl rfl HFK.out (fun k_ hk=>⟨trivial,fun q_=>by have:=HNL.out k_ q_.symm;omega⟩) (fun _ _=>trivial) HN.out HB.out HB.out.size (by have:=HAL.out;omega) ?_;intro v1 w1 ho hb hg_ hat_;have HO:=Aside0.mk ho;have HB:=Aside0.mk hb;clear ho hb hg_ hat_))
            go_roundw
            case rel=>exact ⟨j + 1,acc ++ [(⟨d0,d1,d2⟩:S65)],hp,by have:=HAL.out;rw [List.length_append,List.length_singleton];omega,rfl,HR.out,HO.out,HB.out⟩
            case measure=>simp [intOf];omega
    · obtain rfl:j = l0.length:=by omega
      rw [List.drop_length] at htd
      simp only [tidI,Option.some.injEq] at htd
      subst htd
      have HN:=Aside0.mk hN
      have HB:=Aside0.mk hB
      clear hN hB
      go_wp2
      go_ret
      exact ⟨_,rfl,HN.out,HB.out⟩

end Go.Proofs.Ytlgnanbnicmdaab.QFnExactNormalClause
