-- Written by this session's own program (wip/x/xprint.py, over the kit's printer); Lean checks it.
import Derived.Test.YtmgkflkfoccgkaaQFnTidiedx0
import Derived.Test.YtmgkflkfoccgkaaQFnTidiedx1
import Derived.Test.YtmgkflkfoccgkaaQFnTidiedx4
import Derived.Test.YtmgkflkfoccgkaaQFnTidiedx9
namespace Go.Proofs.Ytmgkflkfoccgkaa.QFnTidied
open Go.RowKit Go.Proofs.YtmgkflkfoccgkaaW.PrintWords Go.Proofs.YtmgkflkfoccgkaaW.PrintLast Go.Proofs.YtmgkflkfoccgkaaW.PrintMore
attribute [local go_sem] max2_int min2_int max_two min_two max_three min_three max_four min_four   -- for this text's walks alone
set_option linter.unusedVariables false
set_option linter.unusedSimpArgs false

/-! ### impl_tidy: function 59, by a walk of this session's own -/
def impl_tidy_1_any.f (k:Nat) (l0:List S83) (a1_0:Bool) (l1_1:List Int) (l1_2:List Int):Option Bool:=anyO (fun x=>impl_tidy_1.f k x.f0 x.f1 x.f2 a1_0 l1_1 l1_2) l0
theorem impl_tidy_1_any.calls (k:Nat) (A0:Option Addr) (c0:Nat) (l0:List S83) (a1_0:Bool) (A1_1:Option Addr) (c1_1:Nat) (l1_1:List Int) (A1_2:Option Addr) (c1_2:Nat) (l1_2:List Int) (g1_:Nat) (r:Bool) (w:World) (hr0:Kd.C k83 w A0 l0.length l0) (hc0:l0.length ≤ c0) (hr1_1:Kd.C (Kd.int .i64) w A1_1 l1_1.length l1_1) (hc1_1:l1_1.length ≤ c1_1) (hr1_2:Kd.C (Kd.int .i64) w A1_2 l1_2.length l1_2) (hc1_2:l1_2.length ≤ c1_2) (hg1:w.heap[g1_]? = some (.cells #[.bool a1_0,.slice A1_1 l1_1.length c1_1,.slice A1_2 l1_2.length c1_2] 83 (0,0))) (h:impl_tidy_1_any.f k l0 a1_0 l1_1 l1_2 = some r) :
  Calls Try.prog 88 #[.slice A0 l0.length c0,.func (.func 98) #[] #[.pointer (some ⟨g1_,0,none⟩)]] w fun e w'=>e = .returned (.bool r) ∧ Below w.heap.size w w':=by
 exact any88 98 #[.pointer (some ⟨g1_,0,none⟩)] (enters_of Try.func98 (by kernel_rfl) rfl) (fun x=>impl_tidy_1.f k x.f0 x.f1 x.f2 a1_0 l1_1 l1_2) A0 c0 l0 r w hr0 hc0 (fun W x b E1 e1 E2 e2 hW hE1 he1 hE2 he2 hx=>(impl_tidy_1.calls k x.f0 E1 e1 x.f1 E2 e2 x.f2 g1_ a1_0 A1_1 c1_1 l1_1 A1_2 c1_2 l1_2 b W hE1 he1 hE2 he2 (Kd.C_below hr1_1 hW) hc1_1 (Kd.C_below hr1_2 hW) hc1_2 ((hW.block _ (Array.getElem?_eq_some_iff.1 hg1).1).trans hg1) hx).mono fun _ _ h_=>⟨h_.1,h_.2⟩) h
def tidI (k:Nat):List S83 → List S83 → Option (List S83)
 | acc,[]=>some acc
 | acc,x :: t=>(if x.f0 = true then some false else slices_Equal_int_int.f k x.f1 x.f2).bind fun skip=>if skip = true then tidI k acc t else (impl_tidy_1_any.f k acc x.f0 x.f1 x.f2).bind fun there=>if there = true then tidI k acc t else (impl_copyLit.f x.f0 x.f1 x.f2).bind fun b=>tidI k (acc ++ [⟨b.1,b.2.1,b.2.2⟩]) t
def impl_tidy.f (k:Nat) (l:List S83):Option (List S83):=if l.length ≤ 1048576 then tidI k [] l else none
set_option maxHeartbeats 16000000 in
set_option maxRecDepth 1000000 in
theorem impl_tidy.calls (k:Nat) (A0:Option Addr) (c0:Nat) (l0:List S83) (r:List S83) (w:World) (hr0:Kd.C k83 w A0 l0.length l0) (hc0:l0.length ≤ c0) (h:impl_tidy.f k l0 = some r) :
  Calls Try.prog 59 #[.slice A0 l0.length c0] w fun e w'=>∃ v0_:Value,e = .returned v0_ ∧ Kd.N k83 83 w' w.heap.size (fun _=>True) v0_ r ∧ Below w.heap.size w w':=by
 unfold impl_tidy.f at h
 split at h
 rotate_left
 ·cases h
 rename_i hn
 have H0:=Aside0.mk hr0
 have HO0:=Aside0.mk h
 clear h hr0
 go_enter Try.func59,Try.ntmps59
 go_wp2
 go_loopw [3,8] (fun v3 v8 wr=>∃ (j:Nat) (acc:List S83),j ≤ l0.length ∧ acc.length ≤ j ∧ v8 = .int .i64 j ∧ Hid (tidI k acc (l0.drop j) = some r) ∧ Hid (Kd.N k83 83 wr w.heap.size (fun _=>True) v3 acc) ∧ Hid (Below w.heap.size w wr)) (fun _ v8 _=>l0.length - (intOf v8).toNat)
 case atStart=>exact ⟨0,[],Nat.zero_le _,Nat.zero_le _,rfl,HO0.out,Kd.N_nil _ _ _ _ _,Below.refl _ _⟩
 case round =>
  clear HO0
  obtain ⟨j,acc,hj,hal,rfl,htd,hN,hB⟩:=hrel
  unfold Hid at htd hN hB
  obtain ⟨A3,c3,rfl⟩:=Kd.N_slice hN
  by_cases hp:j < l0.length
  ·obtain ⟨ad,L1,e1,L2,e2,eA,q0,q1,q2,z1,i1,z2,i2⟩:=at_T83 H0.out (j:Int) (by omega) (by omega)
   have hrd:rd_T83 l0 (j:Int) = l0[j]:=by unfold rd_T83;simp [List.getD_eq_getElem?_getD,hp]
   rw [Int.toNat_natCast] at q0 q1 q2
   rw [hrd] at q0 q1 q2 z1 i1 z2 i2
   subst eA
   rw [List.drop_eq_getElem_cons hp] at htd
   generalize l0[j] = x at htd q0 q1 q2 z1 i1 z2 i2
   clear hrd
   obtain ⟨xp,xa,xb⟩:=x
   simp only at q0 q1 q2 z1 i1 z2 i2
   simp only [tidI] at htd
   obtain ⟨skip,hskip,htd⟩:=Option.bind_eq_some_iff.1 htd
   have HFK:=Aside0.mk (k83_mkF w (fun k_=>k_ < w.heap.size) (⟨xp,xa,xb⟩:S83) z1 (Kd.C_F (Kd.heap_int _) i1) z2 (Kd.C_F (Kd.heap_int _) i2))
   replace q0:=(hB.cell (World.block_lt_of_cell? w _ q0)).trans q0
   replace q1:=(hB.cell (World.block_lt_of_cell? w _ q1)).trans q1
   replace q2:=(hB.cell (World.block_lt_of_cell? w _ q2)).trans q2
   have I1:=Aside0.mk i1
   have I2:=Aside0.mk i2
   have HSK:=Aside0.mk hskip
   have HR:=Aside0.mk htd
   have HN:=Aside0.mk hN
   have HB:=Aside0.mk hB
   have HAL:=Aside0.mk hal
   have halb:acc.length ≤ 1048576:=by omega
   clear htd hN hB i1 i2 hskip hal
   go_upto_region 5 with fail
   have hbl:=below_alloc (Below.refl wr.heap.size wr) (.cells #[.bool xp,.slice L1 xa.length e1,.slice L2 xb.length e2] 83)
   have HX:=Aside0.mk (heap_alloc_new wr (.cells #[.bool xp,.slice L1 xa.length e1,.slice L2 xb.length e2] 83))
   have HN:=Aside0.mk (Kd.N_alloc HN.out (.cells #[.bool xp,.slice L1 xa.length e1,.slice L2 xb.length e2] 83))
   have HB:=Aside0.mk (below_step HB.out hbl)
   clear q0 q1 q2 hbl
   obtain ⟨g,hg⟩:∃ g,g = wr.heap.size:=⟨_,rfl⟩
   generalize wr.alloc (.cells #[.bool xp,.slice L1 xa.length e1,.slice L2 xb.length e2] 83) = W3 at HX HN HB ⊢
   rw [← hg] at HX ⊢
   clear hg
   have a0:W3.cell? ⟨g,0,none⟩ = some (.bool xp):=(blk_cell HX.out 0).trans rfl
   have a1:W3.cell? ⟨g,1,none⟩ = some (.slice L1 xa.length e1):=(blk_cell HX.out 1).trans rfl
   have a2:W3.cell? ⟨g,2,none⟩ = some (.slice L2 xb.length e2):=(blk_cell HX.out 2).trans rfl
   cases xp with
   | true =>
    have hsk:=HSK.out
    simp only [if_true,Option.some.injEq] at hsk
    subst hsk
    have hr9:=HR.out
    simp only [Bool.false_eq_true,if_false] at hr9
    obtain ⟨there,han,hr9⟩:=Option.bind_eq_some_iff.1 hr9
    have HR:=Aside0.mk hr9
    have HAN:=Aside0.mk han
    clear hr9 han HSK
    have hcall:=impl_tidy_1_any.calls k A3 c3 acc true L1 e1 xa L2 e2 xb g there W3 (Kd.N_reads' HN.out).2.2 (Kd.N_reads' HN.out).2.1 (Kd.C_below I1.out HB.out) z1 (Kd.C_below I2.out HB.out) z2 HX.out HAN.out
    clear HAN
    cases there with
    | true =>
     go_wp2_with (go_at_call 88;refine hcall.mono ?_;first|rintro e_ W5 rfl hd|rintro e_ W5 ⟨rfl,hd⟩;have HN:=Aside0.mk (Kd.N_below HN.out hd);have HB:=Aside0.mk (below_step HB.out hd);clear hd)
     go_roundw
     case rel=>exact ⟨j + 1,acc,hp,by have:=HAL.out;omega,rfl,YV,HN.out,HB.out⟩
     case measure=>simp [intOf];omega
    | false =>
     have hr8:=HR.out
     simp only [Bool.false_eq_true,if_false] at hr8
     obtain ⟨⟨d0,d1,d2⟩,hcp,hr8⟩:=Option.bind_eq_some_iff.1 hr8
     have HCP:=Aside0.mk hcp
     have HR:=Aside0.mk hr8
     clear hr8 hcp
     go_upto_region 7 with (go_at_call 88;refine hcall.mono ?_;first|rintro e_ W5 rfl hd|rintro e_ W5 ⟨rfl,hd⟩;have HN:=Aside0.mk (Kd.N_below HN.out hd);have HX:=Aside0.mk ((hd.block g (blk_lt HX.out)).trans HX.out);have HB:=Aside0.mk (below_step HB.out hd);clear hd)
     clear hcall
     have HN5:=HN
     have a0:W5.cell? ⟨g,0,none⟩ = some (.bool true):=(blk_cell HX.out 0).trans rfl
     have a1:W5.cell? ⟨g,1,none⟩ = some (.slice L1 xa.length e1):=(blk_cell HX.out 1).trans rfl
     have a2:W5.cell? ⟨g,2,none⟩ = some (.slice L2 xb.length e2):=(blk_cell HX.out 2).trans rfl
     have hcall:=impl_copyLit.calls true L1 e1 xa L2 e2 xb d0 d1 d2 W5 (Kd.C_below I1.out HB.out) z1 (Kd.C_below I2.out HB.out) z2 HCP.out
     go_wp2_with (first|(go_at_call 100;refine hcall.mono ?_;first|rintro e_ W6 v1 v2 rfl hr1 hr2 hd|rintro e_ W6 ⟨v1,v2,rfl,hr1,hr2,hd⟩;have HN:=Aside0.mk (Kd.N_below HN.out hd);have HSZ:=Aside0.mk hd.size;have HBo:=Aside0.mk HB.out.size;have HB:=Aside0.mk (below_step HB.out hd);obtain ⟨D1,g1,rfl⟩:=Kd.R_slice hr1;obtain ⟨D2,g2,rfl⟩:=Kd.R_slice hr2;have HFK:=Aside0.mk (k83_mkF W6 (fun k_=>W5.heap.size ≤ k_) (⟨d0,d1,d2⟩:S83) (Kd.R_reads' hr1).2.1 (Kd.R_F (Kd.R_mono (Kd.R_bound hr1) (fun k_ h=>h.2.1))) (Kd.R_reads' hr2).2.1 (Kd.R_F (Kd.R_mono (Kd.R_bound hr2) (fun k_ h=>h.2.1))));have HNL:=Aside0.mk (Kd.N_lt HN5.out);clear hr1 hr2 hd)|((with_reducible refine gate_builtin (b:=.append) (xs:=#[.tmp 26,.tmp 29]) rfl ?_);at_builtin;refine Kd.N_append k83 (w0:=w) w.heap.size rfl (.tmp 26) (.tmp 29) 40 83 (.agg #[.bool false,.slice none 0 0,.slice none 0 0]) 56 rfl Try.underlying40 info83 rfl (by decide) (by decide) (.slice A3 acc.length c3) acc (⟨d0,d1,d2⟩:S83) [.bool d0,.slice D1 d1.length g1,.slice D2 d2.length g2] (fun _=>True) (fun k_=>W5.heap.size ≤ k_) rfl rfl HFK.out (fun k_ hk=>⟨trivial,fun q_=>by have:=HNL.out k_ q_.symm;omega⟩) (fun _ _=>trivial) HN.out HB.out HB.out.size (by have:=HAL.out;omega) ?_;intro v1 w1 ho hb hg_ hat_;have HO:=Aside0.mk ho;have HB:=Aside0.mk hb;clear ho hb hg_ hat_))
     go_roundw
     case rel=>exact ⟨j + 1,acc ++ [(⟨d0,d1,d2⟩:S83)],hp,Zb,rfl,HR.out,HO.out,HB.out⟩
     case measure=>simp [intOf];omega
   | false =>
    have hsk:=HSK.out
    simp only [Bool.false_eq_true,if_false] at hsk
    have hcall:=slices_Equal_int_int.calls k L1 e1 xa L2 e2 xb skip W3 (Kd.C_below I1.out HB.out) z1 (Kd.C_below I2.out HB.out) z2 hsk
    clear hsk HSK
    cases skip with
    | true =>
     go_wp2_with (go_at_call 97;refine hcall.mono ?_;first|rintro e_ W4 rfl hd|rintro e_ W4 ⟨rfl,hd⟩;have HN:=Aside0.mk (Kd.N_below HN.out hd.below);have HB:=Aside0.mk (below_step HB.out hd.below);clear hd)
     go_roundw
     case rel=>exact ⟨j + 1,acc,hp,by have:=HAL.out;omega,rfl,YV,HN.out,HB.out⟩
     case measure=>simp [intOf];omega
    | false =>
     have hr9:=HR.out
     simp only [Bool.false_eq_true,if_false] at hr9
     obtain ⟨there,han,hr9⟩:=Option.bind_eq_some_iff.1 hr9
     have HR:=Aside0.mk hr9
     have HAN:=Aside0.mk han
     clear hr9 han
     go_upto_region 6 with (go_at_call 97;refine hcall.mono ?_;first|rintro e_ W4 rfl hd|rintro e_ W4 ⟨rfl,hd⟩;have HN:=Aside0.mk (Kd.N_below HN.out hd.below);have HX:=Aside0.mk ((hd.below.block g (blk_lt HX.out)).trans HX.out);have HB:=Aside0.mk (below_step HB.out hd.below);clear hd)
     clear hcall a0 a1 a2
     have hcall:=impl_tidy_1_any.calls k A3 c3 acc false L1 e1 xa L2 e2 xb g there W4 (Kd.N_reads' HN.out).2.2 (Kd.N_reads' HN.out).2.1 (Kd.C_below I1.out HB.out) z1 (Kd.C_below I2.out HB.out) z2 HX.out HAN.out
     clear HAN
     cases there with
     | true =>
      go_wp2_with (go_at_call 88;refine hcall.mono ?_;first|rintro e_ W5 rfl hd|rintro e_ W5 ⟨rfl,hd⟩;have HN:=Aside0.mk (Kd.N_below HN.out hd);have HB:=Aside0.mk (below_step HB.out hd);clear hd)
      go_roundw
      case rel=>exact ⟨j + 1,acc,hp,by have:=HAL.out;omega,rfl,YV,HN.out,HB.out⟩
      case measure=>simp [intOf];omega
     | false =>
      have hr8:=HR.out
      simp only [Bool.false_eq_true,if_false] at hr8
      obtain ⟨⟨d0,d1,d2⟩,hcp,hr8⟩:=Option.bind_eq_some_iff.1 hr8
      have HCP:=Aside0.mk hcp
      have HR:=Aside0.mk hr8
      clear hr8 hcp
      go_upto_region 7 with (go_at_call 88;refine hcall.mono ?_;first|rintro e_ W5 rfl hd|rintro e_ W5 ⟨rfl,hd⟩;have HN:=Aside0.mk (Kd.N_below HN.out hd);have HX:=Aside0.mk ((hd.block g (blk_lt HX.out)).trans HX.out);have HB:=Aside0.mk (below_step HB.out hd);clear hd)
      clear hcall
      have HN5:=HN
      have a0:W5.cell? ⟨g,0,none⟩ = some (.bool false):=(blk_cell HX.out 0).trans rfl
      have a1:W5.cell? ⟨g,1,none⟩ = some (.slice L1 xa.length e1):=(blk_cell HX.out 1).trans rfl
      have a2:W5.cell? ⟨g,2,none⟩ = some (.slice L2 xb.length e2):=(blk_cell HX.out 2).trans rfl
      have hcall:=impl_copyLit.calls false L1 e1 xa L2 e2 xb d0 d1 d2 W5 (Kd.C_below I1.out HB.out) z1 (Kd.C_below I2.out HB.out) z2 HCP.out
      go_wp2_with (first|(go_at_call 100;refine hcall.mono ?_;first|rintro e_ W6 v1 v2 rfl hr1 hr2 hd|rintro e_ W6 ⟨v1,v2,rfl,hr1,hr2,hd⟩;have HN:=Aside0.mk (Kd.N_below HN.out hd);have HSZ:=Aside0.mk hd.size;have HBo:=Aside0.mk HB.out.size;have HB:=Aside0.mk (below_step HB.out hd);obtain ⟨D1,g1,rfl⟩:=Kd.R_slice hr1;obtain ⟨D2,g2,rfl⟩:=Kd.R_slice hr2;have HFK:=Aside0.mk (k83_mkF W6 (fun k_=>W5.heap.size ≤ k_) (⟨d0,d1,d2⟩:S83) (Kd.R_reads' hr1).2.1 (Kd.R_F (Kd.R_mono (Kd.R_bound hr1) (fun k_ h=>h.2.1))) (Kd.R_reads' hr2).2.1 (Kd.R_F (Kd.R_mono (Kd.R_bound hr2) (fun k_ h=>h.2.1))));have HNL:=Aside0.mk (Kd.N_lt HN5.out);clear hr1 hr2 hd)|((with_reducible refine gate_builtin (b:=.append) (xs:=#[.tmp 26,.tmp 29]) rfl ?_);at_builtin;refine Kd.N_append k83 (w0:=w) w.heap.size rfl (.tmp 26) (.tmp 29) 40 83 (.agg #[.bool false,.slice none 0 0,.slice none 0 0]) 56 rfl Try.underlying40 info83 rfl (by decide) (by decide) (.slice A3 acc.length c3) acc (⟨d0,d1,d2⟩:S83) [.bool d0,.slice D1 d1.length g1,.slice D2 d2.length g2] (fun _=>True) (fun k_=>W5.heap.size ≤ k_) rfl rfl HFK.out (fun k_ hk=>⟨trivial,fun q_=>by have:=HNL.out k_ q_.symm;omega⟩) (fun _ _=>trivial) HN.out HB.out HB.out.size (by have:=HAL.out;omega) ?_;intro v1 w1 ho hb hg_ hat_;have HO:=Aside0.mk ho;have HB:=Aside0.mk hb;clear ho hb hg_ hat_))
      go_roundw
      case rel=>exact ⟨j + 1,acc ++ [(⟨d0,d1,d2⟩:S83)],hp,Zb,rfl,HR.out,HO.out,HB.out⟩
      case measure=>simp [intOf];omega
  ·obtain rfl:j = l0.length:=by omega
   rw [List.drop_length] at htd
   simp only [tidI,Option.some.injEq] at htd
   subst htd
   have HN:=Aside0.mk hN
   have HB:=Aside0.mk hB
   clear hN hB
   go_wp2
   go_ret
   exact ⟨_,rfl,HN.out,HB.out⟩
theorem tidI_mono (k:Nat) (l:List S83):∀ acc,LeO (tidI k acc l) (tidI (k + 1) acc l):=by
 induction l with
 | nil=>intro acc r h;exact h
 | cons x t ih =>
  intro acc
  simp only [tidI]
  refine LeO.bind (LeO.ite (LeO.refl _) (slices_Equal_int_int.mono _ _ k)) (fun _=>LeO.ite (ih _) (LeO.bind ?_ (fun _=>LeO.ite (ih _) (LeO.bind (LeO.refl _) (fun _=>ih _)))))
  unfold impl_tidy_1_any.f
  exact anyO_mono (fun x=>impl_tidy_1.mono _ _ _ _ _ _ k) _
theorem impl_tidy.mono (l:List S83) (k:Nat):LeO (impl_tidy.f k l) (impl_tidy.f (k + 1) l):=by
 unfold impl_tidy.f
 exact LeO.ite (tidI_mono k l []) (LeO.none _)

/-! ### impl_TidyClause: function 19 -/
def impl_TidyClause.f (k:Nat) (l0_0:List Int) (l1:List (S83)):Option ((List (S83)) × Bool):=(impl_GoodClause.f k l0_0 l1).bind fun t365=>(if t365 = true then ((impl_tidy.f k l1).bind fun t366=>(some (t366,true))) else (some (([]:List (S83)),false)))
theorem impl_TidyClause.mono:∀ a0 a1 k,LeO (impl_TidyClause.f k a0 a1) (impl_TidyClause.f (k + 1) a0 a1):=by
 intro a0 a1 k
 unfold impl_TidyClause.f
 have m0:=@impl_GoodClause.mono
 have m1:=@impl_tidy.mono
 exact mO
set_option maxHeartbeats 8000000 in
set_option maxRecDepth 100000 in
theorem impl_TidyClause.calls (k:Nat) (A0_0:Option Addr) (c0_0:Nat) (l0_0:List Int) (A1:Option Addr) (c1:Nat) (l1:List (S83)) (r1:List (S83)) (r2:Bool) (w:World) (hr0_0:Kd.C (Kd.int .i64) w A0_0 l0_0.length l0_0) (hc0_0:l0_0.length ≤ c0_0) (hr1:Kd.C k83 w A1 l1.length l1) (hc1:l1.length ≤ c1) (h:impl_TidyClause.f k l0_0 l1 = some (r1,r2)) :
  Calls Try.prog 19 #[.agg #[.slice A0_0 l0_0.length c0_0],.slice A1 l1.length c1] w fun e w'=>∃ v0_:Value,e = .returned (.tuple #[v0_,.bool r2]) ∧ Kd.N k83 83 w' w.heap.size (fun _=>True) v0_ r1 ∧ Below w.heap.size w w':=by
 have hu26:=Try.underlying26
 have HR0_0:=Aside0.mk hr0_0
 have HC0_0:=Aside0.mk hc0_0
 clear hr0_0 hc0_0
 have HR1:=Aside0.mk hr1
 have HC1:=Aside0.mk hc1
 clear hr1 hc1
 have HB:=Aside0.mk (Below.refl w.heap.size w)
 have H:((impl_GoodClause.f k l0_0 l1).bind fun t365=>(if t365 = true then ((impl_tidy.f k l1).bind fun t366=>(some (t366,true))) else (some (([]:List (S83)),false)))) = some (r1,r2):=h
 clear h
 replace H:=bI H;obtain ⟨t365,A3,H⟩:=H
 by_cases c4:t365 = true
 ·subst c4
  replace H:=pT H
  replace H:=bI H;obtain ⟨t366,A5,H⟩:=H
  simp only [Option.some.injEq,Prod.mk.injEq] at H
  obtain ⟨rfl,rfl⟩:=H
  go_enter Try.func19,Try.ntmps19
  go_wp2_with (first|(refine xB 2 #[.slice A0_0 l0_0.length c0_0] 26 ?_;intro gb364 hg w6 hbox hb;have BK364:=Aside0.mk (hbox);have GW364:=gZ w gb364;have GE364:=GW364;replace HB:=bS hb;clear hb hbox hg;have hcz7_0:=qc1_0 BK364;have hfz7_0:=fz BK364 0)|((with_reducible refine gate_callee (f:=26) rfl ?_);refine goesL_ (some 8) rfl rfl Try.func26 (by kernel_rfl) rfl #[.agg #[.slice A0_0 l0_0.length c0_0],.slice A1 l1.length c1] rfl Ya ?_;(with_reducible refine (impl_GoodClause.calls k _ _ l0_0 _ _ l1 true _ ?side1 ?side2 ?side3 ?side4 A3.out).mono ?_);(case side1=>exact Yx);(case side2=>exact Yw);(case side3=>exact sC HR1);(case side4=>exact HC1.out);rintro e w8 ⟨rfl,hb⟩;refine ⟨_,rfl,?_⟩;replace BK364:=bb BK364 hb;replace HB:=bS hb;clear hb)|((with_reducible refine gate_callee (f:=59) rfl ?_);refine goesL_ (some 11) rfl rfl Try.func59 (by kernel_rfl) rfl #[.slice A1 l1.length c1] rfl Ya ?_;(with_reducible refine (impl_tidy.calls k _ _ l1 t366 _ ?side1 ?side2 A5.out).mono ?_);(case side1=>exact sC HR1);(case side2=>exact HC1.out);rintro e w9 ⟨v367,rfl,ho0,hb⟩;refine ⟨_,rfl,?_⟩;have HO368:=Aside0.mk (Kd.N_lower ho0 (below_size bH));replace BK364:=bb BK364 hb;replace HB:=bS hb;clear hb ho0))
  go_ret2
  exact ⟨_,Yb,by (with_reducible repeat (first|apply Kd.N_alloc|apply Kd.N_drewN|apply Kd.N_drew));exact Kd.N_mono HO368.out (fun _ _=>trivial),bH⟩
 ·replace c4:=Bool.eq_false_iff.mpr c4
  subst c4
  replace H:=pF H
  simp only [Option.some.injEq,Prod.mk.injEq] at H
  obtain ⟨rfl,rfl⟩:=H
  go_enter Try.func19,Try.ntmps19
  go_wp2_with (first|(refine xB 2 #[.slice A0_0 l0_0.length c0_0] 26 ?_;intro gb364 hg w10 hbox hb;have BK364:=Aside0.mk (hbox);have GW364:=gZ w gb364;have GE364:=GW364;replace HB:=bS hb;clear hb hbox hg;have hcz11_0:=qc1_0 BK364;have hfz11_0:=fz BK364 0)|((with_reducible refine gate_callee (f:=26) rfl ?_);refine goesL_ (some 8) rfl rfl Try.func26 (by kernel_rfl) rfl #[.agg #[.slice A0_0 l0_0.length c0_0],.slice A1 l1.length c1] rfl Ya ?_;(with_reducible refine (impl_GoodClause.calls k _ _ l0_0 _ _ l1 false _ ?side1 ?side2 ?side3 ?side4 A3.out).mono ?_);(case side1=>exact Yx);(case side2=>exact Yw);(case side3=>exact sC HR1);(case side4=>exact HC1.out);rintro e w12 ⟨rfl,hb⟩;refine ⟨_,rfl,?_⟩;replace BK364:=bb BK364 hb;replace HB:=bS hb;clear hb))
  go_ret2
  exact ⟨_,Yb,Yl,bH⟩

/-! ### spec_l1In: function 83 -/
def spec_l1In.f (a0:Int) (a1:Int) (a2:Int):Option (Bool):=if a0 ≥ a1 then (some (decide (a0 ≤ a2))) else (some false)
set_option maxHeartbeats 8000000 in
set_option maxRecDepth 100000 in
theorem spec_l1In.calls (a0:Int) (a1:Int) (a2:Int) (r:Bool) (w:World) (h:spec_l1In.f a0 a1 a2 = some r) :
  Calls Try.prog 83 #[.int .i64 a0,.int .i64 a1,.int .i64 a2] w fun e w'=>e = .returned (.bool r) ∧ Drawn0 w w':=by
 have H:(if a0 ≥ a1 then (some (decide (a0 ≤ a2))) else (some false)) = some r:=h
 clear h
 by_cases c4:a0 ≥ a1
 ·rw [if_pos c4] at H
  have c4b0:decide (a1 ≤ a0) = true:=decide_eq_true c4
  clear c4
  obtain rfl:=Option.some.inj H
  go_enter Try.func83,Try.ntmps83
  go_wp2
  go_ret
  exact ⟨Yd,Yh⟩
 ·rw [if_neg c4] at H
  have c4b0:decide (a1 ≤ a0) = false:=decide_eq_false c4
  clear c4
  obtain rfl:=Option.some.inj H
  go_enter Try.func83,Try.ntmps83
  go_wp2
  go_ret
  exact ⟨Yd,Yh⟩

/-! ### spec_l1End: function 84 -/
mutual
def spec_l1End.l0:Nat → List Int → Int → Int → List Int → Option (Int)
 | 0,_,_,_,_=>none
 | k + 1,x1,x2,x7,x370000=>if x7 > 0 then (if x2 ≥ (x1.length:Int) then (spec_l1End.j1 k x1 x2 x7 true x370000) else (if 0 ≤ x2 then (if x2 < (x1.length:Int) then ((spec_l1In.f (rd x1 x2) (-12) (wrap64 ((x370000.length:Int) - 1))).bind fun t371=>(spec_l1End.j1 k x1 x2 x7 (!t371) x370000)) else (none)) else (none))) else (some x2)
def spec_l1End.j1:Nat → List Int → Int → Int → Bool → List Int → Option (Int)
 | 0,_,_,_,_,_=>none
 | k + 1,x1,x2,x7,x25,x370000=>if x25 = true then (some (-1)) else (if 0 ≤ x2 then (if x2 < (x1.length:Int) then (if (rd x1 x2) ≥ 0 then (if 0 ≤ (rd x1 x2) then (if (rd x1 x2) < (x370000.length:Int) then (spec_l1End.l0 k x1 (wrap64 (x2 + 1)) (wrap64 ((wrap64 (x7 - 1)) + (rd x370000 (rd x1 x2)))) x370000) else (none)) else (none)) else (spec_l1End.l0 k x1 (wrap64 (x2 + 1)) (wrap64 (x7 - 1)) x370000)) else (none)) else (none))
end
def spec_l1End.f (k:Nat) (l0_0:List Int) (l1:List Int) (a2:Int):Option (Int):=spec_l1End.l0 k l1 a2 1 l0_0
theorem spec_l1End.mono_l:∀ k,(∀ y0 y1 y2 y3,LeO (spec_l1End.l0 k y0 y1 y2 y3) (spec_l1End.l0 (k + 1) y0 y1 y2 y3)) ∧ (∀ y0 y1 y2 y3 y4,LeO (spec_l1End.j1 k y0 y1 y2 y3 y4) (spec_l1End.j1 (k + 1) y0 y1 y2 y3 y4))
 | 0=>⟨fun _ _ _ _ r h=>by simp [spec_l1End.l0] at h,fun _ _ _ _ _ r h=>by simp [spec_l1End.j1] at h⟩
 | k + 1=>by
  obtain ⟨ih0,ih1⟩:=spec_l1End.mono_l k
  refine ⟨?_,?_⟩
  ·intro y0 y1 y2 y3
   unfold spec_l1End.l0
   exact mO
  ·intro y0 y1 y2 y3 y4
   unfold spec_l1End.j1
   exact mO
theorem spec_l1End.mono:∀ a0 a1 a2 k,LeO (spec_l1End.f k a0 a1 a2) (spec_l1End.f (k + 1) a0 a1 a2):=by
 intro a0 a1 a2 k
 obtain ⟨ih0,ih1⟩:=spec_l1End.mono_l k
 unfold spec_l1End.f
 exact mO
set_option maxHeartbeats 8000000 in
set_option maxRecDepth 100000 in
theorem spec_l1End.calls (k:Nat) (A0_0:Option Addr) (c0_0:Nat) (l0_0:List Int) (A1:Option Addr) (c1:Nat) (l1:List Int) (a2:Int) (r:Int) (w:World) (hr0_0:Kd.C (Kd.int .i64) w A0_0 l0_0.length l0_0) (hc0_0:l0_0.length ≤ c0_0) (hr1:Kd.C (Kd.int .i64) w A1 l1.length l1) (hc1:l1.length ≤ c1) (h:spec_l1End.f k l0_0 l1 a2 = some r) :
  Calls Try.prog 84 #[.agg #[.slice A0_0 l0_0.length c0_0],.slice A1 l1.length c1,.int .i64 a2] w fun e w'=>e = .returned (.int .i64 r) ∧ Below w.heap.size w w':=by
 have hu26:=Try.underlying26
 have HR0_0:=Aside0.mk hr0_0
 have HC0_0:=Aside0.mk hc0_0
 clear hr0_0 hc0_0
 have HR1:=Aside0.mk hr1
 have HC1:=Aside0.mk hc1
 clear hr1 hc1
 have HB:=Aside0.mk (Below.refl w.heap.size w)
 have H:(spec_l1End.l0 k l1 a2 1 l0_0) = some r:=h
 clear h
 have H':=Aside0.mk H
 clear H
 go_enter Try.func84,Try.ntmps84
 go_wp2_with (first|((with_reducible refine gate_dst (N:=3) rfl ?_);(try (refine gate_guard (by rfl) ?_;dsimp only));refine box_event ?hg (N:=3) ?hd (cs:=#[.slice A0_0 l0_0.length c0_0]) (t:=26) ?hr ?_;(case hd=>rfl);(case hg=>rfl);(case hr=>exact Yc);intro gb369 hg w4 hbox hb;have BK369:=Aside0.mk (hbox);have GW369:=gZ w gb369;have GE369:=GW369;replace HB:=bS hb;clear hb hbox hg))
 repeat (go_quiet (first|((with_reducible refine gate_dst (N:=3) rfl ?_);(try (refine gate_guard (by rfl) ?_;dsimp only));refine box_event ?hg (N:=3) ?hd (cs:=#[.slice A0_0 l0_0.length c0_0]) (t:=26) ?hr ?_;(case hd=>rfl);(case hg=>rfl);(case hr=>exact Yc);intro gb369 hg w4 hbox hb;have BK369:=Aside0.mk (hbox);have GW369:=gZ w gb369;have GE369:=GW369;replace HB:=bS hb;clear hb hbox hg));try go_wp2_with (first|((with_reducible refine gate_dst (N:=3) rfl ?_);(try (refine gate_guard (by rfl) ?_;dsimp only));refine box_event ?hg (N:=3) ?hd (cs:=#[.slice A0_0 l0_0.length c0_0]) (t:=26) ?hr ?_;(case hd=>rfl);(case hg=>rfl);(case hr=>exact Yc);intro gb369 hg w4 hbox hb;have BK369:=Aside0.mk (hbox);have GW369:=gZ w gb369;have GE369:=GW369;replace HB:=bS hb;clear hb hbox hg)))
 go_loopg [2,7] k (fun kq v2 v7 w'=>∃ (x2_1:Int) (x7_1:Int),v2 = .int .i64 x2_1 ∧ v7 = .int .i64 x7_1 ∧ Aside0 (spec_l1End.l0 kq l1 x2_1 x7_1 l0_0 = some r) ∧ Aside0 (kq ≤ k) ∧ Aside0 (w'.heap[gb369]? = some (.cells #[(.slice A0_0 l0_0.length c0_0)] 26 (0,0))) ∧ Aside0 (Below w.heap.size w w'))
 case atStart=>exact ⟨(a2),(1),Yd,Yd,H',⟨Nat.le_refl _⟩,⟨YC⟩,⟨bH⟩⟩
 case round =>
  clear H'
  (try clear c1)
  obtain ⟨x2_1,x7_1,rfl,rfl,HA,HK1,BK369,HB⟩:=hrel
  cases gk with
  | zero=>exact absurd HA.out (by simp [spec_l1End.l0])
  | succ k1 =>
   have H:=HA.out
   clear HA
   simp only [spec_l1End.l0] at H
   by_cases c5:x7_1 > 0
   ·rw [if_pos c5] at H
    have c5b0:decide (0 < x7_1) = true:=decide_eq_true c5
    clear c5
    have HC6:=Aside0.mk H
    clear H
    go_upto_region 3 with (fail)
    repeat (go_quiet (fail);go_upto_region 3 with (fail))
    go_cut [25] (fun v25 wc=>∃ (kq:Nat) (x25_5:Bool),v25 = .bool x25_5 ∧ Aside0 (spec_l1End.j1 kq l1 x2_1 x7_1 x25_5 l0_0 = some r) ∧ Aside0 (kq ≤ k1) ∧ Aside0 (wc.heap[gb369]? = some (.cells #[(.slice A0_0 l0_0.length c0_0)] 26 (0,0))) ∧ Aside0 (Below w.heap.size w wc))
    case first =>
     have H:=HC6.out
     clear HC6
     by_cases c7:x2_1 ≥ (l1.length:Int)
     ·rw [if_pos c7] at H
      have c7b0:decide ((l1.length:Int) ≤ x2_1) = true:=decide_eq_true c7
      clear c7
      (first|rw [c7b0]|(simp only [i64_w,i32_w];rw [c7b0])|skip)
      have H':=Aside0.mk H
      clear H
      go_wp2
      repeat (go_quiet (fail);try go_wp2)
      go_meet
      case rel=>exact ⟨_,(true),Yd,H',⟨YZ⟩,⟨YC⟩,⟨bH⟩⟩
     ·rw [if_neg c7] at H
      have c7b0:decide ((l1.length:Int) ≤ x2_1) = false:=decide_eq_false c7
      clear c7
      (first|rw [c7b0]|(simp only [i64_w,i32_w];rw [c7b0])|skip)
      replace H:=gI H;obtain ⟨c8b0,H⟩:=H
      replace H:=gI H;obtain ⟨c9b0,H⟩:=H
      replace H:=bI H;obtain ⟨t371,A10,H⟩:=H
      have H':=Aside0.mk H
      clear H
      have p370:0 ≤ (x2_1:Int):=oD
      have q370:x2_1 < (l1.length:Int):=oD
      obtain ⟨ad370,e370,hx370_0⟩:=Kd.at_int HR1.out x2_1 p370 q370
      cases e370
      replace hx370_0:=(HB.out.cell (World.block_lt_of_cell? w _ hx370_0)).trans hx370_0
      replace p370:=eq_true p370
      replace q370:=eq_true q370
      have hcz11_0:=qc1_0 BK369
      have hfz11_0:=fz BK369 0
      go_wp2_with (first|(go_at_call 83;(with_reducible refine (spec_l1In.calls (rd l1 x2_1) (-12) (wrap64 ((l0_0.length:Int) - 1)) t371 _ A10.out).mono ?_);rintro e w' ⟨rfl,⟨nd,rfl⟩⟩;(try first|exact ⟨rfl,_,World.drewN_drewN _ _ _⟩|exact ⟨rfl,_,Eq.trans (World.drewN_drewN _ _ _) (congrArg (World.drewN _) (Nat.add_assoc _ _ _))⟩)))
      repeat (go_quiet (first|(go_at_call 83;(with_reducible refine (spec_l1In.calls (rd l1 x2_1) (-12) (wrap64 ((l0_0.length:Int) - 1)) t371 _ A10.out).mono ?_);rintro e w' ⟨rfl,⟨nd,rfl⟩⟩;(try first|exact ⟨rfl,_,World.drewN_drewN _ _ _⟩|exact ⟨rfl,_,Eq.trans (World.drewN_drewN _ _ _) (congrArg (World.drewN _) (Nat.add_assoc _ _ _))⟩)));try go_wp2_with (first|(go_at_call 83;(with_reducible refine (spec_l1In.calls (rd l1 x2_1) (-12) (wrap64 ((l0_0.length:Int) - 1)) t371 _ A10.out).mono ?_);rintro e w' ⟨rfl,⟨nd,rfl⟩⟩;(try first|exact ⟨rfl,_,World.drewN_drewN _ _ _⟩|exact ⟨rfl,_,Eq.trans (World.drewN_drewN _ _ _) (congrArg (World.drewN _) (Nat.add_assoc _ _ _))⟩))))
      go_meet
      case rel=>exact ⟨_,(!t371),Yd,H',⟨YZ⟩,⟨YC⟩,⟨bH⟩⟩
    case rest =>
     clear HC6
     (try clear c1);(try clear c5);(try clear c5b0);(try clear c7);(try clear c7b0);(try clear c8b0);(try clear c9b0);(try clear hcz11_0);(try clear hfz11_0);(try clear hx370_0);(try clear p370);(try clear q370)
     obtain ⟨kq,x25_5,rfl,HA,HJ5,BK369,HB⟩:=hcut
     cases kq with
     | zero=>exact absurd HA.out (by simp [spec_l1End.j1])
     | succ kj5 =>
      have H:=HA.out
      clear HA
      simp only [spec_l1End.j1] at H
      by_cases c12:x25_5 = true
      ·subst c12
       replace H:=pT H
       obtain rfl:=Option.some.inj H
       go_wp2
       repeat (go_quiet (fail);try go_wp2)
       go_ret
       exact ⟨Yb,bH⟩
      ·replace c12:=Bool.eq_false_iff.mpr c12
       subst c12
       replace H:=pF H
       replace H:=gI H;obtain ⟨c13b0,H⟩:=H
       replace H:=gI H;obtain ⟨c14b0,H⟩:=H
       by_cases c15:(rd l1 x2_1) ≥ 0
       ·rw [if_pos c15] at H
        have c15b0:decide (0 ≤ (rd l1 x2_1)) = true:=decide_eq_true c15
        clear c15
        replace H:=gI H;obtain ⟨c16b0,H⟩:=H
        replace H:=gI H;obtain ⟨c17b0,H⟩:=H
        have H':=Aside0.mk H
        clear H
        have p372:0 ≤ (x2_1:Int):=oD
        have q372:x2_1 < (l1.length:Int):=oD
        obtain ⟨ad372,e372,hx372_0⟩:=Kd.at_int HR1.out x2_1 p372 q372
        cases e372
        replace hx372_0:=(HB.out.cell (World.block_lt_of_cell? w _ hx372_0)).trans hx372_0
        replace p372:=eq_true p372
        replace q372:=eq_true q372
        have hcz18_0:=qc1_0 BK369
        have hfz18_0:=fz BK369 0
        have p373:0 ≤ (x2_1:Int):=oD
        have q373:x2_1 < (l1.length:Int):=oD
        obtain ⟨ad373,e373,hx373_0⟩:=Kd.at_int HR1.out x2_1 p373 q373
        obtain rfl:ad372 = ad373:=(by injection e373)
        replace hx373_0:=(HB.out.cell (World.block_lt_of_cell? w _ hx373_0)).trans hx373_0
        replace p373:=eq_true p373
        replace q373:=eq_true q373
        have p374:0 ≤ ((rd l1 x2_1):Int):=oD
        have q374:(rd l1 x2_1) < (l0_0.length:Int):=oD
        obtain ⟨ad374,e374,hx374_0⟩:=Kd.at_int HR0_0.out (rd l1 x2_1) p374 q374
        cases e374
        replace hx374_0:=(HB.out.cell (World.block_lt_of_cell? w _ hx374_0)).trans hx374_0
        replace p374:=eq_true p374
        replace q374:=eq_true q374
        go_wp2
        repeat (go_quiet (fail);try go_wp2)
        go_roundg kj5
        case measure=>have:=HK1.out;have:=HJ5.out;omega
        case rel=>exact ⟨(wrap64 (x2_1 + 1)),(wrap64 ((wrap64 (x7_1 - 1)) + (rd l0_0 (rd l1 x2_1)))),Yd,Yd,H',⟨by have:=HK1.out;have:=HJ5.out;omega⟩,⟨YC⟩,⟨bH⟩⟩
       ·rw [if_neg c15] at H
        have c15b0:decide (0 ≤ (rd l1 x2_1)) = false:=decide_eq_false c15
        clear c15
        have H':=Aside0.mk H
        clear H
        have p372:0 ≤ (x2_1:Int):=oD
        have q372:x2_1 < (l1.length:Int):=oD
        obtain ⟨ad372,e372,hx372_0⟩:=Kd.at_int HR1.out x2_1 p372 q372
        cases e372
        replace hx372_0:=(HB.out.cell (World.block_lt_of_cell? w _ hx372_0)).trans hx372_0
        replace p372:=eq_true p372
        replace q372:=eq_true q372
        go_wp2
        repeat (go_quiet (fail);try go_wp2)
        go_roundg kj5
        case measure=>have:=HK1.out;have:=HJ5.out;omega
        case rel=>exact ⟨(wrap64 (x2_1 + 1)),(wrap64 (x7_1 - 1)),Yd,Yd,H',⟨by have:=HK1.out;have:=HJ5.out;omega⟩,⟨YC⟩,⟨bH⟩⟩
   ·rw [if_neg c5] at H
    have c5b0:decide (0 < x7_1) = false:=decide_eq_false c5
    clear c5
    obtain rfl:=Option.some.inj H
    go_wp2
    repeat (go_quiet (fail);try go_wp2)
    go_ret
    exact ⟨Yb,bH⟩

/-! ### spec_l1Term: function 46 -/
def spec_l1Term.f (k:Nat) (l0_0:List Int) (l1:List Int):Option (Bool):=(spec_l1In.f (l1.length:Int) 1 40).bind fun t376=>(if t376 = true then ((spec_l1End.f k l0_0 l1 0).bind fun t377=>(some (t377 == (l1.length:Int)))) else (some false))
theorem spec_l1Term.mono:∀ a0 a1 k,LeO (spec_l1Term.f k a0 a1) (spec_l1Term.f (k + 1) a0 a1):=by
 intro a0 a1 k
 unfold spec_l1Term.f
 have m0:=@spec_l1End.mono
 exact mO
set_option maxHeartbeats 8000000 in
set_option maxRecDepth 100000 in
theorem spec_l1Term.calls (k:Nat) (A0_0:Option Addr) (c0_0:Nat) (l0_0:List Int) (A1:Option Addr) (c1:Nat) (l1:List Int) (r:Bool) (w:World) (hr0_0:Kd.C (Kd.int .i64) w A0_0 l0_0.length l0_0) (hc0_0:l0_0.length ≤ c0_0) (hr1:Kd.C (Kd.int .i64) w A1 l1.length l1) (hc1:l1.length ≤ c1) (h:spec_l1Term.f k l0_0 l1 = some r) :
  Calls Try.prog 46 #[.agg #[.slice A0_0 l0_0.length c0_0],.slice A1 l1.length c1] w fun e w'=>e = .returned (.bool r) ∧ Below w.heap.size w w':=by
 have hu26:=Try.underlying26
 have HR0_0:=Aside0.mk hr0_0
 have HC0_0:=Aside0.mk hc0_0
 clear hr0_0 hc0_0
 have HR1:=Aside0.mk hr1
 have HC1:=Aside0.mk hc1
 clear hr1 hc1
 have HB:=Aside0.mk (Below.refl w.heap.size w)
 have H:((spec_l1In.f (l1.length:Int) 1 40).bind fun t376=>(if t376 = true then ((spec_l1End.f k l0_0 l1 0).bind fun t377=>(some (t377 == (l1.length:Int)))) else (some false))) = some r:=h
 clear h
 replace H:=bI H;obtain ⟨t376,A3,H⟩:=H
 by_cases c4:t376 = true
 ·subst c4
  replace H:=pT H
  replace H:=bI H;obtain ⟨t377,A5,H⟩:=H
  obtain rfl:=Option.some.inj H
  go_enter Try.func46,Try.ntmps46
  go_wp2_with (first|((with_reducible refine gate_dst (N:=2) rfl ?_);(try (refine gate_guard (by rfl) ?_;dsimp only));refine box_event ?hg (N:=2) ?hd (cs:=#[.slice A0_0 l0_0.length c0_0]) (t:=26) ?hr ?_;(case hd=>rfl);(case hg=>rfl);(case hr=>exact Yc);intro gb375 hg w6 hbox hb;have BK375:=Aside0.mk (hbox);have GW375:=gZ w gb375;have GE375:=GW375;replace HB:=bS hb;clear hb hbox hg)|((with_reducible refine gate_callee (f:=83) rfl ?_);refine goesL_ (some 7) rfl rfl Try.func83 (by kernel_rfl) rfl #[.int .i64 (l1.length:Int),.int .i64 1,.int .i64 40] rfl Ya ?_;(with_reducible refine (spec_l1In.calls (l1.length:Int) 1 40 true _ A3.out).mono ?_);rintro e w' ⟨rfl,⟨nd,rfl⟩⟩;refine ⟨_,rfl,?_⟩;have hcz7_0:=qc1_0 BK375;have hfz7_0:=fz BK375 0)|(go_at_call 84;(with_reducible refine (spec_l1End.calls k _ _ l0_0 _ _ l1 0 t377 _ ?side1 ?side2 ?side3 ?side4 A5.out).mono ?_);(case side1=>repeat (first|exact (Kd.C_below HR0_0.out bH)|(with_reducible refine Kd.C_alloc ?_ _)|(with_reducible refine Kd.C_drewN ?_ _)|(with_reducible refine Kd.C_drew ?_)));(case side2=>exact Yw);(case side3=>repeat (first|exact (Kd.C_below HR1.out bH)|(with_reducible refine Kd.C_alloc ?_ _)|(with_reducible refine Kd.C_drewN ?_ _)|(with_reducible refine Kd.C_drew ?_)));(case side4=>exact HC1.out);rintro e w8 ⟨rfl,hb⟩;replace BK375:=bb BK375 hb;replace HB:=bS hb;clear hb))
  go_ret
  exact ⟨Yb,bH⟩
 ·replace c4:=Bool.eq_false_iff.mpr c4
  subst c4
  replace H:=pF H
  obtain rfl:=Option.some.inj H
  go_enter Try.func46,Try.ntmps46
  go_wp2_with (first|((with_reducible refine gate_dst (N:=2) rfl ?_);(try (refine gate_guard (by rfl) ?_;dsimp only));refine box_event ?hg (N:=2) ?hd (cs:=#[.slice A0_0 l0_0.length c0_0]) (t:=26) ?hr ?_;(case hd=>rfl);(case hg=>rfl);(case hr=>exact Yc);intro gb375 hg w9 hbox hb;have BK375:=Aside0.mk (hbox);have GW375:=gZ w gb375;have GE375:=GW375;replace HB:=bS hb;clear hb hbox hg)|((with_reducible refine gate_callee (f:=83) rfl ?_);refine goesL_ (some 7) rfl rfl Try.func83 (by kernel_rfl) rfl #[.int .i64 (l1.length:Int),.int .i64 1,.int .i64 40] rfl Ya ?_;(with_reducible refine (spec_l1In.calls (l1.length:Int) 1 40 false _ A3.out).mono ?_);rintro e w' ⟨rfl,⟨nd,rfl⟩⟩;refine ⟨_,rfl,?_⟩))
  go_ret
  exact ⟨Yb,bH⟩

/-! ### spec_l4Lit: function 92 -/
def spec_l4Lit.f (k:Nat) (l0_0:List Int) (a1_0:Bool) (l1_1:List Int) (l1_2:List Int):Option (Bool):=(spec_l1Term.f k l0_0 l1_1).bind fun t380=>(if t380 = true then ((spec_l1Term.f k l0_0 l1_2).bind fun t381=>(some t381)) else (some false))
theorem spec_l4Lit.mono:∀ a0 a1 a2 a3 k,LeO (spec_l4Lit.f k a0 a1 a2 a3) (spec_l4Lit.f (k + 1) a0 a1 a2 a3):=by
 intro a0 a1 a2 a3 k
 unfold spec_l4Lit.f
 have m0:=@spec_l1Term.mono
 exact mO
set_option maxHeartbeats 8000000 in
set_option maxRecDepth 100000 in
theorem spec_l4Lit.calls (k:Nat) (A0_0:Option Addr) (c0_0:Nat) (l0_0:List Int) (a1_0:Bool) (A1_1:Option Addr) (c1_1:Nat) (l1_1:List Int) (A1_2:Option Addr) (c1_2:Nat) (l1_2:List Int) (r:Bool) (w:World) (hr0_0:Kd.C (Kd.int .i64) w A0_0 l0_0.length l0_0) (hc0_0:l0_0.length ≤ c0_0) (hr1_1:Kd.C (Kd.int .i64) w A1_1 l1_1.length l1_1) (hc1_1:l1_1.length ≤ c1_1) (hr1_2:Kd.C (Kd.int .i64) w A1_2 l1_2.length l1_2) (hc1_2:l1_2.length ≤ c1_2) (h:spec_l4Lit.f k l0_0 a1_0 l1_1 l1_2 = some r) :
  Calls Try.prog 92 #[.agg #[.slice A0_0 l0_0.length c0_0],.agg #[.bool a1_0,.slice A1_1 l1_1.length c1_1,.slice A1_2 l1_2.length c1_2]] w fun e w'=>e = .returned (.bool r) ∧ Below w.heap.size w w':=by
 have hu26:=Try.underlying26
 have hu83:=Try.underlying83
 have HR0_0:=Aside0.mk hr0_0
 have HC0_0:=Aside0.mk hc0_0
 clear hr0_0 hc0_0
 have HR1_1:=Aside0.mk hr1_1
 have HC1_1:=Aside0.mk hc1_1
 clear hr1_1 hc1_1
 have HR1_2:=Aside0.mk hr1_2
 have HC1_2:=Aside0.mk hc1_2
 clear hr1_2 hc1_2
 have HB:=Aside0.mk (Below.refl w.heap.size w)
 have H:((spec_l1Term.f k l0_0 l1_1).bind fun t380=>(if t380 = true then ((spec_l1Term.f k l0_0 l1_2).bind fun t381=>(some t381)) else (some false))) = some r:=h
 clear h
 replace H:=bI H;obtain ⟨t380,A3,H⟩:=H
 by_cases c4:t380 = true
 ·subst c4
  replace H:=pT H
  replace H:=bI H;obtain ⟨t381,A5,H⟩:=H
  obtain rfl:=Option.some.inj H
  go_enter Try.func92,Try.ntmps92
  go_wp2_with (first|(refine xB 2 #[.slice A0_0 l0_0.length c0_0] 26 ?_;intro gb378 hg w6 hbox hb;have BK378:=Aside0.mk (hbox);have GW378:=gZ w gb378;have GE378:=GW378;replace HB:=bS hb;clear hb hbox hg)|(refine xB 3 #[.bool a1_0,.slice A1_1 l1_1.length c1_1,.slice A1_2 l1_2.length c1_2] 83 ?_;intro gb379 hg w7 hbox hb;have BK379:=Aside0.mk (hbox);have GW379:=gZ w gb379;have GE379:=GW379;replace HB:=bS hb;have NB378_379:=nl BK378 gb378 gb379;have NB379_378:=nr NB378_379;replace BK378:=bb BK378 hb;clear hb hbox hg;have hnb8:=NB378_379.out;have hnc8:=NB379_378.out;have hcz9_0:=qc1_0 BK378;have hfz9_0:=fz BK378 0;have hcz10_0:=qc3_0 BK379;have hcz10_1:=qc3_1 BK379;have hcz10_2:=qc3_2 BK379;have hfz10_0:=fz BK379 0;have hfz10_1:=fz BK379 1;have hfz10_2:=fz BK379 2)|((with_reducible refine gate_callee (f:=46) rfl ?_);refine goesL_ (some 8) rfl rfl Try.func46 (by kernel_rfl) rfl #[.agg #[.slice A0_0 l0_0.length c0_0],.slice A1_1 l1_1.length c1_1] rfl Ya ?_;(with_reducible refine (spec_l1Term.calls k _ _ l0_0 _ _ l1_1 true _ ?side1 ?side2 ?side3 ?side4 A3.out).mono ?_);(case side1=>exact Yx);(case side2=>exact Yw);(case side3=>exact YY);(case side4=>exact YW);rintro e w11 ⟨rfl,hb⟩;refine ⟨_,rfl,?_⟩;replace BK378:=bb BK378 hb;replace BK379:=bb BK379 hb;replace HB:=bS hb;(try clear hb);(try clear hb2);(try clear hk);(try clear hi);have hcz12_0:=qc1_0 BK378;have hfz12_0:=fz BK378 0;have hcz13_0:=qc3_0 BK379;have hcz13_1:=qc3_1 BK379;have hcz13_2:=qc3_2 BK379;have hfz13_0:=fz BK379 0;have hfz13_1:=fz BK379 1;have hfz13_2:=fz BK379 2)|(go_at_call 46;(with_reducible refine (spec_l1Term.calls k _ _ l0_0 _ _ l1_2 t381 _ ?side1 ?side2 ?side3 ?side4 A5.out).mono ?_);(case side1=>exact Yx);(case side2=>exact Yw);(case side3=>exact sC HR1_2);(case side4=>exact HC1_2.out);rintro e w14 ⟨rfl,hb⟩;replace BK378:=bb BK378 hb;replace BK379:=bb BK379 hb;replace HB:=bS hb;clear hb))
  go_ret
  exact ⟨Yb,bH⟩
 ·replace c4:=Bool.eq_false_iff.mpr c4
  subst c4
  replace H:=pF H
  obtain rfl:=Option.some.inj H
  go_enter Try.func92,Try.ntmps92
  go_wp2_with (first|(refine xB 2 #[.slice A0_0 l0_0.length c0_0] 26 ?_;intro gb378 hg w15 hbox hb;have BK378:=Aside0.mk (hbox);have GW378:=gZ w gb378;have GE378:=GW378;replace HB:=bS hb;clear hb hbox hg)|(refine xB 3 #[.bool a1_0,.slice A1_1 l1_1.length c1_1,.slice A1_2 l1_2.length c1_2] 83 ?_;intro gb379 hg w16 hbox hb;have BK379:=Aside0.mk (hbox);have GW379:=gZ w gb379;have GE379:=GW379;replace HB:=bS hb;have NB378_379:=nl BK378 gb378 gb379;have NB379_378:=nr NB378_379;replace BK378:=bb BK378 hb;clear hb hbox hg;have hnb17:=NB378_379.out;have hnc17:=NB379_378.out;have hcz18_0:=qc1_0 BK378;have hfz18_0:=fz BK378 0;have hcz19_0:=qc3_0 BK379;have hcz19_1:=qc3_1 BK379;have hcz19_2:=qc3_2 BK379;have hfz19_0:=fz BK379 0;have hfz19_1:=fz BK379 1;have hfz19_2:=fz BK379 2)|((with_reducible refine gate_callee (f:=46) rfl ?_);refine goesL_ (some 8) rfl rfl Try.func46 (by kernel_rfl) rfl #[.agg #[.slice A0_0 l0_0.length c0_0],.slice A1_1 l1_1.length c1_1] rfl Ya ?_;(with_reducible refine (spec_l1Term.calls k _ _ l0_0 _ _ l1_1 false _ ?side1 ?side2 ?side3 ?side4 A3.out).mono ?_);(case side1=>exact Yx);(case side2=>exact Yw);(case side3=>exact YY);(case side4=>exact YW);rintro e w20 ⟨rfl,hb⟩;refine ⟨_,rfl,?_⟩;replace BK378:=bb BK378 hb;replace BK379:=bb BK379 hb;replace HB:=bS hb;clear hb))
  go_ret
  exact ⟨Yb,bH⟩

/-! ### spec_l4Clause: function 52 -/
def spec_l4Clause.l0:Nat → List (S83) → List (S83) → Int → Int → List Int → Option (Bool)
 | 0,_,_,_,_,_=>none
 | k + 1,x1,x7,x8,x9,x383000=>if x9 < x8 then (if 0 ≤ x9 then (if x9 < (x7.length:Int) then ((spec_l4Lit.f k x383000 ((rd_T83 x7 x9).f0) ((rd_T83 x7 x9).f1) ((rd_T83 x7 x9).f2)).bind fun t385=>(if t385 = true then (spec_l4Clause.l0 k x1 x7 x8 (wrap64 (x9 + 1)) x383000) else (some false))) else (none)) else (none)) else (some (decide ((x1.length:Int) ≤ 8)))
def spec_l4Clause.f (k:Nat) (l0_0:List Int) (l1:List (S83)):Option (Bool):=spec_l4Clause.l0 k l1 l1 (l1.length:Int) 0 l0_0
theorem spec_l4Clause.mono_l:∀ k,(∀ y0 y1 y2 y3 y4,LeO (spec_l4Clause.l0 k y0 y1 y2 y3 y4) (spec_l4Clause.l0 (k + 1) y0 y1 y2 y3 y4))
 | 0=>fun _ _ _ _ _ r h=>by simp [spec_l4Clause.l0] at h
 | k + 1=>by
  have ih0:=spec_l4Clause.mono_l k
  ·intro y0 y1 y2 y3 y4
   unfold spec_l4Clause.l0
   have m0:=@spec_l4Lit.mono
   exact mO
theorem spec_l4Clause.mono:∀ a0 a1 k,LeO (spec_l4Clause.f k a0 a1) (spec_l4Clause.f (k + 1) a0 a1):=by
 intro a0 a1 k
 have ih0:=spec_l4Clause.mono_l k
 unfold spec_l4Clause.f
 have m0:=@spec_l4Lit.mono
 exact mO
set_option maxHeartbeats 8000000 in
set_option maxRecDepth 100000 in
theorem spec_l4Clause.calls (k:Nat) (A0_0:Option Addr) (c0_0:Nat) (l0_0:List Int) (A1:Option Addr) (c1:Nat) (l1:List (S83)) (r:Bool) (w:World) (hr0_0:Kd.C (Kd.int .i64) w A0_0 l0_0.length l0_0) (hc0_0:l0_0.length ≤ c0_0) (hr1:Kd.C k83 w A1 l1.length l1) (hc1:l1.length ≤ c1) (h:spec_l4Clause.f k l0_0 l1 = some r) :
  Calls Try.prog 52 #[.agg #[.slice A0_0 l0_0.length c0_0],.slice A1 l1.length c1] w fun e w'=>e = .returned (.bool r) ∧ Below w.heap.size w w':=by
 have hu26:=Try.underlying26
 have hu83:=Try.underlying83
 have HR0_0:=Aside0.mk hr0_0
 have HC0_0:=Aside0.mk hc0_0
 clear hr0_0 hc0_0
 have HR1:=Aside0.mk hr1
 have HC1:=Aside0.mk hc1
 clear hr1 hc1
 have HB:=Aside0.mk (Below.refl w.heap.size w)
 have H:(spec_l4Clause.l0 k l1 l1 (l1.length:Int) 0 l0_0) = some r:=h
 clear h
 have H':=Aside0.mk H
 clear H
 go_enter Try.func52,Try.ntmps52
 go_wp2_with (first|(refine xB 2 #[.slice A0_0 l0_0.length c0_0] 26 ?_;intro gb382 hg w3 hbox hb;have BK382:=Aside0.mk (hbox);have GW382:=gZ w gb382;have GE382:=GW382;replace HB:=bS hb;clear hb hbox hg))
 go_loopg [9] k (fun kq v9 w'=>∃ (x9_1:Int),v9 = .int .i64 x9_1 ∧ Aside0 (spec_l4Clause.l0 kq l1 l1 (l1.length:Int) x9_1 l0_0 = some r) ∧ Aside0 (kq ≤ k) ∧ Aside0 (w'.heap[gb382]? = some (.cells #[(.slice A0_0 l0_0.length c0_0)] 26 (0,0))) ∧ Aside0 (Below w.heap.size w w'))
 case atStart=>exact ⟨(0),Yd,H',⟨Nat.le_refl _⟩,⟨by (with_reducible repeat (first|refine blk_drewN ?_ _|refine blk_drew ?_|refine blk_alloc ?_ _));exact BK382.out⟩,⟨bH⟩⟩
 case round =>
  clear H'
  (try clear c1)
  obtain ⟨x9_1,rfl,HA,HK1,BK382,HB⟩:=hrel
  cases gk with
  | zero=>exact absurd HA.out (by simp [spec_l4Clause.l0])
  | succ k1 =>
   have H:=HA.out
   clear HA
   simp only [spec_l4Clause.l0] at H
   by_cases c4:x9_1 < (l1.length:Int)
   ·rw [if_pos c4] at H
    have c4b0:=decide_eq_true c4
    clear c4
    replace H:=gI H;obtain ⟨c5b0,H⟩:=H
    replace H:=gI H;obtain ⟨c6b0,H⟩:=H
    replace H:=bI H;obtain ⟨t385,A7,H⟩:=H
    by_cases c8:t385 = true
    ·subst c8
     replace H:=pT H
     have H':=Aside0.mk H
     clear H
     have p383:0 ≤ (x9_1:Int):=oD
     have q383:x9_1 < (l1.length:Int):=oD
     obtain ⟨ad383,A383_1,c383_1,A383_2,c383_2,e383,hx383_0,hx383_1,hx383_2,hl383_1,hi383_1,hl383_2,hi383_2⟩:=at_T83 HR1.out x9_1 p383 q383
     cases e383
     replace hx383_0:=(HB.out.cell (World.block_lt_of_cell? w _ hx383_0)).trans hx383_0
     replace hx383_1:=(HB.out.cell (World.block_lt_of_cell? w _ hx383_1)).trans hx383_1
     replace hx383_2:=(HB.out.cell (World.block_lt_of_cell? w _ hx383_2)).trans hx383_2
     have HR383_1:=Aside0.mk hi383_1
     have HC383_1:=Aside0.mk hl383_1
     clear hi383_1 hl383_1
     have HR383_2:=Aside0.mk hi383_2
     have HC383_2:=Aside0.mk hl383_2
     clear hi383_2 hl383_2
     replace p383:=eq_true p383
     replace q383:=eq_true q383
     go_wp2_with (first|(refine xB 6 #[.bool false,.slice none 0 0,.slice none 0 0] 83 ?_;intro gb384 hg w9 hbox hb;have BK384:=Aside0.mk (hbox);have GW384:=gZ w gb384;have GE384:=GW384;replace HB:=bS hb;have NB382_384:=nl BK382 gb382 gb384;have NB384_382:=nr NB382_384;replace BK382:=bb BK382 hb;clear hb hbox hg;have hnb10:=NB384_382.out;have hnc10:=NB382_384.out;have hcz11_0:=qc3_0 BK384;have hcz11_1:=qc3_1 BK384;have hcz11_2:=qc3_2 BK384;have hfz11_0:=fz BK384 0;have hfz11_1:=fz BK384 1;have hfz11_2:=fz BK384 2;have hcz12_0:=qc1_0 BK382;have hfz12_0:=fz BK382 0)|((with_reducible refine gate_callee (f:=92) rfl ?_);refine goesL_ (some 15) rfl rfl Try.func92 (by kernel_rfl) rfl #[.agg #[.slice A0_0 l0_0.length c0_0],.agg #[.bool ((rd_T83 l1 x9_1).f0),.slice A383_1 ((rd_T83 l1 x9_1).f1).length c383_1,.slice A383_2 ((rd_T83 l1 x9_1).f2).length c383_2]] rfl Ya ?_;(with_reducible refine (spec_l4Lit.calls k1 _ _ l0_0 ((rd_T83 l1 x9_1).f0) _ _ ((rd_T83 l1 x9_1).f1) _ _ ((rd_T83 l1 x9_1).f2) true _ ?side1 ?side2 ?side3 ?side4 ?side5 ?side6 A7.out).mono ?_);(case side1=>exact Kd.C_below HR0_0.out bH);(case side2=>exact Yw);(case side3=>exact Kd.C_below HR383_1.out bH);(case side4=>exact HC383_1.out);(case side5=>exact Kd.C_below HR383_2.out bH);(case side6=>exact HC383_2.out);rintro e w13 ⟨rfl,hb⟩;refine ⟨_,rfl,?_⟩;replace BK382:=Aside0.mk (blk_below (g:=gb382) (o:=.cells #[.slice A0_0 l0_0.length c0_0] 26 (0,0)) Yy hb);replace BK384:=Aside0.mk (blk_below (g:=gb384) (o:=.cells #[.bool ((rd_T83 l1 x9_1).f0),.slice A383_1 ((rd_T83 l1 x9_1).f1).length c383_1,.slice A383_2 ((rd_T83 l1 x9_1).f2).length c383_2] 83 (0,0)) Yu hb);replace HB:=bS hb;clear hb))
     go_roundg k1
     case measure=>have:=HK1.out;omega
     case rel=>exact ⟨(wrap64 (x9_1 + 1)),Yd,H',⟨YH⟩,⟨by (with_reducible repeat (first|refine blk_drewN ?_ _|refine blk_drew ?_|refine blk_alloc ?_ _));exact BK382.out⟩,⟨bH⟩⟩
    ·replace c8:=Bool.eq_false_iff.mpr c8
     subst c8
     replace H:=pF H
     obtain rfl:=Option.some.inj H
     have p383:0 ≤ (x9_1:Int):=oD
     have q383:x9_1 < (l1.length:Int):=oD
     obtain ⟨ad383,A383_1,c383_1,A383_2,c383_2,e383,hx383_0,hx383_1,hx383_2,hl383_1,hi383_1,hl383_2,hi383_2⟩:=at_T83 HR1.out x9_1 p383 q383
     cases e383
     replace hx383_0:=(HB.out.cell (World.block_lt_of_cell? w _ hx383_0)).trans hx383_0
     replace hx383_1:=(HB.out.cell (World.block_lt_of_cell? w _ hx383_1)).trans hx383_1
     replace hx383_2:=(HB.out.cell (World.block_lt_of_cell? w _ hx383_2)).trans hx383_2
     have HR383_1:=Aside0.mk hi383_1
     have HC383_1:=Aside0.mk hl383_1
     clear hi383_1 hl383_1
     have HR383_2:=Aside0.mk hi383_2
     have HC383_2:=Aside0.mk hl383_2
     clear hi383_2 hl383_2
     replace p383:=eq_true p383
     replace q383:=eq_true q383
     go_wp2_with (first|(refine xB 6 #[.bool false,.slice none 0 0,.slice none 0 0] 83 ?_;intro gb384 hg w14 hbox hb;have BK384:=Aside0.mk (hbox);have GW384:=gZ w gb384;have GE384:=GW384;replace HB:=bS hb;have NB382_384:=nl BK382 gb382 gb384;have NB384_382:=nr NB382_384;replace BK382:=bb BK382 hb;clear hb hbox hg;have hnb15:=NB384_382.out;have hnc15:=NB382_384.out;have hcz16_0:=qc3_0 BK384;have hcz16_1:=qc3_1 BK384;have hcz16_2:=qc3_2 BK384;have hfz16_0:=fz BK384 0;have hfz16_1:=fz BK384 1;have hfz16_2:=fz BK384 2;have hcz17_0:=qc1_0 BK382;have hfz17_0:=fz BK382 0)|((with_reducible refine gate_callee (f:=92) rfl ?_);refine goesL_ (some 15) rfl rfl Try.func92 (by kernel_rfl) rfl #[.agg #[.slice A0_0 l0_0.length c0_0],.agg #[.bool ((rd_T83 l1 x9_1).f0),.slice A383_1 ((rd_T83 l1 x9_1).f1).length c383_1,.slice A383_2 ((rd_T83 l1 x9_1).f2).length c383_2]] rfl Ya ?_;(with_reducible refine (spec_l4Lit.calls k1 _ _ l0_0 ((rd_T83 l1 x9_1).f0) _ _ ((rd_T83 l1 x9_1).f1) _ _ ((rd_T83 l1 x9_1).f2) false _ ?side1 ?side2 ?side3 ?side4 ?side5 ?side6 A7.out).mono ?_);(case side1=>exact Kd.C_below HR0_0.out bH);(case side2=>exact Yw);(case side3=>exact Kd.C_below HR383_1.out bH);(case side4=>exact HC383_1.out);(case side5=>exact Kd.C_below HR383_2.out bH);(case side6=>exact HC383_2.out);rintro e w18 ⟨rfl,hb⟩;refine ⟨_,rfl,?_⟩;replace BK382:=Aside0.mk (blk_below (g:=gb382) (o:=.cells #[.slice A0_0 l0_0.length c0_0] 26 (0,0)) Yy hb);replace BK384:=Aside0.mk (blk_below (g:=gb384) (o:=.cells #[.bool ((rd_T83 l1 x9_1).f0),.slice A383_1 ((rd_T83 l1 x9_1).f1).length c383_1,.slice A383_2 ((rd_T83 l1 x9_1).f2).length c383_2] 83 (0,0)) Yu hb);replace HB:=bS hb;clear hb))
     go_ret
     exact ⟨Yb,bH⟩
   ·rw [if_neg c4] at H
    have c4b0:decide (x9_1 < (l1.length:Int)) = false:=decide_eq_false c4
    clear c4
    obtain rfl:=Option.some.inj H
    go_wp2
    go_ret
    exact ⟨Yb,bH⟩

end Go.Proofs.Ytmgkflkfoccgkaa.QFnTidied
