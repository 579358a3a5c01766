-- Written by this session's own program (wip/x/xprint.py, over the kit's printer); Lean checks it.
import Derived.Test.YtmgkflkfoccgkaaQFnPutForx0
import Derived.Test.YtmgkflkfoccgkaaQFnPutForx1
import Derived.Test.YtmgkflkfoccgkaaQFnPutForx4
import Derived.Test.YtmgkflkfoccgkaaQFnPutForx5
import Derived.Test.YtmgkflkfoccgkaaQFnPutForx6
import Derived.Test.YtmgkflkfoccgkaaQFnPutForx9
import Derived.Test.YtmgkflkfoccgkaaQFnPutForx10
import Derived.Test.YtmgkflkfoccgkaaQFnPutForx11
import Derived.Test.YtmgkflkfoccgkaaQFnPutForx12
import Derived.Test.YtmgkflkfoccgkaaQFnPutForx15
import Derived.Test.YtmgkflkfoccgkaaQFnPutForx16
import Derived.Test.YtmgkflkfoccgkaaQFnPutForx17
namespace Go.Proofs.Ytmgkflkfoccgkaa.QFnPutFor
open Go.RowKit Go.Proofs.YtmgkflkfoccgkaaW.PrintWords Go.Proofs.YtmgkflkfoccgkaaW.PrintLast Go.Proofs.YtmgkflkfoccgkaaW.PrintMore
attribute [local go_sem] max2_int min2_int max_two min_two max_three min_three max_four min_four   -- for this text's walks alone
set_option linter.unusedVariables false
set_option linter.unusedSimpArgs false

/-! ### laws_FnPutFor: function 3, by a walk of this session's own -/
/-- What a variable stands for. -/
def laws_FnPutFor.xv (sub:List (List Int)) (v:Nat):List Int:=if (rd_L2 sub (v:Int)).length = 0 then [-1 - (v:Int)] else rd_L2 sub (v:Int)
structure laws_FnPutFor.In (k:Nat) (s:List Int) (sub:List (List Int)) (t:List Int) (w1:Int) (w2:List (List Int)) (env p other:List Int) (x:Int):Prop where
 sublen:sub.length = 12
 len:other.length = 12
 at_:∀ v:Nat,v < 12 → impl_EvalIn.f k s w1 w2 (laws_FnPutFor.xv sub v) env = some (other.getD v 0,true)
 ep:impl_EvalIn.f k s w1 w2 p env = some (x,true)
 et:impl_EvalIn.f k s w1 w2 t other = some (x,true)
structure laws_FnPutFor.Ok (k:Nat) (l0 l1:List Int) (s:List Int) (sub:List (List Int)) (t:List Int) (w1:Int) (w2:List (List Int)) (env p:List Int) (ok:Bool) (a:List Int) (b1:Int) (b2:List (List Int)) (c e:List Int) (n:Int) (one:Bool) (d:List Int) (f1:Int) (f2:List (List Int)) (g:List S83) (h:List Int) (is three gw:Bool):Prop where
 draw:spec_DrawApply.f k l0 = some (s,sub,t)
 world:laws_worldOf.f k s l1 = some (w1,w2)
 env_:laws_envOf.f k w1 w2 l1 = some env
 ap:impl_Apply.f k s sub t = some (p,ok)
 inn:ok = true → ∃ other x,laws_FnPutFor.In k s sub t w1 w2 env p other x
 draw2:spec_DrawEvalIn.f k l1 = some (a,b1,b2,c,e)
 ie:impl_EvalIn.f k a b1 b2 c e = some (n,one)
 se:spec_EvalIn.f k a b1 b2 c e = some (n,one)
 draw3:spec_DrawHoldsAt.f k l1 = some (d,f1,f2,g,h)
 ih:impl_HoldsAt.f k d f1 f2 g h = some (is,three)
 sh:spec_HoldsAt.f k d f1 f2 g h = some (is,three)
 ig:impl_GoodWorld.f k a b1 b2 = some gw
 sg:spec_GoodWorld.f k a b1 b2 = some gw
def laws_FnPutFor.Facts (k:Nat) (l0 l1:List Int):Prop:=∃ s sub t w1 w2 env p ok a b1 b2 c e n one d f1 f2 g h is three gw,laws_FnPutFor.Ok k l0 l1 s sub t w1 w2 env p ok a b1 b2 c e n one d f1 f2 g h is three gw
set_option maxHeartbeats 16000000 in
set_option maxRecDepth 1000000 in
theorem laws_FnPutFor.walked (k:Nat) (A0:Option Addr) (c0:Nat) (l0:List Int) (A1:Option Addr) (c1:Nat) (l1:List Int) (w:World) (hr0:Kd.C (Kd.int .u8) w A0 l0.length l0) (hc0:l0.length ≤ c0) (hr1:Kd.C (Kd.int .u8) w A1 l1.length l1) (hc1:l1.length ≤ c1)
  (bg:Bool) (hb:laws_big.f l0 l1 = some bg) (h:bg = false → laws_FnPutFor.Facts k l0 l1) :
  Calls Try.prog 3 #[.slice A0 l0.length c0,.slice A1 l1.length c1] w fun e w'=>e = .returned (.bool true) ∧ Below w.heap.size w w':=by
 have Cl0:=Aside0.mk hr0
 have Ll0:=Aside0.mk hc0
 have Cl1:=Aside0.mk hr1
 have Ll1:=Aside0.mk hc1
 have hh:=Aside0.mk h
 have HBG:=Aside0.mk hb
 have HB:=Aside0.mk (Below.refl w.heap.size w)
 clear hr0 hc0 hr1 hc1 h hb
 go_enter Try.func3,Try.ntmps3
 have hcall:=laws_big.calls A0 c0 l0 A1 c1 l1 bg w Cl0.out Ll0.out Cl1.out Ll1.out HBG.out
 go_wp2_with (go_at_call 5;refine hcall.mono ?_)
 first|rintro e W1 rfl hd|rintro e W1 ⟨rfl,hd⟩
 replace hd:Below w.heap.size w W1:=by first|exact hd|exact hd.below
 clear hcall
 replace Cl0:=Aside0.mk (Kd.C_below Cl0.out hd)
 replace Cl1:=Aside0.mk (Kd.C_below Cl1.out hd)
 replace HB:=Aside0.mk (below_step HB.out hd)
 clear hd
 cases bg with
 | true =>
  go_wp2
  go_ret
  exact ⟨rfl,HB.out⟩
 | false =>
  obtain ⟨s,sub,t,w1,w2,env,p,ok,a,b1,b2,c,e,n,one,d,f1,f2,g,h,is,three,gw,H⟩:=hh.out rfl
  have H:=Aside0.mk H
  clear hh HBG
  have hcall:=spec_DrawApply.calls k A0 c0 l0 s sub t W1 Cl0.out Ll0.out H.out.draw
  go_wp2_with (go_at_call 6;refine hcall.mono ?_)
  first|rintro e W2 v0 v1 v2 rfl f0 f1 f2 hd|rintro e W2 ⟨v0,v1,v2,rfl,f0,f1,f2,hd⟩
  replace hd:Below W1.heap.size W1 W2:=by first|exact hd|exact hd.below
  clear hcall
  obtain ⟨As,cs,rfl⟩:=Kd.R_slice f0
  have Cs:=Aside0.mk (Kd.R_reads' f0).2.2
  have Ls:=Aside0.mk (Kd.R_reads' f0).2.1
  obtain ⟨Asub,csub,rfl,_⟩:=Kd.Q_slice f1
  have Csub:=Aside0.mk (Kd.Q_reads' f1).2.2
  have Lsub:=Aside0.mk (Kd.Q_reads' f1).2.1
  obtain ⟨At,ct,rfl,_⟩:=Kd.Q_slice f2
  have Ct:=Aside0.mk (Kd.Q_reads' f2).2.2
  have Lt:=Aside0.mk (Kd.Q_reads' f2).2.1
  replace Cl0:=Aside0.mk (Kd.C_below Cl0.out hd)
  replace Cl1:=Aside0.mk (Kd.C_below Cl1.out hd)
  replace HB:=Aside0.mk (below_step HB.out hd)
  clear f0 f1 f2
  clear hd
  go_wp2_with (first|((with_reducible refine gate_dst (N:=5) rfl ?_);refine box_event ?hg (N:=5) ?hd (cs:=#[.slice none 0 0]) (t:=26) ?hr ?_;(case hd=>rfl);(case hg=>rfl);(case hr=>exact Yd);intro gs hg_s W3 hx_s hb_s;have hz_s_0:W3.cell? ⟨gs,0,none⟩ = some (.slice none 0 0):=(blk_cell hx_s 0).trans rfl;have hy_s_0:=blk_frozen hx_s 0;replace hg_s:=Aside0.mk hg_s)|(go_at_call 7;have hd:Below W2.heap.size W2 W3:=hb_s;have hga:W2.heap.size ≤ gs:=Nat.le_of_eq hg_s.out.symm;replace hd:=hd.setCell (hga) (.slice As s.length cs) (p:=⟨gs,0,none⟩);replace hx_s:=blk_put (cs':=#[.slice As s.length cs]) hx_s 0 (.slice As s.length cs) rfl;have Bs:=Aside0.mk hx_s;clear hg_s hb_s hx_s hz_s_0 hy_s_0 hga;generalize (W3.setCell ⟨gs,0,none⟩ (.slice As s.length cs)) = W4 at hd Bs ⊢;replace Cl0:=Aside0.mk (Kd.C_below Cl0.out hd);replace Cl1:=Aside0.mk (Kd.C_below Cl1.out hd);replace Cs:=Aside0.mk (Kd.C_below Cs.out hd);replace Csub:=Aside0.mk (Kd.C_below Csub.out hd);replace Ct:=Aside0.mk (Kd.C_below Ct.out hd);replace HB:=Aside0.mk (below_step HB.out hd);clear hd;have hcall:=laws_worldOf.calls k As cs s A1 c1 l1 w1 w2 W4 Cs.out Ls.out Cl1.out Ll1.out H.out.world;refine hcall.mono ?_))
  first|rintro e W5 v0 rfl f0 hd|rintro e W5 ⟨v0,rfl,f0,hd⟩
  replace hd:Below W4.heap.size W4 W5:=by first|exact hd|exact hd.below
  clear hcall
  (try clear bc_s_0)
  obtain ⟨Aw2,cw2,rfl⟩:=Kd.S_slice f0
  have Cw2:=Aside0.mk (Kd.S_reads' f0).2.2
  have Lw2:=Aside0.mk (Kd.S_reads' f0).2.1
  replace Cl0:=Aside0.mk (Kd.C_below Cl0.out hd)
  replace Cl1:=Aside0.mk (Kd.C_below Cl1.out hd)
  replace Cs:=Aside0.mk (Kd.C_below Cs.out hd)
  replace Csub:=Aside0.mk (Kd.C_below Csub.out hd)
  replace Ct:=Aside0.mk (Kd.C_below Ct.out hd)
  replace Bs:=Aside0.mk ((hd.block _ (blk_lt Bs.out)).trans Bs.out)
  replace HB:=Aside0.mk (below_step HB.out hd)
  clear f0
  clear hd
  go_wp2_with (first|((with_reducible refine gate_dst (N:=8) rfl ?_);refine box_event ?hg (N:=8) ?hd (cs:=#[.int .i64 0,.slice none 0 0]) (t:=31) ?hr ?_;(case hd=>rfl);(case hg=>rfl);(case hr=>exact Yd);intro gwd hg_wd W6 hx_wd hb_wd;have hz_wd_0:W6.cell? ⟨gwd,0,none⟩ = some (.int .i64 0):=(blk_cell hx_wd 0).trans rfl;have hy_wd_0:=blk_frozen hx_wd 0;have hz_wd_1:W6.cell? ⟨gwd,1,none⟩ = some (.slice none 0 0):=(blk_cell hx_wd 1).trans rfl;have hy_wd_1:=blk_frozen hx_wd 1;replace hg_wd:=Aside0.mk hg_wd)|(go_at_call 8;have hd:Below W5.heap.size W5 W6:=hb_wd;have hga:W5.heap.size ≤ gwd:=Nat.le_of_eq hg_wd.out.symm;replace hd:=hd.setCell (hga) (.int .i64 w1) (p:=⟨gwd,0,none⟩);replace hx_wd:=blk_put (cs':=#[.int .i64 w1,.slice none 0 0]) hx_wd 0 (.int .i64 w1) rfl;replace hd:=hd.setCell (hga) (.slice Aw2 w2.length cw2) (p:=⟨gwd,1,none⟩);replace hx_wd:=blk_put (cs':=#[.int .i64 w1,.slice Aw2 w2.length cw2]) hx_wd 1 (.slice Aw2 w2.length cw2) rfl;have Bwd:=Aside0.mk hx_wd;clear hg_wd hb_wd hx_wd hz_wd_0 hy_wd_0 hz_wd_1 hy_wd_1 hga;generalize ((W6.setCell ⟨gwd,0,none⟩ (.int .i64 w1)).setCell ⟨gwd,1,none⟩ (.slice Aw2 w2.length cw2)) = W7 at hd Bwd ⊢;(try clear bc_s_0);replace Cl0:=Aside0.mk (Kd.C_below Cl0.out hd);replace Cl1:=Aside0.mk (Kd.C_below Cl1.out hd);replace Cs:=Aside0.mk (Kd.C_below Cs.out hd);replace Csub:=Aside0.mk (Kd.C_below Csub.out hd);replace Ct:=Aside0.mk (Kd.C_below Ct.out hd);replace Cw2:=Aside0.mk (Kd.C_below Cw2.out hd);replace Bs:=Aside0.mk ((hd.block _ (blk_lt Bs.out)).trans Bs.out);replace HB:=Aside0.mk (below_step HB.out hd);clear hd;have hcall:=laws_envOf.calls k w1 Aw2 cw2 w2 A1 c1 l1 env W7 Cw2.out Lw2.out Cl1.out Ll1.out H.out.env_;refine hcall.mono ?_))
  first|rintro e W8 v0 rfl f0 hd|rintro e W8 ⟨v0,rfl,f0,hd⟩
  replace hd:Below W7.heap.size W7 W8:=by first|exact hd|exact hd.below
  clear hcall
  (try clear bc_s_0)
  (try clear bc_wd_0)
  (try clear bc_wd_1)
  obtain ⟨Aenv,cenv,rfl⟩:=Kd.R_slice f0
  have Cenv:=Aside0.mk (Kd.R_reads' f0).2.2
  have Lenv:=Aside0.mk (Kd.R_reads' f0).2.1
  replace Cl0:=Aside0.mk (Kd.C_below Cl0.out hd)
  replace Cl1:=Aside0.mk (Kd.C_below Cl1.out hd)
  replace Cs:=Aside0.mk (Kd.C_below Cs.out hd)
  replace Csub:=Aside0.mk (Kd.C_below Csub.out hd)
  replace Ct:=Aside0.mk (Kd.C_below Ct.out hd)
  replace Cw2:=Aside0.mk (Kd.C_below Cw2.out hd)
  replace Bs:=Aside0.mk ((hd.block _ (blk_lt Bs.out)).trans Bs.out)
  replace Bwd:=Aside0.mk ((hd.block _ (blk_lt Bwd.out)).trans Bwd.out)
  replace HB:=Aside0.mk (below_step HB.out hd)
  clear f0
  clear hd
  (try clear bc_s_0)
  have bc_s_0:W8.cell? ⟨gs,0,none⟩ = some (.slice As s.length cs):=(blk_cell Bs.out 0).trans rfl
  (try clear bc_wd_0)
  have bc_wd_0:W8.cell? ⟨gwd,0,none⟩ = some (.int .i64 w1):=(blk_cell Bwd.out 0).trans rfl
  (try clear bc_wd_1)
  have bc_wd_1:W8.cell? ⟨gwd,1,none⟩ = some (.slice Aw2 w2.length cw2):=(blk_cell Bwd.out 1).trans rfl
  have hcall:=impl_Apply.calls k As cs s Asub csub sub At ct t p ok W8 Cs.out Ls.out Csub.out Lsub.out Ct.out Lt.out H.out.ap
  go_wp2_with (go_at_call 9;refine hcall.mono ?_)
  first|rintro e W9 v0 rfl f0 hd|rintro e W9 ⟨v0,rfl,f0,hd⟩
  replace hd:Below W8.heap.size W8 W9:=by first|exact hd|exact hd.below
  clear hcall
  (try clear bc_s_0)
  (try clear bc_wd_0)
  (try clear bc_wd_1)
  obtain ⟨Ap,cp,rfl⟩:=Kd.R_slice f0
  have Cp:=Aside0.mk (Kd.R_reads' f0).2.2
  have Lp:=Aside0.mk (Kd.R_reads' f0).2.1
  replace Cl0:=Aside0.mk (Kd.C_below Cl0.out hd)
  replace Cl1:=Aside0.mk (Kd.C_below Cl1.out hd)
  replace Cs:=Aside0.mk (Kd.C_below Cs.out hd)
  replace Csub:=Aside0.mk (Kd.C_below Csub.out hd)
  replace Ct:=Aside0.mk (Kd.C_below Ct.out hd)
  replace Cw2:=Aside0.mk (Kd.C_below Cw2.out hd)
  replace Cenv:=Aside0.mk (Kd.C_below Cenv.out hd)
  replace Bs:=Aside0.mk ((hd.block _ (blk_lt Bs.out)).trans Bs.out)
  replace Bwd:=Aside0.mk ((hd.block _ (blk_lt Bwd.out)).trans Bwd.out)
  replace HB:=Aside0.mk (below_step HB.out hd)
  clear f0
  clear hd
  (try clear bc_s_0)
  have bc_s_0:W9.cell? ⟨gs,0,none⟩ = some (.slice As s.length cs):=(blk_cell Bs.out 0).trans rfl
  (try clear bc_wd_0)
  have bc_wd_0:W9.cell? ⟨gwd,0,none⟩ = some (.int .i64 w1):=(blk_cell Bwd.out 0).trans rfl
  (try clear bc_wd_1)
  have bc_wd_1:W9.cell? ⟨gwd,1,none⟩ = some (.slice Aw2 w2.length cw2):=(blk_cell Bwd.out 1).trans rfl
  cases ok with
  | false =>
   have hcall:=spec_DrawEvalIn.calls k A1 c1 l1 a b1 b2 c e W9 Cl1.out Ll1.out H.out.draw2
   go_wp2_with (go_at_call 11;refine hcall.mono ?_)
   first|rintro e W10 v0 v1 v2 v3 rfl f0 f1 f2 f3 hd|rintro e W10 ⟨v0,v1,v2,v3,rfl,f0,f1,f2,f3,hd⟩
   replace hd:Below W9.heap.size W9 W10:=by first|exact hd|exact hd.below
   clear hcall
   (try clear bc_s_0)
   (try clear bc_wd_0)
   (try clear bc_wd_1)
   obtain ⟨Aa,ca,rfl⟩:=Kd.R_slice f0
   have Ca:=Aside0.mk (Kd.R_reads' f0).2.2
   have La:=Aside0.mk (Kd.R_reads' f0).2.1
   obtain ⟨Ab2,cb2,rfl⟩:=Kd.S_slice f1
   have Cb2:=Aside0.mk (Kd.S_reads' f1).2.2
   have Lb2:=Aside0.mk (Kd.S_reads' f1).2.1
   obtain ⟨Ac,cc,rfl,_⟩:=Kd.Q_slice f2
   have Cc:=Aside0.mk (Kd.Q_reads' f2).2.2
   have Lc:=Aside0.mk (Kd.Q_reads' f2).2.1
   obtain ⟨Ae,ce,rfl⟩:=Kd.R_slice f3
   have Ce:=Aside0.mk (Kd.R_reads' f3).2.2
   have Le:=Aside0.mk (Kd.R_reads' f3).2.1
   replace Cl0:=Aside0.mk (Kd.C_below Cl0.out hd)
   replace Cl1:=Aside0.mk (Kd.C_below Cl1.out hd)
   replace Cs:=Aside0.mk (Kd.C_below Cs.out hd)
   replace Csub:=Aside0.mk (Kd.C_below Csub.out hd)
   replace Ct:=Aside0.mk (Kd.C_below Ct.out hd)
   replace Cw2:=Aside0.mk (Kd.C_below Cw2.out hd)
   replace Cenv:=Aside0.mk (Kd.C_below Cenv.out hd)
   replace Cp:=Aside0.mk (Kd.C_below Cp.out hd)
   replace Bs:=Aside0.mk ((hd.block _ (blk_lt Bs.out)).trans Bs.out)
   replace Bwd:=Aside0.mk ((hd.block _ (blk_lt Bwd.out)).trans Bwd.out)
   replace HB:=Aside0.mk (below_step HB.out hd)
   clear f0 f1 f2 f3
   clear hd
   go_wp2_with (first|((with_reducible refine gate_dst (N:=21) rfl ?_);refine box_event ?hg (N:=21) ?hd (cs:=#[.slice none 0 0]) (t:=26) ?hr ?_;(case hd=>rfl);(case hg=>rfl);(case hr=>exact Yd);intro ga hg_a W11 hx_a hb_a;have hz_a_0:W11.cell? ⟨ga,0,none⟩ = some (.slice none 0 0):=(blk_cell hx_a 0).trans rfl;have hy_a_0:=blk_frozen hx_a 0;replace hg_a:=Aside0.mk hg_a)|((with_reducible refine gate_dst (N:=22) rfl ?_);refine box_event ?hg (N:=22) ?hd (cs:=#[.int .i64 0,.slice none 0 0]) (t:=31) ?hr ?_;(case hd=>rfl);(case hg=>rfl);(case hr=>exact Yd);intro gb hg_b W12 hx_b hb_b;have hz_b_0:W12.cell? ⟨gb,0,none⟩ = some (.int .i64 0):=(blk_cell hx_b 0).trans rfl;have hy_b_0:=blk_frozen hx_b 0;have hz_b_1:W12.cell? ⟨gb,1,none⟩ = some (.slice none 0 0):=(blk_cell hx_b 1).trans rfl;have hy_b_1:=blk_frozen hx_b 1;replace hg_b:=Aside0.mk hg_b;have hx2_a:=(hb_b.block _ (blk_lt hx_a)).trans hx_a;have hne_:ga ≠ gb:=(by rw [hg_b.out];exact Nat.ne_of_lt (blk_lt hx_a));have hnf_:gb ≠ ga:=fun q_=>hne_ q_.symm;have hz2_a_0:W12.cell? ⟨ga,0,none⟩ = some (.slice none 0 0):=(blk_cell hx2_a 0).trans rfl;have hy2_a_0:=blk_frozen hx2_a 0)|(go_at_call 10;have hd:Below W10.heap.size W10 W12:=(below_step hb_a hb_b);have hga:W10.heap.size ≤ ga:=Nat.le_of_eq hg_a.out.symm;have hgb:W10.heap.size ≤ gb:=(by rw [hg_b.out];exact hb_a.size);replace hd:=hd.setCell (hga) (.slice Aa a.length ca) (p:=⟨ga,0,none⟩);replace hx2_a:=blk_put (cs':=#[.slice Aa a.length ca]) hx2_a 0 (.slice Aa a.length ca) rfl;replace hx_b:=blk_far hx_b (p:=⟨ga,0,none⟩) hnf_ (.slice Aa a.length ca);replace hd:=hd.setCell (hgb) (.int .i64 b1) (p:=⟨gb,0,none⟩);replace hx2_a:=blk_far hx2_a (p:=⟨gb,0,none⟩) hne_ (.int .i64 b1);replace hx_b:=blk_put (cs':=#[.int .i64 b1,.slice none 0 0]) hx_b 0 (.int .i64 b1) rfl;replace hd:=hd.setCell (hgb) (.slice Ab2 b2.length cb2) (p:=⟨gb,1,none⟩);replace hx2_a:=blk_far hx2_a (p:=⟨gb,1,none⟩) hne_ (.slice Ab2 b2.length cb2);replace hx_b:=blk_put (cs':=#[.int .i64 b1,.slice Ab2 b2.length cb2]) hx_b 1 (.slice Ab2 b2.length cb2) rfl;have Ba:=Aside0.mk hx2_a;have Bb:=Aside0.mk hx_b;clear hg_a hb_a hx_a hg_b hb_b hx_b hz_a_0 hy_a_0 hz_b_0 hy_b_0 hz_b_1 hy_b_1 hx2_a hne_ hnf_ hgb hz2_a_0 hy2_a_0 hga;generalize (((W12.setCell ⟨ga,0,none⟩ (.slice Aa a.length ca)).setCell ⟨gb,0,none⟩ (.int .i64 b1)).setCell ⟨gb,1,none⟩ (.slice Ab2 b2.length cb2)) = W13 at hd Ba Bb ⊢;(try clear bc_s_0);(try clear bc_wd_0);(try clear bc_wd_1);replace Cl0:=Aside0.mk (Kd.C_below Cl0.out hd);replace Cl1:=Aside0.mk (Kd.C_below Cl1.out hd);replace Cs:=Aside0.mk (Kd.C_below Cs.out hd);replace Csub:=Aside0.mk (Kd.C_below Csub.out hd);replace Ct:=Aside0.mk (Kd.C_below Ct.out hd);replace Cw2:=Aside0.mk (Kd.C_below Cw2.out hd);replace Cenv:=Aside0.mk (Kd.C_below Cenv.out hd);replace Cp:=Aside0.mk (Kd.C_below Cp.out hd);replace Ca:=Aside0.mk (Kd.C_below Ca.out hd);replace Cb2:=Aside0.mk (Kd.C_below Cb2.out hd);replace Cc:=Aside0.mk (Kd.C_below Cc.out hd);replace Ce:=Aside0.mk (Kd.C_below Ce.out hd);replace Bs:=Aside0.mk ((hd.block _ (blk_lt Bs.out)).trans Bs.out);replace Bwd:=Aside0.mk ((hd.block _ (blk_lt Bwd.out)).trans Bwd.out);replace HB:=Aside0.mk (below_step HB.out hd);clear hd;have hcall:=impl_EvalIn.calls k Aa ca a b1 Ab2 cb2 b2 Ac cc c Ae ce e n one W13 Ca.out La.out Cb2.out Lb2.out Cc.out Lc.out Ce.out Le.out H.out.ie;refine hcall.mono ?_))
   first|rintro e W14 rfl hd|rintro e W14 ⟨rfl,hd⟩
   replace hd:Below W13.heap.size W13 W14:=by first|exact hd|exact hd.below
   clear hcall
   (try clear bc_s_0)
   (try clear bc_wd_0)
   (try clear bc_wd_1)
   (try clear bc_a_0)
   (try clear bc_b_0)
   (try clear bc_b_1)
   replace Cl0:=Aside0.mk (Kd.C_below Cl0.out hd)
   replace Cl1:=Aside0.mk (Kd.C_below Cl1.out hd)
   replace Cs:=Aside0.mk (Kd.C_below Cs.out hd)
   replace Csub:=Aside0.mk (Kd.C_below Csub.out hd)
   replace Ct:=Aside0.mk (Kd.C_below Ct.out hd)
   replace Cw2:=Aside0.mk (Kd.C_below Cw2.out hd)
   replace Cenv:=Aside0.mk (Kd.C_below Cenv.out hd)
   replace Cp:=Aside0.mk (Kd.C_below Cp.out hd)
   replace Ca:=Aside0.mk (Kd.C_below Ca.out hd)
   replace Cb2:=Aside0.mk (Kd.C_below Cb2.out hd)
   replace Cc:=Aside0.mk (Kd.C_below Cc.out hd)
   replace Ce:=Aside0.mk (Kd.C_below Ce.out hd)
   replace Bs:=Aside0.mk ((hd.block _ (blk_lt Bs.out)).trans Bs.out)
   replace Bwd:=Aside0.mk ((hd.block _ (blk_lt Bwd.out)).trans Bwd.out)
   replace Ba:=Aside0.mk ((hd.block _ (blk_lt Ba.out)).trans Ba.out)
   replace Bb:=Aside0.mk ((hd.block _ (blk_lt Bb.out)).trans Bb.out)
   replace HB:=Aside0.mk (below_step HB.out hd)
   clear hd
   (try clear bc_s_0)
   have bc_s_0:W14.cell? ⟨gs,0,none⟩ = some (.slice As s.length cs):=(blk_cell Bs.out 0).trans rfl
   (try clear bc_wd_0)
   have bc_wd_0:W14.cell? ⟨gwd,0,none⟩ = some (.int .i64 w1):=(blk_cell Bwd.out 0).trans rfl
   (try clear bc_wd_1)
   have bc_wd_1:W14.cell? ⟨gwd,1,none⟩ = some (.slice Aw2 w2.length cw2):=(blk_cell Bwd.out 1).trans rfl
   (try clear bc_a_0)
   have bc_a_0:W14.cell? ⟨ga,0,none⟩ = some (.slice Aa a.length ca):=(blk_cell Ba.out 0).trans rfl
   (try clear bc_b_0)
   have bc_b_0:W14.cell? ⟨gb,0,none⟩ = some (.int .i64 b1):=(blk_cell Bb.out 0).trans rfl
   (try clear bc_b_1)
   have bc_b_1:W14.cell? ⟨gb,1,none⟩ = some (.slice Ab2 b2.length cb2):=(blk_cell Bb.out 1).trans rfl
   have hcall:=spec_EvalIn.calls k Aa ca a b1 Ab2 cb2 b2 Ac cc c Ae ce e n one W14 Ca.out La.out Cb2.out Lb2.out Cc.out Lc.out Ce.out Le.out H.out.se
   go_wp2_with (go_at_call 12;refine hcall.mono ?_)
   first|rintro e W15 rfl hd|rintro e W15 ⟨rfl,hd⟩
   replace hd:Below W14.heap.size W14 W15:=by first|exact hd|exact hd.below
   clear hcall
   (try clear bc_s_0)
   (try clear bc_wd_0)
   (try clear bc_wd_1)
   (try clear bc_a_0)
   (try clear bc_b_0)
   (try clear bc_b_1)
   replace Cl0:=Aside0.mk (Kd.C_below Cl0.out hd)
   replace Cl1:=Aside0.mk (Kd.C_below Cl1.out hd)
   replace Cs:=Aside0.mk (Kd.C_below Cs.out hd)
   replace Csub:=Aside0.mk (Kd.C_below Csub.out hd)
   replace Ct:=Aside0.mk (Kd.C_below Ct.out hd)
   replace Cw2:=Aside0.mk (Kd.C_below Cw2.out hd)
   replace Cenv:=Aside0.mk (Kd.C_below Cenv.out hd)
   replace Cp:=Aside0.mk (Kd.C_below Cp.out hd)
   replace Ca:=Aside0.mk (Kd.C_below Ca.out hd)
   replace Cb2:=Aside0.mk (Kd.C_below Cb2.out hd)
   replace Cc:=Aside0.mk (Kd.C_below Cc.out hd)
   replace Ce:=Aside0.mk (Kd.C_below Ce.out hd)
   replace Bs:=Aside0.mk ((hd.block _ (blk_lt Bs.out)).trans Bs.out)
   replace Bwd:=Aside0.mk ((hd.block _ (blk_lt Bwd.out)).trans Bwd.out)
   replace Ba:=Aside0.mk ((hd.block _ (blk_lt Ba.out)).trans Ba.out)
   replace Bb:=Aside0.mk ((hd.block _ (blk_lt Bb.out)).trans Bb.out)
   replace HB:=Aside0.mk (below_step HB.out hd)
   clear hd
   (try clear bc_s_0)
   have bc_s_0:W15.cell? ⟨gs,0,none⟩ = some (.slice As s.length cs):=(blk_cell Bs.out 0).trans rfl
   (try clear bc_wd_0)
   have bc_wd_0:W15.cell? ⟨gwd,0,none⟩ = some (.int .i64 w1):=(blk_cell Bwd.out 0).trans rfl
   (try clear bc_wd_1)
   have bc_wd_1:W15.cell? ⟨gwd,1,none⟩ = some (.slice Aw2 w2.length cw2):=(blk_cell Bwd.out 1).trans rfl
   (try clear bc_a_0)
   have bc_a_0:W15.cell? ⟨ga,0,none⟩ = some (.slice Aa a.length ca):=(blk_cell Ba.out 0).trans rfl
   (try clear bc_b_0)
   have bc_b_0:W15.cell? ⟨gb,0,none⟩ = some (.int .i64 b1):=(blk_cell Bb.out 0).trans rfl
   (try clear bc_b_1)
   have bc_b_1:W15.cell? ⟨gb,1,none⟩ = some (.slice Ab2 b2.length cb2):=(blk_cell Bb.out 1).trans rfl
   have hcall:=spec_DrawHoldsAt.calls k A1 c1 l1 d f1 f2 g h W15 Cl1.out Ll1.out H.out.draw3
   go_wp2_with (go_at_call 13;refine hcall.mono ?_)
   first|rintro e W16 v0 v1 v2 v3 rfl f0 f1 f2 f3 hd|rintro e W16 ⟨v0,v1,v2,v3,rfl,f0,f1,f2,f3,hd⟩
   replace hd:Below W15.heap.size W15 W16:=by first|exact hd|exact hd.below
   clear hcall
   (try clear bc_s_0)
   (try clear bc_wd_0)
   (try clear bc_wd_1)
   (try clear bc_a_0)
   (try clear bc_b_0)
   (try clear bc_b_1)
   obtain ⟨Ad,cd,rfl⟩:=Kd.R_slice f0
   have Cd:=Aside0.mk (Kd.R_reads' f0).2.2
   have Ld:=Aside0.mk (Kd.R_reads' f0).2.1
   obtain ⟨Af2,cf2,rfl⟩:=Kd.N_slice f1
   have Cf2:=Aside0.mk (Kd.N_reads' f1).2.2
   have Lf2:=Aside0.mk (Kd.N_reads' f1).2.1
   obtain ⟨Ag,cg,rfl⟩:=Kd.N_slice f2
   have Cg:=Aside0.mk (Kd.N_reads' f2).2.2
   have Lg:=Aside0.mk (Kd.N_reads' f2).2.1
   obtain ⟨Ah,ch,rfl⟩:=Kd.R_slice f3
   have Ch:=Aside0.mk (Kd.R_reads' f3).2.2
   have Lh:=Aside0.mk (Kd.R_reads' f3).2.1
   replace Cl0:=Aside0.mk (Kd.C_below Cl0.out hd)
   replace Cl1:=Aside0.mk (Kd.C_below Cl1.out hd)
   replace Cs:=Aside0.mk (Kd.C_below Cs.out hd)
   replace Csub:=Aside0.mk (Kd.C_below Csub.out hd)
   replace Ct:=Aside0.mk (Kd.C_below Ct.out hd)
   replace Cw2:=Aside0.mk (Kd.C_below Cw2.out hd)
   replace Cenv:=Aside0.mk (Kd.C_below Cenv.out hd)
   replace Cp:=Aside0.mk (Kd.C_below Cp.out hd)
   replace Ca:=Aside0.mk (Kd.C_below Ca.out hd)
   replace Cb2:=Aside0.mk (Kd.C_below Cb2.out hd)
   replace Cc:=Aside0.mk (Kd.C_below Cc.out hd)
   replace Ce:=Aside0.mk (Kd.C_below Ce.out hd)
   replace Bs:=Aside0.mk ((hd.block _ (blk_lt Bs.out)).trans Bs.out)
   replace Bwd:=Aside0.mk ((hd.block _ (blk_lt Bwd.out)).trans Bwd.out)
   replace Ba:=Aside0.mk ((hd.block _ (blk_lt Ba.out)).trans Ba.out)
   replace Bb:=Aside0.mk ((hd.block _ (blk_lt Bb.out)).trans Bb.out)
   replace HB:=Aside0.mk (below_step HB.out hd)
   clear f0 f1 f2 f3
   clear hd
   go_wp2_with (first|((with_reducible refine gate_dst (N:=29) rfl ?_);refine box_event ?hg (N:=29) ?hd (cs:=#[.slice none 0 0]) (t:=26) ?hr ?_;(case hd=>rfl);(case hg=>rfl);(case hr=>exact Yd);intro gd hg_d W17 hx_d hb_d;have hz_d_0:W17.cell? ⟨gd,0,none⟩ = some (.slice none 0 0):=(blk_cell hx_d 0).trans rfl;have hy_d_0:=blk_frozen hx_d 0;replace hg_d:=Aside0.mk hg_d)|((with_reducible refine gate_dst (N:=30) rfl ?_);refine box_event ?hg (N:=30) ?hd (cs:=#[.int .i64 0,.slice none 0 0]) (t:=31) ?hr ?_;(case hd=>rfl);(case hg=>rfl);(case hr=>exact Yd);intro gf hg_f W18 hx_f hb_f;have hz_f_0:W18.cell? ⟨gf,0,none⟩ = some (.int .i64 0):=(blk_cell hx_f 0).trans rfl;have hy_f_0:=blk_frozen hx_f 0;have hz_f_1:W18.cell? ⟨gf,1,none⟩ = some (.slice none 0 0):=(blk_cell hx_f 1).trans rfl;have hy_f_1:=blk_frozen hx_f 1;replace hg_f:=Aside0.mk hg_f;have hx2_d:=(hb_f.block _ (blk_lt hx_d)).trans hx_d;have hne_:gd ≠ gf:=(by rw [hg_f.out];exact Nat.ne_of_lt (blk_lt hx_d));have hnf_:gf ≠ gd:=fun q_=>hne_ q_.symm;have hz2_d_0:W18.cell? ⟨gd,0,none⟩ = some (.slice none 0 0):=(blk_cell hx2_d 0).trans rfl;have hy2_d_0:=blk_frozen hx2_d 0)|(go_at_call 14;have hd:Below W16.heap.size W16 W18:=(below_step hb_d hb_f);have hga:W16.heap.size ≤ gd:=Nat.le_of_eq hg_d.out.symm;have hgb:W16.heap.size ≤ gf:=(by rw [hg_f.out];exact hb_d.size);replace hd:=hd.setCell (hga) (.slice Ad d.length cd) (p:=⟨gd,0,none⟩);replace hx2_d:=blk_put (cs':=#[.slice Ad d.length cd]) hx2_d 0 (.slice Ad d.length cd) rfl;replace hx_f:=blk_far hx_f (p:=⟨gd,0,none⟩) hnf_ (.slice Ad d.length cd);replace hd:=hd.setCell (hgb) (.int .i64 f1) (p:=⟨gf,0,none⟩);replace hx2_d:=blk_far hx2_d (p:=⟨gf,0,none⟩) hne_ (.int .i64 f1);replace hx_f:=blk_put (cs':=#[.int .i64 f1,.slice none 0 0]) hx_f 0 (.int .i64 f1) rfl;replace hd:=hd.setCell (hgb) (.slice Af2 f2.length cf2) (p:=⟨gf,1,none⟩);replace hx2_d:=blk_far hx2_d (p:=⟨gf,1,none⟩) hne_ (.slice Af2 f2.length cf2);replace hx_f:=blk_put (cs':=#[.int .i64 f1,.slice Af2 f2.length cf2]) hx_f 1 (.slice Af2 f2.length cf2) rfl;have Bd:=Aside0.mk hx2_d;have Bf:=Aside0.mk hx_f;clear hg_d hb_d hx_d hg_f hb_f hx_f hz_d_0 hy_d_0 hz_f_0 hy_f_0 hz_f_1 hy_f_1 hx2_d hne_ hnf_ hgb hz2_d_0 hy2_d_0 hga;generalize (((W18.setCell ⟨gd,0,none⟩ (.slice Ad d.length cd)).setCell ⟨gf,0,none⟩ (.int .i64 f1)).setCell ⟨gf,1,none⟩ (.slice Af2 f2.length cf2)) = W19 at hd Bd Bf ⊢;(try clear bc_s_0);(try clear bc_wd_0);(try clear bc_wd_1);(try clear bc_a_0);(try clear bc_b_0);(try clear bc_b_1);replace Cl0:=Aside0.mk (Kd.C_below Cl0.out hd);replace Cl1:=Aside0.mk (Kd.C_below Cl1.out hd);replace Cs:=Aside0.mk (Kd.C_below Cs.out hd);replace Csub:=Aside0.mk (Kd.C_below Csub.out hd);replace Ct:=Aside0.mk (Kd.C_below Ct.out hd);replace Cw2:=Aside0.mk (Kd.C_below Cw2.out hd);replace Cenv:=Aside0.mk (Kd.C_below Cenv.out hd);replace Cp:=Aside0.mk (Kd.C_below Cp.out hd);replace Ca:=Aside0.mk (Kd.C_below Ca.out hd);replace Cb2:=Aside0.mk (Kd.C_below Cb2.out hd);replace Cc:=Aside0.mk (Kd.C_below Cc.out hd);replace Ce:=Aside0.mk (Kd.C_below Ce.out hd);replace Cd:=Aside0.mk (Kd.C_below Cd.out hd);replace Cf2:=Aside0.mk (Kd.C_below Cf2.out hd);replace Cg:=Aside0.mk (Kd.C_below Cg.out hd);replace Ch:=Aside0.mk (Kd.C_below Ch.out hd);replace Bs:=Aside0.mk ((hd.block _ (blk_lt Bs.out)).trans Bs.out);replace Bwd:=Aside0.mk ((hd.block _ (blk_lt Bwd.out)).trans Bwd.out);replace Ba:=Aside0.mk ((hd.block _ (blk_lt Ba.out)).trans Ba.out);replace Bb:=Aside0.mk ((hd.block _ (blk_lt Bb.out)).trans Bb.out);replace HB:=Aside0.mk (below_step HB.out hd);clear hd;have hcall:=impl_HoldsAt.calls k Ad cd d f1 Af2 cf2 f2 Ag cg g Ah ch h is three W19 Cd.out Ld.out Cf2.out Lf2.out Cg.out Lg.out Ch.out Lh.out H.out.ih;refine hcall.mono ?_))
   first|rintro e W20 rfl hd|rintro e W20 ⟨rfl,hd⟩
   replace hd:Below W19.heap.size W19 W20:=by first|exact hd|exact hd.below
   clear hcall
   (try clear bc_s_0)
   (try clear bc_wd_0)
   (try clear bc_wd_1)
   (try clear bc_a_0)
   (try clear bc_b_0)
   (try clear bc_b_1)
   (try clear bc_d_0)
   (try clear bc_f_0)
   (try clear bc_f_1)
   replace Cl0:=Aside0.mk (Kd.C_below Cl0.out hd)
   replace Cl1:=Aside0.mk (Kd.C_below Cl1.out hd)
   replace Cs:=Aside0.mk (Kd.C_below Cs.out hd)
   replace Csub:=Aside0.mk (Kd.C_below Csub.out hd)
   replace Ct:=Aside0.mk (Kd.C_below Ct.out hd)
   replace Cw2:=Aside0.mk (Kd.C_below Cw2.out hd)
   replace Cenv:=Aside0.mk (Kd.C_below Cenv.out hd)
   replace Cp:=Aside0.mk (Kd.C_below Cp.out hd)
   replace Ca:=Aside0.mk (Kd.C_below Ca.out hd)
   replace Cb2:=Aside0.mk (Kd.C_below Cb2.out hd)
   replace Cc:=Aside0.mk (Kd.C_below Cc.out hd)
   replace Ce:=Aside0.mk (Kd.C_below Ce.out hd)
   replace Cd:=Aside0.mk (Kd.C_below Cd.out hd)
   replace Cf2:=Aside0.mk (Kd.C_below Cf2.out hd)
   replace Cg:=Aside0.mk (Kd.C_below Cg.out hd)
   replace Ch:=Aside0.mk (Kd.C_below Ch.out hd)
   replace Bs:=Aside0.mk ((hd.block _ (blk_lt Bs.out)).trans Bs.out)
   replace Bwd:=Aside0.mk ((hd.block _ (blk_lt Bwd.out)).trans Bwd.out)
   replace Ba:=Aside0.mk ((hd.block _ (blk_lt Ba.out)).trans Ba.out)
   replace Bb:=Aside0.mk ((hd.block _ (blk_lt Bb.out)).trans Bb.out)
   replace Bd:=Aside0.mk ((hd.block _ (blk_lt Bd.out)).trans Bd.out)
   replace Bf:=Aside0.mk ((hd.block _ (blk_lt Bf.out)).trans Bf.out)
   replace HB:=Aside0.mk (below_step HB.out hd)
   clear hd
   (try clear bc_s_0)
   have bc_s_0:W20.cell? ⟨gs,0,none⟩ = some (.slice As s.length cs):=(blk_cell Bs.out 0).trans rfl
   (try clear bc_wd_0)
   have bc_wd_0:W20.cell? ⟨gwd,0,none⟩ = some (.int .i64 w1):=(blk_cell Bwd.out 0).trans rfl
   (try clear bc_wd_1)
   have bc_wd_1:W20.cell? ⟨gwd,1,none⟩ = some (.slice Aw2 w2.length cw2):=(blk_cell Bwd.out 1).trans rfl
   (try clear bc_a_0)
   have bc_a_0:W20.cell? ⟨ga,0,none⟩ = some (.slice Aa a.length ca):=(blk_cell Ba.out 0).trans rfl
   (try clear bc_b_0)
   have bc_b_0:W20.cell? ⟨gb,0,none⟩ = some (.int .i64 b1):=(blk_cell Bb.out 0).trans rfl
   (try clear bc_b_1)
   have bc_b_1:W20.cell? ⟨gb,1,none⟩ = some (.slice Ab2 b2.length cb2):=(blk_cell Bb.out 1).trans rfl
   (try clear bc_d_0)
   have bc_d_0:W20.cell? ⟨gd,0,none⟩ = some (.slice Ad d.length cd):=(blk_cell Bd.out 0).trans rfl
   (try clear bc_f_0)
   have bc_f_0:W20.cell? ⟨gf,0,none⟩ = some (.int .i64 f1):=(blk_cell Bf.out 0).trans rfl
   (try clear bc_f_1)
   have bc_f_1:W20.cell? ⟨gf,1,none⟩ = some (.slice Af2 f2.length cf2):=(blk_cell Bf.out 1).trans rfl
   have hcall:=spec_HoldsAt.calls k Ad cd d f1 Af2 cf2 f2 Ag cg g Ah ch h is three W20 Cd.out Ld.out Cf2.out Lf2.out Cg.out Lg.out Ch.out Lh.out H.out.sh
   go_wp2_with (go_at_call 15;refine hcall.mono ?_)
   first|rintro e W21 rfl hd|rintro e W21 ⟨rfl,hd⟩
   replace hd:Below W20.heap.size W20 W21:=by first|exact hd|exact hd.below
   clear hcall
   (try clear bc_s_0)
   (try clear bc_wd_0)
   (try clear bc_wd_1)
   (try clear bc_a_0)
   (try clear bc_b_0)
   (try clear bc_b_1)
   (try clear bc_d_0)
   (try clear bc_f_0)
   (try clear bc_f_1)
   replace Cl0:=Aside0.mk (Kd.C_below Cl0.out hd)
   replace Cl1:=Aside0.mk (Kd.C_below Cl1.out hd)
   replace Cs:=Aside0.mk (Kd.C_below Cs.out hd)
   replace Csub:=Aside0.mk (Kd.C_below Csub.out hd)
   replace Ct:=Aside0.mk (Kd.C_below Ct.out hd)
   replace Cw2:=Aside0.mk (Kd.C_below Cw2.out hd)
   replace Cenv:=Aside0.mk (Kd.C_below Cenv.out hd)
   replace Cp:=Aside0.mk (Kd.C_below Cp.out hd)
   replace Ca:=Aside0.mk (Kd.C_below Ca.out hd)
   replace Cb2:=Aside0.mk (Kd.C_below Cb2.out hd)
   replace Cc:=Aside0.mk (Kd.C_below Cc.out hd)
   replace Ce:=Aside0.mk (Kd.C_below Ce.out hd)
   replace Cd:=Aside0.mk (Kd.C_below Cd.out hd)
   replace Cf2:=Aside0.mk (Kd.C_below Cf2.out hd)
   replace Cg:=Aside0.mk (Kd.C_below Cg.out hd)
   replace Ch:=Aside0.mk (Kd.C_below Ch.out hd)
   replace Bs:=Aside0.mk ((hd.block _ (blk_lt Bs.out)).trans Bs.out)
   replace Bwd:=Aside0.mk ((hd.block _ (blk_lt Bwd.out)).trans Bwd.out)
   replace Ba:=Aside0.mk ((hd.block _ (blk_lt Ba.out)).trans Ba.out)
   replace Bb:=Aside0.mk ((hd.block _ (blk_lt Bb.out)).trans Bb.out)
   replace Bd:=Aside0.mk ((hd.block _ (blk_lt Bd.out)).trans Bd.out)
   replace Bf:=Aside0.mk ((hd.block _ (blk_lt Bf.out)).trans Bf.out)
   replace HB:=Aside0.mk (below_step HB.out hd)
   clear hd
   (try clear bc_s_0)
   have bc_s_0:W21.cell? ⟨gs,0,none⟩ = some (.slice As s.length cs):=(blk_cell Bs.out 0).trans rfl
   (try clear bc_wd_0)
   have bc_wd_0:W21.cell? ⟨gwd,0,none⟩ = some (.int .i64 w1):=(blk_cell Bwd.out 0).trans rfl
   (try clear bc_wd_1)
   have bc_wd_1:W21.cell? ⟨gwd,1,none⟩ = some (.slice Aw2 w2.length cw2):=(blk_cell Bwd.out 1).trans rfl
   (try clear bc_a_0)
   have bc_a_0:W21.cell? ⟨ga,0,none⟩ = some (.slice Aa a.length ca):=(blk_cell Ba.out 0).trans rfl
   (try clear bc_b_0)
   have bc_b_0:W21.cell? ⟨gb,0,none⟩ = some (.int .i64 b1):=(blk_cell Bb.out 0).trans rfl
   (try clear bc_b_1)
   have bc_b_1:W21.cell? ⟨gb,1,none⟩ = some (.slice Ab2 b2.length cb2):=(blk_cell Bb.out 1).trans rfl
   (try clear bc_d_0)
   have bc_d_0:W21.cell? ⟨gd,0,none⟩ = some (.slice Ad d.length cd):=(blk_cell Bd.out 0).trans rfl
   (try clear bc_f_0)
   have bc_f_0:W21.cell? ⟨gf,0,none⟩ = some (.int .i64 f1):=(blk_cell Bf.out 0).trans rfl
   (try clear bc_f_1)
   have bc_f_1:W21.cell? ⟨gf,1,none⟩ = some (.slice Af2 f2.length cf2):=(blk_cell Bf.out 1).trans rfl
   go_wp2
   refine start_ (n:=28) (S:=fun w'=>w'.cell? ⟨ga,0,none⟩ = some (.slice Aa a.length ca) ∧ w'.cell? ⟨gb,0,none⟩ = some (.int .i64 b1) ∧ w'.cell? ⟨gb,1,none⟩ = some (.slice Ab2 b2.length cb2)) (ds:=[]) #[false,false,false,false,false,false,false,false,false,false,false,false,false,false,false,false,false,false,false,false,false,false,false,false,false,false,false,false] (by kernel_rfl) rfl rfl ⟨bc_a_0,bc_b_0,bc_b_1⟩ (fun hHeld=>?_)
   have hd:Below W21.heap.size W21 W21.drew:=below_drew1 (Below.refl _ _)
   (try clear bc_s_0)
   (try clear bc_wd_0)
   (try clear bc_wd_1)
   (try clear bc_a_0)
   (try clear bc_b_0)
   (try clear bc_b_1)
   (try clear bc_d_0)
   (try clear bc_f_0)
   (try clear bc_f_1)
   generalize W21.drew = W22 at hd hHeld ⊢
   replace Cl0:=Aside0.mk (Kd.C_below Cl0.out hd)
   replace Cl1:=Aside0.mk (Kd.C_below Cl1.out hd)
   replace Cs:=Aside0.mk (Kd.C_below Cs.out hd)
   replace Csub:=Aside0.mk (Kd.C_below Csub.out hd)
   replace Ct:=Aside0.mk (Kd.C_below Ct.out hd)
   replace Cw2:=Aside0.mk (Kd.C_below Cw2.out hd)
   replace Cenv:=Aside0.mk (Kd.C_below Cenv.out hd)
   replace Cp:=Aside0.mk (Kd.C_below Cp.out hd)
   replace Ca:=Aside0.mk (Kd.C_below Ca.out hd)
   replace Cb2:=Aside0.mk (Kd.C_below Cb2.out hd)
   replace Cc:=Aside0.mk (Kd.C_below Cc.out hd)
   replace Ce:=Aside0.mk (Kd.C_below Ce.out hd)
   replace Cd:=Aside0.mk (Kd.C_below Cd.out hd)
   replace Cf2:=Aside0.mk (Kd.C_below Cf2.out hd)
   replace Cg:=Aside0.mk (Kd.C_below Cg.out hd)
   replace Ch:=Aside0.mk (Kd.C_below Ch.out hd)
   replace Bs:=Aside0.mk ((hd.block _ (blk_lt Bs.out)).trans Bs.out)
   replace Bwd:=Aside0.mk ((hd.block _ (blk_lt Bwd.out)).trans Bwd.out)
   replace Ba:=Aside0.mk ((hd.block _ (blk_lt Ba.out)).trans Ba.out)
   replace Bb:=Aside0.mk ((hd.block _ (blk_lt Bb.out)).trans Bb.out)
   replace Bd:=Aside0.mk ((hd.block _ (blk_lt Bd.out)).trans Bd.out)
   replace Bf:=Aside0.mk ((hd.block _ (blk_lt Bf.out)).trans Bf.out)
   replace HB:=Aside0.mk (below_step HB.out hd)
   clear hd
   refine pU (i:=0) (N:=some 161) #[true,false,false,false,false,false,false,false,false,false,false,false,false,false,false,false,false,false,false,false,false,false,false,false,false,false,false,false] (by kernel_rfl) ?_
   refine pU (i:=1) (N:=some 162) #[true,true,false,false,false,false,false,false,false,false,false,false,false,false,false,false,false,false,false,false,false,false,false,false,false,false,false,false] (by kernel_rfl) ?_
   refine pU (i:=2) (N:=some 163) #[true,true,true,false,false,false,false,false,false,false,false,false,false,false,false,false,false,false,false,false,false,false,false,false,false,false,false,false] (by kernel_rfl) ?_
   refine pU (i:=3) (N:=some 164) #[true,true,true,true,false,false,false,false,false,false,false,false,false,false,false,false,false,false,false,false,false,false,false,false,false,false,false,false] (by kernel_rfl) ?_
   refine pU (i:=4) (N:=some 165) #[true,true,true,true,true,false,false,false,false,false,false,false,false,false,false,false,false,false,false,false,false,false,false,false,false,false,false,false] (by kernel_rfl) ?_
   refine pU (i:=5) (N:=some 166) #[true,true,true,true,true,true,false,false,false,false,false,false,false,false,false,false,false,false,false,false,false,false,false,false,false,false,false,false] (by kernel_rfl) ?_
   refine pU (i:=6) (N:=some 167) #[true,true,true,true,true,true,true,false,false,false,false,false,false,false,false,false,false,false,false,false,false,false,false,false,false,false,false,false] (by kernel_rfl) ?_
   refine pU (i:=7) (N:=some 168) #[true,true,true,true,true,true,true,true,false,false,false,false,false,false,false,false,false,false,false,false,false,false,false,false,false,false,false,false] (by kernel_rfl) ?_
   refine pU (i:=8) (N:=some 169) #[true,true,true,true,true,true,true,true,true,false,false,false,false,false,false,false,false,false,false,false,false,false,false,false,false,false,false,false] (by kernel_rfl) ?_
   refine pU (i:=9) (N:=some 170) #[true,true,true,true,true,true,true,true,true,true,false,false,false,false,false,false,false,false,false,false,false,false,false,false,false,false,false,false] (by kernel_rfl) ?_
   refine pU (i:=10) (N:=some 171) #[true,true,true,true,true,true,true,true,true,true,true,false,false,false,false,false,false,false,false,false,false,false,false,false,false,false,false,false] (by kernel_rfl) ?_
   refine pU (i:=11) (N:=some 172) #[true,true,true,true,true,true,true,true,true,true,true,true,false,false,false,false,false,false,false,false,false,false,false,false,false,false,false,false] (by kernel_rfl) ?_
   refine pU (i:=12) (N:=some 173) #[true,true,true,true,true,true,true,true,true,true,true,true,true,false,false,false,false,false,false,false,false,false,false,false,false,false,false,false] (by kernel_rfl) ?_
   refine pU (i:=13) (N:=some 174) #[true,true,true,true,true,true,true,true,true,true,true,true,true,true,false,false,false,false,false,false,false,false,false,false,false,false,false,false] (by kernel_rfl) ?_
   refine pU (i:=14) (N:=some 175) #[true,true,true,true,true,true,true,true,true,true,true,true,true,true,true,false,false,false,false,false,false,false,false,false,false,false,false,false] (by kernel_rfl) ?_
   refine pU (i:=15) (N:=some 176) #[true,true,true,true,true,true,true,true,true,true,true,true,true,true,true,true,false,false,false,false,false,false,false,false,false,false,false,false] (by kernel_rfl) ?_
   refine pU (i:=16) (N:=some 177) #[true,true,true,true,true,true,true,true,true,true,true,true,true,true,true,true,true,false,false,false,false,false,false,false,false,false,false,false] (by kernel_rfl) ?_
   refine pU (i:=17) (N:=some 178) #[true,true,true,true,true,true,true,true,true,true,true,true,true,true,true,true,true,true,false,false,false,false,false,false,false,false,false,false] (by kernel_rfl) ?_
   refine pU (i:=18) (N:=some 179) #[true,true,true,true,true,true,true,true,true,true,true,true,true,true,true,true,true,true,true,false,false,false,false,false,false,false,false,false] (by kernel_rfl) ?_
   refine tK3 (i:=19) (N:=some 180) #[true,true,true,true,true,true,true,true,true,true,true,true,true,true,true,true,true,true,true,true,false,false,false,false,false,false,false,false] (by kernel_rfl) hHeld ?_
   refine tK3 (i:=20) (N:=some 181) #[true,true,true,true,true,true,true,true,true,true,true,true,true,true,true,true,true,true,true,true,true,false,false,false,false,false,false,false] (by kernel_rfl) hHeld ?_
   refine tK3 (i:=22) (N:=some 183) #[true,true,true,true,true,true,true,true,true,true,true,true,true,true,true,true,true,true,true,true,true,false,true,false,false,false,false,false] (by kernel_rfl) hHeld ?_
   refine tK3 (i:=23) (N:=some 184) #[true,true,true,true,true,true,true,true,true,true,true,true,true,true,true,true,true,true,true,true,true,false,true,true,false,false,false,false] (by kernel_rfl) hHeld ?_
   refine one_ (i:=21) (N:=(some 182)) #[true,true,true,true,true,true,true,true,true,true,true,true,true,true,true,true,true,true,true,true,true,true,true,true,false,false,false,false] rfl rfl (by kernel_rfl) (by decide) (fun K hK=>?_)
   refine goes_ Try.func16 (by kernel_rfl) rfl #[.agg #[.slice Aa a.length ca],.agg #[.int .i64 b1,.slice Ab2 b2.length cb2]] (by rfl) rfl rfl YG ?_
   refine (impl_GoodWorld.calls k Aa ca a b1 Ab2 cb2 b2 gw W22 Ca.out La.out Cb2.out Lb2.out H.out.ig).mono ?_
   rintro e W23 ⟨rfl,hd⟩
   refine ⟨_,rfl,?_⟩
   replace Cl0:=Aside0.mk (Kd.C_below Cl0.out hd)
   replace Cl1:=Aside0.mk (Kd.C_below Cl1.out hd)
   replace Cs:=Aside0.mk (Kd.C_below Cs.out hd)
   replace Csub:=Aside0.mk (Kd.C_below Csub.out hd)
   replace Ct:=Aside0.mk (Kd.C_below Ct.out hd)
   replace Cw2:=Aside0.mk (Kd.C_below Cw2.out hd)
   replace Cenv:=Aside0.mk (Kd.C_below Cenv.out hd)
   replace Cp:=Aside0.mk (Kd.C_below Cp.out hd)
   replace Ca:=Aside0.mk (Kd.C_below Ca.out hd)
   replace Cb2:=Aside0.mk (Kd.C_below Cb2.out hd)
   replace Cc:=Aside0.mk (Kd.C_below Cc.out hd)
   replace Ce:=Aside0.mk (Kd.C_below Ce.out hd)
   replace Cd:=Aside0.mk (Kd.C_below Cd.out hd)
   replace Cf2:=Aside0.mk (Kd.C_below Cf2.out hd)
   replace Cg:=Aside0.mk (Kd.C_below Cg.out hd)
   replace Ch:=Aside0.mk (Kd.C_below Ch.out hd)
   replace Bs:=Aside0.mk ((hd.block _ (blk_lt Bs.out)).trans Bs.out)
   replace Bwd:=Aside0.mk ((hd.block _ (blk_lt Bwd.out)).trans Bwd.out)
   replace Ba:=Aside0.mk ((hd.block _ (blk_lt Ba.out)).trans Ba.out)
   replace Bb:=Aside0.mk ((hd.block _ (blk_lt Bb.out)).trans Bb.out)
   replace Bd:=Aside0.mk ((hd.block _ (blk_lt Bd.out)).trans Bd.out)
   replace Bf:=Aside0.mk ((hd.block _ (blk_lt Bf.out)).trans Bf.out)
   replace HB:=Aside0.mk (below_step HB.out hd)
   clear hd hHeld
   refine hK.out _ _ ⟨(blk_cell Ba.out 0).trans rfl,(blk_cell Bb.out 0).trans rfl,(blk_cell Bb.out 1).trans rfl⟩ (fun hHeld=>?_)
   clear hK K
   refine nM (N:=some 182) ?_
   refine one_ (i:=24) (N:=(some 185)) #[true,true,true,true,true,true,true,true,true,true,true,true,true,true,true,true,true,true,true,true,true,true,true,true,true,false,false,false] rfl rfl (by kernel_rfl) (by decide) (fun K hK=>?_)
   refine goes_ Try.func17 (by kernel_rfl) rfl #[.agg #[.slice Aa a.length ca],.agg #[.int .i64 b1,.slice Ab2 b2.length cb2]] (by rfl) rfl rfl YG ?_
   refine (spec_GoodWorld.calls k Aa ca a b1 Ab2 cb2 b2 gw W23 Ca.out La.out Cb2.out Lb2.out H.out.sg).mono ?_
   rintro e W24 ⟨rfl,hd⟩
   refine ⟨_,rfl,?_⟩
   replace Cl0:=Aside0.mk (Kd.C_below Cl0.out hd)
   replace Cl1:=Aside0.mk (Kd.C_below Cl1.out hd)
   replace Cs:=Aside0.mk (Kd.C_below Cs.out hd)
   replace Csub:=Aside0.mk (Kd.C_below Csub.out hd)
   replace Ct:=Aside0.mk (Kd.C_below Ct.out hd)
   replace Cw2:=Aside0.mk (Kd.C_below Cw2.out hd)
   replace Cenv:=Aside0.mk (Kd.C_below Cenv.out hd)
   replace Cp:=Aside0.mk (Kd.C_below Cp.out hd)
   replace Ca:=Aside0.mk (Kd.C_below Ca.out hd)
   replace Cb2:=Aside0.mk (Kd.C_below Cb2.out hd)
   replace Cc:=Aside0.mk (Kd.C_below Cc.out hd)
   replace Ce:=Aside0.mk (Kd.C_below Ce.out hd)
   replace Cd:=Aside0.mk (Kd.C_below Cd.out hd)
   replace Cf2:=Aside0.mk (Kd.C_below Cf2.out hd)
   replace Cg:=Aside0.mk (Kd.C_below Cg.out hd)
   replace Ch:=Aside0.mk (Kd.C_below Ch.out hd)
   replace Bs:=Aside0.mk ((hd.block _ (blk_lt Bs.out)).trans Bs.out)
   replace Bwd:=Aside0.mk ((hd.block _ (blk_lt Bwd.out)).trans Bwd.out)
   replace Ba:=Aside0.mk ((hd.block _ (blk_lt Ba.out)).trans Ba.out)
   replace Bb:=Aside0.mk ((hd.block _ (blk_lt Bb.out)).trans Bb.out)
   replace Bd:=Aside0.mk ((hd.block _ (blk_lt Bd.out)).trans Bd.out)
   replace Bf:=Aside0.mk ((hd.block _ (blk_lt Bf.out)).trans Bf.out)
   replace HB:=Aside0.mk (below_step HB.out hd)
   clear hd hHeld
   refine hK.out _ _ ⟨(blk_cell Ba.out 0).trans rfl,(blk_cell Bb.out 0).trans rfl,(blk_cell Bb.out 1).trans rfl⟩ (fun hHeld=>?_)
   clear hK K
   refine nM (N:=some 185) ?_
   refine pU (i:=25) (N:=some 186) #[true,true,true,true,true,true,true,true,true,true,true,true,true,true,true,true,true,true,true,true,true,true,true,true,true,true,false,false] (by kernel_rfl) ?_
   refine pU (i:=26) (N:=some 187) #[true,true,true,true,true,true,true,true,true,true,true,true,true,true,true,true,true,true,true,true,true,true,true,true,true,true,true,false] (by kernel_rfl) ?_
   refine pU (i:=27) (N:=some 4) #[true,true,true,true,true,true,true,true,true,true,true,true,true,true,true,true,true,true,true,true,true,true,true,true,true,true,true,true] (by kernel_rfl) ?_
   refine done_ (by kernel_rfl) ?_
   go_wp2
   go_ret
   exact ⟨by simp,HB.out⟩
  | true =>
   obtain ⟨other,x,hI⟩:=H.out.inn rfl
   have HIn:=Aside0.mk hI
   clear hI
   have HBP:=Aside0.mk (Below.refl W9.heap.size W9)
   go_upto_region 10 with fail
   go_loopw [12,13] (fun v12 v13 wr=>∃ (j:Nat) (oj:List Int),j ≤ 12 ∧ v13 = .int .i64 (j:Int) ∧ Hid (oj = other.take j) ∧ Hid (Kd.R (Kd.int .i64) 3 wr W9.heap.size (fun _=>True) v12 oj) ∧ Hid (Below W9.heap.size W9 wr)) (fun _ v13 _=>12 - (intOf v13).toNat)
   case atStart=>exact ⟨0,[],Nat.zero_le _,rfl,rfl,Kd.R_nil _ _ _ _ _,HBP.out⟩
   case round =>
    rename World=>Wq
    clear HBP
    obtain ⟨j,oj,hj,rfl,hoj,hO,hBq⟩:=hrel
    unfold Hid at hoj hO hBq
    have HOJ:=Aside0.mk hoj
    clear hoj
    (try clear bc_s_0)
    (try clear bc_wd_0)
    (try clear bc_wd_1)
    replace Cl0:=Aside0.mk (Kd.C_below Cl0.out hBq)
    replace Cl1:=Aside0.mk (Kd.C_below Cl1.out hBq)
    replace Cs:=Aside0.mk (Kd.C_below Cs.out hBq)
    replace Csub:=Aside0.mk (Kd.C_below Csub.out hBq)
    replace Ct:=Aside0.mk (Kd.C_below Ct.out hBq)
    replace Cw2:=Aside0.mk (Kd.C_below Cw2.out hBq)
    replace Cenv:=Aside0.mk (Kd.C_below Cenv.out hBq)
    replace Cp:=Aside0.mk (Kd.C_below Cp.out hBq)
    replace Bs:=Aside0.mk ((hBq.block _ (blk_lt Bs.out)).trans Bs.out)
    replace Bwd:=Aside0.mk ((hBq.block _ (blk_lt Bwd.out)).trans Bwd.out)
    replace HB:=Aside0.mk (below_step HB.out hBq)
    have HBP:=Aside0.mk hBq
    have HO:=Aside0.mk hO
    clear hO hBq
    (try clear bc_s_0)
    have bc_s_0:Wq.cell? ⟨gs,0,none⟩ = some (.slice As s.length cs):=(blk_cell Bs.out 0).trans rfl
    (try clear bc_wd_0)
    have bc_wd_0:Wq.cell? ⟨gwd,0,none⟩ = some (.int .i64 w1):=(blk_cell Bwd.out 0).trans rfl
    (try clear bc_wd_1)
    have bc_wd_1:Wq.cell? ⟨gwd,1,none⟩ = some (.slice Aw2 w2.length cw2):=(blk_cell Bwd.out 1).trans rfl
    obtain ⟨AO,cO,rfl⟩:=Kd.R_slice HO.out
    by_cases hp:j < 12
    ·have hp1:decide ((j:Int) < 12) = true:=decide_eq_true (by omega)
     have hev:=HIn.out.at_ j hp
     obtain ⟨nj,hnj⟩:∃ z,z = other.getD j 0:=⟨_,rfl⟩
     rw [← hnj] at hev
     have hEv:=Aside0.mk hev
     have HNJ:=Aside0.mk hnj
     clear hev hnj
     obtain ⟨ad,Ax,cx,eA,hcell,hxle,hxC⟩:=at_L2 Csub.out (j:Int) (by omega) (by have:=HIn.out.sublen;omega)
     subst eA
     rw [Int.toNat_natCast] at hcell
     have hjl:decide ((j:Int) < (sub.length:Int)) = true:=decide_eq_true (by have:=HIn.out.sublen;omega)
     have hj0:decide (0 ≤ (j:Int)) = true:=decide_eq_true (by omega)
     have hjl2:(j:Int) < (sub.length:Int):=of_decide_eq_true hjl
     replace hjl2:=eq_true hjl2
     have hj02:0 ≤ (j:Int):=by omega
     replace hj02:=eq_true hj02
     have Cx:=Aside0.mk hxC
     have Lx:=Aside0.mk hxle
     have HCX:=hcell
     clear hxC hxle hcell
     by_cases hg:(rd_L2 sub (j:Int)).length = 0
     ·skip
      have hl0:decide (((rd_L2 sub (j:Int)).length:Int) = 0) = true:=decide_eq_true (by omega)
      have hev:=hEv.out
      unfold laws_FnPutFor.xv at hev
      rw [if_pos hg] at hev
      replace hEv:=Aside0.mk hev
      clear hev Cx Lx
      go_wp2_with (first|((with_reducible refine gate_dst (N:=73) rfl ?_);refine Kd.R_lit (Kd.int .i64) _ 3 ?hg (N:=73) ?hd (xs:=([-1 - (j:Int)]:List Int)) (inner:=[.int .i64 (-1 - (j:Int))]) (ok:=fun _=>True) (okp:=fun _=>True) ?hr ?hp (fun _ hk=>hk) trivial (Below.refl _ _) (Nat.le_refl _) (by simp) ?_;(case hd=>rfl);(case hg=>rfl);(case hr=>exact Yd);(case hp=>exact (Reps.one (show Kd.M (Kd.int .i64) _ _ _ _ [.int .i64 (-1 - (j:Int))] from rfl) (Reps.none _ _)));intro v7 W7 ho hd hg_ hnew_;clear hg_ hnew_;have e_:=(hd.block _ (blk_lt Bs.out)).trans Bs.out;have bd_s_0:W7.cell? ⟨gs,0,none⟩ = some (.slice As s.length cs):=(blk_cell e_ 0).trans rfl;clear e_;have e_:=(hd.block _ (blk_lt Bwd.out)).trans Bwd.out;have bd_wd_0:W7.cell? ⟨gwd,0,none⟩ = some (.int .i64 w1):=(blk_cell e_ 0).trans rfl;have bd_wd_1:W7.cell? ⟨gwd,1,none⟩ = some (.slice Aw2 w2.length cw2):=(blk_cell e_ 1).trans rfl;clear e_)|(go_at_call 10;(try clear bc_s_0);(try clear bc_wd_0);(try clear bc_wd_1);obtain ⟨A7,c7,rfl⟩:=Kd.R_slice ho;have C7:=Aside0.mk (Kd.R_reads' ho).2.2;have L7:=Aside0.mk (Kd.R_reads' ho).2.1;replace Cl0:=Aside0.mk (Kd.C_below Cl0.out hd);replace Cl1:=Aside0.mk (Kd.C_below Cl1.out hd);replace Cs:=Aside0.mk (Kd.C_below Cs.out hd);replace Csub:=Aside0.mk (Kd.C_below Csub.out hd);replace Ct:=Aside0.mk (Kd.C_below Ct.out hd);replace Cw2:=Aside0.mk (Kd.C_below Cw2.out hd);replace Cenv:=Aside0.mk (Kd.C_below Cenv.out hd);replace Cp:=Aside0.mk (Kd.C_below Cp.out hd);replace Bs:=Aside0.mk ((hd.block _ (blk_lt Bs.out)).trans Bs.out);replace Bwd:=Aside0.mk ((hd.block _ (blk_lt Bwd.out)).trans Bwd.out);replace HO:=Aside0.mk (Kd.R_below HO.out hd);replace HB:=Aside0.mk (below_step HB.out hd);replace HBP:=Aside0.mk (below_step HBP.out hd);clear ho hd HCX;(try clear bc_s_0);have bc_s_0:W7.cell? ⟨gs,0,none⟩ = some (.slice As s.length cs):=(blk_cell Bs.out 0).trans rfl;(try clear bc_wd_0);have bc_wd_0:W7.cell? ⟨gwd,0,none⟩ = some (.int .i64 w1):=(blk_cell Bwd.out 0).trans rfl;(try clear bc_wd_1);have bc_wd_1:W7.cell? ⟨gwd,1,none⟩ = some (.slice Aw2 w2.length cw2):=(blk_cell Bwd.out 1).trans rfl;have hcall:=impl_EvalIn.calls k As cs s w1 Aw2 cw2 w2 A7 c7 [-1 - (j:Int)] Aenv cenv env nj true W7 Cs.out Ls.out Cw2.out Lw2.out C7.out L7.out Cenv.out Lenv.out hEv.out;refine hcall.mono ?_))
      first|rintro e W10 rfl hd|rintro e W10 ⟨rfl,hd⟩
      replace hd:Below W7.heap.size W7 W10:=by first|exact hd|exact hd.below
      clear hcall
      (try clear bc_s_0)
      (try clear bc_wd_0)
      (try clear bc_wd_1)
      replace Cl0:=Aside0.mk (Kd.C_below Cl0.out hd)
      replace Cl1:=Aside0.mk (Kd.C_below Cl1.out hd)
      replace Cs:=Aside0.mk (Kd.C_below Cs.out hd)
      replace Csub:=Aside0.mk (Kd.C_below Csub.out hd)
      replace Ct:=Aside0.mk (Kd.C_below Ct.out hd)
      replace Cw2:=Aside0.mk (Kd.C_below Cw2.out hd)
      replace Cenv:=Aside0.mk (Kd.C_below Cenv.out hd)
      replace Cp:=Aside0.mk (Kd.C_below Cp.out hd)
      replace C7:=Aside0.mk (Kd.C_below C7.out hd)
      replace Bs:=Aside0.mk ((hd.block _ (blk_lt Bs.out)).trans Bs.out)
      replace Bwd:=Aside0.mk ((hd.block _ (blk_lt Bwd.out)).trans Bwd.out)
      replace HO:=Aside0.mk (Kd.R_below HO.out hd)
      replace HB:=Aside0.mk (below_step HB.out hd)
      replace HBP:=Aside0.mk (below_step HBP.out hd)
      clear hd
      clear hEv
      go_wp2_with ((with_reducible refine gate_builtin (b:=.append) (xs:=#[.tmp 84,.tmp 86]) rfl ?_);at_builtin;refine Kd.R_append (Kd.int .i64) (w0:=W9) W9.heap.size rfl (.tmp 84) (.tmp 86) 24 3 (.int .i64 0) 8 rfl Try.underlying24 info3 rfl (by decide) (by decide) (.slice AO oj.length cO) oj nj [.int .i64 nj] (fun _=>True) (fun _=>False) rfl rfl ?aP (fun _ hk=>hk.elim) ?aF ?aO ?aB ?aS ?aL ?_;(case aP=>exact rfl);(case aB=>first|exact HBP.out|exact (below_alloc HBP.out _));(case aF=>exact YW);(case aO=>first|exact HO.out|exact (Kd.R_alloc HO.out _));(case aS=>first|exact HBP.out.size|exact (below_alloc HBP.out _).size);(case aL=>(have h_:=HOJ.out;rw [h_,List.length_take];omega));intro v9 w9 ho hb hg_ hat;have HO9:=Aside0.mk ho;have HB9:=Aside0.mk hb;clear ho hb hg_ hat)
      have htk:oj ++ [nj] = other.take (j + 1):=by rw [HOJ.out,HNJ.out,List.take_add_one,List.getD_eq_getElem?_getD,List.getElem?_eq_getElem (by have:=HIn.out.len;omega)];rfl
      rw [htk] at HO9
      go_roundw
      case rel=>exact ⟨j + 1,_,by omega,(by first|rfl|(rw [show wrap64 ((j:Int) + 1) = ((j + 1:Nat):Int) by unfold wrap64;omega])|(congr 1)),rfl,HO9.out,HB9.out⟩
      case measure=>(simp [intOf];try omega)
     ·skip
      have hl0:decide (((rd_L2 sub (j:Int)).length:Int) = 0) = false:=decide_eq_false (by omega)
      have hev:=hEv.out
      unfold laws_FnPutFor.xv at hev
      rw [if_neg hg] at hev
      replace hEv:=Aside0.mk hev
      clear hev
      have hcall:=impl_EvalIn.calls k As cs s w1 Aw2 cw2 w2 Ax cx (rd_L2 sub (j:Int)) Aenv cenv env nj true Wq Cs.out Ls.out Cw2.out Lw2.out Cx.out Lx.out Cenv.out Lenv.out hEv.out
      go_wp2_with (go_at_call 10;refine hcall.mono ?_)
      first|rintro e W10 rfl hd|rintro e W10 ⟨rfl,hd⟩
      replace hd:Below Wq.heap.size Wq W10:=by first|exact hd|exact hd.below
      clear hcall
      (try clear bc_s_0)
      (try clear bc_wd_0)
      (try clear bc_wd_1)
      replace Cl0:=Aside0.mk (Kd.C_below Cl0.out hd)
      replace Cl1:=Aside0.mk (Kd.C_below Cl1.out hd)
      replace Cs:=Aside0.mk (Kd.C_below Cs.out hd)
      replace Csub:=Aside0.mk (Kd.C_below Csub.out hd)
      replace Ct:=Aside0.mk (Kd.C_below Ct.out hd)
      replace Cw2:=Aside0.mk (Kd.C_below Cw2.out hd)
      replace Cenv:=Aside0.mk (Kd.C_below Cenv.out hd)
      replace Cp:=Aside0.mk (Kd.C_below Cp.out hd)
      replace Cx:=Aside0.mk (Kd.C_below Cx.out hd)
      replace Bs:=Aside0.mk ((hd.block _ (blk_lt Bs.out)).trans Bs.out)
      replace Bwd:=Aside0.mk ((hd.block _ (blk_lt Bwd.out)).trans Bwd.out)
      replace HO:=Aside0.mk (Kd.R_below HO.out hd)
      replace HB:=Aside0.mk (below_step HB.out hd)
      replace HBP:=Aside0.mk (below_step HBP.out hd)
      clear hd
      clear hEv
      go_wp2_with ((with_reducible refine gate_builtin (b:=.append) (xs:=#[.tmp 84,.tmp 86]) rfl ?_);at_builtin;refine Kd.R_append (Kd.int .i64) (w0:=W9) W9.heap.size rfl (.tmp 84) (.tmp 86) 24 3 (.int .i64 0) 8 rfl Try.underlying24 info3 rfl (by decide) (by decide) (.slice AO oj.length cO) oj nj [.int .i64 nj] (fun _=>True) (fun _=>False) rfl rfl ?aP (fun _ hk=>hk.elim) ?aF ?aO ?aB ?aS ?aL ?_;(case aP=>exact rfl);(case aB=>first|exact HBP.out|exact (below_alloc HBP.out _));(case aF=>exact YW);(case aO=>first|exact HO.out|exact (Kd.R_alloc HO.out _));(case aS=>first|exact HBP.out.size|exact (below_alloc HBP.out _).size);(case aL=>(have h_:=HOJ.out;rw [h_,List.length_take];omega));intro v9 w9 ho hb hg_ hat;have HO9:=Aside0.mk ho;have HB9:=Aside0.mk hb;clear ho hb hg_ hat)
      have htk:oj ++ [nj] = other.take (j + 1):=by rw [HOJ.out,HNJ.out,List.take_add_one,List.getD_eq_getElem?_getD,List.getElem?_eq_getElem (by have:=HIn.out.len;omega)];rfl
      rw [htk] at HO9
      go_roundw
      case rel=>exact ⟨j + 1,_,by omega,(by first|rfl|(rw [show wrap64 ((j:Int) + 1) = ((j + 1:Nat):Int) by unfold wrap64;omega])|(congr 1)),rfl,HO9.out,HB9.out⟩
      case measure=>(simp [intOf];try omega)
    ·have hp1:decide ((j:Int) < 12) = false:=decide_eq_false (by omega)
     have hjo:oj = other:=HOJ.out.trans (List.take_of_length_le (by have:=HIn.out.len;omega))
     subst hjo
     have CO:=Aside0.mk (Kd.R_reads' HO.out).2.2
     have LO:=Aside0.mk (Kd.R_reads' HO.out).2.1
     clear HO HBP
     have hcall:=impl_EvalIn.calls k As cs s w1 Aw2 cw2 w2 Ap cp p Aenv cenv env x true Wq Cs.out Ls.out Cw2.out Lw2.out Cp.out Lp.out Cenv.out Lenv.out HIn.out.ep
     go_wp2_with (go_at_call 10;refine hcall.mono ?_)
     first|rintro e W10 rfl hd|rintro e W10 ⟨rfl,hd⟩
     replace hd:Below Wq.heap.size Wq W10:=by first|exact hd|exact hd.below
     clear hcall
     (try clear bc_s_0)
     (try clear bc_wd_0)
     (try clear bc_wd_1)
     replace Cl0:=Aside0.mk (Kd.C_below Cl0.out hd)
     replace Cl1:=Aside0.mk (Kd.C_below Cl1.out hd)
     replace Cs:=Aside0.mk (Kd.C_below Cs.out hd)
     replace Csub:=Aside0.mk (Kd.C_below Csub.out hd)
     replace Ct:=Aside0.mk (Kd.C_below Ct.out hd)
     replace Cw2:=Aside0.mk (Kd.C_below Cw2.out hd)
     replace Cenv:=Aside0.mk (Kd.C_below Cenv.out hd)
     replace Cp:=Aside0.mk (Kd.C_below Cp.out hd)
     replace CO:=Aside0.mk (Kd.C_below CO.out hd)
     replace Bs:=Aside0.mk ((hd.block _ (blk_lt Bs.out)).trans Bs.out)
     replace Bwd:=Aside0.mk ((hd.block _ (blk_lt Bwd.out)).trans Bwd.out)
     replace HB:=Aside0.mk (below_step HB.out hd)
     clear hd
     (try clear bc_s_0)
     have bc_s_0:W10.cell? ⟨gs,0,none⟩ = some (.slice As s.length cs):=(blk_cell Bs.out 0).trans rfl
     (try clear bc_wd_0)
     have bc_wd_0:W10.cell? ⟨gwd,0,none⟩ = some (.int .i64 w1):=(blk_cell Bwd.out 0).trans rfl
     (try clear bc_wd_1)
     have bc_wd_1:W10.cell? ⟨gwd,1,none⟩ = some (.slice Aw2 w2.length cw2):=(blk_cell Bwd.out 1).trans rfl
     have hcall:=impl_EvalIn.calls k As cs s w1 Aw2 cw2 w2 At ct t AO cO oj x true W10 Cs.out Ls.out Cw2.out Lw2.out Ct.out Lt.out CO.out LO.out HIn.out.et
     go_wp2_with (go_at_call 10;refine hcall.mono ?_)
     first|rintro e W11 rfl hd|rintro e W11 ⟨rfl,hd⟩
     replace hd:Below W10.heap.size W10 W11:=by first|exact hd|exact hd.below
     clear hcall
     (try clear bc_s_0)
     (try clear bc_wd_0)
     (try clear bc_wd_1)
     replace Cl0:=Aside0.mk (Kd.C_below Cl0.out hd)
     replace Cl1:=Aside0.mk (Kd.C_below Cl1.out hd)
     replace Cs:=Aside0.mk (Kd.C_below Cs.out hd)
     replace Csub:=Aside0.mk (Kd.C_below Csub.out hd)
     replace Ct:=Aside0.mk (Kd.C_below Ct.out hd)
     replace Cw2:=Aside0.mk (Kd.C_below Cw2.out hd)
     replace Cenv:=Aside0.mk (Kd.C_below Cenv.out hd)
     replace Cp:=Aside0.mk (Kd.C_below Cp.out hd)
     replace CO:=Aside0.mk (Kd.C_below CO.out hd)
     replace Bs:=Aside0.mk ((hd.block _ (blk_lt Bs.out)).trans Bs.out)
     replace Bwd:=Aside0.mk ((hd.block _ (blk_lt Bwd.out)).trans Bwd.out)
     replace HB:=Aside0.mk (below_step HB.out hd)
     clear hd
     (try clear bc_s_0)
     have bc_s_0:W11.cell? ⟨gs,0,none⟩ = some (.slice As s.length cs):=(blk_cell Bs.out 0).trans rfl
     (try clear bc_wd_0)
     have bc_wd_0:W11.cell? ⟨gwd,0,none⟩ = some (.int .i64 w1):=(blk_cell Bwd.out 0).trans rfl
     (try clear bc_wd_1)
     have bc_wd_1:W11.cell? ⟨gwd,1,none⟩ = some (.slice Aw2 w2.length cw2):=(blk_cell Bwd.out 1).trans rfl
     have hcall:=spec_DrawEvalIn.calls k A1 c1 l1 a b1 b2 c e W11 Cl1.out Ll1.out H.out.draw2
     go_wp2_with (go_at_call 11;refine hcall.mono ?_)
     first|rintro e W12 v0 v1 v2 v3 rfl f0 f1 f2 f3 hd|rintro e W12 ⟨v0,v1,v2,v3,rfl,f0,f1,f2,f3,hd⟩
     replace hd:Below W11.heap.size W11 W12:=by first|exact hd|exact hd.below
     clear hcall
     (try clear bc_s_0)
     (try clear bc_wd_0)
     (try clear bc_wd_1)
     obtain ⟨Aa,ca,rfl⟩:=Kd.R_slice f0
     have Ca:=Aside0.mk (Kd.R_reads' f0).2.2
     have La:=Aside0.mk (Kd.R_reads' f0).2.1
     obtain ⟨Ab2,cb2,rfl⟩:=Kd.S_slice f1
     have Cb2:=Aside0.mk (Kd.S_reads' f1).2.2
     have Lb2:=Aside0.mk (Kd.S_reads' f1).2.1
     obtain ⟨Ac,cc,rfl,_⟩:=Kd.Q_slice f2
     have Cc:=Aside0.mk (Kd.Q_reads' f2).2.2
     have Lc:=Aside0.mk (Kd.Q_reads' f2).2.1
     obtain ⟨Ae,ce,rfl⟩:=Kd.R_slice f3
     have Ce:=Aside0.mk (Kd.R_reads' f3).2.2
     have Le:=Aside0.mk (Kd.R_reads' f3).2.1
     replace Cl0:=Aside0.mk (Kd.C_below Cl0.out hd)
     replace Cl1:=Aside0.mk (Kd.C_below Cl1.out hd)
     replace Cs:=Aside0.mk (Kd.C_below Cs.out hd)
     replace Csub:=Aside0.mk (Kd.C_below Csub.out hd)
     replace Ct:=Aside0.mk (Kd.C_below Ct.out hd)
     replace Cw2:=Aside0.mk (Kd.C_below Cw2.out hd)
     replace Cenv:=Aside0.mk (Kd.C_below Cenv.out hd)
     replace Cp:=Aside0.mk (Kd.C_below Cp.out hd)
     replace CO:=Aside0.mk (Kd.C_below CO.out hd)
     replace Bs:=Aside0.mk ((hd.block _ (blk_lt Bs.out)).trans Bs.out)
     replace Bwd:=Aside0.mk ((hd.block _ (blk_lt Bwd.out)).trans Bwd.out)
     replace HB:=Aside0.mk (below_step HB.out hd)
     clear f0 f1 f2 f3
     clear hd
     go_wp2_with (first|((with_reducible refine gate_dst (N:=21) rfl ?_);refine box_event ?hg (N:=21) ?hd (cs:=#[.slice none 0 0]) (t:=26) ?hr ?_;(case hd=>rfl);(case hg=>rfl);(case hr=>exact Yd);intro ga hg_a W13 hx_a hb_a;have hz_a_0:W13.cell? ⟨ga,0,none⟩ = some (.slice none 0 0):=(blk_cell hx_a 0).trans rfl;have hy_a_0:=blk_frozen hx_a 0;replace hg_a:=Aside0.mk hg_a)|((with_reducible refine gate_dst (N:=22) rfl ?_);refine box_event ?hg (N:=22) ?hd (cs:=#[.int .i64 0,.slice none 0 0]) (t:=31) ?hr ?_;(case hd=>rfl);(case hg=>rfl);(case hr=>exact Yd);intro gb hg_b W14 hx_b hb_b;have hz_b_0:W14.cell? ⟨gb,0,none⟩ = some (.int .i64 0):=(blk_cell hx_b 0).trans rfl;have hy_b_0:=blk_frozen hx_b 0;have hz_b_1:W14.cell? ⟨gb,1,none⟩ = some (.slice none 0 0):=(blk_cell hx_b 1).trans rfl;have hy_b_1:=blk_frozen hx_b 1;replace hg_b:=Aside0.mk hg_b;have hx2_a:=(hb_b.block _ (blk_lt hx_a)).trans hx_a;have hne_:ga ≠ gb:=(by rw [hg_b.out];exact Nat.ne_of_lt (blk_lt hx_a));have hnf_:gb ≠ ga:=fun q_=>hne_ q_.symm;have hz2_a_0:W14.cell? ⟨ga,0,none⟩ = some (.slice none 0 0):=(blk_cell hx2_a 0).trans rfl;have hy2_a_0:=blk_frozen hx2_a 0)|(go_at_call 10;have hd:Below W12.heap.size W12 W14:=(below_step hb_a hb_b);have hga:W12.heap.size ≤ ga:=Nat.le_of_eq hg_a.out.symm;have hgb:W12.heap.size ≤ gb:=(by rw [hg_b.out];exact hb_a.size);replace hd:=hd.setCell (hga) (.slice Aa a.length ca) (p:=⟨ga,0,none⟩);replace hx2_a:=blk_put (cs':=#[.slice Aa a.length ca]) hx2_a 0 (.slice Aa a.length ca) rfl;replace hx_b:=blk_far hx_b (p:=⟨ga,0,none⟩) hnf_ (.slice Aa a.length ca);replace hd:=hd.setCell (hgb) (.int .i64 b1) (p:=⟨gb,0,none⟩);replace hx2_a:=blk_far hx2_a (p:=⟨gb,0,none⟩) hne_ (.int .i64 b1);replace hx_b:=blk_put (cs':=#[.int .i64 b1,.slice none 0 0]) hx_b 0 (.int .i64 b1) rfl;replace hd:=hd.setCell (hgb) (.slice Ab2 b2.length cb2) (p:=⟨gb,1,none⟩);replace hx2_a:=blk_far hx2_a (p:=⟨gb,1,none⟩) hne_ (.slice Ab2 b2.length cb2);replace hx_b:=blk_put (cs':=#[.int .i64 b1,.slice Ab2 b2.length cb2]) hx_b 1 (.slice Ab2 b2.length cb2) rfl;have Ba:=Aside0.mk hx2_a;have Bb:=Aside0.mk hx_b;clear hg_a hb_a hx_a hg_b hb_b hx_b hz_a_0 hy_a_0 hz_b_0 hy_b_0 hz_b_1 hy_b_1 hx2_a hne_ hnf_ hgb hz2_a_0 hy2_a_0 hga;generalize (((W14.setCell ⟨ga,0,none⟩ (.slice Aa a.length ca)).setCell ⟨gb,0,none⟩ (.int .i64 b1)).setCell ⟨gb,1,none⟩ (.slice Ab2 b2.length cb2)) = W15 at hd Ba Bb ⊢;(try clear bc_s_0);(try clear bc_wd_0);(try clear bc_wd_1);replace Cl0:=Aside0.mk (Kd.C_below Cl0.out hd);replace Cl1:=Aside0.mk (Kd.C_below Cl1.out hd);replace Cs:=Aside0.mk (Kd.C_below Cs.out hd);replace Csub:=Aside0.mk (Kd.C_below Csub.out hd);replace Ct:=Aside0.mk (Kd.C_below Ct.out hd);replace Cw2:=Aside0.mk (Kd.C_below Cw2.out hd);replace Cenv:=Aside0.mk (Kd.C_below Cenv.out hd);replace Cp:=Aside0.mk (Kd.C_below Cp.out hd);replace CO:=Aside0.mk (Kd.C_below CO.out hd);replace Ca:=Aside0.mk (Kd.C_below Ca.out hd);replace Cb2:=Aside0.mk (Kd.C_below Cb2.out hd);replace Cc:=Aside0.mk (Kd.C_below Cc.out hd);replace Ce:=Aside0.mk (Kd.C_below Ce.out hd);replace Bs:=Aside0.mk ((hd.block _ (blk_lt Bs.out)).trans Bs.out);replace Bwd:=Aside0.mk ((hd.block _ (blk_lt Bwd.out)).trans Bwd.out);replace HB:=Aside0.mk (below_step HB.out hd);clear hd;have hcall:=impl_EvalIn.calls k Aa ca a b1 Ab2 cb2 b2 Ac cc c Ae ce e n one W15 Ca.out La.out Cb2.out Lb2.out Cc.out Lc.out Ce.out Le.out H.out.ie;refine hcall.mono ?_))
     first|rintro e W16 rfl hd|rintro e W16 ⟨rfl,hd⟩
     replace hd:Below W15.heap.size W15 W16:=by first|exact hd|exact hd.below
     clear hcall
     (try clear bc_s_0)
     (try clear bc_wd_0)
     (try clear bc_wd_1)
     (try clear bc_a_0)
     (try clear bc_b_0)
     (try clear bc_b_1)
     replace Cl0:=Aside0.mk (Kd.C_below Cl0.out hd)
     replace Cl1:=Aside0.mk (Kd.C_below Cl1.out hd)
     replace Cs:=Aside0.mk (Kd.C_below Cs.out hd)
     replace Csub:=Aside0.mk (Kd.C_below Csub.out hd)
     replace Ct:=Aside0.mk (Kd.C_below Ct.out hd)
     replace Cw2:=Aside0.mk (Kd.C_below Cw2.out hd)
     replace Cenv:=Aside0.mk (Kd.C_below Cenv.out hd)
     replace Cp:=Aside0.mk (Kd.C_below Cp.out hd)
     replace CO:=Aside0.mk (Kd.C_below CO.out hd)
     replace Ca:=Aside0.mk (Kd.C_below Ca.out hd)
     replace Cb2:=Aside0.mk (Kd.C_below Cb2.out hd)
     replace Cc:=Aside0.mk (Kd.C_below Cc.out hd)
     replace Ce:=Aside0.mk (Kd.C_below Ce.out hd)
     replace Bs:=Aside0.mk ((hd.block _ (blk_lt Bs.out)).trans Bs.out)
     replace Bwd:=Aside0.mk ((hd.block _ (blk_lt Bwd.out)).trans Bwd.out)
     replace Ba:=Aside0.mk ((hd.block _ (blk_lt Ba.out)).trans Ba.out)
     replace Bb:=Aside0.mk ((hd.block _ (blk_lt Bb.out)).trans Bb.out)
     replace HB:=Aside0.mk (below_step HB.out hd)
     clear hd
     (try clear bc_s_0)
     have bc_s_0:W16.cell? ⟨gs,0,none⟩ = some (.slice As s.length cs):=(blk_cell Bs.out 0).trans rfl
     (try clear bc_wd_0)
     have bc_wd_0:W16.cell? ⟨gwd,0,none⟩ = some (.int .i64 w1):=(blk_cell Bwd.out 0).trans rfl
     (try clear bc_wd_1)
     have bc_wd_1:W16.cell? ⟨gwd,1,none⟩ = some (.slice Aw2 w2.length cw2):=(blk_cell Bwd.out 1).trans rfl
     (try clear bc_a_0)
     have bc_a_0:W16.cell? ⟨ga,0,none⟩ = some (.slice Aa a.length ca):=(blk_cell Ba.out 0).trans rfl
     (try clear bc_b_0)
     have bc_b_0:W16.cell? ⟨gb,0,none⟩ = some (.int .i64 b1):=(blk_cell Bb.out 0).trans rfl
     (try clear bc_b_1)
     have bc_b_1:W16.cell? ⟨gb,1,none⟩ = some (.slice Ab2 b2.length cb2):=(blk_cell Bb.out 1).trans rfl
     have hcall:=spec_EvalIn.calls k Aa ca a b1 Ab2 cb2 b2 Ac cc c Ae ce e n one W16 Ca.out La.out Cb2.out Lb2.out Cc.out Lc.out Ce.out Le.out H.out.se
     go_wp2_with (go_at_call 12;refine hcall.mono ?_)
     first|rintro e W17 rfl hd|rintro e W17 ⟨rfl,hd⟩
     replace hd:Below W16.heap.size W16 W17:=by first|exact hd|exact hd.below
     clear hcall
     (try clear bc_s_0)
     (try clear bc_wd_0)
     (try clear bc_wd_1)
     (try clear bc_a_0)
     (try clear bc_b_0)
     (try clear bc_b_1)
     replace Cl0:=Aside0.mk (Kd.C_below Cl0.out hd)
     replace Cl1:=Aside0.mk (Kd.C_below Cl1.out hd)
     replace Cs:=Aside0.mk (Kd.C_below Cs.out hd)
     replace Csub:=Aside0.mk (Kd.C_below Csub.out hd)
     replace Ct:=Aside0.mk (Kd.C_below Ct.out hd)
     replace Cw2:=Aside0.mk (Kd.C_below Cw2.out hd)
     replace Cenv:=Aside0.mk (Kd.C_below Cenv.out hd)
     replace Cp:=Aside0.mk (Kd.C_below Cp.out hd)
     replace CO:=Aside0.mk (Kd.C_below CO.out hd)
     replace Ca:=Aside0.mk (Kd.C_below Ca.out hd)
     replace Cb2:=Aside0.mk (Kd.C_below Cb2.out hd)
     replace Cc:=Aside0.mk (Kd.C_below Cc.out hd)
     replace Ce:=Aside0.mk (Kd.C_below Ce.out hd)
     replace Bs:=Aside0.mk ((hd.block _ (blk_lt Bs.out)).trans Bs.out)
     replace Bwd:=Aside0.mk ((hd.block _ (blk_lt Bwd.out)).trans Bwd.out)
     replace Ba:=Aside0.mk ((hd.block _ (blk_lt Ba.out)).trans Ba.out)
     replace Bb:=Aside0.mk ((hd.block _ (blk_lt Bb.out)).trans Bb.out)
     replace HB:=Aside0.mk (below_step HB.out hd)
     clear hd
     (try clear bc_s_0)
     have bc_s_0:W17.cell? ⟨gs,0,none⟩ = some (.slice As s.length cs):=(blk_cell Bs.out 0).trans rfl
     (try clear bc_wd_0)
     have bc_wd_0:W17.cell? ⟨gwd,0,none⟩ = some (.int .i64 w1):=(blk_cell Bwd.out 0).trans rfl
     (try clear bc_wd_1)
     have bc_wd_1:W17.cell? ⟨gwd,1,none⟩ = some (.slice Aw2 w2.length cw2):=(blk_cell Bwd.out 1).trans rfl
     (try clear bc_a_0)
     have bc_a_0:W17.cell? ⟨ga,0,none⟩ = some (.slice Aa a.length ca):=(blk_cell Ba.out 0).trans rfl
     (try clear bc_b_0)
     have bc_b_0:W17.cell? ⟨gb,0,none⟩ = some (.int .i64 b1):=(blk_cell Bb.out 0).trans rfl
     (try clear bc_b_1)
     have bc_b_1:W17.cell? ⟨gb,1,none⟩ = some (.slice Ab2 b2.length cb2):=(blk_cell Bb.out 1).trans rfl
     have hcall:=spec_DrawHoldsAt.calls k A1 c1 l1 d f1 f2 g h W17 Cl1.out Ll1.out H.out.draw3
     go_wp2_with (go_at_call 13;refine hcall.mono ?_)
     first|rintro e W18 v0 v1 v2 v3 rfl f0 f1 f2 f3 hd|rintro e W18 ⟨v0,v1,v2,v3,rfl,f0,f1,f2,f3,hd⟩
     replace hd:Below W17.heap.size W17 W18:=by first|exact hd|exact hd.below
     clear hcall
     (try clear bc_s_0)
     (try clear bc_wd_0)
     (try clear bc_wd_1)
     (try clear bc_a_0)
     (try clear bc_b_0)
     (try clear bc_b_1)
     obtain ⟨Ad,cd,rfl⟩:=Kd.R_slice f0
     have Cd:=Aside0.mk (Kd.R_reads' f0).2.2
     have Ld:=Aside0.mk (Kd.R_reads' f0).2.1
     obtain ⟨Af2,cf2,rfl⟩:=Kd.N_slice f1
     have Cf2:=Aside0.mk (Kd.N_reads' f1).2.2
     have Lf2:=Aside0.mk (Kd.N_reads' f1).2.1
     obtain ⟨Ag,cg,rfl⟩:=Kd.N_slice f2
     have Cg:=Aside0.mk (Kd.N_reads' f2).2.2
     have Lg:=Aside0.mk (Kd.N_reads' f2).2.1
     obtain ⟨Ah,ch,rfl⟩:=Kd.R_slice f3
     have Ch:=Aside0.mk (Kd.R_reads' f3).2.2
     have Lh:=Aside0.mk (Kd.R_reads' f3).2.1
     replace Cl0:=Aside0.mk (Kd.C_below Cl0.out hd)
     replace Cl1:=Aside0.mk (Kd.C_below Cl1.out hd)
     replace Cs:=Aside0.mk (Kd.C_below Cs.out hd)
     replace Csub:=Aside0.mk (Kd.C_below Csub.out hd)
     replace Ct:=Aside0.mk (Kd.C_below Ct.out hd)
     replace Cw2:=Aside0.mk (Kd.C_below Cw2.out hd)
     replace Cenv:=Aside0.mk (Kd.C_below Cenv.out hd)
     replace Cp:=Aside0.mk (Kd.C_below Cp.out hd)
     replace CO:=Aside0.mk (Kd.C_below CO.out hd)
     replace Ca:=Aside0.mk (Kd.C_below Ca.out hd)
     replace Cb2:=Aside0.mk (Kd.C_below Cb2.out hd)
     replace Cc:=Aside0.mk (Kd.C_below Cc.out hd)
     replace Ce:=Aside0.mk (Kd.C_below Ce.out hd)
     replace Bs:=Aside0.mk ((hd.block _ (blk_lt Bs.out)).trans Bs.out)
     replace Bwd:=Aside0.mk ((hd.block _ (blk_lt Bwd.out)).trans Bwd.out)
     replace Ba:=Aside0.mk ((hd.block _ (blk_lt Ba.out)).trans Ba.out)
     replace Bb:=Aside0.mk ((hd.block _ (blk_lt Bb.out)).trans Bb.out)
     replace HB:=Aside0.mk (below_step HB.out hd)
     clear f0 f1 f2 f3
     clear hd
     go_wp2_with (first|((with_reducible refine gate_dst (N:=29) rfl ?_);refine box_event ?hg (N:=29) ?hd (cs:=#[.slice none 0 0]) (t:=26) ?hr ?_;(case hd=>rfl);(case hg=>rfl);(case hr=>exact Yd);intro gd hg_d W19 hx_d hb_d;have hz_d_0:W19.cell? ⟨gd,0,none⟩ = some (.slice none 0 0):=(blk_cell hx_d 0).trans rfl;have hy_d_0:=blk_frozen hx_d 0;replace hg_d:=Aside0.mk hg_d)|((with_reducible refine gate_dst (N:=30) rfl ?_);refine box_event ?hg (N:=30) ?hd (cs:=#[.int .i64 0,.slice none 0 0]) (t:=31) ?hr ?_;(case hd=>rfl);(case hg=>rfl);(case hr=>exact Yd);intro gf hg_f W20 hx_f hb_f;have hz_f_0:W20.cell? ⟨gf,0,none⟩ = some (.int .i64 0):=(blk_cell hx_f 0).trans rfl;have hy_f_0:=blk_frozen hx_f 0;have hz_f_1:W20.cell? ⟨gf,1,none⟩ = some (.slice none 0 0):=(blk_cell hx_f 1).trans rfl;have hy_f_1:=blk_frozen hx_f 1;replace hg_f:=Aside0.mk hg_f;have hx2_d:=(hb_f.block _ (blk_lt hx_d)).trans hx_d;have hne_:gd ≠ gf:=(by rw [hg_f.out];exact Nat.ne_of_lt (blk_lt hx_d));have hnf_:gf ≠ gd:=fun q_=>hne_ q_.symm;have hz2_d_0:W20.cell? ⟨gd,0,none⟩ = some (.slice none 0 0):=(blk_cell hx2_d 0).trans rfl;have hy2_d_0:=blk_frozen hx2_d 0)|(go_at_call 14;have hd:Below W18.heap.size W18 W20:=(below_step hb_d hb_f);have hga:W18.heap.size ≤ gd:=Nat.le_of_eq hg_d.out.symm;have hgb:W18.heap.size ≤ gf:=(by rw [hg_f.out];exact hb_d.size);replace hd:=hd.setCell (hga) (.slice Ad d.length cd) (p:=⟨gd,0,none⟩);replace hx2_d:=blk_put (cs':=#[.slice Ad d.length cd]) hx2_d 0 (.slice Ad d.length cd) rfl;replace hx_f:=blk_far hx_f (p:=⟨gd,0,none⟩) hnf_ (.slice Ad d.length cd);replace hd:=hd.setCell (hgb) (.int .i64 f1) (p:=⟨gf,0,none⟩);replace hx2_d:=blk_far hx2_d (p:=⟨gf,0,none⟩) hne_ (.int .i64 f1);replace hx_f:=blk_put (cs':=#[.int .i64 f1,.slice none 0 0]) hx_f 0 (.int .i64 f1) rfl;replace hd:=hd.setCell (hgb) (.slice Af2 f2.length cf2) (p:=⟨gf,1,none⟩);replace hx2_d:=blk_far hx2_d (p:=⟨gf,1,none⟩) hne_ (.slice Af2 f2.length cf2);replace hx_f:=blk_put (cs':=#[.int .i64 f1,.slice Af2 f2.length cf2]) hx_f 1 (.slice Af2 f2.length cf2) rfl;have Bd:=Aside0.mk hx2_d;have Bf:=Aside0.mk hx_f;clear hg_d hb_d hx_d hg_f hb_f hx_f hz_d_0 hy_d_0 hz_f_0 hy_f_0 hz_f_1 hy_f_1 hx2_d hne_ hnf_ hgb hz2_d_0 hy2_d_0 hga;generalize (((W20.setCell ⟨gd,0,none⟩ (.slice Ad d.length cd)).setCell ⟨gf,0,none⟩ (.int .i64 f1)).setCell ⟨gf,1,none⟩ (.slice Af2 f2.length cf2)) = W21 at hd Bd Bf ⊢;(try clear bc_s_0);(try clear bc_wd_0);(try clear bc_wd_1);(try clear bc_a_0);(try clear bc_b_0);(try clear bc_b_1);replace Cl0:=Aside0.mk (Kd.C_below Cl0.out hd);replace Cl1:=Aside0.mk (Kd.C_below Cl1.out hd);replace Cs:=Aside0.mk (Kd.C_below Cs.out hd);replace Csub:=Aside0.mk (Kd.C_below Csub.out hd);replace Ct:=Aside0.mk (Kd.C_below Ct.out hd);replace Cw2:=Aside0.mk (Kd.C_below Cw2.out hd);replace Cenv:=Aside0.mk (Kd.C_below Cenv.out hd);replace Cp:=Aside0.mk (Kd.C_below Cp.out hd);replace CO:=Aside0.mk (Kd.C_below CO.out hd);replace Ca:=Aside0.mk (Kd.C_below Ca.out hd);replace Cb2:=Aside0.mk (Kd.C_below Cb2.out hd);replace Cc:=Aside0.mk (Kd.C_below Cc.out hd);replace Ce:=Aside0.mk (Kd.C_below Ce.out hd);replace Cd:=Aside0.mk (Kd.C_below Cd.out hd);replace Cf2:=Aside0.mk (Kd.C_below Cf2.out hd);replace Cg:=Aside0.mk (Kd.C_below Cg.out hd);replace Ch:=Aside0.mk (Kd.C_below Ch.out hd);replace Bs:=Aside0.mk ((hd.block _ (blk_lt Bs.out)).trans Bs.out);replace Bwd:=Aside0.mk ((hd.block _ (blk_lt Bwd.out)).trans Bwd.out);replace Ba:=Aside0.mk ((hd.block _ (blk_lt Ba.out)).trans Ba.out);replace Bb:=Aside0.mk ((hd.block _ (blk_lt Bb.out)).trans Bb.out);replace HB:=Aside0.mk (below_step HB.out hd);clear hd;have hcall:=impl_HoldsAt.calls k Ad cd d f1 Af2 cf2 f2 Ag cg g Ah ch h is three W21 Cd.out Ld.out Cf2.out Lf2.out Cg.out Lg.out Ch.out Lh.out H.out.ih;refine hcall.mono ?_))
     first|rintro e W22 rfl hd|rintro e W22 ⟨rfl,hd⟩
     replace hd:Below W21.heap.size W21 W22:=by first|exact hd|exact hd.below
     clear hcall
     (try clear bc_s_0)
     (try clear bc_wd_0)
     (try clear bc_wd_1)
     (try clear bc_a_0)
     (try clear bc_b_0)
     (try clear bc_b_1)
     (try clear bc_d_0)
     (try clear bc_f_0)
     (try clear bc_f_1)
     replace Cl0:=Aside0.mk (Kd.C_below Cl0.out hd)
     replace Cl1:=Aside0.mk (Kd.C_below Cl1.out hd)
     replace Cs:=Aside0.mk (Kd.C_below Cs.out hd)
     replace Csub:=Aside0.mk (Kd.C_below Csub.out hd)
     replace Ct:=Aside0.mk (Kd.C_below Ct.out hd)
     replace Cw2:=Aside0.mk (Kd.C_below Cw2.out hd)
     replace Cenv:=Aside0.mk (Kd.C_below Cenv.out hd)
     replace Cp:=Aside0.mk (Kd.C_below Cp.out hd)
     replace CO:=Aside0.mk (Kd.C_below CO.out hd)
     replace Ca:=Aside0.mk (Kd.C_below Ca.out hd)
     replace Cb2:=Aside0.mk (Kd.C_below Cb2.out hd)
     replace Cc:=Aside0.mk (Kd.C_below Cc.out hd)
     replace Ce:=Aside0.mk (Kd.C_below Ce.out hd)
     replace Cd:=Aside0.mk (Kd.C_below Cd.out hd)
     replace Cf2:=Aside0.mk (Kd.C_below Cf2.out hd)
     replace Cg:=Aside0.mk (Kd.C_below Cg.out hd)
     replace Ch:=Aside0.mk (Kd.C_below Ch.out hd)
     replace Bs:=Aside0.mk ((hd.block _ (blk_lt Bs.out)).trans Bs.out)
     replace Bwd:=Aside0.mk ((hd.block _ (blk_lt Bwd.out)).trans Bwd.out)
     replace Ba:=Aside0.mk ((hd.block _ (blk_lt Ba.out)).trans Ba.out)
     replace Bb:=Aside0.mk ((hd.block _ (blk_lt Bb.out)).trans Bb.out)
     replace Bd:=Aside0.mk ((hd.block _ (blk_lt Bd.out)).trans Bd.out)
     replace Bf:=Aside0.mk ((hd.block _ (blk_lt Bf.out)).trans Bf.out)
     replace HB:=Aside0.mk (below_step HB.out hd)
     clear hd
     (try clear bc_s_0)
     have bc_s_0:W22.cell? ⟨gs,0,none⟩ = some (.slice As s.length cs):=(blk_cell Bs.out 0).trans rfl
     (try clear bc_wd_0)
     have bc_wd_0:W22.cell? ⟨gwd,0,none⟩ = some (.int .i64 w1):=(blk_cell Bwd.out 0).trans rfl
     (try clear bc_wd_1)
     have bc_wd_1:W22.cell? ⟨gwd,1,none⟩ = some (.slice Aw2 w2.length cw2):=(blk_cell Bwd.out 1).trans rfl
     (try clear bc_a_0)
     have bc_a_0:W22.cell? ⟨ga,0,none⟩ = some (.slice Aa a.length ca):=(blk_cell Ba.out 0).trans rfl
     (try clear bc_b_0)
     have bc_b_0:W22.cell? ⟨gb,0,none⟩ = some (.int .i64 b1):=(blk_cell Bb.out 0).trans rfl
     (try clear bc_b_1)
     have bc_b_1:W22.cell? ⟨gb,1,none⟩ = some (.slice Ab2 b2.length cb2):=(blk_cell Bb.out 1).trans rfl
     (try clear bc_d_0)
     have bc_d_0:W22.cell? ⟨gd,0,none⟩ = some (.slice Ad d.length cd):=(blk_cell Bd.out 0).trans rfl
     (try clear bc_f_0)
     have bc_f_0:W22.cell? ⟨gf,0,none⟩ = some (.int .i64 f1):=(blk_cell Bf.out 0).trans rfl
     (try clear bc_f_1)
     have bc_f_1:W22.cell? ⟨gf,1,none⟩ = some (.slice Af2 f2.length cf2):=(blk_cell Bf.out 1).trans rfl
     have hcall:=spec_HoldsAt.calls k Ad cd d f1 Af2 cf2 f2 Ag cg g Ah ch h is three W22 Cd.out Ld.out Cf2.out Lf2.out Cg.out Lg.out Ch.out Lh.out H.out.sh
     go_wp2_with (go_at_call 15;refine hcall.mono ?_)
     first|rintro e W23 rfl hd|rintro e W23 ⟨rfl,hd⟩
     replace hd:Below W22.heap.size W22 W23:=by first|exact hd|exact hd.below
     clear hcall
     (try clear bc_s_0)
     (try clear bc_wd_0)
     (try clear bc_wd_1)
     (try clear bc_a_0)
     (try clear bc_b_0)
     (try clear bc_b_1)
     (try clear bc_d_0)
     (try clear bc_f_0)
     (try clear bc_f_1)
     replace Cl0:=Aside0.mk (Kd.C_below Cl0.out hd)
     replace Cl1:=Aside0.mk (Kd.C_below Cl1.out hd)
     replace Cs:=Aside0.mk (Kd.C_below Cs.out hd)
     replace Csub:=Aside0.mk (Kd.C_below Csub.out hd)
     replace Ct:=Aside0.mk (Kd.C_below Ct.out hd)
     replace Cw2:=Aside0.mk (Kd.C_below Cw2.out hd)
     replace Cenv:=Aside0.mk (Kd.C_below Cenv.out hd)
     replace Cp:=Aside0.mk (Kd.C_below Cp.out hd)
     replace CO:=Aside0.mk (Kd.C_below CO.out hd)
     replace Ca:=Aside0.mk (Kd.C_below Ca.out hd)
     replace Cb2:=Aside0.mk (Kd.C_below Cb2.out hd)
     replace Cc:=Aside0.mk (Kd.C_below Cc.out hd)
     replace Ce:=Aside0.mk (Kd.C_below Ce.out hd)
     replace Cd:=Aside0.mk (Kd.C_below Cd.out hd)
     replace Cf2:=Aside0.mk (Kd.C_below Cf2.out hd)
     replace Cg:=Aside0.mk (Kd.C_below Cg.out hd)
     replace Ch:=Aside0.mk (Kd.C_below Ch.out hd)
     replace Bs:=Aside0.mk ((hd.block _ (blk_lt Bs.out)).trans Bs.out)
     replace Bwd:=Aside0.mk ((hd.block _ (blk_lt Bwd.out)).trans Bwd.out)
     replace Ba:=Aside0.mk ((hd.block _ (blk_lt Ba.out)).trans Ba.out)
     replace Bb:=Aside0.mk ((hd.block _ (blk_lt Bb.out)).trans Bb.out)
     replace Bd:=Aside0.mk ((hd.block _ (blk_lt Bd.out)).trans Bd.out)
     replace Bf:=Aside0.mk ((hd.block _ (blk_lt Bf.out)).trans Bf.out)
     replace HB:=Aside0.mk (below_step HB.out hd)
     clear hd
     (try clear bc_s_0)
     have bc_s_0:W23.cell? ⟨gs,0,none⟩ = some (.slice As s.length cs):=(blk_cell Bs.out 0).trans rfl
     (try clear bc_wd_0)
     have bc_wd_0:W23.cell? ⟨gwd,0,none⟩ = some (.int .i64 w1):=(blk_cell Bwd.out 0).trans rfl
     (try clear bc_wd_1)
     have bc_wd_1:W23.cell? ⟨gwd,1,none⟩ = some (.slice Aw2 w2.length cw2):=(blk_cell Bwd.out 1).trans rfl
     (try clear bc_a_0)
     have bc_a_0:W23.cell? ⟨ga,0,none⟩ = some (.slice Aa a.length ca):=(blk_cell Ba.out 0).trans rfl
     (try clear bc_b_0)
     have bc_b_0:W23.cell? ⟨gb,0,none⟩ = some (.int .i64 b1):=(blk_cell Bb.out 0).trans rfl
     (try clear bc_b_1)
     have bc_b_1:W23.cell? ⟨gb,1,none⟩ = some (.slice Ab2 b2.length cb2):=(blk_cell Bb.out 1).trans rfl
     (try clear bc_d_0)
     have bc_d_0:W23.cell? ⟨gd,0,none⟩ = some (.slice Ad d.length cd):=(blk_cell Bd.out 0).trans rfl
     (try clear bc_f_0)
     have bc_f_0:W23.cell? ⟨gf,0,none⟩ = some (.int .i64 f1):=(blk_cell Bf.out 0).trans rfl
     (try clear bc_f_1)
     have bc_f_1:W23.cell? ⟨gf,1,none⟩ = some (.slice Af2 f2.length cf2):=(blk_cell Bf.out 1).trans rfl
     go_wp2
     refine start_ (n:=28) (S:=fun w'=>w'.cell? ⟨ga,0,none⟩ = some (.slice Aa a.length ca) ∧ w'.cell? ⟨gb,0,none⟩ = some (.int .i64 b1) ∧ w'.cell? ⟨gb,1,none⟩ = some (.slice Ab2 b2.length cb2)) (ds:=[]) #[false,false,false,false,false,false,false,false,false,false,false,false,false,false,false,false,false,false,false,false,false,false,false,false,false,false,false,false] (by kernel_rfl) rfl rfl ⟨bc_a_0,bc_b_0,bc_b_1⟩ (fun hHeld=>?_)
     have hd:Below W23.heap.size W23 W23.drew:=below_drew1 (Below.refl _ _)
     (try clear bc_s_0)
     (try clear bc_wd_0)
     (try clear bc_wd_1)
     (try clear bc_a_0)
     (try clear bc_b_0)
     (try clear bc_b_1)
     (try clear bc_d_0)
     (try clear bc_f_0)
     (try clear bc_f_1)
     generalize W23.drew = W24 at hd hHeld ⊢
     replace Cl0:=Aside0.mk (Kd.C_below Cl0.out hd)
     replace Cl1:=Aside0.mk (Kd.C_below Cl1.out hd)
     replace Cs:=Aside0.mk (Kd.C_below Cs.out hd)
     replace Csub:=Aside0.mk (Kd.C_below Csub.out hd)
     replace Ct:=Aside0.mk (Kd.C_below Ct.out hd)
     replace Cw2:=Aside0.mk (Kd.C_below Cw2.out hd)
     replace Cenv:=Aside0.mk (Kd.C_below Cenv.out hd)
     replace Cp:=Aside0.mk (Kd.C_below Cp.out hd)
     replace CO:=Aside0.mk (Kd.C_below CO.out hd)
     replace Ca:=Aside0.mk (Kd.C_below Ca.out hd)
     replace Cb2:=Aside0.mk (Kd.C_below Cb2.out hd)
     replace Cc:=Aside0.mk (Kd.C_below Cc.out hd)
     replace Ce:=Aside0.mk (Kd.C_below Ce.out hd)
     replace Cd:=Aside0.mk (Kd.C_below Cd.out hd)
     replace Cf2:=Aside0.mk (Kd.C_below Cf2.out hd)
     replace Cg:=Aside0.mk (Kd.C_below Cg.out hd)
     replace Ch:=Aside0.mk (Kd.C_below Ch.out hd)
     replace Bs:=Aside0.mk ((hd.block _ (blk_lt Bs.out)).trans Bs.out)
     replace Bwd:=Aside0.mk ((hd.block _ (blk_lt Bwd.out)).trans Bwd.out)
     replace Ba:=Aside0.mk ((hd.block _ (blk_lt Ba.out)).trans Ba.out)
     replace Bb:=Aside0.mk ((hd.block _ (blk_lt Bb.out)).trans Bb.out)
     replace Bd:=Aside0.mk ((hd.block _ (blk_lt Bd.out)).trans Bd.out)
     replace Bf:=Aside0.mk ((hd.block _ (blk_lt Bf.out)).trans Bf.out)
     replace HB:=Aside0.mk (below_step HB.out hd)
     clear hd
     refine pU (i:=0) (N:=some 161) #[true,false,false,false,false,false,false,false,false,false,false,false,false,false,false,false,false,false,false,false,false,false,false,false,false,false,false,false] (by kernel_rfl) ?_
     refine pU (i:=1) (N:=some 162) #[true,true,false,false,false,false,false,false,false,false,false,false,false,false,false,false,false,false,false,false,false,false,false,false,false,false,false,false] (by kernel_rfl) ?_
     refine pU (i:=2) (N:=some 163) #[true,true,true,false,false,false,false,false,false,false,false,false,false,false,false,false,false,false,false,false,false,false,false,false,false,false,false,false] (by kernel_rfl) ?_
     refine pU (i:=3) (N:=some 164) #[true,true,true,true,false,false,false,false,false,false,false,false,false,false,false,false,false,false,false,false,false,false,false,false,false,false,false,false] (by kernel_rfl) ?_
     refine pU (i:=4) (N:=some 165) #[true,true,true,true,true,false,false,false,false,false,false,false,false,false,false,false,false,false,false,false,false,false,false,false,false,false,false,false] (by kernel_rfl) ?_
     refine pU (i:=5) (N:=some 166) #[true,true,true,true,true,true,false,false,false,false,false,false,false,false,false,false,false,false,false,false,false,false,false,false,false,false,false,false] (by kernel_rfl) ?_
     refine pU (i:=6) (N:=some 167) #[true,true,true,true,true,true,true,false,false,false,false,false,false,false,false,false,false,false,false,false,false,false,false,false,false,false,false,false] (by kernel_rfl) ?_
     refine pU (i:=7) (N:=some 168) #[true,true,true,true,true,true,true,true,false,false,false,false,false,false,false,false,false,false,false,false,false,false,false,false,false,false,false,false] (by kernel_rfl) ?_
     refine pU (i:=8) (N:=some 169) #[true,true,true,true,true,true,true,true,true,false,false,false,false,false,false,false,false,false,false,false,false,false,false,false,false,false,false,false] (by kernel_rfl) ?_
     refine pU (i:=9) (N:=some 170) #[true,true,true,true,true,true,true,true,true,true,false,false,false,false,false,false,false,false,false,false,false,false,false,false,false,false,false,false] (by kernel_rfl) ?_
     refine pU (i:=10) (N:=some 171) #[true,true,true,true,true,true,true,true,true,true,true,false,false,false,false,false,false,false,false,false,false,false,false,false,false,false,false,false] (by kernel_rfl) ?_
     refine pU (i:=11) (N:=some 172) #[true,true,true,true,true,true,true,true,true,true,true,true,false,false,false,false,false,false,false,false,false,false,false,false,false,false,false,false] (by kernel_rfl) ?_
     refine pU (i:=12) (N:=some 173) #[true,true,true,true,true,true,true,true,true,true,true,true,true,false,false,false,false,false,false,false,false,false,false,false,false,false,false,false] (by kernel_rfl) ?_
     refine pU (i:=13) (N:=some 174) #[true,true,true,true,true,true,true,true,true,true,true,true,true,true,false,false,false,false,false,false,false,false,false,false,false,false,false,false] (by kernel_rfl) ?_
     refine pU (i:=14) (N:=some 175) #[true,true,true,true,true,true,true,true,true,true,true,true,true,true,true,false,false,false,false,false,false,false,false,false,false,false,false,false] (by kernel_rfl) ?_
     refine pU (i:=15) (N:=some 176) #[true,true,true,true,true,true,true,true,true,true,true,true,true,true,true,true,false,false,false,false,false,false,false,false,false,false,false,false] (by kernel_rfl) ?_
     refine pU (i:=16) (N:=some 177) #[true,true,true,true,true,true,true,true,true,true,true,true,true,true,true,true,true,false,false,false,false,false,false,false,false,false,false,false] (by kernel_rfl) ?_
     refine pU (i:=17) (N:=some 178) #[true,true,true,true,true,true,true,true,true,true,true,true,true,true,true,true,true,true,false,false,false,false,false,false,false,false,false,false] (by kernel_rfl) ?_
     refine pU (i:=18) (N:=some 179) #[true,true,true,true,true,true,true,true,true,true,true,true,true,true,true,true,true,true,true,false,false,false,false,false,false,false,false,false] (by kernel_rfl) ?_
     refine tK3 (i:=19) (N:=some 180) #[true,true,true,true,true,true,true,true,true,true,true,true,true,true,true,true,true,true,true,true,false,false,false,false,false,false,false,false] (by kernel_rfl) hHeld ?_
     refine tK3 (i:=20) (N:=some 181) #[true,true,true,true,true,true,true,true,true,true,true,true,true,true,true,true,true,true,true,true,true,false,false,false,false,false,false,false] (by kernel_rfl) hHeld ?_
     refine tK3 (i:=22) (N:=some 183) #[true,true,true,true,true,true,true,true,true,true,true,true,true,true,true,true,true,true,true,true,true,false,true,false,false,false,false,false] (by kernel_rfl) hHeld ?_
     refine tK3 (i:=23) (N:=some 184) #[true,true,true,true,true,true,true,true,true,true,true,true,true,true,true,true,true,true,true,true,true,false,true,true,false,false,false,false] (by kernel_rfl) hHeld ?_
     refine one_ (i:=21) (N:=(some 182)) #[true,true,true,true,true,true,true,true,true,true,true,true,true,true,true,true,true,true,true,true,true,true,true,true,false,false,false,false] rfl rfl (by kernel_rfl) (by decide) (fun K hK=>?_)
     refine goes_ Try.func16 (by kernel_rfl) rfl #[.agg #[.slice Aa a.length ca],.agg #[.int .i64 b1,.slice Ab2 b2.length cb2]] (by rfl) rfl rfl YG ?_
     refine (impl_GoodWorld.calls k Aa ca a b1 Ab2 cb2 b2 gw W24 Ca.out La.out Cb2.out Lb2.out H.out.ig).mono ?_
     rintro e W25 ⟨rfl,hd⟩
     refine ⟨_,rfl,?_⟩
     replace Cl0:=Aside0.mk (Kd.C_below Cl0.out hd)
     replace Cl1:=Aside0.mk (Kd.C_below Cl1.out hd)
     replace Cs:=Aside0.mk (Kd.C_below Cs.out hd)
     replace Csub:=Aside0.mk (Kd.C_below Csub.out hd)
     replace Ct:=Aside0.mk (Kd.C_below Ct.out hd)
     replace Cw2:=Aside0.mk (Kd.C_below Cw2.out hd)
     replace Cenv:=Aside0.mk (Kd.C_below Cenv.out hd)
     replace Cp:=Aside0.mk (Kd.C_below Cp.out hd)
     replace CO:=Aside0.mk (Kd.C_below CO.out hd)
     replace Ca:=Aside0.mk (Kd.C_below Ca.out hd)
     replace Cb2:=Aside0.mk (Kd.C_below Cb2.out hd)
     replace Cc:=Aside0.mk (Kd.C_below Cc.out hd)
     replace Ce:=Aside0.mk (Kd.C_below Ce.out hd)
     replace Cd:=Aside0.mk (Kd.C_below Cd.out hd)
     replace Cf2:=Aside0.mk (Kd.C_below Cf2.out hd)
     replace Cg:=Aside0.mk (Kd.C_below Cg.out hd)
     replace Ch:=Aside0.mk (Kd.C_below Ch.out hd)
     replace Bs:=Aside0.mk ((hd.block _ (blk_lt Bs.out)).trans Bs.out)
     replace Bwd:=Aside0.mk ((hd.block _ (blk_lt Bwd.out)).trans Bwd.out)
     replace Ba:=Aside0.mk ((hd.block _ (blk_lt Ba.out)).trans Ba.out)
     replace Bb:=Aside0.mk ((hd.block _ (blk_lt Bb.out)).trans Bb.out)
     replace Bd:=Aside0.mk ((hd.block _ (blk_lt Bd.out)).trans Bd.out)
     replace Bf:=Aside0.mk ((hd.block _ (blk_lt Bf.out)).trans Bf.out)
     replace HB:=Aside0.mk (below_step HB.out hd)
     clear hd hHeld
     refine hK.out _ _ ⟨(blk_cell Ba.out 0).trans rfl,(blk_cell Bb.out 0).trans rfl,(blk_cell Bb.out 1).trans rfl⟩ (fun hHeld=>?_)
     clear hK K
     refine nM (N:=some 182) ?_
     refine one_ (i:=24) (N:=(some 185)) #[true,true,true,true,true,true,true,true,true,true,true,true,true,true,true,true,true,true,true,true,true,true,true,true,true,false,false,false] rfl rfl (by kernel_rfl) (by decide) (fun K hK=>?_)
     refine goes_ Try.func17 (by kernel_rfl) rfl #[.agg #[.slice Aa a.length ca],.agg #[.int .i64 b1,.slice Ab2 b2.length cb2]] (by rfl) rfl rfl YG ?_
     refine (spec_GoodWorld.calls k Aa ca a b1 Ab2 cb2 b2 gw W25 Ca.out La.out Cb2.out Lb2.out H.out.sg).mono ?_
     rintro e W26 ⟨rfl,hd⟩
     refine ⟨_,rfl,?_⟩
     replace Cl0:=Aside0.mk (Kd.C_below Cl0.out hd)
     replace Cl1:=Aside0.mk (Kd.C_below Cl1.out hd)
     replace Cs:=Aside0.mk (Kd.C_below Cs.out hd)
     replace Csub:=Aside0.mk (Kd.C_below Csub.out hd)
     replace Ct:=Aside0.mk (Kd.C_below Ct.out hd)
     replace Cw2:=Aside0.mk (Kd.C_below Cw2.out hd)
     replace Cenv:=Aside0.mk (Kd.C_below Cenv.out hd)
     replace Cp:=Aside0.mk (Kd.C_below Cp.out hd)
     replace CO:=Aside0.mk (Kd.C_below CO.out hd)
     replace Ca:=Aside0.mk (Kd.C_below Ca.out hd)
     replace Cb2:=Aside0.mk (Kd.C_below Cb2.out hd)
     replace Cc:=Aside0.mk (Kd.C_below Cc.out hd)
     replace Ce:=Aside0.mk (Kd.C_below Ce.out hd)
     replace Cd:=Aside0.mk (Kd.C_below Cd.out hd)
     replace Cf2:=Aside0.mk (Kd.C_below Cf2.out hd)
     replace Cg:=Aside0.mk (Kd.C_below Cg.out hd)
     replace Ch:=Aside0.mk (Kd.C_below Ch.out hd)
     replace Bs:=Aside0.mk ((hd.block _ (blk_lt Bs.out)).trans Bs.out)
     replace Bwd:=Aside0.mk ((hd.block _ (blk_lt Bwd.out)).trans Bwd.out)
     replace Ba:=Aside0.mk ((hd.block _ (blk_lt Ba.out)).trans Ba.out)
     replace Bb:=Aside0.mk ((hd.block _ (blk_lt Bb.out)).trans Bb.out)
     replace Bd:=Aside0.mk ((hd.block _ (blk_lt Bd.out)).trans Bd.out)
     replace Bf:=Aside0.mk ((hd.block _ (blk_lt Bf.out)).trans Bf.out)
     replace HB:=Aside0.mk (below_step HB.out hd)
     clear hd hHeld
     refine hK.out _ _ ⟨(blk_cell Ba.out 0).trans rfl,(blk_cell Bb.out 0).trans rfl,(blk_cell Bb.out 1).trans rfl⟩ (fun hHeld=>?_)
     clear hK K
     refine nM (N:=some 185) ?_
     refine pU (i:=25) (N:=some 186) #[true,true,true,true,true,true,true,true,true,true,true,true,true,true,true,true,true,true,true,true,true,true,true,true,true,true,false,false] (by kernel_rfl) ?_
     refine pU (i:=26) (N:=some 187) #[true,true,true,true,true,true,true,true,true,true,true,true,true,true,true,true,true,true,true,true,true,true,true,true,true,true,true,false] (by kernel_rfl) ?_
     refine pU (i:=27) (N:=some 4) #[true,true,true,true,true,true,true,true,true,true,true,true,true,true,true,true,true,true,true,true,true,true,true,true,true,true,true,true] (by kernel_rfl) ?_
     refine done_ (by kernel_rfl) ?_
     go_wp2
     go_ret
     exact ⟨by simp,HB.out⟩

/-- THE ONE PURE STATEMENT of laws_FnPutFor. -/
def laws_FnPutFor.Pure:Prop:=∀ (l0 l1:List Int),l0.length ≤ maxLen → l0.length * 1 ≤ 140737488351232 → (∀ x ∈ l0,(Lit.int .u8 x).wf = true) → l1.length ≤ maxLen → l1.length * 1 ≤ 140737488351232 → (∀ x ∈ l1,(Lit.int .u8 x).wf = true) → ∃ (k:Nat) (bg:Bool),laws_big.f l0 l1 = some bg ∧ (bg = false → laws_FnPutFor.Facts k l0 l1)
theorem laws_FnPutFor.walk (P:laws_FnPutFor.Pure) (a0:Option Addr) (len0 cap0:Nat) (z0:List Int) (a1:Option Addr) (len1 cap1:Nat) (z1:List Int) (w:World) (w0:(a0 = none ∧ len0 = 0 ∧ cap0 = 0 ∧ z0 = []) ∨ ∃ x,a0 = some x ∧ len0 ≤ cap0 ∧ cap0 ≤ maxLen ∧ z0.length = cap0 ∧ (∀ i,i < z0.length → w.cell? (x.add i) = some (.int .u8 (z0.getD i 0))) ∧ ∀ n ∈ z0,(Lit.int .u8 n).wf = true) (y0:len0 * 1 ≤ 140737488351232) (w1:(a1 = none ∧ len1 = 0 ∧ cap1 = 0 ∧ z1 = []) ∨ ∃ x,a1 = some x ∧ len1 ≤ cap1 ∧ cap1 ≤ maxLen ∧ z1.length = cap1 ∧ (∀ i,i < z1.length → w.cell? (x.add i) = some (.int .u8 (z1.getD i 0))) ∧ ∀ n ∈ z1,(Lit.int .u8 n).wf = true) (y1:len1 * 1 ≤ 140737488351232) :
  Calls Try.prog 3 #[.slice a0 len0 cap0,.slice a1 len1 cap1] w fun e w'=>e = .returned (.bool true) ∧ Below w.heap.size w w':=by
 obtain ⟨l0,rfl,hr0,hm0,hw0,hc0⟩:=ReadsInt.ofRowC w0
 obtain ⟨l1,rfl,hr1,hm1,hw1,hc1⟩:=ReadsInt.ofRowC w1
 obtain ⟨k,bg,hb,h⟩:=P l0 l1 hm0 y0 hw0 hm1 y1 hw1
 exact laws_FnPutFor.walked k a0 cap0 l0 a1 cap1 l1 w (Kd.C_of_reads (d:=(0:Int)) (h1:=fun _=>rfl) hr0) hc0 (Kd.C_of_reads (d:=(0:Int)) (h1:=fun _=>rfl) hr1) hc1 bg hb h

end Go.Proofs.Ytmgkflkfoccgkaa.QFnPutFor
