-- Written by this session's own program (wip/x/xprint.py, over the kit's printer); Lean checks it.
import Derived.Test.YtmgkflkfoccgkaaZFnTidied
import Derived.Test.YtmgkflkfoccgkaaProg
import Derived.Below
import Derived.Deep.Draws
import Derived.Deep.AppendLies
import Derived.Maps.AppendAt
import Derived.OwnWalk
import Derived.Laws.BytesArg
import Derived.Laws.MakeOwn
import Derived.Laws.OwnMore
import Derived.Deep.OwnRows
import Derived.Tactics
import Derived.Lib.ConvBytes
import Derived.Laws.Slices
import Derived.WalkKit
import Derived.KernelRfl
import Derived.RowKit3
import Derived.Deep.LoopGhost
import Derived.Deep.QuietTactic
import Derived.BigQuiet
import Derived.WideLaws
import Derived.Deep.DeepCutAuto
import Derived.Deep.CutBlock
import Derived.Deep.RegionHeld3
import Derived.Laws.Rows
import Derived.Lib.AppendStr
import Derived.ArgAppend
import Derived.Laws.IdiomCopy
import Derived.OrdersHeld
import Derived.Laws.BitsLemmas
import Derived.RowKit
import Derived.Shelf.Abstract
import Derived.Maps.OwnSet
import Derived.Maps.OwnOps
import Derived.Maps.Views
import Derived.BigCall
import Derived.Shelf.Slices.Clone
import Derived.Shelf.Lay
import Derived.Ground.Names2Prog
import Derived.Ground.NamesProg
import Derived.Lib.Agree
import Derived.KernelRfl
namespace Go.Proofs.Ytmgkflkfoccgkaa.QFnTidied
open Go.RowKit Go.Proofs.YtmgkflkfoccgkaaW.PrintWords Go.Proofs.YtmgkflkfoccgkaaW.PrintLast Go.Proofs.YtmgkflkfoccgkaaW.PrintMore
attribute [local go_sem] max2_int min2_int max_two min_two max_three min_three max_four min_four   -- for this text's walks alone
set_option linter.unusedVariables false
set_option linter.unusedSimpArgs false



def errW:Option Int → Value
  | none=>.nilIface
  | some c=>.iface 0 (.int .i64 c)
theorem errW_none:errW none = .nilIface:=rfl
theorem errW_some (c:Int):errW (some c) = .iface 0 (.int .i64 c):=rfl

theorem info3:(Try.prog.info? 3).map (fun i=>(i.zero,i.size,i.bytes)) = some (some (.int .i64 0),1,8):=by kernel_rfl
theorem info24:(Try.prog.info? 24).map (fun i=>(i.zero,i.size,i.bytes)) = some (some (.slice none 0 0),1,24):=by kernel_rfl
theorem info83:(Try.prog.info? 83).map (fun i=>(i.zero,i.size,i.bytes)) = some (some (.agg #[(.bool false),(.slice none 0 0),(.slice none 0 0)]),3,56):=by kernel_rfl
-- the values' own types
def rd_L2 (xs:List (List Int)) (i:Int):(List Int):=xs.getD i.toNat ([]:List Int)
theorem at_L2 {w:World} {A:Option Addr} {n:Nat} {xs:List (List Int)} (h:Kd.C (Kd.slice 3 (Kd.int .i64)) w A n xs) (i:Int) (h0:0 ≤ i) (h1:i < n):∃ ad A0 c0,A = some ad ∧ w.cell? (ad.add i.toNat) = some (.slice A0 (rd_L2 xs i).length c0) ∧ (rd_L2 xs i).length ≤ c0 ∧ (Kd.int .i64).C w A0 (rd_L2 xs i).length (rd_L2 xs i):=by
  obtain ⟨ad,c,e,_,hK,hc0⟩:=Kd.C_get h ([]:List Int) i h0 h1
  have hc:∀ j u,c[j]? = some u → w.cell? (ad.add (i.toNat * 1 + j)) = some u:=hc0
  obtain ⟨A0,c0,rfl,l0,g0⟩:=hK
  exact ⟨ad,A0,c0,e,by have hq:=hc 0 _ rfl;rwa [Nat.mul_one,Nat.add_zero] at hq,l0,g0⟩

/-! #### struct type 83 -/
structure S83 where
  f0:Bool
  f1:(List Int)
  f2:(List Int)
def z83:S83:=⟨false,([]:List Int),([]:List Int)⟩
def k83:Kd S83:=Kd.iso (Kd.pair Kd.bool (Kd.pair (Kd.slice 3 (Kd.int .i64)) (Kd.slice 3 (Kd.int .i64)))) (fun x:S83=>(x.f0,x.f1,x.f2))
theorem k83_open {w:World} {x:S83} {cs:List Value} (h:k83.K w x cs):∃ A1 c1 A2 c2,cs = [.bool x.f0,.slice A1 x.f1.length c1,.slice A2 x.f2.length c2] ∧ x.f1.length ≤ c1 ∧ (Kd.int .i64).C w A1 x.f1.length x.f1 ∧ x.f2.length ≤ c2 ∧ (Kd.int .i64).C w A2 x.f2.length x.f2:=by
  obtain ⟨_,_,rfl,rfl,⟨_,_,rfl,⟨A1,c1,rfl,l1,g1⟩,⟨A2,c2,rfl,l2,g2⟩⟩⟩:=h
  exact ⟨A1,c1,A2,c2,rfl,l1,g1,l2,g2⟩
theorem k83_openM {w:World} {base:Nat} {ok:Nat → Prop} {x:S83} {cs:List Value} (h:k83.M w base ok x cs):∃ v1 v2,cs = [.bool x.f0,v1,v2] ∧ (Kd.int .i64).R 3 w base ok v1 x.f1 ∧ (Kd.int .i64).R 3 w base ok v2 x.f2:=by
  obtain ⟨_,_,rfl,rfl,⟨_,_,rfl,⟨v1,rfl,g1⟩,⟨v2,rfl,g2⟩⟩⟩:=h
  exact ⟨v1,v2,rfl,g1,g2⟩
theorem k83_mk (w:World) (x:S83) {A1:Option Addr} {c1:Nat} (l1:x.f1.length ≤ c1) (g1:(Kd.int .i64).C w A1 x.f1.length x.f1) {A2:Option Addr} {c2:Nat} (l2:x.f2.length ≤ c2) (g2:(Kd.int .i64).C w A2 x.f2.length x.f2):k83.K w x [.bool x.f0,.slice A1 x.f1.length c1,.slice A2 x.f2.length c2]:=⟨[.bool x.f0],[.slice A1 x.f1.length c1,.slice A2 x.f2.length c2],rfl,rfl,⟨[.slice A1 x.f1.length c1],[.slice A2 x.f2.length c2],rfl,⟨A1,c1,rfl,l1,g1⟩,⟨A2,c2,rfl,l2,g2⟩⟩⟩
theorem k83_mkM (w:World) (base:Nat) (ok:Nat → Prop) (x:S83) {v1:Value} (g1:(Kd.int .i64).R 3 w base ok v1 x.f1) {v2:Value} (g2:(Kd.int .i64).R 3 w base ok v2 x.f2):k83.M w base ok x [.bool x.f0,v1,v2]:=⟨[.bool x.f0],[v1,v2],rfl,rfl,⟨[v1],[v2],rfl,⟨v1,rfl,g1⟩,⟨v2,rfl,g2⟩⟩⟩
theorem k83_openF {W:World} {ok:Nat → Prop} {x:S83} {cs:List Value} (h:Kd.FK k83 W ok x cs):∃ A1 c1 A2 c2,cs = [.bool x.f0,.slice A1 x.f1.length c1,.slice A2 x.f2.length c2] ∧ x.f1.length ≤ c1 ∧ Kd.F (Kd.int .i64) W ok A1 x.f1.length x.f1 ∧ x.f2.length ≤ c2 ∧ Kd.F (Kd.int .i64) W ok A2 x.f2.length x.f2:=by
  obtain ⟨A1,c1,A2,c2,rfl,l1,_,l2,_⟩:=k83_open (Kd.FK_now h)
  exact ⟨A1,c1,A2,c2,rfl,l1,(fun W' hW=>by obtain ⟨A1_,c1_,A2_,c2_,he,l1_,g1_,l2_,g2_⟩:=k83_open (h W' hW);injection (Option.some.inj (show some (Value.slice A1 x.f1.length c1) = some (Value.slice A1_ x.f1.length c1_) from congrArg (fun l=>l[1]?) he)) with ha_ _ _;rw [ha_];exact g1_),l2,(fun W' hW=>by obtain ⟨A1_,c1_,A2_,c2_,he,l1_,g1_,l2_,g2_⟩:=k83_open (h W' hW);injection (Option.some.inj (show some (Value.slice A2 x.f2.length c2) = some (Value.slice A2_ x.f2.length c2_) from congrArg (fun l=>l[2]?) he)) with ha_ _ _;rw [ha_];exact g2_)⟩
theorem k83_mkF (W:World) (ok:Nat → Prop) (x:S83) {A1:Option Addr} {c1:Nat} (l1:x.f1.length ≤ c1) (g1:Kd.F (Kd.int .i64) W ok A1 x.f1.length x.f1) {A2:Option Addr} {c2:Nat} (l2:x.f2.length ≤ c2) (g2:Kd.F (Kd.int .i64) W ok A2 x.f2.length x.f2):Kd.FK k83 W ok x [.bool x.f0,.slice A1 x.f1.length c1,.slice A2 x.f2.length c2]:=fun W2 hW=>k83_mk W2 x l1 (g1 W2 hW) l2 (g2 W2 hW)
def rd_T83 (xs:List S83) (i:Int):S83:=xs.getD i.toNat z83
theorem at_T83 {w:World} {A:Option Addr} {n:Nat} {xs:List S83} (h:Kd.C k83 w A n xs) (i:Int) (h0:0 ≤ i) (h1:i < n):∃ ad A1 c1 A2 c2,A = some ad ∧ w.cell? (ad.add (i.toNat * 3)) = some (.bool (rd_T83 xs i).f0) ∧ w.cell? ⟨(ad.add (i.toNat * 3)).block,(ad.add (i.toNat * 3)).off + 1,none⟩ = some (.slice A1 (rd_T83 xs i).f1.length c1) ∧ w.cell? ⟨(ad.add (i.toNat * 3)).block,(ad.add (i.toNat * 3)).off + 2,none⟩ = some (.slice A2 (rd_T83 xs i).f2.length c2) ∧ (rd_T83 xs i).f1.length ≤ c1 ∧ (Kd.int .i64).C w A1 (rd_T83 xs i).f1.length (rd_T83 xs i).f1 ∧ (rd_T83 xs i).f2.length ≤ c2 ∧ (Kd.int .i64).C w A2 (rd_T83 xs i).f2.length (rd_T83 xs i).f2:=by
  obtain ⟨ad,c,e,_,hK,hc0⟩:=Kd.C_get h z83 i h0 h1
  have hc:∀ j u,c[j]? = some u → w.cell? (ad.add (i.toNat * 3 + j)) = some u:=hc0
  obtain ⟨A1,c1,A2,c2,rfl,l1,g1,l2,g2⟩:=k83_open hK
  exact ⟨ad,A1,c1,A2,c2,e,hc 0 _ rfl,by rw [← add_field _ _ 1 (by omega)];exact hc 1 _ rfl,by rw [← add_field _ _ 2 (by omega)];exact hc 2 _ rfl,l1,g1,l2,g2⟩

def rd_L5 (xs:List (List S83)) (i:Int):(List S83):=xs.getD i.toNat ([]:List S83)
theorem at_L5 {w:World} {A:Option Addr} {n:Nat} {xs:List (List S83)} (h:Kd.C (Kd.slice 83 k83) w A n xs) (i:Int) (h0:0 ≤ i) (h1:i < n):∃ ad A0 c0,A = some ad ∧ w.cell? (ad.add i.toNat) = some (.slice A0 (rd_L5 xs i).length c0) ∧ (rd_L5 xs i).length ≤ c0 ∧ k83.C w A0 (rd_L5 xs i).length (rd_L5 xs i):=by
  obtain ⟨ad,c,e,_,hK,hc0⟩:=Kd.C_get h ([]:List S83) i h0 h1
  have hc:∀ j u,c[j]? = some u → w.cell? (ad.add (i.toNat * 1 + j)) = some u:=hc0
  obtain ⟨A0,c0,rfl,l0,g0⟩:=hK
  exact ⟨ad,A0,c0,e,by have hq:=hc 0 _ rfl;rwa [Nat.mul_one,Nat.add_zero] at hq,l0,g0⟩

def rd_L6 (xs:List (List (List Int))) (i:Int):(List (List Int)):=xs.getD i.toNat ([]:List (List Int))
theorem at_L6 {w:World} {A:Option Addr} {n:Nat} {xs:List (List (List Int))} (h:Kd.C (Kd.slice 24 (Kd.slice 3 (Kd.int .i64))) w A n xs) (i:Int) (h0:0 ≤ i) (h1:i < n):∃ ad A0 c0,A = some ad ∧ w.cell? (ad.add i.toNat) = some (.slice A0 (rd_L6 xs i).length c0) ∧ (rd_L6 xs i).length ≤ c0 ∧ (Kd.slice 3 (Kd.int .i64)).C w A0 (rd_L6 xs i).length (rd_L6 xs i):=by
  obtain ⟨ad,c,e,_,hK,hc0⟩:=Kd.C_get h ([]:List (List Int)) i h0 h1
  have hc:∀ j u,c[j]? = some u → w.cell? (ad.add (i.toNat * 1 + j)) = some u:=hc0
  obtain ⟨A0,c0,rfl,l0,g0⟩:=hK
  exact ⟨ad,A0,c0,e,by have hq:=hc 0 _ rfl;rwa [Nat.mul_one,Nat.add_zero] at hq,l0,g0⟩

/-! ### steps that the texts below take again and again -/
theorem bH {p:Prop} (h:p:=by repeat (first|(with_reducible first|exact HB.out|apply below_alloc|apply pw_below_drewN|apply below_drew1|refine below_set ?_ (Aside0.out (by assumption))|refine below_set ?_ (IsS60.ge (Aside0.out (by assumption))))|exact HB.out)):p:=h
theorem kB {p:Prop} (h:p:=by repeat (first|(with_reducible first|exact HK.out|apply KeepBut.set_|apply keep_drewN|apply keep_drew|apply keep_alloc|refine keep_far ?_ (show w.heap.size ≤ _ from Aside0.out (by assumption)) _)|exact HK.out)):p:=h
theorem iIsS60 {p:Prop} (h:p:=by repeat (first|(with_reducible first|exact HI0.out|apply IsS60.alloc|apply IsS60.drewN|apply IsS60.drew|apply IsS60.set_1|apply IsS60.set_2|refine IsS60.far ?_ (Aside0.out (by assumption)) _)|exact HI0.out)):p:=h
theorem kH {p:Prop} (h:p:=by repeat (first|(with_reducible first|exact HK.out|apply Kept.alloc|apply Kept.drewN|apply Kept.drew)|exact HK.out)):p:=h
theorem bB {w w1:World} {g:Nat} {o:Obj} (B:Aside0 (w.heap[g]? = some o)) (h:w.heap[g]? = some o→w1.heap[g]? = some o:=by intro h;(with_reducible repeat (first|refine blk_drewN ?_ _|refine blk_drew ?_|refine blk_alloc ?_ _));exact h):w1.heap[g]? = some o:=h B.out
theorem rR {q p:Prop} (H:Aside0 q) (h:q→p:=by intro h;(with_reducible repeat (first|apply Kd.R_alloc|apply Kd.R_drewN|apply Kd.R_drew));exact h):p:=h H.out
theorem rS {q p:Prop} (H:Aside0 q) (h:q→p:=by intro h;(with_reducible repeat (first|apply Kd.S_alloc|apply Kd.S_drewN|apply Kd.S_drew));exact h):p:=h H.out
theorem rN {q p:Prop} (H:Aside0 q) (h:q→p:=by intro h;(with_reducible repeat (first|apply Kd.N_alloc|apply Kd.N_drewN|apply Kd.N_drew));exact h):p:=h H.out
theorem rV {q p:Prop} (H:Aside0 q) (h:q→p:=by intro h;(with_reducible repeat (first|apply Kd.V_alloc|apply Kd.V_drewN|apply Kd.V_drew));exact h):p:=h H.out
theorem sC {q p:Prop} (H:Aside0 q) (h:q→p:=by intro h;repeat (first|exact (Kd.C_below h HB.out)|(with_reducible refine Kd.C_alloc ?_ _)|(with_reducible refine Kd.C_drewN ?_ _)|(with_reducible refine Kd.C_drew ?_))):p:=h H.out
theorem pU {P:Program} {ops:Array Oper} {Q:Exit → Act → World → Prop} {md:Region.Mode} {S:World → Prop} {ds:List Nat} {i:Nat} {N:Option Tmp} {oi:Oper} {v:Value} {fuel:Nat} {l:Array Bool} {a a':Act} {w:World} (l':Array Bool) (hc:anyB md ops l l' i = true) (h:wpAnyLast P md ops Q S ds fuel l' a' w) (hi:ops[i]? = some oi:=by exact rfl) (hN:oi.dst = N:=by exact rfl) (hw:Region.wanted oi (yielded ops a.tmps) = true:=by rfl) (hv:∀ w,(execOp a.eval oi).run P w = .ok (.value v) w:=by intro w';go_simp;with_reducible rfl) (hQ:∀ c a w,Q (.panic c) (a.put oi.dst v) w → Q (.panic c) a w:=by exact (fun _ _ _ h=>h)) (ha:a.put N v = a':=by simp only [Act.put,List.setIfInBounds_toArray,List.set_cons_zero,List.set_cons_succ,i64_w,i32_w];rfl):wpAnyLast P md ops Q S ds (fuel + 1) l a w:=pure_ l' hi hN hc hQ (Or.inl ⟨hw,hv⟩) ha h
theorem tK1 {P:Program} {ops:Array Oper} {Q:Exit → Act → World → Prop} {md:Region.Mode} {S:World → Prop} {ds:List Nat} {i:Nat} {N:Option Tmp} {oi:Oper} {v:Value} {fuel:Nat} {l:Array Bool} {a a':Act} {w:World} (l':Array Bool) (hc:takeB md ops ds l l' i = true) (hS:S w) (h:wpAnyLast P md ops Q S ds fuel l' a' w) (hi:ops[i]? = some oi:=by exact rfl) (hN:oi.dst = N:=by exact rfl) (hw:Region.wanted oi (yielded ops a.tmps) = true:=by rfl) (hv:∀ w,S w → (execOp a.eval oi).run P w = .ok (.value v) w:=by intro w' s0;go_simp;with_reducible rfl) (hQ:∀ c a w,Q (.panic c) (a.put oi.dst v) w → Q (.panic c) a w:=by exact (fun _ _ _ h=>h)) (ha:a.put N v = a':=by simp only [Act.put,List.setIfInBounds_toArray,List.set_cons_zero,List.set_cons_succ,i64_w,i32_w];rfl):wpAnyLast P md ops Q S ds (fuel + 1) l a w:=take_ l' hi hN hc hQ (Or.inl ⟨hw,hv⟩) hS ha h
theorem tK2 {P:Program} {ops:Array Oper} {Q:Exit → Act → World → Prop} {md:Region.Mode} {S:World → Prop} {ds:List Nat} {i:Nat} {N:Option Tmp} {oi:Oper} {v:Value} {fuel:Nat} {l:Array Bool} {a a':Act} {w:World} (l':Array Bool) (hc:takeB md ops ds l l' i = true) (hS:S w) (h:wpAnyLast P md ops Q S ds fuel l' a' w) (hi:ops[i]? = some oi:=by exact rfl) (hN:oi.dst = N:=by exact rfl) (hw:Region.wanted oi (yielded ops a.tmps) = true:=by rfl) (hv:∀ w,S w → (execOp a.eval oi).run P w = .ok (.value v) w:=by intro w' ⟨s0,s1⟩;go_simp;with_reducible rfl) (hQ:∀ c a w,Q (.panic c) (a.put oi.dst v) w → Q (.panic c) a w:=by exact (fun _ _ _ h=>h)) (ha:a.put N v = a':=by simp only [Act.put,List.setIfInBounds_toArray,List.set_cons_zero,List.set_cons_succ,i64_w,i32_w];rfl):wpAnyLast P md ops Q S ds (fuel + 1) l a w:=take_ l' hi hN hc hQ (Or.inl ⟨hw,hv⟩) hS ha h
theorem tK3 {P:Program} {ops:Array Oper} {Q:Exit → Act → World → Prop} {md:Region.Mode} {S:World → Prop} {ds:List Nat} {i:Nat} {N:Option Tmp} {oi:Oper} {v:Value} {fuel:Nat} {l:Array Bool} {a a':Act} {w:World} (l':Array Bool) (hc:takeB md ops ds l l' i = true) (hS:S w) (h:wpAnyLast P md ops Q S ds fuel l' a' w) (hi:ops[i]? = some oi:=by exact rfl) (hN:oi.dst = N:=by exact rfl) (hw:Region.wanted oi (yielded ops a.tmps) = true:=by rfl) (hv:∀ w,S w → (execOp a.eval oi).run P w = .ok (.value v) w:=by intro w' ⟨s0,s1,s2⟩;go_simp;with_reducible rfl) (hQ:∀ c a w,Q (.panic c) (a.put oi.dst v) w → Q (.panic c) a w:=by exact (fun _ _ _ h=>h)) (ha:a.put N v = a':=by simp only [Act.put,List.setIfInBounds_toArray,List.set_cons_zero,List.set_cons_succ,i64_w,i32_w];rfl):wpAnyLast P md ops Q S ds (fuel + 1) l a w:=take_ l' hi hN hc hQ (Or.inl ⟨hw,hv⟩) hS ha h
theorem nM {P:Program} {ops:Array Oper} {Q:Exit → Act → World → Prop} {md:Region.Mode} {S:World → Prop} {ds:List Nat} {fuel:Nat} {l:Array Bool} {a a' b:Act} {w:World} {v:Value} {N:Option Tmp} (h:wpAnyLast P md ops Q S ds fuel l a' w) (h0:a = Act.put b N v:=by exact rfl) (ha:Act.put b N v = a':=by simp only [Act.put,List.setIfInBounds_toArray,List.set_cons_zero,List.set_cons_succ,i64_w,i32_w];rfl):wpAnyLast P md ops Q S ds fuel l a w:=norm_ (h0.trans ha) h
theorem hZ {p:Prop} (h:p:=by rw [hg];exact (below_size bH)):p:=h
theorem nL {q p:Prop} (B:Aside0 q) (h:q→p:=by intro h;rw [hg];exact Nat.ne_of_lt (blk_lt (bB ⟨h⟩))):p:=h B.out
theorem nG {q p:Prop} (B:Aside0 q) (h:q→p:=by intro h;rw [hg];exact Nat.ne_of_gt (blk_lt (bB ⟨h⟩))):p:=h B.out
theorem oD {p:Prop} [Decidable p] (h:decide p = true:=by first|(with_reducible assumption)|assumption):p:=of_decide_eq_true h
theorem mO {p:Prop} (h:p:=by repeat' first|(with_reducible first|apply ih0|apply ih1|apply ih2|apply ih3|apply m0|apply m1|apply m2|apply m3|apply m4|apply m5|apply m6|apply m7|apply m8|apply m9|apply m10|apply m11|apply m12|apply m13|apply m14|apply m15|exact LeO.refl _|exact LeO.none _|refine LeO.ite ?_ ?_|refine LeO.bind ?_ (fun _=>?_))|apply ih0|apply ih1|apply ih2|apply ih3|apply m0|apply m1|apply m2|apply m3|apply m4|apply m5|apply m6|apply m7|apply m8|apply m9|apply m10|apply m11|apply m12|apply m13|apply m14|apply m15|exact LeO.none _|refine LeO.ite ?_ ?_|refine LeO.bind ?_ (fun _=>?_)):p:=h
theorem Ya {p:Prop} (h:p:=by (try simp only [List.map_toArray,List.map_cons,List.map_nil]);first|done|rfl|(simp only [List.length_drop,List.length_take];rfl)):p:=h
theorem Yb {p:Prop} (h:p:=by first|rfl|(simp [errW_none,errW_some] <;> rfl)|(simp [*,errW_none,errW_some] <;> rfl)):p:=h
theorem Yc {p:Prop} (h:p:=by first|(go_simp;done)|(go_simp;rfl)):p:=h
theorem Yd {p:Prop} (h:p:=by first|rfl|(simp;done)|(simp [*];done)):p:=h
theorem Ye {p:Prop} (h:p:=by first|(simp only [putAll,Act.put,List.setIfInBounds_toArray,List.set_cons_zero,List.set_cons_succ];done)|(simp only [putAll,Act.put,List.setIfInBounds_toArray,List.set_cons_zero,List.set_cons_succ];rfl)):p:=h
theorem Yf {p:Prop} (h:p:=by (with_reducible repeat (first|refine blk_drewN ?_ _|refine blk_drew ?_|refine blk_alloc ?_ _));refine blk_put (cs:=#[.bool false,.slice A455_1 ((rd_T83 l0 x7_1).f1).length c455_1,.slice none 0 0]) ?_ 2 _ rfl;(with_reducible repeat (first|refine blk_drewN ?_ _|refine blk_drew ?_|refine blk_alloc ?_ _));refine blk_put (cs:=#[.bool false,.slice none 0 0,.slice none 0 0]) ?_ 1 _ rfl;(with_reducible repeat (first|refine blk_drewN ?_ _|refine blk_drew ?_|refine blk_alloc ?_ _));refine blk_put (cs:=#[.bool false,.slice none 0 0,.slice none 0 0]) ?_ 0 _ rfl;(with_reducible repeat (first|refine blk_drewN ?_ _|refine blk_drew ?_|refine blk_alloc ?_ _));exact BK456.out):p:=h
theorem Yg {p:Prop} (h:p:=by (with_reducible repeat (first|refine blk_drewN ?_ _|refine blk_drew ?_|refine blk_alloc ?_ _));refine blk_put (cs:=#[.bool true,.slice A455_1 ((rd_T83 l0 x7_1).f1).length c455_1,.slice none 0 0]) ?_ 2 _ rfl;(with_reducible repeat (first|refine blk_drewN ?_ _|refine blk_drew ?_|refine blk_alloc ?_ _));refine blk_put (cs:=#[.bool true,.slice none 0 0,.slice none 0 0]) ?_ 1 _ rfl;(with_reducible repeat (first|refine blk_drewN ?_ _|refine blk_drew ?_|refine blk_alloc ?_ _));refine blk_put (cs:=#[.bool false,.slice none 0 0,.slice none 0 0]) ?_ 0 _ rfl;(with_reducible repeat (first|refine blk_drewN ?_ _|refine blk_drew ?_|refine blk_alloc ?_ _));exact BK456.out):p:=h
theorem Yh {p:Prop} (h:p:=by repeat (first|exact Drawn0.refl _|apply Drawn0.step)):p:=h
theorem Yi {p:Prop} (h:p:=by first|exact Kd.R_nil _ _ _ _ _|exact Kd.N_nil _ _ _ _ _|exact Kd.V_nil _ _ _ _ _|exact Kd.Q_nil _ _ _ _ _|exact Kd.S_nil _ _ _ _ _):p:=h
theorem Yj {p:Prop} (h:p:=by exact (Reps.one (show Kd.M (Kd.int .i64) _ _ _ 0 [.int .i64 0] from rfl) (Reps.one (show Kd.M (Kd.int .i64) _ _ _ 0 [.int .i64 0] from rfl) (Reps.one (show Kd.M (Kd.int .i64) _ _ _ 0 [.int .i64 0] from rfl) (Reps.one (show Kd.M (Kd.int .i64) _ _ _ 1 [.int .i64 1] from rfl) (Reps.one (show Kd.M (Kd.int .i64) _ _ _ 1 [.int .i64 1] from rfl) (Reps.one (show Kd.M (Kd.int .i64) _ _ _ 2 [.int .i64 2] from rfl) (Reps.none _ _)))))))):p:=h
theorem Yk {p:Prop} (h:p:=by (with_reducible repeat (first|refine blk_drewN ?_ _|refine blk_drew ?_|refine blk_alloc ?_ _));exact BK267.out):p:=h
theorem Yl {p:Prop} (h:p:=by first|exact Kd.S_nil _ _ _ _ _|exact Kd.N_nil _ _ _ _ _|exact Kd.V_nil _ _ _ _ _|exact Kd.Q_nil _ _ _ _ _|exact Kd.R_nil _ _ _ _ _):p:=h
theorem Ym {p:Prop} (h:p:=by (with_reducible repeat (first|refine blk_drewN ?_ _|refine blk_drew ?_|refine blk_alloc ?_ _));refine blk_far ?_ NB464_471.out _;(with_reducible repeat (first|refine blk_drewN ?_ _|refine blk_drew ?_|refine blk_alloc ?_ _));refine blk_far ?_ NB464_471.out _;(with_reducible repeat (first|refine blk_drewN ?_ _|refine blk_drew ?_|refine blk_alloc ?_ _));refine blk_far ?_ NB464_471.out _;(with_reducible repeat (first|refine blk_drewN ?_ _|refine blk_drew ?_|refine blk_alloc ?_ _));exact BK464.out):p:=h
theorem Yn {p:Prop} (h:p:=by (with_reducible repeat (first|refine blk_drewN ?_ _|refine blk_drew ?_|refine blk_alloc ?_ _));exact BK203.out):p:=h
theorem Yo {p:Prop} (h:p:=by exact (fun k_ hk=>⟨(.inr (Nat.le_trans (by first|exact HK.out.1|exact (show Kept w _ (fun k_=>P0_ k_) from kH).1) hk)),Kd.fresh' (Kd.R_lt (rR HO_0)) k_ hk⟩)):p:=h
theorem Yp {p:Prop} (h:p:=by (with_reducible repeat (first|refine blk_drewN ?_ _|refine blk_drew ?_|refine blk_alloc ?_ _));refine blk_put (cs:=#[.slice none 0 0]) ?_ 0 _ rfl;(with_reducible repeat (first|refine blk_drewN ?_ _|refine blk_drew ?_|refine blk_alloc ?_ _));refine blk_far ?_ NB182_186.out _;(with_reducible repeat (first|refine blk_drewN ?_ _|refine blk_drew ?_|refine blk_alloc ?_ _));exact BK182.out):p:=h
theorem Yq {p:Prop} (h:p:=by (with_reducible repeat (first|refine blk_drewN ?_ _|refine blk_drew ?_|refine blk_alloc ?_ _));refine blk_put (cs:=#[.slice none 0 0]) ?_ 0 _ rfl;(with_reducible repeat (first|refine blk_drewN ?_ _|refine blk_drew ?_|refine blk_alloc ?_ _));exact BK186.out):p:=h
theorem Yr {p:Prop} (h:p:=by (with_reducible repeat (first|refine blk_drewN ?_ _|refine blk_drew ?_|refine blk_alloc ?_ _));refine blk_put (cs:=#[.int .i64 0]) ?_ 0 _ rfl;(with_reducible repeat (first|refine blk_drewN ?_ _|refine blk_drew ?_|refine blk_alloc ?_ _));exact BK490.out):p:=h
theorem Ys {p:Prop} (h:p:=by (with_reducible repeat (first|refine blk_drewN ?_ _|refine blk_drew ?_|refine blk_alloc ?_ _));refine blk_put (cs:=#[.bool ((rd_T83 y466 x27_3).f0),.slice A470_1 ((rd_T83 y466 x27_3).f1).length c470_1,.slice none 0 0]) ?_ 2 _ rfl;(with_reducible repeat (first|refine blk_drewN ?_ _|refine blk_drew ?_|refine blk_alloc ?_ _));refine blk_put (cs:=#[.bool ((rd_T83 y466 x27_3).f0),.slice none 0 0,.slice none 0 0]) ?_ 1 _ rfl;(with_reducible repeat (first|refine blk_drewN ?_ _|refine blk_drew ?_|refine blk_alloc ?_ _));refine blk_put (cs:=#[.bool false,.slice none 0 0,.slice none 0 0]) ?_ 0 _ rfl;(with_reducible repeat (first|refine blk_drewN ?_ _|refine blk_drew ?_|refine blk_alloc ?_ _));exact BK471.out):p:=h
theorem Yt {p:Prop} (h:p:=by (with_reducible repeat (first|refine blk_drewN ?_ _|refine blk_drew ?_|refine blk_alloc ?_ _));refine blk_far ?_ NB182_186.out _;(with_reducible repeat (first|refine blk_drewN ?_ _|refine blk_drew ?_|refine blk_alloc ?_ _));exact BK182.out):p:=h
theorem Yu {p:Prop} (h:p:=by (with_reducible repeat (first|refine blk_drewN ?_ _|refine blk_drew ?_|refine blk_alloc ?_ _));refine blk_put (cs:=#[.bool ((rd_T83 l1 x9_1).f0),.slice A383_1 ((rd_T83 l1 x9_1).f1).length c383_1,.slice none 0 0]) ?_ 2 _ rfl;(with_reducible repeat (first|refine blk_drewN ?_ _|refine blk_drew ?_|refine blk_alloc ?_ _));refine blk_put (cs:=#[.bool ((rd_T83 l1 x9_1).f0),.slice none 0 0,.slice none 0 0]) ?_ 1 _ rfl;(with_reducible repeat (first|refine blk_drewN ?_ _|refine blk_drew ?_|refine blk_alloc ?_ _));refine blk_put (cs:=#[.bool false,.slice none 0 0,.slice none 0 0]) ?_ 0 _ rfl;(with_reducible repeat (first|refine blk_drewN ?_ _|refine blk_drew ?_|refine blk_alloc ?_ _));exact BK384.out):p:=h
theorem Yv {p:Prop} (h:p:=by (with_reducible repeat (first|refine blk_drewN ?_ _|refine blk_drew ?_|refine blk_alloc ?_ _));refine blk_put (cs:=#[.bool (!t241),.slice Ao23 t247.length co23,.slice none 0 0]) ?_ 2 _ rfl;(with_reducible repeat (first|refine blk_drewN ?_ _|refine blk_drew ?_|refine blk_alloc ?_ _));refine blk_put (cs:=#[.bool (!t241),.slice none 0 0,.slice none 0 0]) ?_ 1 _ rfl;(with_reducible repeat (first|refine blk_drewN ?_ _|refine blk_drew ?_|refine blk_alloc ?_ _));refine blk_put (cs:=#[.bool false,.slice none 0 0,.slice none 0 0]) ?_ 0 _ rfl;(with_reducible repeat (first|refine blk_drewN ?_ _|refine blk_drew ?_|refine blk_alloc ?_ _));exact BK260.out):p:=h
theorem Yw {p:Prop} (h:p:=by exact HC0_0.out):p:=h
theorem Yx {p:Prop} (h:p:=by exact sC HR0_0):p:=h
theorem Yy {p:Prop} (h:p:=by (with_reducible repeat (first|refine blk_drewN ?_ _|refine blk_drew ?_|refine blk_alloc ?_ _));refine blk_far ?_ NB382_384.out _;(with_reducible repeat (first|refine blk_drewN ?_ _|refine blk_drew ?_|refine blk_alloc ?_ _));refine blk_far ?_ NB382_384.out _;(with_reducible repeat (first|refine blk_drewN ?_ _|refine blk_drew ?_|refine blk_alloc ?_ _));refine blk_far ?_ NB382_384.out _;(with_reducible repeat (first|refine blk_drewN ?_ _|refine blk_drew ?_|refine blk_alloc ?_ _));exact BK382.out):p:=h
theorem Yz {p:Prop} (h:p:=by (with_reducible repeat (first|refine blk_drewN ?_ _|refine blk_drew ?_|refine blk_alloc ?_ _));refine blk_far ?_ NB240_260.out _;(with_reducible repeat (first|refine blk_drewN ?_ _|refine blk_drew ?_|refine blk_alloc ?_ _));refine blk_far ?_ NB240_260.out _;(with_reducible repeat (first|refine blk_drewN ?_ _|refine blk_drew ?_|refine blk_alloc ?_ _));refine blk_far ?_ NB240_260.out _;(with_reducible repeat (first|refine blk_drewN ?_ _|refine blk_drew ?_|refine blk_alloc ?_ _));exact BK240.out):p:=h
theorem YA {p:Prop} (h:p:=by (with_reducible repeat (first|refine blk_drewN ?_ _|refine blk_drew ?_|refine blk_alloc ?_ _));refine blk_far ?_ NB239_260.out _;(with_reducible repeat (first|refine blk_drewN ?_ _|refine blk_drew ?_|refine blk_alloc ?_ _));refine blk_far ?_ NB239_260.out _;(with_reducible repeat (first|refine blk_drewN ?_ _|refine blk_drew ?_|refine blk_alloc ?_ _));refine blk_far ?_ NB239_260.out _;(with_reducible repeat (first|refine blk_drewN ?_ _|refine blk_drew ?_|refine blk_alloc ?_ _));exact BK239.out):p:=h
theorem YB {p:Prop} (h:p:=by repeat (first|(with_reducible first|exact HI330.out|apply IsS60.alloc|apply IsS60.drewN|apply IsS60.drew|apply IsS60.set_1|apply IsS60.set_2|refine IsS60.far ?_ NB330_329.out _|refine IsS60.far ?_ NB330_336.out _)|exact HI330.out)):p:=h
theorem YC {p:Prop} (h:p:=by (with_reducible repeat (first|refine blk_drewN ?_ _|refine blk_drew ?_|refine blk_alloc ?_ _));exact BK369.out):p:=h
theorem YD {p:Prop} (h:p:=by (with_reducible repeat (first|apply Kd.R_alloc|apply Kd.R_drewN|apply Kd.R_drew));exact (Kd.R_mono (Kd.R_far (p:=⟨gb260,2,none⟩) (Kd.R_far (p:=⟨gb260,1,none⟩) (Kd.R_far (p:=⟨gb260,0,none⟩) (Kd.R_types HO257.out BK260.out (by decide)) (fun _ hk=>hk.2) (.bool (!t241))) (fun _ hk=>hk.2) (.slice Ao23 t247.length co23)) (fun _ hk=>hk.2) (.slice Ao22 t255.length co22)) (fun _ h_=>h_.1))):p:=h
theorem YE {p:Prop} (h:p:=by (with_reducible repeat (first|apply Kd.R_alloc|apply Kd.R_drewN|apply Kd.R_drew));exact (Kd.R_mono (Kd.R_far (p:=⟨gb260,2,none⟩) (Kd.R_far (p:=⟨gb260,1,none⟩) (Kd.R_far (p:=⟨gb260,0,none⟩) (Kd.R_types HO249.out BK260.out (by decide)) (fun _ hk=>hk.2) (.bool (!t241))) (fun _ hk=>hk.2) (.slice Ao23 t247.length co23)) (fun _ hk=>hk.2) (.slice Ao22 t255.length co22)) (fun _ h_=>h_.1))):p:=h
theorem YF {p:Prop} (h:p:=by repeat (first|(with_reducible first|exact HI330.out|apply IsS60.alloc|apply IsS60.drewN|apply IsS60.drew|apply IsS60.set_1|apply IsS60.set_2|refine IsS60.far ?_ NB330_329.out _)|exact HI330.out)):p:=h
theorem YG {p:Prop} (h:p:=by (with_reducible repeat (first|apply Kd.R_alloc|apply Kd.R_drewN|apply Kd.R_drew));exact Kd.R_mono HO_3.out (fun _ hk=>hk.2)):p:=h
theorem YH {p:Prop} (h:p:=by have:=HK1.out;omega):p:=h
theorem YI {p:Prop} (h:p:=by (with_reducible repeat (first|refine blk_drewN ?_ _|refine blk_drew ?_|refine blk_alloc ?_ _));exact BK124.out):p:=h
theorem YJ {p:Prop} (h:p:=by (with_reducible repeat (first|refine blk_drewN ?_ _|refine blk_drew ?_|refine blk_alloc ?_ _));exact BK123.out):p:=h
theorem YK {p:Prop} (h:p:=by (with_reducible repeat (first|refine blk_drewN ?_ _|refine blk_drew ?_|refine blk_alloc ?_ _));exact BK105.out):p:=h
theorem YL {p:Prop} (h:p:=by (with_reducible repeat (first|refine blk_drewN ?_ _|refine blk_drew ?_|refine blk_alloc ?_ _));exact BK103.out):p:=h
theorem YM {p:Prop} (h:p:=by (with_reducible repeat (first|refine blk_drewN ?_ _|refine blk_drew ?_|refine blk_alloc ?_ _));exact BK102.out):p:=h
theorem YN {p:Prop} (h:p:=by rw [Ny581.out];exact Kd.C_take (m:=(x5_1:Int).toNat) ((Kd.R_reads' (Kd.R_after (ok:=(fun k_=>(P0_ k_ ∨ w.heap.size ≤ k_))) (rR HO_0) hg hat)).2.2) KL34.out):p:=h
theorem YO {p:Prop} (h:p:=by rw [Ny561.out];exact Kd.C_take (m:=(x5_1:Int).toNat) ((Kd.R_reads' (Kd.R_after (ok:=(fun k_=>(P0_ k_ ∨ w.heap.size ≤ k_))) (rR HO_0) hg hat)).2.2) KL19.out):p:=h
theorem YP {p:Prop} (h:p:=by first|decide|omega):p:=h
theorem YQ {p:Prop} (h:p:=by exact (fun k_ hk=>⟨(Nat.le_trans (keep_size (w:=w) (g:=g) (row:=none) kB) hk),Kd.freshB (bB BK267) k_ hk,IsS60.fresh iIsS60 k_ hk⟩)):p:=h
theorem YR {p:Prop} (h:p:=by exact (below_size bH)):p:=h
theorem YS {p:Prop} (h:p:=by exact (Reps.one (show Kd.M (Kd.int .i64) _ _ _ 0 [.int .i64 0] from rfl) (Reps.none _ _))):p:=h
theorem YT {p:Prop} (h:p:=by (with_reducible repeat (first|apply Kd.R_alloc|apply Kd.R_drewN|apply Kd.R_drew));exact (Kd.R_mono (Kd.R_far (p:=⟨gb490,0,none⟩) (Kd.R_mono HO_3.out (fun k_ hk=>(⟨hk,hk.2⟩:_ ∧ k_ ≠ gb490))) (fun _ hk=>hk.2) (.int .i64 x5_1)) (fun _ h_=>h_.1))):p:=h
theorem YU {p:Prop} (h:p:=by (with_reducible repeat (first|apply Kd.R_alloc|apply Kd.R_drewN|apply Kd.R_drew));exact Kd.R_mono HO_3.out (fun _ hk=>trivial)):p:=h
theorem YV {p:Prop} (h:p:=by have:=HR.out;unfold Hid;simpa using this):p:=h
theorem YW {p:Prop} (h:p:=by exact HC1_1.out):p:=h
theorem YX {p:Prop} (h:p:=by (try simp only [List.map_toArray,List.map_cons,List.map_nil]);first|done|rfl):p:=h
theorem YY {p:Prop} (h:p:=by exact sC HR1_1):p:=h
theorem YZ {p:Prop} (h:p:=by have:=HK1.out;first|omega|exact Nat.le_refl _):p:=h
theorem Za {p:Prop} (h:p:=by exact Kd.C_keep 0 HR1_0.out kB hf1_0):p:=h
theorem Zb {p:Prop} (h:p:=by have:=HAL.out;rw [List.length_append,List.length_singleton];omega):p:=h
theorem Zc {p:Prop} (h:p:=by have:=HI.out;rw [List.drop_eq_nil_of_le (by omega)] at this;simp [idxO] at this;exact this):p:=h
theorem Zd {p:Prop} (h:p:=by exact (by (with_reducible repeat (first|apply Kd.N_alloc|apply Kd.N_drewN|apply Kd.N_drew));exact Kd.N_mono HO_5.out (fun _ hk=>⟨hk.1.1.1,⟨hk.1.1.2.1,hk.1.1.2.2⟩⟩))):p:=h
theorem Ze {p:Prop} (h:p:=by exact (keep_size (w:=w) (g:=g) (row:=none) kB)):p:=h
theorem Zf {p:Prop} (h:p:=by exact Kd.C_below HR455_2.out bH):p:=h
theorem Zg {p:Prop} (h:p:=by exact Kd.C_below HR455_1.out bH):p:=h
theorem gI {c:Prop} [Decidable c] {α:Type} {a:Option α} {r:α} (H:(if c then a else none) = some r):decide c = true ∧ a = some r:=by
 by_cases h:c
 ·rw [if_pos h] at H
  exact ⟨decide_eq_true h,H⟩
 ·rw [if_neg h] at H
  cases H
theorem gJ {c:Prop} [Decidable c] {α:Type} {a:Option α} {r:α} (H:(if c then a else none) = some r):c ∧ a = some r:=⟨of_decide_eq_true (gI H).1,(gI H).2⟩
theorem gK {c:Prop} [Decidable c] {α:Type} {a:Option α} {r:α} (H:(if c then a else none) = some r):Aside0 c ∧ a = some r:=⟨⟨of_decide_eq_true (gI H).1⟩,(gI H).2⟩
theorem bI {α β:Type} {o:Option α} {f:α → Option β} {r:β} (H:o.bind f = some r):∃ a,Aside0 (o = some a) ∧ f a = some r:=by
 obtain ⟨a,h,q⟩:=Option.bind_eq_some_iff.mp H
 exact ⟨a,⟨h⟩,q⟩
theorem pT {α:Type} {a b r:α} (H:(if true = true then a else b) = r):a = r:=by rw [if_pos rfl] at H;exact H
theorem pF {α:Type} {a b r:α} (H:(if false = true then a else b) = r):b = r:=by rw [if_neg (by decide)] at H;exact H
def bs (n m:Nat):Array Bool:=((List.range n).map fun i=>m.testBit i).toArray
theorem pV {P:Program} {ops:Array Oper} {Q:Exit → Act → World → Prop} {md:Region.Mode} {S:World → Prop} {ds:List Nat} {T:Bool × List (List Nat × List Nat)} {oi:Oper} {v:Value} {fuel:Nat} {l:Array Bool} {a a':Act} {w:World} (i:Nat) (N:Option Tmp) (l':Array Bool) (HT:Aside0 (rtab md ops = T)) (h:wpAnyLast P md ops Q S ds fuel l' a' w) (hc:anyT T l.toList l'.toList i = true:=by kernel_rfl) (hi:ops[i]? = some oi:=by exact rfl) (hN:oi.dst = N:=by exact rfl) (hw:Region.wanted oi (yielded ops a.tmps) = true:=by rfl) (hv:∀ w,(execOp a.eval oi).run P w = .ok (.value v) w:=by intro w';go_simp;with_reducible rfl) (hQ:∀ c a w,Q (.panic c) (a.put oi.dst v) w → Q (.panic c) a w:=by exact (fun _ _ _ h=>h)) (ha:a.put N v = a':=by simp only [Act.put,List.setIfInBounds_toArray,List.set_cons_zero,List.set_cons_succ,i64_w,i32_w];rfl):wpAnyLast P md ops Q S ds (fuel + 1) l a w:=pure_ l' hi hN (any_of HT.out hc) hQ (Or.inl ⟨hw,hv⟩) ha h
theorem tV1 {P:Program} {ops:Array Oper} {Q:Exit → Act → World → Prop} {md:Region.Mode} {S:World → Prop} {ds:List Nat} {T:Bool × List (List Nat × List Nat)} {B:List Nat} {oi:Oper} {v:Value} {fuel:Nat} {l:Array Bool} {a a':Act} {w:World} (i:Nat) (N:Option Tmp) (l':Array Bool) (HT:Aside0 (rtab md ops = T)) (HW:Aside0 (waitsOk T.2 B = true)) (hS:S w) (h:wpAnyLast P md ops Q S ds fuel l' a' w) (hc:takeW T B ds l.toList l'.toList i = true:=by kernel_rfl) (hi:ops[i]? = some oi:=by exact rfl) (hN:oi.dst = N:=by exact rfl) (hw:Region.wanted oi (yielded ops a.tmps) = true:=by rfl) (hv:∀ w,S w → (execOp a.eval oi).run P w = .ok (.value v) w:=by rintro w' s0;go_simp;with_reducible rfl) (hQ:∀ c a w,Q (.panic c) (a.put oi.dst v) w → Q (.panic c) a w:=by exact (fun _ _ _ h=>h)) (ha:a.put N v = a':=by simp only [Act.put,List.setIfInBounds_toArray,List.set_cons_zero,List.set_cons_succ,i64_w,i32_w];rfl):wpAnyLast P md ops Q S ds (fuel + 1) l a w:=take_ l' hi hN (take_ofW HT.out HW.out hc) hQ (Or.inl ⟨hw,hv⟩) hS ha h
theorem tV3 {P:Program} {ops:Array Oper} {Q:Exit → Act → World → Prop} {md:Region.Mode} {S:World → Prop} {ds:List Nat} {T:Bool × List (List Nat × List Nat)} {B:List Nat} {oi:Oper} {v:Value} {fuel:Nat} {l:Array Bool} {a a':Act} {w:World} (i:Nat) (N:Option Tmp) (l':Array Bool) (HT:Aside0 (rtab md ops = T)) (HW:Aside0 (waitsOk T.2 B = true)) (hS:S w) (h:wpAnyLast P md ops Q S ds fuel l' a' w) (hc:takeW T B ds l.toList l'.toList i = true:=by kernel_rfl) (hi:ops[i]? = some oi:=by exact rfl) (hN:oi.dst = N:=by exact rfl) (hw:Region.wanted oi (yielded ops a.tmps) = true:=by rfl) (hv:∀ w,S w → (execOp a.eval oi).run P w = .ok (.value v) w:=by rintro w' ⟨s0,s1,s2⟩;go_simp;with_reducible rfl) (hQ:∀ c a w,Q (.panic c) (a.put oi.dst v) w → Q (.panic c) a w:=by exact (fun _ _ _ h=>h)) (ha:a.put N v = a':=by simp only [Act.put,List.setIfInBounds_toArray,List.set_cons_zero,List.set_cons_succ,i64_w,i32_w];rfl):wpAnyLast P md ops Q S ds (fuel + 1) l a w:=take_ l' hi hN (take_ofW HT.out HW.out hc) hQ (Or.inl ⟨hw,hv⟩) hS ha h
theorem tV4 {P:Program} {ops:Array Oper} {Q:Exit → Act → World → Prop} {md:Region.Mode} {S:World → Prop} {ds:List Nat} {T:Bool × List (List Nat × List Nat)} {B:List Nat} {oi:Oper} {v:Value} {fuel:Nat} {l:Array Bool} {a a':Act} {w:World} (i:Nat) (N:Option Tmp) (l':Array Bool) (HT:Aside0 (rtab md ops = T)) (HW:Aside0 (waitsOk T.2 B = true)) (hS:S w) (h:wpAnyLast P md ops Q S ds fuel l' a' w) (hc:takeW T B ds l.toList l'.toList i = true:=by kernel_rfl) (hi:ops[i]? = some oi:=by exact rfl) (hN:oi.dst = N:=by exact rfl) (hw:Region.wanted oi (yielded ops a.tmps) = true:=by rfl) (hv:∀ w,S w → (execOp a.eval oi).run P w = .ok (.value v) w:=by rintro w' ⟨s0,s1,s2,s3⟩;go_simp;with_reducible rfl) (hQ:∀ c a w,Q (.panic c) (a.put oi.dst v) w → Q (.panic c) a w:=by exact (fun _ _ _ h=>h)) (ha:a.put N v = a':=by simp only [Act.put,List.setIfInBounds_toArray,List.set_cons_zero,List.set_cons_succ,i64_w,i32_w];rfl):wpAnyLast P md ops Q S ds (fuel + 1) l a w:=take_ l' hi hN (take_ofW HT.out HW.out hc) hQ (Or.inl ⟨hw,hv⟩) hS ha h
theorem tV5 {P:Program} {ops:Array Oper} {Q:Exit → Act → World → Prop} {md:Region.Mode} {S:World → Prop} {ds:List Nat} {T:Bool × List (List Nat × List Nat)} {B:List Nat} {oi:Oper} {v:Value} {fuel:Nat} {l:Array Bool} {a a':Act} {w:World} (i:Nat) (N:Option Tmp) (l':Array Bool) (HT:Aside0 (rtab md ops = T)) (HW:Aside0 (waitsOk T.2 B = true)) (hS:S w) (h:wpAnyLast P md ops Q S ds fuel l' a' w) (hc:takeW T B ds l.toList l'.toList i = true:=by kernel_rfl) (hi:ops[i]? = some oi:=by exact rfl) (hN:oi.dst = N:=by exact rfl) (hw:Region.wanted oi (yielded ops a.tmps) = true:=by rfl) (hv:∀ w,S w → (execOp a.eval oi).run P w = .ok (.value v) w:=by rintro w' ⟨s0,s1,s2,s3,s4⟩;go_simp;with_reducible rfl) (hQ:∀ c a w,Q (.panic c) (a.put oi.dst v) w → Q (.panic c) a w:=by exact (fun _ _ _ h=>h)) (ha:a.put N v = a':=by simp only [Act.put,List.setIfInBounds_toArray,List.set_cons_zero,List.set_cons_succ,i64_w,i32_w];rfl):wpAnyLast P md ops Q S ds (fuel + 1) l a w:=take_ l' hi hN (take_ofW HT.out HW.out hc) hQ (Or.inl ⟨hw,hv⟩) hS ha h
theorem tV7 {P:Program} {ops:Array Oper} {Q:Exit → Act → World → Prop} {md:Region.Mode} {S:World → Prop} {ds:List Nat} {T:Bool × List (List Nat × List Nat)} {B:List Nat} {oi:Oper} {v:Value} {fuel:Nat} {l:Array Bool} {a a':Act} {w:World} (i:Nat) (N:Option Tmp) (l':Array Bool) (HT:Aside0 (rtab md ops = T)) (HW:Aside0 (waitsOk T.2 B = true)) (hS:S w) (h:wpAnyLast P md ops Q S ds fuel l' a' w) (hc:takeW T B ds l.toList l'.toList i = true:=by kernel_rfl) (hi:ops[i]? = some oi:=by exact rfl) (hN:oi.dst = N:=by exact rfl) (hw:Region.wanted oi (yielded ops a.tmps) = true:=by rfl) (hv:∀ w,S w → (execOp a.eval oi).run P w = .ok (.value v) w:=by rintro w' ⟨s0,s1,s2,s3,s4,s5,s6⟩;go_simp;with_reducible rfl) (hQ:∀ c a w,Q (.panic c) (a.put oi.dst v) w → Q (.panic c) a w:=by exact (fun _ _ _ h=>h)) (ha:a.put N v = a':=by simp only [Act.put,List.setIfInBounds_toArray,List.set_cons_zero,List.set_cons_succ,i64_w,i32_w];rfl):wpAnyLast P md ops Q S ds (fuel + 1) l a w:=take_ l' hi hN (take_ofW HT.out HW.out hc) hQ (Or.inl ⟨hw,hv⟩) hS ha h
theorem oN {P:Program} {ops:Array Oper} {Q:Exit → Act → World → Prop} {md:Region.Mode} {S:World → Prop} {ds:List Nat} {T:Bool × List (List Nat × List Nat)} {oi:Oper} {fuel:Nat} {l:Array Bool} {a:Act} {w:World} (i:Nat) (N:Option Tmp) (l':Array Bool) (HT:Aside0 (rtab md ops = T)) (h:∀ K:Act → World → Prop,Shut (∀ a' w',S w' → (S w' → wpAnyLast P md ops Q S ds fuel l' a' w') → K a' w') → if Region.wanted oi (yielded ops a.tmps) = true then Oper.wp P oi a w K Q else K (a.put N undef) w) (hc:(readyT T.2 l.toList == [i] && l.toList.set i true == l'.toList) = true:=by kernel_rfl) (hi:ops[i]? = some oi:=by exact rfl) (hN:oi.dst = N:=by exact rfl) (hd:i ∉ ds:=by decide):wpAnyLast P md ops Q S ds (fuel + 1) l a w:=one_ l' hi hN (one_of HT.out hc) hd h
theorem gZ (w:World) (g:Nat) (h:w.heap.size ≤ g:=by exact hZ):Aside0 (w.heap.size ≤ g):=⟨h⟩
theorem nl {q:Prop} (B:Aside0 q) (a b:Nat) (h:q → a ≠ b:=by intro h;rw [hg];exact Nat.ne_of_lt (blk_lt (bB ⟨h⟩))):Aside0 (a ≠ b):=⟨h B.out⟩
theorem nr {a b:Nat} (h:Aside0 (a ≠ b)):Aside0 (b ≠ a):=⟨fun e=>h.out e.symm⟩
theorem bb {w w1 w2:World} {g:Nat} {o:Obj} (B:Aside0 (w.heap[g]? = some o)) (hb:Below w1.heap.size w1 w2) (h:w.heap[g]? = some o → w1.heap[g]? = some o:=by intro h;(with_reducible repeat (first|refine blk_drewN ?_ _|refine blk_drew ?_|refine blk_alloc ?_ _));exact h):Aside0 (w2.heap[g]? = some o):=⟨blk_below (h B.out) hb⟩
theorem bS {w w1 w2:World} (hb:Below w1.heap.size w1 w2) (h:Below w.heap.size w w1:=by exact bH):Aside0 (Below w.heap.size w w2):=⟨below_step h hb⟩
theorem fz {w:World} {g:Nat} {t:TypeId} {cs:Array Value} (B:Aside0 (w.heap[g]? = some (.cells cs t (0,0)))) (i:Nat):w.frozen? ⟨g,i,none⟩ = false:=blk_frozen B.out i
theorem aI {w:World} {A:Option Addr} {n:Nat} {k:IntKind} {xs:List Int} (h:Kd.C (Kd.int k) w A n xs) (i:Int) (h0:0 ≤ i:=by exact oD) (h1:i < n:=by exact oD):(0 ≤ i) = True ∧ (i < n) = True ∧ ∃ ad,A = some ad ∧ w.cell? (ad.add i.toNat) = some (.int k (rd xs i)):=⟨eq_true h0,eq_true h1,Kd.at_int h i h0 h1⟩
theorem kU {w1 w2:World} {g g':Nat} {o:Obj} (hk:KeepBut w1 w2 g none) (N:Aside0 (g' ≠ g)) (h:w1.heap[g']? = some o):Aside0 (w2.heap[g']? = some o):=⟨KeepBut.blk hk h N.out (by simp)⟩
theorem kT {w1 w2:World} (w:World) (g:Nat) (hb:Below w1.heap.size w1 w2) (h:KeepBut w w1 g none:=by exact kB):Aside0 (KeepBut w w2 g none):=⟨KeepBut.trans h (KeepBut.of_below hb g none) (.inl rfl)⟩
theorem gY (w:World) (b:Nat) (h:w.heap.size ≤ b:=by rw [hg];exact (keep_size (w:=w) (g:=g) (row:=none) kB)):Aside0 (w.heap.size ≤ b):=⟨h⟩
theorem gX {a b c:Nat} (h:Aside0 (a ≤ b)) (k:Aside0 (b ≤ c)):Aside0 (a ≤ c):=⟨Nat.le_trans h.out k.out⟩
theorem rB {α:Type} {d:Kd α} {e base:Nat} {ok:Nat → Prop} {w1 w2:World} {v:Value} {xs:List α} {w:World} (H:Aside0 (d.R e w base ok v xs)) (hb:Below w1.heap.size w1 w2) (h:d.R e w base ok v xs → d.R e w1 base ok v xs:=by intro h;(with_reducible repeat (first|apply Kd.R_alloc|apply Kd.R_drewN|apply Kd.R_drew));exact h):Aside0 (d.R e w2 base ok v xs):=⟨Kd.R_below (h H.out) hb⟩
theorem qc1_0 {w:World} {g:Nat} {t:TypeId} {v0:Value} (B:Aside0 (w.heap[g]? = some (.cells #[v0] t (0,0)))):w.cell? ⟨g,0,none⟩ = some v0:=(blk_cell B.out 0).trans rfl
theorem qc2_0 {w:World} {g:Nat} {t:TypeId} {v0 v1:Value} (B:Aside0 (w.heap[g]? = some (.cells #[v0,v1] t (0,0)))):w.cell? ⟨g,0,none⟩ = some v0:=(blk_cell B.out 0).trans rfl
theorem qc2_1 {w:World} {g:Nat} {t:TypeId} {v0 v1:Value} (B:Aside0 (w.heap[g]? = some (.cells #[v0,v1] t (0,0)))):w.cell? ⟨g,1,none⟩ = some v1:=(blk_cell B.out 1).trans rfl
theorem qc3_0 {w:World} {g:Nat} {t:TypeId} {v0 v1 v2:Value} (B:Aside0 (w.heap[g]? = some (.cells #[v0,v1,v2] t (0,0)))):w.cell? ⟨g,0,none⟩ = some v0:=(blk_cell B.out 0).trans rfl
theorem qc3_1 {w:World} {g:Nat} {t:TypeId} {v0 v1 v2:Value} (B:Aside0 (w.heap[g]? = some (.cells #[v0,v1,v2] t (0,0)))):w.cell? ⟨g,1,none⟩ = some v1:=(blk_cell B.out 1).trans rfl
theorem qc3_2 {w:World} {g:Nat} {t:TypeId} {v0 v1 v2:Value} (B:Aside0 (w.heap[g]? = some (.cells #[v0,v1,v2] t (0,0)))):w.cell? ⟨g,2,none⟩ = some v2:=(blk_cell B.out 2).trans rfl
theorem qA3 {w:World} {g:Nat} {t:TypeId} {v0 v1 v2:Value} (B:Aside0 (w.heap[g]? = some (.cells #[v0,v1,v2] t (0,0)))):w.cell? ⟨g,0,none⟩ = some v0 ∧ w.cell? ⟨g,1,none⟩ = some v1 ∧ w.cell? ⟨g,2,none⟩ = some v2:=⟨(blk_cell B.out 0).trans rfl,(blk_cell B.out 1).trans rfl,(blk_cell B.out 2).trans rfl⟩
theorem xB {P:Program} {ops:Array Oper} {rest:List Oper} {o:Oper} {a:Act} {Q:Exit → Act → World → Prop} {W:World} (N:Tmp) (cs:Array Value) (t:TypeId) (h:∀ g,g = W.heap.size → ∀ w1,w1.heap[g]? = some (.cells cs t (0,0)) → Below W.heap.size W w1 → wpList P ops Q rest (a.put o.dst (.pointer (some ⟨g,0,none⟩))) w1) (hN:o.dst = some N:=by with_reducible rfl) (hg:o.guard = none:=by exact rfl) (hr:(execOp a.eval o).run P W = .ok (.value (.pointer (some ⟨W.heap.size,0,none⟩))) (W.alloc (.cells cs t (0,0))):=by first|(go_simp;done)|(go_simp;rfl)):wpList P ops Q (o :: rest) a W:=box_event hg hN hr h
theorem iN60 (g b:Nat) (h:g ≠ b:=by rw [hg];exact Nat.ne_of_lt (IsS60.lt iIsS60)):Aside0 (g ≠ b):=⟨h⟩
end Go.Proofs.Ytmgkflkfoccgkaa.QFnTidied
