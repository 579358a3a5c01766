-- Written by this session's own program (wip/x/xprint.py, over the kit's printer); Lean checks it.
import Derived.Test.YtmgkflkfoccgkaaQFnTidiedx0
import Derived.Test.YtmgkflkfoccgkaaQFnTidiedx1
import Derived.Test.YtmgkflkfoccgkaaQFnTidiedx5
import Derived.Test.YtmgkflkfoccgkaaQFnTidiedx9
import Derived.Test.YtmgkflkfoccgkaaQFnTidiedx10
import Derived.Test.YtmgkflkfoccgkaaQFnTidiedx11
import Derived.Test.YtmgkflkfoccgkaaQFnTidiedx12
import Derived.Test.YtmgkflkfoccgkaaQFnTidiedx13
import Derived.Test.YtmgkflkfoccgkaaQFnTidiedx15
import Derived.Test.YtmgkflkfoccgkaaQFnTidiedx16
import Derived.Test.YtmgkflkfoccgkaaQFnTidiedx17
import Derived.Test.YtmgkflkfoccgkaaQFnTidiedx19
import Derived.Test.YtmgkflkfoccgkaaQFnTidiedx20
import Derived.Test.YtmgkflkfoccgkaaQFnTidiedx21
namespace Go.Proofs.Ytmgkflkfoccgkaa.QFnTidied
open Go.RowKit Go.Proofs.YtmgkflkfoccgkaaW.PrintWords Go.Proofs.YtmgkflkfoccgkaaW.PrintLast Go.Proofs.YtmgkflkfoccgkaaW.PrintMore
attribute [local go_sem] max2_int min2_int max_two min_two max_three min_three max_four min_four   -- for this text's walks alone
set_option linter.unusedVariables false
set_option linter.unusedSimpArgs false

/-! ### laws_FnTidied: function 4, by a walk of this session's own -/
/-- A row that can be read. -/
def RC {α:Type} (d:Kd α) (w:World) (A:Option Addr) (c:Nat) (xs:List α):Prop:=d.C w A xs.length xs ∧ xs.length ≤ c
/-- A block of memory. -/
def BK (w:World) (g:Nat) (t:TypeId) (cs:Array Value):Prop:=w.heap[g]? = some (.cells cs t (0,0))
/-- What holds here and in all later worlds. -/
def Hold (w:World) (ps:List (World → Prop)):Prop:=∀ p ∈ ps,∀ w',Below w.heap.size w w' → p w'
theorem Hold.get {w:World} {ps:List (World → Prop)} (h:Hold w ps) {p:World → Prop} (i:Nat) (e:ps[i]? = some p):p w:=h p (List.mem_of_getElem? e) w (Below.refl _ _)
theorem Hold.below {w w1:World} {ps:List (World → Prop)} (h:Hold w ps) (hb:Below w.heap.size w w1):Hold w1 ps:=fun p hp w' h'=>h p hp w' (below_step hb h')
theorem Hold.cons {w:World} {ps:List (World → Prop)} {p:World → Prop} (h1:∀ w',Below w.heap.size w w' → p w') (h:Hold w ps):Hold w (p :: ps):=fun q hq w' h'=>by rcases List.mem_cons.1 hq with rfl|hq;exact h1 w' h';exact h q hq w' h'
theorem RC.all {α:Type} {d:Kd α} {w:World} {A c xs} (h:RC d w A c xs):∀ w',Below w.heap.size w w' → RC d w' A c xs:=fun _ hb=>⟨Kd.C_below h.1 hb,h.2⟩
theorem BK.all {w:World} {g t cs} (h:BK w g t cs):∀ w',Below w.heap.size w w' → BK w' g t cs:=fun _ hb=>(hb.block _ (blk_lt h)).trans h
theorem RC.ofR {α:Type} {d:Kd α} {e base:Nat} {w:World} {P:Nat → Prop} {v:Value} {xs:List α} (h:Kd.R d e w base P v xs):∃ A c,v = .slice A xs.length c ∧ RC d w A c xs:=by
 obtain ⟨A,c,rfl⟩:=Kd.R_slice h
 exact ⟨A,c,rfl,(Kd.R_reads' h).2.2,(Kd.R_reads' h).2.1⟩
theorem RC.ofS {α:Type} {d:Kd α} {e base:Nat} {w:World} {P:Nat → Prop} {v:Value} {xs:List α} (h:Kd.S d e w base P v xs):∃ A c,v = .slice A xs.length c ∧ RC d w A c xs:=by
 obtain ⟨A,c,rfl⟩:=Kd.S_slice h
 exact ⟨A,c,rfl,(Kd.S_reads' h).2.2,(Kd.S_reads' h).2.1⟩
theorem RC.ofN {α:Type} {d:Kd α} {e base:Nat} {w:World} {P:Nat → Prop} {v:Value} {xs:List α} (h:Kd.N d e w base P v xs):∃ A c,v = .slice A xs.length c ∧ RC d w A c xs:=by
 obtain ⟨A,c,rfl⟩:=Kd.N_slice h
 exact ⟨A,c,rfl,(Kd.N_reads' h).2.2,(Kd.N_reads' h).2.1⟩
theorem BK.put1 {w w1:World} {g t:Nat} {z v:Value} (hg:g = w.heap.size) (hx:w1.heap[g]? = some (.cells #[z] t (0,0))) (hb:Below w.heap.size w w1):∃ w2,w2 = w1.setCell ⟨g,0,none⟩ v ∧ Below w.heap.size w w2 ∧ BK w2 g t #[v] :=
 ⟨_,rfl,hb.setCell (p:=⟨g,0,none⟩) (by simp [hg]) v,blk_put (cs':=#[v]) hx 0 _ rfl⟩
theorem BK.put2 {w w1:World} {g t:Nat} {z z' v v':Value} (hg:g = w.heap.size) (hx:w1.heap[g]? = some (.cells #[z,z'] t (0,0))) (hb:Below w.heap.size w w1):∃ w2,w2 = (w1.setCell ⟨g,0,none⟩ v).setCell ⟨g,1,none⟩ v' ∧ Below w.heap.size w w2 ∧ BK w2 g t #[v,v'] :=
 ⟨_,rfl,(hb.setCell (p:=⟨g,0,none⟩) (by simp [hg]) v).setCell (p:=⟨g,1,none⟩) (by simp [hg]) v',blk_put (cs':=#[v,v']) (blk_put (cs':=#[v,z']) hx 0 _ rfl) 1 _ rfl⟩
theorem BK.put3 {w w1:World} {g t:Nat} {z z' z'' v v' v'':Value} (hg:g = w.heap.size) (hx:w1.heap[g]? = some (.cells #[z,z',z''] t (0,0))) (hb:Below w.heap.size w w1):∃ w2,w2 = ((w1.setCell ⟨g,0,none⟩ v).setCell ⟨g,1,none⟩ v').setCell ⟨g,2,none⟩ v'' ∧ Below w.heap.size w w2 ∧ BK w2 g t #[v,v',v''] :=
 ⟨_,rfl,((hb.setCell (p:=⟨g,0,none⟩) (by simp [hg]) v).setCell (p:=⟨g,1,none⟩) (by simp [hg]) v').setCell (p:=⟨g,2,none⟩) (by simp [hg]) v'',blk_put (cs':=#[v,v',v'']) (blk_put (cs':=#[v,v',z'']) (blk_put (cs':=#[v,z',z'']) hx 0 _ rfl) 1 _ rfl) 2 _ rfl⟩
structure laws_FnTidied.In (k:Nat) (l1:List Int) (s:List Int) (c t r:List S83) (is:Bool) (n:Int) (tb:List (List Int)) (env:List Int) (a x five:Bool):Prop where
 wo:laws_worldOf.f k s l1 = some (n,tb)
 eo:laws_envOf.f k n tb l1 = some env
 h1:impl_HoldsAt.f k s n tb c env = some (a,true)
 h2:impl_HoldsAt.f k s n tb t env = some (a,true)
 h3:impl_HoldsIn.f k s n tb c = some (x,five)
 h4:impl_HoldsIn.f k s n tb r = some (x,five)
 ag:impl_TidyClause.f k s t = some (t,true)
 ta:is = true → a = true
structure laws_FnTidied.Ok (k:Nat) (l0 l1:List Int) (s:List Int) (c t r:List S83) (ok one is two gd:Bool) (u:List Int) (d:List S83) (m:Int) (three:Bool) (v:List Int) (five:Bool):Prop where
 draw:spec_DrawTidyClause.f k l0 = some (s,c)
 it:impl_TidyClause.f k s c = some (t,ok)
 st:spec_TidyClause.f k s c = some (t,ok)
 ir:impl_RenameClause.f k s c = some (r,one)
 sr:spec_RenameClause.f k s c = some (r,one)
 ia:impl_IsTautology.f k s c = some (is,two)
 sa:spec_IsTautology.f k s c = some (is,two)
 s1:laws_sameLits.f k t t = some true
 s2:laws_sameLits.f k r r = some true
 ig:impl_GoodClause.f k s c = some gd
 sg:spec_GoodClause.f k s c = some gd
 inn:ok = true → ∃ n tb env a x five,laws_FnTidied.In k l1 s c t r is n tb env a x five
 dw:spec_DrawWeightOf.f k l1 = some (u,d)
 iw:impl_WeightOf.f k u d = some (m,three)
 sw:spec_WeightOf.f k u d = some (m,three)
 iv:impl_VarsIn.f k u d = some (v,five)
 sv:spec_VarsIn.f k u d = some (v,five)
 si:laws_sameInts.f k v v = some true
def laws_FnTidied.Facts (k:Nat) (l0 l1:List Int):Prop:=∃ s c t r ok one is two gd u d m three v five,laws_FnTidied.Ok k l0 l1 s c t r ok one is two gd u d m three v five
theorem bne_same (b:Bool):(b != b) = false:=by cases b <;> rfl
theorem beq_same (b:Bool):(b == b) = true:=by cases b <;> rfl
set_option maxHeartbeats 16000000 in
set_option maxRecDepth 1000000 in
theorem laws_FnTidied.walked (k:Nat) (A0:Option Addr) (c0:Nat) (l0:List Int) (A1:Option Addr) (c1:Nat) (l1:List Int) (w:World) (hr0:Kd.C (Kd.int .u8) w A0 l0.length l0) (hc0:l0.length ≤ c0) (hr1:Kd.C (Kd.int .u8) w A1 l1.length l1) (hc1:l1.length ≤ c1)
  (bg:Bool) (hb:laws_big.f l0 l1 = some bg) (h:bg = false → laws_FnTidied.Facts k l0 l1) :
  Calls Try.prog 4 #[.slice A0 l0.length c0,.slice A1 l1.length c1] w fun e w'=>e = .returned (.bool true) ∧ Below w.heap.size w w':=by
 have hh:=Aside0.mk h
 have HS:Aside0 (Hold w [fun w'=>Below w.heap.size w w',fun w'=>RC (Kd.int .u8) w' A0 c0 l0,fun w'=>RC (Kd.int .u8) w' A1 c1 l1]):=⟨Hold.cons (fun _ h=>h) (Hold.cons (RC.all ⟨hr0,hc0⟩) (Hold.cons (RC.all ⟨hr1,hc1⟩) (fun _ h=>absurd h (by simp))))⟩
 have hcall:=laws_big.calls A0 c0 l0 A1 c1 l1 bg w hr0 hc0 hr1 hc1 hb
 clear hr0 hc0 hr1 hc1 h hb
 go_enter Try.func4,Try.ntmps4
 go_wp2_with (go_at_call 5;refine hcall.mono ?_)
 rintro e W1 ⟨rfl,hd⟩
 replace HS:=Aside0.mk (HS.out.below hd.below)
 clear hcall hd
 cases bg with
 | true =>
  go_wp2
  go_ret
  exact ⟨rfl,HS.out.get 0 rfl⟩
 | false =>
  obtain ⟨s,c,t,r,ok,one,is,two,gd,u,d,m,three,v,five,H⟩:=hh.out rfl
  have H:=Aside0.mk H
  clear hh
  have hcall:=spec_DrawTidyClause.calls k A0 c0 l0 s c W1 ((HS.out.get 1 rfl).1) ((HS.out.get 1 rfl).2) H.out.draw
  go_wp2_with (go_at_call 18;refine hcall.mono ?_)
  first|rintro e W2 ⟨v0,v1,rfl,q0,q1,hd⟩|rintro e W2 v0 v1 rfl q0 q1 hd
  replace HS:=Aside0.mk (HS.out.below hd)
  obtain ⟨As,cs,rfl,hs⟩:=RC.ofR q0
  replace HS:=Aside0.mk (Hold.cons hs.all HS.out)
  obtain ⟨Ac,cc,rfl,hc⟩:=RC.ofN q1
  replace HS:=Aside0.mk (Hold.cons hc.all HS.out)
  clear q0 q1 hs hc
  clear hcall hd
  go_upto_region 4 with (refine xB 5 #[.slice none 0 0] 26 ?_;intro gs hg W3 hx hb;have hz0:W3.cell? ⟨gs,0,none⟩ = some (.slice none 0 0):=(blk_cell hx 0).trans rfl;have hy0:=blk_frozen hx 0;replace hg:=Aside0.mk hg)
  obtain ⟨W4,hW,hd,hX⟩:=BK.put1 (v:=.slice As s.length cs) hg.out hx hb
  rw [← hW]
  replace HS:=Aside0.mk (HS.out.below hd)
  replace HS:=Aside0.mk (Hold.cons hX.all HS.out)
  clear hg hx hb hW hd hX hz0 hy0
  have zs0:W4.cell? ⟨gs,0,none⟩ = some (.slice As s.length cs):=(blk_cell (HS.out.get 0 rfl) 0).trans rfl
  have hcall:=impl_TidyClause.calls k As cs s Ac cc c t ok W4 ((HS.out.get 2 rfl).1) ((HS.out.get 2 rfl).2) ((HS.out.get 1 rfl).1) ((HS.out.get 1 rfl).2) H.out.it
  go_wp2_with (go_at_call 19;refine hcall.mono ?_)
  first|rintro e W5 ⟨v0,rfl,q0,hd⟩|rintro e W5 v0 rfl q0 hd
  clear zs0
  replace HS:=Aside0.mk (HS.out.below hd)
  obtain ⟨At,ct,rfl,ht⟩:=RC.ofN q0
  replace HS:=Aside0.mk (Hold.cons ht.all HS.out)
  clear q0 ht
  clear hcall hd
  have zs0:W5.cell? ⟨gs,0,none⟩ = some (.slice As s.length cs):=(blk_cell (HS.out.get 1 rfl) 0).trans rfl
  have hcall:=spec_TidyClause.calls k As cs s Ac cc c t ok W5 ((HS.out.get 3 rfl).1) ((HS.out.get 3 rfl).2) ((HS.out.get 2 rfl).1) ((HS.out.get 2 rfl).2) H.out.st
  go_wp2_with (go_at_call 20;refine hcall.mono ?_)
  first|rintro e W6 ⟨v0,rfl,q0,hd⟩|rintro e W6 v0 rfl q0 hd
  clear zs0
  replace HS:=Aside0.mk (HS.out.below hd)
  obtain ⟨At2,ct2,rfl,ht2⟩:=RC.ofS q0
  replace HS:=Aside0.mk (Hold.cons ht2.all HS.out)
  clear q0 ht2
  clear hcall hd
  have zs0:W6.cell? ⟨gs,0,none⟩ = some (.slice As s.length cs):=(blk_cell (HS.out.get 2 rfl) 0).trans rfl
  have hcall:=impl_RenameClause.calls k As cs s Ac cc c r one W6 ((HS.out.get 4 rfl).1) ((HS.out.get 4 rfl).2) ((HS.out.get 3 rfl).1) ((HS.out.get 3 rfl).2) H.out.ir
  go_wp2_with (go_at_call 21;refine hcall.mono ?_)
  first|rintro e W7 ⟨v0,rfl,q0,hd⟩|rintro e W7 v0 rfl q0 hd
  clear zs0
  replace HS:=Aside0.mk (HS.out.below hd)
  obtain ⟨Ar,cr,rfl,hr⟩:=RC.ofN q0
  replace HS:=Aside0.mk (Hold.cons hr.all HS.out)
  clear q0 hr
  clear hcall hd
  have zs0:W7.cell? ⟨gs,0,none⟩ = some (.slice As s.length cs):=(blk_cell (HS.out.get 3 rfl) 0).trans rfl
  have hcall:=spec_RenameClause.calls k As cs s Ac cc c r one W7 ((HS.out.get 5 rfl).1) ((HS.out.get 5 rfl).2) ((HS.out.get 4 rfl).1) ((HS.out.get 4 rfl).2) H.out.sr
  go_wp2_with (go_at_call 22;refine hcall.mono ?_)
  first|rintro e W8 ⟨v0,rfl,q0,hd⟩|rintro e W8 v0 rfl q0 hd
  clear zs0
  replace HS:=Aside0.mk (HS.out.below hd)
  obtain ⟨Ar2,cr2,rfl,hr2⟩:=RC.ofS q0
  replace HS:=Aside0.mk (Hold.cons hr2.all HS.out)
  clear q0 hr2
  clear hcall hd
  have zs0:W8.cell? ⟨gs,0,none⟩ = some (.slice As s.length cs):=(blk_cell (HS.out.get 4 rfl) 0).trans rfl
  have hcall:=impl_IsTautology.calls k As cs s Ac cc c is two W8 ((HS.out.get 6 rfl).1) ((HS.out.get 6 rfl).2) ((HS.out.get 5 rfl).1) ((HS.out.get 5 rfl).2) H.out.ia
  go_wp2_with (go_at_call 23;refine hcall.mono ?_)
  first|rintro e W9 ⟨rfl,hd⟩|rintro e W9 rfl hd
  clear zs0
  replace HS:=Aside0.mk (HS.out.below hd)
  clear hcall hd
  have zs0:W9.cell? ⟨gs,0,none⟩ = some (.slice As s.length cs):=(blk_cell (HS.out.get 4 rfl) 0).trans rfl
  have hcall:=spec_IsTautology.calls k As cs s Ac cc c is two W9 ((HS.out.get 6 rfl).1) ((HS.out.get 6 rfl).2) ((HS.out.get 5 rfl).1) ((HS.out.get 5 rfl).2) H.out.sa
  go_wp2_with (go_at_call 24;refine hcall.mono ?_)
  first|rintro e W10 ⟨rfl,hd⟩|rintro e W10 rfl hd
  clear zs0
  replace HS:=Aside0.mk (HS.out.below hd)
  clear hcall hd
  go_upto_region 10 with fail
  go_cut [123] (fun v123 wc=>v123 = .bool false ∧ Aside0 (Below W10.heap.size W10 wc))
  case first =>
   as_aux_lemma =>
    have hn_ok:=bne_same ok
    have hn_one:=bne_same one
    have hn_two:=bne_same two
    have hn_is:=bne_same is
    have hn_gd:=bne_same gd
    have zs0:W10.cell? ⟨gs,0,none⟩ = some (.slice As s.length cs):=(blk_cell (HS.out.get 4 rfl) 0).trans rfl
    have hd0:=below_drew1 (Below.refl W10.heap.size W10)
    refine start_ (n:=39) (S:=fun w'=>w'.cell? ⟨gs,0,none⟩ = some (.slice As s.length cs)) (ds:=[]) #[false,false,false,false,false,false,false,false,false,false,false,false,false,false,false,false,false,false,false,false,false,false,false,false,false,false,false,false,false,false,false,false,false,false,false,false,false,false,false] (by kernel_rfl) rfl rfl zs0 (fun hHeld=>?_)
    clear zs0
    replace HS:=Aside0.mk (HS.out.below hd0)
    have HB:=Aside0.mk hd0
    clear hd0
    generalize W10.drew = W11 at HS HB hHeld ⊢
    refine pU (i:=0) (N:=some 85) #[true,false,false,false,false,false,false,false,false,false,false,false,false,false,false,false,false,false,false,false,false,false,false,false,false,false,false,false,false,false,false,false,false,false,false,false,false,false,false] (by kernel_rfl) ?_
    refine pU (i:=1) (N:=some 86) #[true,true,false,false,false,false,false,false,false,false,false,false,false,false,false,false,false,false,false,false,false,false,false,false,false,false,false,false,false,false,false,false,false,false,false,false,false,false,false] (by kernel_rfl) ?_
    refine pU (i:=2) (N:=some 87) #[true,true,true,false,false,false,false,false,false,false,false,false,false,false,false,false,false,false,false,false,false,false,false,false,false,false,false,false,false,false,false,false,false,false,false,false,false,false,false] (by kernel_rfl) ?_
    refine pU (i:=3) (N:=some 88) #[true,true,true,true,false,false,false,false,false,false,false,false,false,false,false,false,false,false,false,false,false,false,false,false,false,false,false,false,false,false,false,false,false,false,false,false,false,false,false] (by kernel_rfl) ?_
    refine pU (i:=4) (N:=some 89) #[true,true,true,true,true,false,false,false,false,false,false,false,false,false,false,false,false,false,false,false,false,false,false,false,false,false,false,false,false,false,false,false,false,false,false,false,false,false,false] (by kernel_rfl) ?_
    refine pU (i:=5) (N:=some 90) #[true,true,true,true,true,true,false,false,false,false,false,false,false,false,false,false,false,false,false,false,false,false,false,false,false,false,false,false,false,false,false,false,false,false,false,false,false,false,false] (by kernel_rfl) ?_
    refine one_ (i:=6) (N:=(some 91)) #[true,true,true,true,true,true,true,false,false,false,false,false,false,false,false,false,false,false,false,false,false,false,false,false,false,false,false,false,false,false,false,false,false,false,false,false,false,false,false] rfl rfl (by kernel_rfl) (by decide) (fun K hK=>?_)
    refine goes_ Try.func25 (by kernel_rfl) rfl #[.slice At t.length ct,.slice At2 t.length ct2] (by rfl) rfl rfl YX ?_
    refine (laws_sameLits.calls k At ct t At2 ct2 t true W11 ((HS.out.get 3 rfl).1) ((HS.out.get 3 rfl).2) ((HS.out.get 2 rfl).1) ((HS.out.get 2 rfl).2) H.out.s1).mono ?_
    rintro e W12 ⟨rfl,hd⟩
    refine ⟨_,rfl,?_⟩
    replace HS:=Aside0.mk (HS.out.below hd)
    replace HB:=Aside0.mk (below_step HB.out hd)
    clear hd hHeld
    refine hK.out _ _ ((blk_cell (HS.out.get 4 rfl) 0).trans rfl) (fun hHeld=>?_)
    clear hK K
    refine nM (N:=some 91) ?_
    refine pU (i:=7) (N:=some 92) #[true,true,true,true,true,true,true,true,false,false,false,false,false,false,false,false,false,false,false,false,false,false,false,false,false,false,false,false,false,false,false,false,false,false,false,false,false,false,false] (by kernel_rfl) ?_
    refine pU (i:=8) (N:=some 93) #[true,true,true,true,true,true,true,true,true,false,false,false,false,false,false,false,false,false,false,false,false,false,false,false,false,false,false,false,false,false,false,false,false,false,false,false,false,false,false] (by kernel_rfl) ?_
    refine pU (i:=9) (N:=some 94) #[true,true,true,true,true,true,true,true,true,true,false,false,false,false,false,false,false,false,false,false,false,false,false,false,false,false,false,false,false,false,false,false,false,false,false,false,false,false,false] (by kernel_rfl) ?_
    refine pU (i:=10) (N:=some 95) #[true,true,true,true,true,true,true,true,true,true,true,false,false,false,false,false,false,false,false,false,false,false,false,false,false,false,false,false,false,false,false,false,false,false,false,false,false,false,false] (by kernel_rfl) ?_
    refine pU (i:=11) (N:=some 96) #[true,true,true,true,true,true,true,true,true,true,true,true,false,false,false,false,false,false,false,false,false,false,false,false,false,false,false,false,false,false,false,false,false,false,false,false,false,false,false] (by kernel_rfl) ?_
    refine pU (i:=12) (N:=some 97) #[true,true,true,true,true,true,true,true,true,true,true,true,true,false,false,false,false,false,false,false,false,false,false,false,false,false,false,false,false,false,false,false,false,false,false,false,false,false,false] (by kernel_rfl) ?_
    refine pU (i:=13) (N:=some 98) #[true,true,true,true,true,true,true,true,true,true,true,true,true,true,false,false,false,false,false,false,false,false,false,false,false,false,false,false,false,false,false,false,false,false,false,false,false,false,false] (by kernel_rfl) ?_
    refine pU (i:=14) (N:=some 99) #[true,true,true,true,true,true,true,true,true,true,true,true,true,true,true,false,false,false,false,false,false,false,false,false,false,false,false,false,false,false,false,false,false,false,false,false,false,false,false] (by kernel_rfl) ?_
    refine pU (i:=15) (N:=some 100) #[true,true,true,true,true,true,true,true,true,true,true,true,true,true,true,true,false,false,false,false,false,false,false,false,false,false,false,false,false,false,false,false,false,false,false,false,false,false,false] (by kernel_rfl) ?_
    refine pU (i:=16) (N:=some 101) #[true,true,true,true,true,true,true,true,true,true,true,true,true,true,true,true,true,false,false,false,false,false,false,false,false,false,false,false,false,false,false,false,false,false,false,false,false,false,false] (by kernel_rfl) ?_
    refine one_ (i:=17) (N:=(some 102)) #[true,true,true,true,true,true,true,true,true,true,true,true,true,true,true,true,true,true,false,false,false,false,false,false,false,false,false,false,false,false,false,false,false,false,false,false,false,false,false] rfl rfl (by kernel_rfl) (by decide) (fun K hK=>?_)
    refine goes_ Try.func25 (by kernel_rfl) rfl #[.slice Ar r.length cr,.slice Ar2 r.length cr2] (by rfl) rfl rfl YX ?_
    refine (laws_sameLits.calls k Ar cr r Ar2 cr2 r true W12 ((HS.out.get 1 rfl).1) ((HS.out.get 1 rfl).2) ((HS.out.get 0 rfl).1) ((HS.out.get 0 rfl).2) H.out.s2).mono ?_
    rintro e W13 ⟨rfl,hd⟩
    refine ⟨_,rfl,?_⟩
    replace HS:=Aside0.mk (HS.out.below hd)
    replace HB:=Aside0.mk (below_step HB.out hd)
    clear hd hHeld
    refine hK.out _ _ ((blk_cell (HS.out.get 4 rfl) 0).trans rfl) (fun hHeld=>?_)
    clear hK K
    refine nM (N:=some 102) ?_
    refine pU (i:=18) (N:=some 103) #[true,true,true,true,true,true,true,true,true,true,true,true,true,true,true,true,true,true,true,false,false,false,false,false,false,false,false,false,false,false,false,false,false,false,false,false,false,false,false] (by kernel_rfl) ?_
    refine pU (i:=19) (N:=some 104) #[true,true,true,true,true,true,true,true,true,true,true,true,true,true,true,true,true,true,true,true,false,false,false,false,false,false,false,false,false,false,false,false,false,false,false,false,false,false,false] (by kernel_rfl) ?_
    refine pU (i:=20) (N:=some 105) #[true,true,true,true,true,true,true,true,true,true,true,true,true,true,true,true,true,true,true,true,true,false,false,false,false,false,false,false,false,false,false,false,false,false,false,false,false,false,false] (by kernel_rfl) ?_
    refine pU (i:=21) (N:=some 106) #[true,true,true,true,true,true,true,true,true,true,true,true,true,true,true,true,true,true,true,true,true,true,false,false,false,false,false,false,false,false,false,false,false,false,false,false,false,false,false] (by kernel_rfl) ?_
    refine pU (i:=22) (N:=some 107) #[true,true,true,true,true,true,true,true,true,true,true,true,true,true,true,true,true,true,true,true,true,true,true,false,false,false,false,false,false,false,false,false,false,false,false,false,false,false,false] (by kernel_rfl) ?_
    refine pU (i:=23) (N:=some 108) #[true,true,true,true,true,true,true,true,true,true,true,true,true,true,true,true,true,true,true,true,true,true,true,true,false,false,false,false,false,false,false,false,false,false,false,false,false,false,false] (by kernel_rfl) ?_
    refine pU (i:=24) (N:=some 109) #[true,true,true,true,true,true,true,true,true,true,true,true,true,true,true,true,true,true,true,true,true,true,true,true,true,false,false,false,false,false,false,false,false,false,false,false,false,false,false] (by kernel_rfl) ?_
    refine pU (i:=25) (N:=some 110) #[true,true,true,true,true,true,true,true,true,true,true,true,true,true,true,true,true,true,true,true,true,true,true,true,true,true,false,false,false,false,false,false,false,false,false,false,false,false,false] (by kernel_rfl) ?_
    refine pU (i:=26) (N:=some 111) #[true,true,true,true,true,true,true,true,true,true,true,true,true,true,true,true,true,true,true,true,true,true,true,true,true,true,true,false,false,false,false,false,false,false,false,false,false,false,false] (by kernel_rfl) ?_
    refine pU (i:=27) (N:=some 112) #[true,true,true,true,true,true,true,true,true,true,true,true,true,true,true,true,true,true,true,true,true,true,true,true,true,true,true,true,false,false,false,false,false,false,false,false,false,false,false] (by kernel_rfl) ?_
    refine pU (i:=28) (N:=some 113) #[true,true,true,true,true,true,true,true,true,true,true,true,true,true,true,true,true,true,true,true,true,true,true,true,true,true,true,true,true,false,false,false,false,false,false,false,false,false,false] (by kernel_rfl) ?_
    refine pU (i:=29) (N:=some 114) #[true,true,true,true,true,true,true,true,true,true,true,true,true,true,true,true,true,true,true,true,true,true,true,true,true,true,true,true,true,true,false,false,false,false,false,false,false,false,false] (by kernel_rfl) ?_
    refine pU (i:=30) (N:=some 115) #[true,true,true,true,true,true,true,true,true,true,true,true,true,true,true,true,true,true,true,true,true,true,true,true,true,true,true,true,true,true,true,false,false,false,false,false,false,false,false] (by kernel_rfl) ?_
    refine tK1 (i:=31) (N:=some 116) #[true,true,true,true,true,true,true,true,true,true,true,true,true,true,true,true,true,true,true,true,true,true,true,true,true,true,true,true,true,true,true,true,false,false,false,false,false,false,false] (by kernel_rfl) hHeld ?_
    refine pU (i:=32) (N:=some 117) #[true,true,true,true,true,true,true,true,true,true,true,true,true,true,true,true,true,true,true,true,true,true,true,true,true,true,true,true,true,true,true,true,true,false,false,false,false,false,false] (by kernel_rfl) ?_
    refine tK1 (i:=34) (N:=some 119) #[true,true,true,true,true,true,true,true,true,true,true,true,true,true,true,true,true,true,true,true,true,true,true,true,true,true,true,true,true,true,true,true,true,false,true,false,false,false,false] (by kernel_rfl) hHeld ?_
    refine pU (i:=35) (N:=some 120) #[true,true,true,true,true,true,true,true,true,true,true,true,true,true,true,true,true,true,true,true,true,true,true,true,true,true,true,true,true,true,true,true,true,false,true,true,false,false,false] (by kernel_rfl) ?_
    refine one_ (i:=33) (N:=(some 118)) #[true,true,true,true,true,true,true,true,true,true,true,true,true,true,true,true,true,true,true,true,true,true,true,true,true,true,true,true,true,true,true,true,true,true,true,true,false,false,false] rfl rfl (by kernel_rfl) (by decide) (fun K hK=>?_)
    refine goes_ Try.func26 (by kernel_rfl) rfl #[.agg #[.slice As s.length cs],.slice Ac c.length cc] (by rfl) rfl rfl YX ?_
    refine (impl_GoodClause.calls k As cs s Ac cc c gd W13 ((HS.out.get 6 rfl).1) ((HS.out.get 6 rfl).2) ((HS.out.get 5 rfl).1) ((HS.out.get 5 rfl).2) H.out.ig).mono ?_
    rintro e W14 ⟨rfl,hd⟩
    refine ⟨_,rfl,?_⟩
    replace HS:=Aside0.mk (HS.out.below hd)
    replace HB:=Aside0.mk (below_step HB.out hd)
    clear hd hHeld
    refine hK.out _ _ ((blk_cell (HS.out.get 4 rfl) 0).trans rfl) (fun hHeld=>?_)
    clear hK K
    refine nM (N:=some 118) ?_
    refine one_ (i:=36) (N:=(some 121)) #[true,true,true,true,true,true,true,true,true,true,true,true,true,true,true,true,true,true,true,true,true,true,true,true,true,true,true,true,true,true,true,true,true,true,true,true,true,false,false] rfl rfl (by kernel_rfl) (by decide) (fun K hK=>?_)
    refine goes_ Try.func27 (by kernel_rfl) rfl #[.agg #[.slice As s.length cs],.slice Ac c.length cc] (by rfl) rfl rfl YX ?_
    refine (spec_GoodClause.calls k As cs s Ac cc c gd W14 ((HS.out.get 6 rfl).1) ((HS.out.get 6 rfl).2) ((HS.out.get 5 rfl).1) ((HS.out.get 5 rfl).2) H.out.sg).mono ?_
    rintro e W15 ⟨rfl,hd⟩
    refine ⟨_,rfl,?_⟩
    replace HS:=Aside0.mk (HS.out.below hd)
    replace HB:=Aside0.mk (below_step HB.out hd)
    clear hd hHeld
    refine hK.out _ _ ((blk_cell (HS.out.get 4 rfl) 0).trans rfl) (fun hHeld=>?_)
    clear hK K
    refine nM (N:=some 121) ?_
    refine pU (i:=37) (N:=some 122) #[true,true,true,true,true,true,true,true,true,true,true,true,true,true,true,true,true,true,true,true,true,true,true,true,true,true,true,true,true,true,true,true,true,true,true,true,true,true,false] (by kernel_rfl) ?_
    refine pU (i:=38) (N:=some 123) #[true,true,true,true,true,true,true,true,true,true,true,true,true,true,true,true,true,true,true,true,true,true,true,true,true,true,true,true,true,true,true,true,true,true,true,true,true,true,true] (by kernel_rfl) ?_
    refine done_ (by kernel_rfl) ?_
    go_wp2
    go_meet
    case rel=>exact ⟨rfl,HB⟩
  case rest =>
   obtain ⟨rfl,⟨hB⟩⟩:=hcut
   replace HS:=Aside0.mk (HS.out.below hB)
   clear hB
   go_upto_if 124 with fail
   go_cut [] (fun wd=>Aside0 (Below wc.heap.size wc wd))
   case first =>
    as_aux_lemma =>
     have HB:=Aside0.mk (Below.refl wc.heap.size wc)
     cases ok with
     | false =>
      go_wp2
      go_meet
      case rel=>exact HB
     | true =>
      obtain ⟨n,tb,env,a,x,five1,I⟩:=H.out.inn rfl
      have I:=Aside0.mk I
      replace HS:=Aside0.mk (Hold.cons (show ∀ w',Below wc.heap.size wc w' → Below wc.heap.size wc w' from fun _ h=>h) HS.out)
      clear HB
      have zs0:wc.cell? ⟨gs,0,none⟩ = some (.slice As s.length cs):=(blk_cell (HS.out.get 5 rfl) 0).trans rfl
      have hcall:=laws_worldOf.calls k As cs s A1 c1 l1 n tb wc ((HS.out.get 7 rfl).1) ((HS.out.get 7 rfl).2) ((HS.out.get 10 rfl).1) ((HS.out.get 10 rfl).2) I.out.wo
      go_wp2_with (go_at_call 7;refine hcall.mono ?_)
      first|rintro e W16 ⟨v0,rfl,q0,hd⟩|rintro e W16 v0 rfl q0 hd
      clear zs0
      replace HS:=Aside0.mk (HS.out.below hd)
      obtain ⟨Atb,ctb,rfl,htb⟩:=RC.ofS q0
      replace HS:=Aside0.mk (Hold.cons htb.all HS.out)
      clear q0 htb
      clear hcall hd
      go_upto_region 14 with (refine xB 19 #[.int .i64 0,.slice none 0 0] 31 ?_;intro gwd hg W17 hx hb;have hz0:W17.cell? ⟨gwd,0,none⟩ = some (.int .i64 0):=(blk_cell hx 0).trans rfl;have hy0:=blk_frozen hx 0;have hz1:W17.cell? ⟨gwd,1,none⟩ = some (.slice none 0 0):=(blk_cell hx 1).trans rfl;have hy1:=blk_frozen hx 1;replace hg:=Aside0.mk hg)
      obtain ⟨W18,hW,hd,hX⟩:=BK.put2 (v:=.int .i64 n) (v':=.slice Atb tb.length ctb) hg.out hx hb
      rw [← hW]
      replace HS:=Aside0.mk (HS.out.below hd)
      replace HS:=Aside0.mk (Hold.cons hX.all HS.out)
      clear hg hx hb hW hd hX hz0 hy0 hz1 hy1
      have zwd0:W18.cell? ⟨gwd,0,none⟩ = some (.int .i64 n):=(blk_cell (HS.out.get 0 rfl) 0).trans rfl
      have zwd1:W18.cell? ⟨gwd,1,none⟩ = some (.slice Atb tb.length ctb):=(blk_cell (HS.out.get 0 rfl) 1).trans rfl
      have hcall:=laws_envOf.calls k n Atb ctb tb A1 c1 l1 env W18 ((HS.out.get 1 rfl).1) ((HS.out.get 1 rfl).2) ((HS.out.get 12 rfl).1) ((HS.out.get 12 rfl).2) I.out.eo
      go_wp2_with (go_at_call 8;refine hcall.mono ?_)
      first|rintro e W19 ⟨v0,rfl,q0,hd⟩|rintro e W19 v0 rfl q0 hd
      clear zwd0 zwd1
      replace HS:=Aside0.mk (HS.out.below hd)
      obtain ⟨Aenv,cenv,rfl,henv⟩:=RC.ofR q0
      replace HS:=Aside0.mk (Hold.cons henv.all HS.out)
      clear q0 henv
      clear hcall hd
      have zs0:W19.cell? ⟨gs,0,none⟩ = some (.slice As s.length cs):=(blk_cell (HS.out.get 8 rfl) 0).trans rfl
      have zwd0:W19.cell? ⟨gwd,0,none⟩ = some (.int .i64 n):=(blk_cell (HS.out.get 1 rfl) 0).trans rfl
      have zwd1:W19.cell? ⟨gwd,1,none⟩ = some (.slice Atb tb.length ctb):=(blk_cell (HS.out.get 1 rfl) 1).trans rfl
      have hcall:=impl_HoldsAt.calls k As cs s n Atb ctb tb Ac cc c Aenv cenv env a true W19 ((HS.out.get 10 rfl).1) ((HS.out.get 10 rfl).2) ((HS.out.get 2 rfl).1) ((HS.out.get 2 rfl).2) ((HS.out.get 9 rfl).1) ((HS.out.get 9 rfl).2) ((HS.out.get 0 rfl).1) ((HS.out.get 0 rfl).2) I.out.h1
      go_wp2_with (go_at_call 14;refine hcall.mono ?_)
      first|rintro e W20 ⟨rfl,hd⟩|rintro e W20 rfl hd
      clear zs0 zwd0 zwd1
      replace HS:=Aside0.mk (HS.out.below hd)
      clear hcall hd
      have zs0:W20.cell? ⟨gs,0,none⟩ = some (.slice As s.length cs):=(blk_cell (HS.out.get 8 rfl) 0).trans rfl
      have zwd0:W20.cell? ⟨gwd,0,none⟩ = some (.int .i64 n):=(blk_cell (HS.out.get 1 rfl) 0).trans rfl
      have zwd1:W20.cell? ⟨gwd,1,none⟩ = some (.slice Atb tb.length ctb):=(blk_cell (HS.out.get 1 rfl) 1).trans rfl
      have hcall:=impl_HoldsAt.calls k As cs s n Atb ctb tb At ct t Aenv cenv env a true W20 ((HS.out.get 10 rfl).1) ((HS.out.get 10 rfl).2) ((HS.out.get 2 rfl).1) ((HS.out.get 2 rfl).2) ((HS.out.get 7 rfl).1) ((HS.out.get 7 rfl).2) ((HS.out.get 0 rfl).1) ((HS.out.get 0 rfl).2) I.out.h2
      go_wp2_with (go_at_call 14;refine hcall.mono ?_)
      first|rintro e W21 ⟨rfl,hd⟩|rintro e W21 rfl hd
      clear zs0 zwd0 zwd1
      replace HS:=Aside0.mk (HS.out.below hd)
      clear hcall hd
      have zs0:W21.cell? ⟨gs,0,none⟩ = some (.slice As s.length cs):=(blk_cell (HS.out.get 8 rfl) 0).trans rfl
      have zwd0:W21.cell? ⟨gwd,0,none⟩ = some (.int .i64 n):=(blk_cell (HS.out.get 1 rfl) 0).trans rfl
      have zwd1:W21.cell? ⟨gwd,1,none⟩ = some (.slice Atb tb.length ctb):=(blk_cell (HS.out.get 1 rfl) 1).trans rfl
      have hcall:=impl_HoldsIn.calls k As cs s n Atb ctb tb Ac cc c x five1 W21 ((HS.out.get 10 rfl).1) ((HS.out.get 10 rfl).2) ((HS.out.get 2 rfl).1) ((HS.out.get 2 rfl).2) ((HS.out.get 9 rfl).1) ((HS.out.get 9 rfl).2) I.out.h3
      go_wp2_with (go_at_call 28;refine hcall.mono ?_)
      first|rintro e W22 ⟨rfl,hd⟩|rintro e W22 rfl hd
      clear zs0 zwd0 zwd1
      replace HS:=Aside0.mk (HS.out.below hd)
      clear hcall hd
      have zs0:W22.cell? ⟨gs,0,none⟩ = some (.slice As s.length cs):=(blk_cell (HS.out.get 8 rfl) 0).trans rfl
      have zwd0:W22.cell? ⟨gwd,0,none⟩ = some (.int .i64 n):=(blk_cell (HS.out.get 1 rfl) 0).trans rfl
      have zwd1:W22.cell? ⟨gwd,1,none⟩ = some (.slice Atb tb.length ctb):=(blk_cell (HS.out.get 1 rfl) 1).trans rfl
      have hcall:=impl_HoldsIn.calls k As cs s n Atb ctb tb Ar cr r x five1 W22 ((HS.out.get 10 rfl).1) ((HS.out.get 10 rfl).2) ((HS.out.get 2 rfl).1) ((HS.out.get 2 rfl).2) ((HS.out.get 5 rfl).1) ((HS.out.get 5 rfl).2) I.out.h4
      go_wp2_with (go_at_call 28;refine hcall.mono ?_)
      first|rintro e W23 ⟨rfl,hd⟩|rintro e W23 rfl hd
      clear zs0 zwd0 zwd1
      replace HS:=Aside0.mk (HS.out.below hd)
      clear hcall hd
      have zs0:W23.cell? ⟨gs,0,none⟩ = some (.slice As s.length cs):=(blk_cell (HS.out.get 8 rfl) 0).trans rfl
      have hcall:=impl_TidyClause.calls k As cs s At ct t t true W23 ((HS.out.get 10 rfl).1) ((HS.out.get 10 rfl).2) ((HS.out.get 7 rfl).1) ((HS.out.get 7 rfl).2) I.out.ag
      go_wp2_with (go_at_call 19;refine hcall.mono ?_)
      first|rintro e W24 ⟨v0,rfl,q0,hd⟩|rintro e W24 v0 rfl q0 hd
      clear zs0
      replace HS:=Aside0.mk (HS.out.below hd)
      obtain ⟨At3,ct3,rfl,ht3⟩:=RC.ofN q0
      replace HS:=Aside0.mk (Hold.cons ht3.all HS.out)
      clear q0 ht3
      clear hcall hd
      have hn_a:=bne_same a
      have hn_x:=bne_same x
      have hn_f:=bne_same five1
      have HE:=Aside0.mk (HS.out.get 4 rfl)
      have hcall:=laws_sameLits.calls k At3 ct3 t At ct t true W24 ((HS.out.get 0 rfl).1) ((HS.out.get 0 rfl).2) ((HS.out.get 8 rfl).1) ((HS.out.get 8 rfl).2) H.out.s1
      cases is with
      | true =>
       obtain rfl:=I.out.ta rfl
       go_wp2_with (go_at_call 25;refine hcall.mono ?_)
       rintro e W9 ⟨rfl,hd⟩
       replace HE:=Aside0.mk (below_step HE.out hd)
       go_wp2
       go_meet
       case rel=>exact HE
      | false =>
       go_wp2_with (go_at_call 25;refine hcall.mono ?_)
       rintro e W9 ⟨rfl,hd⟩
       replace HE:=Aside0.mk (below_step HE.out hd)
       go_wp2
       go_meet
       case rel=>exact HE
   case rest =>
    rename World=>Wz
    replace HS:=Aside0.mk (HS.out.below hcut.out)
    clear hcut
    as_aux_lemma =>
     have hcall:=spec_DrawWeightOf.calls k A1 c1 l1 u d Wz ((HS.out.get 9 rfl).1) ((HS.out.get 9 rfl).2) H.out.dw
     go_wp2_with (go_at_call 29;refine hcall.mono ?_)
     first|rintro e W25 ⟨v0,v1,rfl,q0,q1,hd⟩|rintro e W25 v0 v1 rfl q0 q1 hd
     replace HS:=Aside0.mk (HS.out.below hd)
     obtain ⟨Au,cu,rfl,hu⟩:=RC.ofR q0
     replace HS:=Aside0.mk (Hold.cons hu.all HS.out)
     obtain ⟨Ad,cd,rfl,hd⟩:=RC.ofN q1
     replace HS:=Aside0.mk (Hold.cons hd.all HS.out)
     clear q0 q1 hu hd
     clear hcall hd
     go_upto_region 23 with (refine xB 31 #[.slice none 0 0] 26 ?_;intro gu hg W26 hx hb;have hz0:W26.cell? ⟨gu,0,none⟩ = some (.slice none 0 0):=(blk_cell hx 0).trans rfl;have hy0:=blk_frozen hx 0;replace hg:=Aside0.mk hg)
     obtain ⟨W27,hW,hd,hX⟩:=BK.put1 (v:=.slice Au u.length cu) hg.out hx hb
     rw [← hW]
     replace HS:=Aside0.mk (HS.out.below hd)
     replace HS:=Aside0.mk (Hold.cons hX.all HS.out)
     clear hg hx hb hW hd hX hz0 hy0
     have zu0:W27.cell? ⟨gu,0,none⟩ = some (.slice Au u.length cu):=(blk_cell (HS.out.get 0 rfl) 0).trans rfl
     have hcall:=impl_WeightOf.calls k Au cu u Ad cd d m three W27 ((HS.out.get 2 rfl).1) ((HS.out.get 2 rfl).2) ((HS.out.get 1 rfl).1) ((HS.out.get 1 rfl).2) H.out.iw
     go_wp2_with (go_at_call 30;refine hcall.mono ?_)
     first|rintro e W28 ⟨rfl,hd⟩|rintro e W28 rfl hd
     clear zu0
     replace HS:=Aside0.mk (HS.out.below hd)
     clear hcall hd
     have zu0:W28.cell? ⟨gu,0,none⟩ = some (.slice Au u.length cu):=(blk_cell (HS.out.get 0 rfl) 0).trans rfl
     have hcall:=spec_WeightOf.calls k Au cu u Ad cd d m three W28 ((HS.out.get 2 rfl).1) ((HS.out.get 2 rfl).2) ((HS.out.get 1 rfl).1) ((HS.out.get 1 rfl).2) H.out.sw
     go_wp2_with (go_at_call 31;refine hcall.mono ?_)
     first|rintro e W29 ⟨rfl,hd⟩|rintro e W29 rfl hd
     clear zu0
     replace HS:=Aside0.mk (HS.out.below hd)
     clear hcall hd
     have zu0:W29.cell? ⟨gu,0,none⟩ = some (.slice Au u.length cu):=(blk_cell (HS.out.get 0 rfl) 0).trans rfl
     have hcall:=impl_VarsIn.calls k Au cu u Ad cd d v five W29 ((HS.out.get 2 rfl).1) ((HS.out.get 2 rfl).2) ((HS.out.get 1 rfl).1) ((HS.out.get 1 rfl).2) H.out.iv
     go_wp2_with (go_at_call 32;refine hcall.mono ?_)
     first|rintro e W30 ⟨v0,rfl,q0,hd⟩|rintro e W30 v0 rfl q0 hd
     clear zu0
     replace HS:=Aside0.mk (HS.out.below hd)
     obtain ⟨Av,cv,rfl,hv⟩:=RC.ofR q0
     replace HS:=Aside0.mk (Hold.cons hv.all HS.out)
     clear q0 hv
     clear hcall hd
     have zu0:W30.cell? ⟨gu,0,none⟩ = some (.slice Au u.length cu):=(blk_cell (HS.out.get 1 rfl) 0).trans rfl
     have hcall:=spec_VarsIn.calls k Au cu u Ad cd d v five W30 ((HS.out.get 3 rfl).1) ((HS.out.get 3 rfl).2) ((HS.out.get 2 rfl).1) ((HS.out.get 2 rfl).2) H.out.sv
     go_wp2_with (go_at_call 33;refine hcall.mono ?_)
     first|rintro e W31 ⟨v0,rfl,q0,hd⟩|rintro e W31 v0 rfl q0 hd
     clear zu0
     replace HS:=Aside0.mk (HS.out.below hd)
     obtain ⟨Av2,cv2,rfl,hv2⟩:=RC.ofR q0
     replace HS:=Aside0.mk (Hold.cons hv2.all HS.out)
     clear q0 hv2
     clear hcall hd
     have hn_three:=beq_same three
     have hn_five:=beq_same five
     have hn_m:(m == m) = true:=beq_iff_eq.mpr rfl
     have hcall:=laws_sameInts.calls k Av cv v Av2 cv2 v true W31 ((HS.out.get 1 rfl).1) ((HS.out.get 1 rfl).2) ((HS.out.get 0 rfl).1) ((HS.out.get 0 rfl).2) H.out.si
     go_wp2_with (go_at_call 34;refine hcall.mono ?_)
     first|rintro e W32 ⟨rfl,hd⟩|rintro e W32 rfl hd
     replace HS:=Aside0.mk (HS.out.below hd.below)
     clear hcall hd
     go_wp2
     go_ret
     exact ⟨rfl,(HS.out.get 12 rfl)⟩

/-- THE ONE PURE STATEMENT of laws_FnTidied. -/
def laws_FnTidied.Pure:Prop:=∀ (l0 l1:List Int),l0.length ≤ maxLen → l0.length * 1 ≤ 140737488351232 → (∀ x ∈ l0,(Lit.int .u8 x).wf = true) → l1.length ≤ maxLen → l1.length * 1 ≤ 140737488351232 → (∀ x ∈ l1,(Lit.int .u8 x).wf = true) → ∃ (k:Nat) (bg:Bool),laws_big.f l0 l1 = some bg ∧ (bg = false → laws_FnTidied.Facts k l0 l1)
theorem laws_FnTidied.walk (P:laws_FnTidied.Pure) (a0:Option Addr) (len0 cap0:Nat) (z0:List Int) (a1:Option Addr) (len1 cap1:Nat) (z1:List Int) (w:World) (w0:(a0 = none ∧ len0 = 0 ∧ cap0 = 0 ∧ z0 = []) ∨ ∃ x,a0 = some x ∧ len0 ≤ cap0 ∧ cap0 ≤ maxLen ∧ z0.length = cap0 ∧ (∀ i,i < z0.length → w.cell? (x.add i) = some (.int .u8 (z0.getD i 0))) ∧ ∀ n ∈ z0,(Lit.int .u8 n).wf = true) (y0:len0 * 1 ≤ 140737488351232) (w1:(a1 = none ∧ len1 = 0 ∧ cap1 = 0 ∧ z1 = []) ∨ ∃ x,a1 = some x ∧ len1 ≤ cap1 ∧ cap1 ≤ maxLen ∧ z1.length = cap1 ∧ (∀ i,i < z1.length → w.cell? (x.add i) = some (.int .u8 (z1.getD i 0))) ∧ ∀ n ∈ z1,(Lit.int .u8 n).wf = true) (y1:len1 * 1 ≤ 140737488351232) :
  Calls Try.prog 4 #[.slice a0 len0 cap0,.slice a1 len1 cap1] w fun e w'=>e = .returned (.bool true) ∧ Below w.heap.size w w':=by
 obtain ⟨l0,rfl,hr0,hm0,hw0,hc0⟩:=ReadsInt.ofRowC w0
 obtain ⟨l1,rfl,hr1,hm1,hw1,hc1⟩:=ReadsInt.ofRowC w1
 obtain ⟨k,bg,hb,h⟩:=P l0 l1 hm0 y0 hw0 hm1 y1 hw1
 exact laws_FnTidied.walked k a0 cap0 l0 a1 cap1 l1 w (Kd.C_of_reads (d:=(0:Int)) (h1:=fun _=>rfl) hr0) hc0 (Kd.C_of_reads (d:=(0:Int)) (h1:=fun _=>rfl) hr1) hc1 bg hb h

end Go.Proofs.Ytmgkflkfoccgkaa.QFnTidied
