-- Written by a program of this session out of the translation. Not trusted: Lean checks it.
import Derived.Test.YtffjlpphcjfdgaaDoorMFnSkipx0
namespace Go.Proofs.YtffjlpphcjfdgaaDoor.MFnSkip
-- joined
-- short
-- shrunk
-- TAB
-- RD
open Go.Proofs.YtffjlpphcjfdgaaDoor Go.RowKit Go.Proofs.YtffjlpphcjfdgaaDoorW.PrintWords Go.Proofs.YtffjlpphcjfdgaaDoorW.PrintLast Go.Proofs.YtffjlpphcjfdgaaDoorW.PrintMore Go.Proofs.YtffjlpphcjfdgaaDoorX
attribute [local go_sem] max2_int min2_int max_two min_two max_three min_three max_four min_four str_gtr str_leq str_geq cell_twice
set_option linter.unusedVariables false
set_option linter.unusedSimpArgs false
-- COMPACT
/-! ### spec_NewSkip: function 74 -/
def spec_NewSkip.l0:Nat→Int→List Int→Option (List Int × (List (S77)))
  |0,_,_=>none
  |k + 1,x2,x317000=>if x2 < 5 then (if x317000.length < 17592186044416 then (spec_NewSkip.l0 k (wrap64 (x2 + 1)) (x317000 ++ [(-1)])) else (none)) else (some (x317000,([]:List (S77))))
def spec_NewSkip.f (k:Nat)  : Option (List Int × (List (S77))):=spec_NewSkip.l0 k 0 ([]:List Int)
theorem spec_NewSkip.mono_l:∀ k,(∀ y0 y1,LeO (spec_NewSkip.l0 k y0 y1) (spec_NewSkip.l0 (k + 1) y0 y1))
  |0=>fun _ _ r h=>by simp [spec_NewSkip.l0] at h
  |k + 1=>by
    have ih0:=spec_NewSkip.mono_l k
    · intro y0 y1
      unfold spec_NewSkip.l0;exact mo
theorem spec_NewSkip.mono:∀ k,LeO (spec_NewSkip.f k ) (spec_NewSkip.f (k + 1) ):=by
  intro  k;have ih0:=spec_NewSkip.mono_l k;unfold spec_NewSkip.f;exact mo
set_option maxHeartbeats 8000000 in
set_option maxRecDepth 100000 in
theorem spec_NewSkip.calls (k:Nat)  (r1:List Int) (r2:List (S77)) (w:World) (h:spec_NewSkip.f k  = some (r1,r2)) :
    Calls Tryd.prog 74 #[] w fun e w' => ∃ v0_ v1_:Value,e = .returned (.agg #[v0_,v1_])∧Kd.R (Kd.int .i64) 3 w' w.heap.size (fun _=>True) v0_ r1∧Kd.S k77 77 w' w.heap.size (fun k_=>some k_ ≠ (v0_:Value).ownBlock) v1_ r2∧Below w.heap.size w w':=by
 have hu26:=Tryd.underlying26;have HB:=AsZ.mk (Below.refl w.heap.size w);have H:(spec_NewSkip.l0 k 0 ([]:List Int))=some (r1,r2):=h;clear h;have H':=AsZ.mk H;clear H;go_enter Tryd.func74,Tryd.ntmps74;go_wp2_with (first|((with_reducible refine gate_dst (N:=0) rfl ?_);refine bev 0 26 (cs:=#[.slice none 0 0,.slice none 0 0]) ?_;intro gb315 hg w1 hbox hb;have BK315:=AsZ.mk (hbox);have GW315:=gz HB hg;have GE315:=gz HB hg;replace HB:=bp hb;clear hb hbox hg)|((with_reducible refine gate_dst (N:=1) rfl ?_);refine bev 1 26 (cs:=#[.slice none 0 0,.slice none 0 0]) ?_;intro gb316 hg w2 hbox hb;have BK316:=AsZ.mk (hbox);have GW316:=gz HB hg;have GE316:=gz HB hg;have NB315_316:=nl BK315 hg;have NB316_315:=nr BK315 hg;replace BK315:=bb BK315 hb;replace HB:=bp hb;clear hb hbox hg;have hnb3:=NB316_315.out;have hnc3:=NB315_316.out;obtain ⟨hcz4_0,hcz4_1,hfz4_0,hfz4_1⟩:=bx2 BK316))
 go_loopg [2] k (fun kq v2 w' => ∃ (x2_1:Int) (x317000_1:List Int) (u317000:Value),v2 = .int .i64 x2_1∧AsZ (spec_NewSkip.l0 kq x2_1 x317000_1=some (r1,r2))∧AsZ (kq≤k)∧AsZ (Kd.R (Kd.int .i64) 3 w' w.heap.size (fun _=>True) u317000 x317000_1)∧AsZ (w'.heap[gb315]? = some (.cells #[(.slice none 0 0),(.slice none 0 0)] 26 (0,0)))∧AsZ (w'.heap[gb316]? = some (.cells #[u317000,(.slice none 0 0)] 26 (0,0)))∧AsZ (Below w.heap.size w w'))
 case atStart=>exact ⟨(0),(([]:List Int)),(.slice none 0 0),rs,H',⟨Nat.le_refl _⟩,⟨by first|exact Kd.R_nil _ _ _ _ _|exact Kd.N_nil _ _ _ _ _|exact Kd.V_nil _ _ _ _ _|exact Kd.Q_nil _ _ _ _ _|exact Kd.S_nil _ _ _ _ _⟩,⟨bq BK315⟩,⟨bq BK316⟩,⟨bel⟩⟩
 case round =>
  clear H'
  try clear p2
  try clear hcz4_0 hcz4_1 hfz4_0 hfz4_1
  obtain ⟨x2_1,x317000_1,u317000,rfl,HA,HK1,HO_317000,BK315,BK316,HB⟩:=hrel
  cases gk with
  |zero=>exact absurd HA.out (by simp [spec_NewSkip.l0])
  |succ k1 =>
   have H:=HA.out;clear HA;simp only [spec_NewSkip.l0] at H;by_cases c5:x2_1 < 5;rotate_left
   · rw [if_neg c5] at H
     have c5b0:=decide_eq_false c5;clear c5;simp only [Option.some.injEq,Prod.mk.injEq] at H;obtain ⟨rfl,rfl⟩:=H;have hnb12:=NB316_315.out;have hnc12:=NB315_316.out;obtain ⟨hcz13_0,hcz13_1,hfz13_0,hfz13_1⟩:=bx2 BK316;obtain ⟨Ao14,co14,eo14⟩:=Kd.R_slice HO_317000.out;subst eo14;obtain ⟨hcz15_0,hcz15_1,hfz15_0,hfz15_1⟩:=bx2 BK315;go_wp2;refine bodyPost_ret (results_cell_row rfl _ _ gb315 26 #[.slice Ao14 x317000_1.length co14,.slice none 0 0] (0,0) _ rfl (bq BK315) Tryd.underlying26 rfl (by kernel_rfl)) rfl ?_;exact ⟨_,_,re,by (with_reducible repeat (first|apply Kd.R_alloc|apply Kd.R_drewN|apply Kd.R_drew));exact Kd.R_mono (fR (fR (Kd.R_types HO_317000.out BK315.out (by decide)))) (fun _ hk=>trivial),by first|exact Kd.S_nil _ _ _ _ _|exact Kd.N_nil _ _ _ _ _|exact Kd.V_nil _ _ _ _ _|exact Kd.Q_nil _ _ _ _ _|exact Kd.R_nil _ _ _ _ _,bel⟩
   rw [if_pos c5] at H;have c5b0:=zE c5;clear c5;by_cases c6:x317000_1.length < 17592186044416;rotate_left
   · rw [if_neg c6] at H
     exact absurd H (by simp)
   rw [if_pos c6] at H;have LMc6:=AsZ.mk c6;clear c6;obtain ⟨y317,hy317⟩:∃ y_:List Int,y_=(x317000_1 ++ [(-1)]):=⟨_,rfl⟩;replace H:(spec_NewSkip.l0 k1 (wrap64 (x2_1 + 1)) y317)=some (r1,r2):=ry hy317 H;have Ny317:=AsZ.mk hy317;clear hy317;have H':=AsZ.mk H;clear H;have hnb7:=NB316_315.out;have hnc7:=NB315_316.out;obtain ⟨hcz8_0,hcz8_1,hfz8_0,hfz8_1⟩:=bx2 BK316;go_wp2_with (first|((with_reducible refine gate_builtin (b := .append) (xs:=#[.tmp 9,.tmp 10]) rfl ?_);at_builtin;refine Kd.R_append (Kd.int .i64) (w0:=w) w.heap.size rfl (.tmp 9) (.tmp 10) 23 3 (.int .i64 0) 8 rfl Tryd.underlying23 info3 rfl (by decide) (by omega) u317000 x317000_1 (-1) [.int .i64 (-1)] (fun _=>True) (fun _=>False) rfl rfl ?aP (fun _ hk=>hk.elim) ?aF ?aO ?aB ?aS ?aL ?_;(case aP=>exact rfl);(case aB=>exact bel);(case aF=>exact (fun _ _=>trivial));(case aO=>exact (kR HO_317000));(case aS=>exact (bwz bel));(case aL=>have:=LMc6.out;omega);intro v318 w9 ho hb hg hat;rw [← Ny317.out] at ho;have HO319:=AsZ.mk (ho);replace BK315:=AsZ.mk (blk_grown (bk BK315) hg (Kd.R_ne HO_317000.out BK315.out (by decide)));replace BK316:=AsZ.mk (blk_grown (bk BK316) hg (Kd.R_ne HO_317000.out BK316.out (by decide)));replace HB:=AsZ.mk (hb);clear HO_317000;clear ho hb hg hat;obtain ⟨Ao10,co10,eo10⟩:=Kd.R_slice HO319.out;subst eo10;obtain ⟨hcz11_0,hcz11_1,hfz11_0,hfz11_1⟩:=bx2 BK316));go_roundg k1
   case measure=>have:=HK1.out;omega
   case rel=>exact ⟨(wrap64 (x2_1 + 1)),(y317),(.slice Ao10 y317.length co10),rs,H',⟨by have:=HK1.out;omega⟩,⟨by (with_reducible repeat (first|apply Kd.R_alloc|apply Kd.R_drewN|apply Kd.R_drew));exact Kd.R_mono (fR (Kd.R_types HO319.out BK316.out (by decide))) (fun _ hk=>trivial)⟩,⟨bq BK315⟩,⟨bq BK316⟩,⟨bel⟩⟩
end Go.Proofs.YtffjlpphcjfdgaaDoor.MFnSkip
