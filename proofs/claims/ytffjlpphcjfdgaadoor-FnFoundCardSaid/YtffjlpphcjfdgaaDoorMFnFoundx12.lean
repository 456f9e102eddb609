-- Written by a program of this session out of the translation. Not trusted: Lean checks it.
import Derived.Test.YtffjlpphcjfdgaaDoorMFnFoundx0
import Derived.Test.YtffjlpphcjfdgaaDoorMFnFoundx7
import Derived.Test.YtffjlpphcjfdgaaDoorMFnFoundx9
namespace Go.Proofs.YtffjlpphcjfdgaaDoor.MFnFound
-- short
-- shrunk
-- insfix
-- TAB
-- RD
open Go.Proofs.YtffjlpphcjfdgaaDoor Go.RowKit Go.Proofs.YtffjlpphcjfdgaaDoorW.PrintWords Go.Proofs.YtffjlpphcjfdgaaDoorW.PrintLast Go.Proofs.YtffjlpphcjfdgaaDoorW.PrintMore Go.Proofs.YtffjlpphcjfdgaaDoorX
attribute [local go_sem] max2_int min2_int max_two min_two max_three min_three max_four min_four str_gtr str_leq str_geq cell_twice
set_option linter.unusedVariables false
set_option linter.unusedSimpArgs false
-- COMPACT
/-! ### spec_l4Insert: function 48 -/
def spec_l4Insert.l0:Nat→List Int→Int→Int→List Int→List (S77)→ByteArray→Int→Int→ByteArray→ByteArray→Int→Int→ByteArray→List Int→Option (List Int × (List (S77)))
  |0,_,_,_,_,_,_,_,_,_,_,_,_,_,_=>none
  |k + 1,x5,x8,x9,x271000,x271001,x272000,x272001,x272002,x272003,x278000,x278001,x278002,x278003,x278004=>(spec_l2Table.f k).bind fun t278=>((spec_l4Tower.f k t278 x272000 x272001).bind fun t281=>(if x9 < t281 then (if 0≤x9 then (if x9 < (x5.length:Int) then ((spec_l4Next.f x271000 x271001 (rd x5 x9) x9).bind fun t286=>(if x278004.length < 17592186044416 then ((some (x278004 ++ [t286]:List Int)).bind fun y287=>(if (rd x5 x9) < 0 then (if x9 < (x271000.length:Int) then (spec_l4Insert.l0 k x5 x8 (wrap64 (x9 + 1)) (x271000.set (x9:Int).toNat x8) x271001 x272000 x272001 x272002 x272003 x278000 x278001 x278002 x278003 y287) else (none)) else (if 0≤(rd x5 x9) then (if (rd x5 x9) < (x271001.length:Int) then (if x9 < (((rd_T77 x271001 (rd x5 x9)).f1).length:Int) then (spec_l4Insert.l0 k x5 x8 (wrap64 (x9 + 1)) x271000 (x271001.set ((rd x5 x9):Int).toNat (⟨(⟨(rd_T77 x271001 (rd x5 x9)).f0.f0,(rd_T77 x271001 (rd x5 x9)).f0.f1,(rd_T77 x271001 (rd x5 x9)).f0.f2,(rd_T77 x271001 (rd x5 x9)).f0.f3⟩:S28),(((rd_T77 x271001 (rd x5 x9)).f1).set (x9:Int).toNat x8)⟩:S77)) x272000 x272001 x272002 x272003 x278000 x278001 x278002 x278003 y287) else (none)) else (none)) else (none)))) else (none))) else (none)) else (none)) else (if x271001.length < 1954687338268 then (some (x271000,(x271001 ++ [(⟨(⟨x278000,x278001,x278002,x278003⟩:S28),x278004⟩:S77)]))) else (none))))
def spec_l4Insert.f (k:Nat) (l0_0:List Int) (l0_1:List (S77)) (a1_0:ByteArray) (a1_1:Int) (a1_2:Int) (a1_3:ByteArray):Option (List Int × (List (S77))):=(spec_l4Before.f k l0_0 l0_1 a1_0 a1_1 a1_2 a1_3).bind fun bt273=>(spec_l4Insert.l0 k bt273.1 (l0_1.length:Int) 0 l0_0 l0_1 a1_0 a1_1 a1_2 a1_3 a1_0 a1_1 a1_2 a1_3 ([]:List Int))
theorem spec_l4Insert.mono_l:∀ k,(∀ y0 y1 y2 y3 y4 y5 y6 y7 y8 y9 y10 y11 y12 y13,LeO (spec_l4Insert.l0 k y0 y1 y2 y3 y4 y5 y6 y7 y8 y9 y10 y11 y12 y13) (spec_l4Insert.l0 (k + 1) y0 y1 y2 y3 y4 y5 y6 y7 y8 y9 y10 y11 y12 y13))
  |0=>fun _ _ _ _ _ _ _ _ _ _ _ _ _ _ r h=>by simp [spec_l4Insert.l0] at h
  |k + 1=>by
    have ih0:=spec_l4Insert.mono_l k
    · intro y0 y1 y2 y3 y4 y5 y6 y7 y8 y9 y10 y11 y12 y13
      unfold spec_l4Insert.l0
      repeat' first|(with_reducible first|exact ih0 _ _ _ _ _ _ _ _ _ _ _ _ _ _|exact spec_l2Table.mono _|exact spec_l4Before.mono _ _ _ _ _ _ _|exact spec_l4Tower.mono _ _ _ _|exact LeO.refl _|exact LeO.none _|refine LeO.ite ?_ ?_|refine LeO.bind ?_ (fun _=>?_))|exact ih0 _ _ _ _ _ _ _ _ _ _ _ _ _ _|exact spec_l2Table.mono _|exact spec_l4Before.mono _ _ _ _ _ _ _|exact spec_l4Tower.mono _ _ _ _|exact LeO.none _|refine LeO.ite ?_ ?_|refine LeO.bind ?_ (fun _=>?_)
theorem spec_l4Insert.mono:∀ a0 a1 a2 a3 a4 a5 k,LeO (spec_l4Insert.f k a0 a1 a2 a3 a4 a5) (spec_l4Insert.f (k + 1) a0 a1 a2 a3 a4 a5):=by
  intro a0 a1 a2 a3 a4 a5 k
  have ih0:=spec_l4Insert.mono_l k
  unfold spec_l4Insert.f
  repeat' first|(with_reducible first|exact ih0 _ _ _ _ _ _ _ _ _ _ _ _ _ _|exact spec_l2Table.mono _|exact spec_l4Before.mono _ _ _ _ _ _ _|exact spec_l4Tower.mono _ _ _ _|exact LeO.refl _|exact LeO.none _|refine LeO.ite ?_ ?_|refine LeO.bind ?_ (fun _=>?_))|exact ih0 _ _ _ _ _ _ _ _ _ _ _ _ _ _|exact spec_l2Table.mono _|exact spec_l4Before.mono _ _ _ _ _ _ _|exact spec_l4Tower.mono _ _ _ _|exact LeO.none _|refine LeO.ite ?_ ?_|refine LeO.bind ?_ (fun _=>?_)
def spec_l4Insert.T5:Bool × List (List Nat × List Nat):=(true,[([],[]),([],[]),([],[]),([2],[2]),([],[]),([4],[4]),([1,3,5,1],[1,3,5]),([0,6],[0,6])])
def spec_l4Insert.B5:List Nat:=[0,0,0,4,0,16,62,127]
theorem spec_l4Insert.tab5:rtab .any (opsOf Tryd.f48 5)=spec_l4Insert.T5:=by kernel_rfl
theorem spec_l4Insert.bits5:waitsOk spec_l4Insert.T5.2 spec_l4Insert.B5=true:=by kernel_rfl
def spec_l4Insert.T7:Bool × List (List Nat × List Nat):=(true,[([],[]),([0],[0]),([],[]),([],[]),([],[]),([3,4],[3,4]),([5],[5]),([],[]),([2,6,7],[2,6,7]),([8],[8]),([1,9,8],[1,9]),([0,1,2,3,4,5,6,7,8,9,10],[]),([11,10,10,0,1,2,3,4,5,6,7,8,9,10],[10,11])])
def spec_l4Insert.B7:List Nat:=[0,1,0,0,0,24,56,0,252,508,1023,2047,4095]
theorem spec_l4Insert.tab7:rtab .any (opsOf Tryd.f48 7)=spec_l4Insert.T7:=by kernel_rfl
theorem spec_l4Insert.bits7:waitsOk spec_l4Insert.T7.2 spec_l4Insert.B7=true:=by kernel_rfl
def spec_l4Insert.T10:Bool × List (List Nat × List Nat):=(true,[([],[]),([0],[0]),([],[]),([],[]),([2,3],[2,3]),([4],[4]),([1,5],[1,5]),([6],[6]),([7],[7]),([],[]),([],[]),([8,9,0,1,2,3,4,5,6,7,8,9,10],[8,9]),([11,10,0,1,2,3,4,5,6,7,8,9,10],[10,11])])
def spec_l4Insert.B10:List Nat:=[0,1,0,0,12,28,63,127,255,0,0,2047,4095]
theorem spec_l4Insert.tab10:rtab .any (opsOf Tryd.f48 10)=spec_l4Insert.T10:=by kernel_rfl
theorem spec_l4Insert.bits10:waitsOk spec_l4Insert.T10.2 spec_l4Insert.B10=true:=by kernel_rfl
set_option maxHeartbeats 8000000 in
set_option maxRecDepth 100000 in
theorem spec_l4Insert.calls (k:Nat) (P0_0_:Nat→Prop) (u9000_:Value) (l0_0:List Int) (P0_1_:Nat→Prop) (u9001_:Value) (l0_1:List (S77)) (a1_0:ByteArray) (a1_1:Int) (a1_2:Int) (a1_3:ByteArray) (r1:List Int) (r2:List (S77)) (w0 w:World) (hB:Below w0.heap.size w0 w) (ho0_0:Kd.R (Kd.int .i64) 3 w w0.heap.size P0_0_ u9000_ l0_0) (hp0_0_0_1:∀ k_,P0_0_ k_ → ¬ P0_1_ k_) (ho0_1:Kd.S k77 77 w w0.heap.size P0_1_ u9001_ l0_1) (hp0_1_0_0:∀ k_,P0_1_ k_ → ¬ P0_0_ k_) (h:spec_l4Insert.f k l0_0 l0_1 a1_0 a1_1 a1_2 a1_3=some (r1,r2)) :
    Calls Tryd.prog 48 #[.agg #[u9000_,u9001_],.agg #[.string a1_0,.int .i64 a1_1,.int .i64 a1_2,.string a1_3]] w fun e w' => ∃ v0_ v1_:Value,e = .returned (.agg #[v0_,v1_])∧Kd.R (Kd.int .i64) 3 w' w0.heap.size (fun k_=>((P0_0_ k_∨P0_1_ k_)∨w.heap.size≤k_)) v0_ r1∧Kd.S k77 77 w' w0.heap.size (fun k_=>((P0_0_ k_∨P0_1_ k_)∨w.heap.size≤k_)∧some k_ ≠ (v0_:Value).ownBlock) v1_ r2∧Below w0.heap.size w0 w'∧Kept w w' (fun k_=>P0_0_ k_∨P0_1_ k_):=by
 have hu26:=Tryd.underlying26
 have hu28:=Tryd.underlying28
 have hu77:=Tryd.underlying77
 have HO0_0:=AsZ.mk (show Kd.R (Kd.int .i64) 3 w w0.heap.size (fun k_=>((P0_0_ k_∨P0_1_ k_)∨w.heap.size≤k_)∧some k_ ≠ (u9001_:Value).ownBlock) u9000_ l0_0 from Kd.R_mono ho0_0 (fun k_ hk=>⟨(.inl (.inl hk)),fun e_=>hp0_0_0_1 k_ hk ((Kd.S_R ho0_1).1 k_ e_.symm)⟩))
 have HO0_1:=AsZ.mk (show Kd.S k77 77 w w0.heap.size (fun k_=>((P0_0_ k_∨P0_1_ k_)∨w.heap.size≤k_)∧some k_ ≠ (u9000_:Value).ownBlock) u9001_ l0_1 from Kd.S_mono ho0_1 (fun k_ hk=>⟨(.inl (.inr hk)),fun e_=>hp0_1_0_0 k_ hk (ho0_0.1 k_ e_.symm)⟩))
 have HK:=AsZ.mk (Kept.refl w (fun k_=>P0_0_ k_∨P0_1_ k_))
 have HW0:=AsZ.mk hB.size
 have HB:=AsZ.mk hB
 clear hB
 have H:((spec_l4Before.f k l0_0 l0_1 a1_0 a1_1 a1_2 a1_3).bind fun bt273=>(spec_l4Insert.l0 k bt273.1 (l0_1.length:Int) 0 l0_0 l0_1 a1_0 a1_1 a1_2 a1_3 a1_0 a1_1 a1_2 a1_3 ([]:List Int)))=some (r1,r2):=h
 clear h
 replace H:=bs H
 obtain ⟨⟨t273,t276⟩,A3,H⟩:=H
 have H':=AsZ.mk H
 clear H
 obtain ⟨Ao4,co4,eo4⟩:=Kd.R_slice HO0_0.out
 subst eo4
 obtain ⟨Ao5,co5,eo5⟩:=Kd.S_slice HO0_1.out
 subst eo5
 go_enter Tryd.func48,Tryd.ntmps48
 go_wp2_with (first|((with_reducible refine gate_dst (N:=2) rfl ?_);refine bev 2 26 (cs:=#[.slice Ao4 l0_0.length co4,.slice Ao5 l0_1.length co5]) ?_;intro gb270 hg w6 hbox hb;have BK270:=AsZ.mk (hbox);have GW270:=AsZ.mk ((by rw [hg];exact (by first|exact HK.out.1|exact (show Kept w _ (fun k_=>P0_0_ k_∨P0_1_ k_) from kP HK).1):w.heap.size≤gb270));have GE270:=gz HB hg;replace HO0_0:=rR HO0_0 hb;replace HO0_1:=rS HO0_1 hb;replace HK:=AsZ.mk (Kept.below (S:=(fun k_=>P0_0_ k_∨P0_1_ k_)) (kP HK) hb);replace HB:=bp hb;clear hb hbox hg)|((with_reducible refine gate_dst (N:=3) rfl ?_);refine bev 3 28 (cs:=#[.string a1_0,.int .i64 a1_1,.int .i64 a1_2,.string a1_3]) ?_;intro gb271 hg w7 hbox hb;have BK271:=AsZ.mk (hbox);have GW271:=AsZ.mk ((by rw [hg];exact (by first|exact HK.out.1|exact (show Kept w _ (fun k_=>P0_0_ k_∨P0_1_ k_) from kP HK).1):w.heap.size≤gb271));have GE271:=gz HB hg;have NB270_271:=nl BK270 hg;have NB271_270:=nr BK270 hg;replace HO0_0:=rR HO0_0 hb;replace HO0_1:=rS HO0_1 hb;replace BK270:=bb BK270 hb;replace HK:=AsZ.mk (Kept.below (S:=(fun k_=>P0_0_ k_∨P0_1_ k_)) (kP HK) hb);replace HB:=bp hb;clear hb hbox hg)|((with_reducible refine gate_dst (N:=4) rfl ?_);refine bev 4 26 (cs:=#[.slice none 0 0,.slice none 0 0]) ?_;intro gb272 hg w8 hbox hb;have BK272:=AsZ.mk (hbox);have GW272:=AsZ.mk ((by rw [hg];exact (by first|exact HK.out.1|exact (show Kept w _ (fun k_=>P0_0_ k_∨P0_1_ k_) from kP HK).1):w.heap.size≤gb272));have GE272:=gz HB hg;have NB270_272:=nl BK270 hg;have NB272_270:=nr BK270 hg;have NB271_272:=nl BK271 hg;have NB272_271:=nr BK271 hg;replace HO0_0:=rR HO0_0 hb;replace HO0_1:=rS HO0_1 hb;replace BK270:=bb BK270 hb;replace BK271:=bb BK271 hb;replace HK:=AsZ.mk (Kept.below (S:=(fun k_=>P0_0_ k_∨P0_1_ k_)) (kP HK) hb);replace HB:=bp hb;clear hb hbox hg;have hnb9:=NB270_271.out;have hnc9:=NB271_270.out;have hnb10:=NB270_272.out;have hnc10:=NB272_270.out;obtain ⟨hcz11_0,hcz11_1,hfz11_0,hfz11_1⟩:=bx2 BK270;have hnb12:=NB271_272.out;have hnc12:=NB272_271.out;obtain ⟨hcz13_0,hcz13_1,hcz13_2,hcz13_3,hfz13_0,hfz13_1,hfz13_2,hfz13_3⟩:=bx4 BK271)|((with_reducible refine gcl (f:=87) rfl ?_);refine goesL_ (some 13) rfl rfl Tryd.func87 (by kernel_rfl) rfl #[.agg #[.slice Ao4 l0_0.length co4,.slice Ao5 l0_1.length co5],.agg #[.string a1_0,.int .i64 a1_1,.int .i64 a1_2,.string a1_3]] rfl gl ?_;(with_reducible refine (spec_l4Before.calls k _ _ l0_0 _ _ l0_1 a1_0 a1_1 a1_2 a1_3 t273 t276 _ ?side1 ?side2 ?side3 ?side4 A3.out).mono ?_);(case side1=>exact cC (Kd.R_reads' HO0_0.out).2.2);(case side2=>exact (Kd.R_reads' HO0_0.out).2.1);(case side3=>exact cC (Kd.S_reads' HO0_1.out).2.2);(case side4=>exact (Kd.S_reads' HO0_1.out).2.1);rintro e w14 ⟨v274,rfl,ho0,hb⟩;refine ⟨_,rfl,?_⟩;have HO275:=AsZ.mk (Kd.R_lower (Kd.R_new' (Kd.R_newM (M:=fun k_=>((P0_0_ k_∨P0_1_ k_)∨w.heap.size≤k_)) ho0 (by first|exact HK.out.1|exact (show Kept w _ (fun k_=>P0_0_ k_∨P0_1_ k_) from kP HK).1) (fun k_ h_ => .inr h_)) (Kd.R_lt (kR HO0_0))) (bwz bel));replace HO0_0:=AsZ.mk (Kd.R_elder' (kR HO0_0) (Kd.R_base ho0) hb);replace HO0_1:=AsZ.mk (Kd.S_elder' (kS HO0_1) (Kd.R_base ho0) hb);replace BK270:=bb BK270 hb;replace BK271:=bb BK271 hb;replace BK272:=bb BK272 hb;replace HK:=AsZ.mk (Kept.below (S:=(fun k_=>P0_0_ k_∨P0_1_ k_)) (kP HK) hb);replace HB:=bp hb;(try clear hb);(try clear hb2);(try clear hk);(try clear hi);(try clear ho0);obtain ⟨hcz15_0,hcz15_1,hcz15_2,hcz15_3,hfz15_0,hfz15_1,hfz15_2,hfz15_3⟩:=bx4 BK271)|((with_reducible refine gate_dst (N:=7) rfl ?_);refine bev 7 77 (cs:=#[.string (⟨#[]⟩:ByteArray),.int .i64 0,.int .i64 0,.string (⟨#[]⟩:ByteArray),.slice none 0 0]) ?_;intro gb277 hg w16 hbox hb;have BK277:=AsZ.mk (hbox);have GW277:=AsZ.mk ((by rw [hg];exact (by first|exact HK.out.1|exact (show Kept w _ (fun k_=>P0_0_ k_∨P0_1_ k_) from kP HK).1):w.heap.size≤gb277));have GE277:=gz HB hg;have NB270_277:=nl BK270 hg;have NB277_270:=nr BK270 hg;have NB271_277:=nl BK271 hg;have NB277_271:=nr BK271 hg;have NB272_277:=nl BK272 hg;have NB277_272:=nr BK272 hg;replace HO0_0:=rR HO0_0 hb;replace HO0_1:=AsZ.mk (Kd.S_below (Kd.S_elderB (kS HO0_1) gb277 (Nat.le_of_eq hg.symm)) hb);replace HO275:=rR HO275 hb;replace BK270:=bb BK270 hb;replace BK271:=bb BK271 hb;replace BK272:=bb BK272 hb;replace HK:=AsZ.mk (Kept.below (S:=(fun k_=>P0_0_ k_∨P0_1_ k_)) (kP HK) hb);replace HB:=bp hb;clear hb hbox hg;have hnb17:=NB277_270.out;have hnc17:=NB270_277.out;have hnb18:=NB277_271.out;have hnc18:=NB271_277.out;have hnb19:=NB277_272.out;have hnc19:=NB272_277.out;obtain ⟨hcz20_0,hcz20_1,hcz20_2,hcz20_3,hcz20_4,hfz20_0,hfz20_1,hfz20_2,hfz20_3,hfz20_4⟩:=bx5 BK277;obtain ⟨hcz21_0,hcz21_1,hfz21_0,hfz21_1⟩:=bx2 BK270))
 go_loopg [9] k (fun kq v9 w' => ∃ (x5_1:List Int) (x9_1:Int) (x271000_1:List Int) (x271001_1:List (S77)) (x278004_1:List Int) (u271000:Value) (u271001:Value) (u278004:Value),v9 = .int .i64 x9_1∧AsZ (spec_l4Insert.l0 kq x5_1 (l0_1.length:Int) x9_1 x271000_1 x271001_1 a1_0 a1_1 a1_2 a1_3 a1_0 a1_1 a1_2 a1_3 x278004_1=some (r1,r2))∧AsZ (kq≤k)∧AsZ (Kd.R (Kd.int .i64) 3 w' w0.heap.size (fun k_=>((P0_0_ k_∨P0_1_ k_)∨w.heap.size≤k_)∧some k_ ≠ (u271000:Value).ownBlock∧some k_ ≠ (u278004:Value).ownBlock) v274 x5_1)∧AsZ (Kd.R (Kd.int .i64) 3 w' w0.heap.size (fun k_=>((P0_0_ k_∨P0_1_ k_)∨w.heap.size≤k_)∧some k_ ≠ (v274:Value).ownBlock∧some k_ ≠ (u278004:Value).ownBlock) u271000 x271000_1)∧AsZ (Kd.S k77 77 w' w0.heap.size (fun k_=>((P0_0_ k_∨P0_1_ k_)∨w.heap.size≤k_)∧some k_ ≠ (v274:Value).ownBlock∧some k_ ≠ (u271000:Value).ownBlock∧some k_ ≠ (u278004:Value).ownBlock∧k_ ≠ gb277) u271001 x271001_1)∧AsZ (Kd.R (Kd.int .i64) 3 w' w0.heap.size (fun k_=>((P0_0_ k_∨P0_1_ k_)∨w.heap.size≤k_)∧some k_ ≠ (v274:Value).ownBlock∧some k_ ≠ (u271000:Value).ownBlock) u278004 x278004_1)∧AsZ (w'.heap[gb270]? = some (.cells #[u271000,u271001] 26 (0,0)))∧AsZ (w'.heap[gb271]? = some (.cells #[.string a1_0,.int .i64 a1_1,.int .i64 a1_2,.string a1_3] 28 (0,0)))∧AsZ (w'.heap[gb272]? = some (.cells #[(.slice none 0 0),(.slice none 0 0)] 26 (0,0)))∧AsZ (w'.heap[gb277]? = some (.cells #[.string a1_0,.int .i64 a1_1,.int .i64 a1_2,.string a1_3,u278004] 77 (0,0)))∧AsZ (Kept w w' (fun k_=>P0_0_ k_∨P0_1_ k_))∧AsZ (Below w0.heap.size w0 w'))
 case atStart=>exact ⟨(t273),(0),(l0_0),(l0_1),(([]:List Int)),(.slice Ao4 l0_0.length co4),(.slice Ao5 l0_1.length co5),(.slice none 0 0),rs,H',⟨Nat.le_refl _⟩,⟨by (with_reducible repeat (first|apply Kd.R_alloc|apply Kd.R_drewN|apply Kd.R_drew));exact Kd.R_mono (fR (fR (fR (fR (fR (Kd.R_types HO275.out BK277.out (by decide))))))) (fun _ hk=>⟨hk.1.1.1,⟨hk.1.2,(by simp [Value.ownBlock])⟩⟩)⟩,⟨by (with_reducible repeat (first|apply Kd.R_alloc|apply Kd.R_drewN|apply Kd.R_drew));exact Kd.R_mono (fR (fR (fR (fR (fR (Kd.R_types HO0_0.out BK277.out (by decide))))))) (fun _ hk=>⟨hk.1.1.1,⟨hk.1.2,(by simp [Value.ownBlock])⟩⟩)⟩,⟨by (with_reducible repeat (first|apply Kd.S_alloc|apply Kd.S_drewN|apply Kd.S_drew));exact Kd.S_mono (fS (fS (fS (fS (fS (Kd.S_mono HO0_1.out (fun k_ hk=>(⟨hk,hk.2⟩:_∧k_ ≠ gb277)))))))) (fun _ hk=>⟨hk.1.1.1.1,⟨hk.1.1.2,⟨hk.1.1.1.2,⟨(by simp [Value.ownBlock]),hk.1.2⟩⟩⟩⟩)⟩,⟨by first|exact Kd.R_nil _ _ _ _ _|exact Kd.N_nil _ _ _ _ _|exact Kd.V_nil _ _ _ _ _|exact Kd.Q_nil _ _ _ _ _|exact Kd.S_nil _ _ _ _ _⟩,⟨bq BK270⟩,⟨bq BK271⟩,⟨bq BK272⟩,⟨bq BK277⟩,⟨kP HK⟩,⟨bel⟩⟩
 case round =>
  clear H'
  try clear p2
  try clear hcz11_0 hcz11_1 hfz11_0 hfz11_1
  try clear hcz13_0 hcz13_1 hcz13_2 hcz13_3 hfz13_0 hfz13_1 hfz13_2 hfz13_3
  try clear hcz15_0 hcz15_1 hcz15_2 hcz15_3 hfz15_0 hfz15_1 hfz15_2 hfz15_3
  try clear hcz20_0 hcz20_1 hcz20_2 hcz20_3 hcz20_4 hfz20_0 hfz20_1 hfz20_2 hfz20_3 hfz20_4
  try clear hcz21_0 hcz21_1 hfz21_0 hfz21_1
  obtain ⟨x5_1,x9_1,x271000_1,x271001_1,x278004_1,u271000,u271001,u278004,rfl,HA,HK1,HO_5,HO_271000,HO_271001,HO_278004,BK270,BK271,BK272,BK277,HK,HB⟩:=hrel
  cases gk with
  |zero=>exact absurd HA.out (by simp [spec_l4Insert.l0])
  |succ k1 =>
   have H:=HA.out
   clear HA
   simp only [spec_l4Insert.l0] at H
   replace H:=bs H
   obtain ⟨t278,A22,H⟩:=H
   replace H:=bs H
   obtain ⟨t281,A23,H⟩:=H
   by_cases c24:x9_1 < t281
   rotate_left
   · rw [if_neg c24] at H
     have c24b0:decide (x9_1 < t281)=false:=decide_eq_false c24
     clear c24
     by_cases c71:x271001_1.length < 1954687338268
     rotate_left
     · rw [if_neg c71] at H
       exact absurd H (by simp)
     rw [if_pos c71] at H
     have LMc71:=AsZ.mk c71
     clear c71
     obtain ⟨y282,hy282⟩:∃ y_:List (S77),y_=(x271001_1 ++ [(⟨(⟨a1_0,a1_1,a1_2,a1_3⟩:S28),x278004_1⟩:S77)]):=⟨_,rfl⟩
     replace H:(some (x271000_1,y282))=some (r1,r2):=ry hy282 H
     have Ny282:=AsZ.mk hy282
     clear hy282
     simp only [Option.some.injEq,Prod.mk.injEq] at H
     obtain ⟨rfl,rfl⟩:=H
     try go_wp2
     replace HO_5:=dR HO_5
     replace HO_271000:=dR HO_271000
     replace HO_271001:=dS HO_271001
     replace HO_278004:=dR HO_278004
     replace BK270:=db BK270
     replace BK271:=db BK271
     replace BK272:=db BK272
     replace BK277:=db BK277
     replace HK:=AsZ.mk (Kept.drew HK.out)
     replace HB:=dB HB
     refine start_ (n:=8) (S:=fun w'=>w'.cell? ⟨gb271,0,none⟩=some (.string a1_0)∧w'.cell? ⟨gb271,1,none⟩=some (.int .i64 a1_1)∧w'.cell? ⟨gb271,2,none⟩=some (.int .i64 a1_2)∧w'.cell? ⟨gb271,3,none⟩=some (.string a1_3)) (ds:=[]) (b_ 0 8) (by kernel_rfl) rfl rfl ⟨(kc BK271.out 0).trans rfl,(kc BK271.out 1).trans rfl,(kc BK271.out 2).trans rfl,(kc BK271.out 3).trans rfl⟩ (fun hHeld=>?_);refine with_tabW spec_l4Insert.tab5 spec_l4Insert.bits5 (fun HT_ HW_=>?_)
     generalize wr.drew=w72 at HO_5 HO_271000 HO_271001 HO_278004 BK270 BK271 BK272 BK277 HK HB hHeld ⊢
     refine pu 0 21 (b_ 1 7) HT_.out ?_
     refine pu 2 23 #[true,false,true,false,false,false,false,false] HT_.out ?_
     refine pu 4 25 #[true,false,true,false,true,false,false,false] HT_.out ?_
     refine tk4 3 24 #[true,false,true,true,true,false,false,false] HT_.out HW_.out hHeld ?_
     refine tk4 5 26 #[true,false,true,true,true,true,false,false] HT_.out HW_.out hHeld ?_
     refine one_ (i:=1) (N:=some 22) (b_ 6 2) rfl rfl (one_of HT_.out (by kernel_rfl)) (by decide) (fun K hK=>?_)
     refine goes_ Tryd.func56 (by kernel_rfl) rfl #[] (by rfl) rfl rfl gl ?_
     with_reducible refine (spec_l2Table.calls k1  t278 _ A22.out).mono ?_
     rintro e w73 ⟨v279,rfl,ho0,hb⟩
     refine ⟨_,rfl,?_⟩
     have HO280:=AsZ.mk (Kd.R_lower (Kd.R_newM (M:=fun k_=>((P0_0_ k_∨P0_1_ k_)∨w.heap.size≤k_)) ho0 (by first|exact HK.out.1|exact (show Kept w _ (fun k_=>P0_0_ k_∨P0_1_ k_) from kP HK).1) (fun k_ h_ => .inr h_)) (bwz bel))
     replace HO_5:=rR HO_5 hb
     replace HO_271000:=rR HO_271000 hb
     replace HO_271001:=rS HO_271001 hb
     replace HO_278004:=rR HO_278004 hb
     replace BK270:=bb BK270 hb
     replace BK271:=bb BK271 hb
     replace BK272:=bb BK272 hb
     replace BK277:=bb BK277 hb
     replace HK:=AsZ.mk (Kept.below (S:=(fun k_=>P0_0_ k_∨P0_1_ k_)) (kP HK) hb)
     replace HB:=bp hb
     (try clear hb)
     (try clear hb2)
     (try clear hk)
     (try clear hi)
     (try clear ho0)
     obtain ⟨Ao74,co74,eo74⟩:=Kd.R_slice HO280.out
     (first|subst eo74|(injection eo74 with f1_ f2_ f3_;have f4_:=f1_.symm;have f5_:=f3_.symm;clear f1_ f2_ f3_;subst f4_;subst f5_))
     refine hK.out _ _ ⟨(kc BK271.out 0).trans rfl,(kc BK271.out 1).trans rfl,(kc BK271.out 2).trans rfl,(kc BK271.out 3).trans rfl⟩ (fun hHeld=>?_)
     clear hK K
     refine norm_ (a':=?_) ?_ ?_
     rotate_left
     · show Act.put _ (some 22) _=_
       simp only [Act.put,zS,zT,zU,i64_w,i32_w]
       rfl
     refine one_ (i:=6) (N:=some 27) (b_ 7 1) rfl rfl (one_of HT_.out (by kernel_rfl)) (by decide) (fun K hK=>?_)
     refine goes_ Tryd.func55 (by kernel_rfl) rfl #[.slice Ao74 t278.length co74,.string a1_0,.int .i64 a1_1] (by rfl) rfl rfl gl ?_
     with_reducible refine (spec_l4Tower.calls k1 _ _ t278 a1_0 a1_1 t281 _ ?side1 ?side2 A23.out).mono ?_
     (case side1=>exact cC (Kd.R_reads' HO280.out).2.2)
     (case side2=>exact (Kd.R_reads' HO280.out).2.1)
     rintro e w75 ⟨rfl,hb⟩
     refine ⟨_,rfl,?_⟩
     replace HO_5:=rR HO_5 hb
     replace HO_271000:=rR HO_271000 hb
     replace HO_271001:=rS HO_271001 hb
     replace HO_278004:=rR HO_278004 hb
     replace HO280:=rR HO280 hb
     replace BK270:=bb BK270 hb
     replace BK271:=bb BK271 hb
     replace BK272:=bb BK272 hb
     replace BK277:=bb BK277 hb
     replace HK:=AsZ.mk (Kept.below (S:=(fun k_=>P0_0_ k_∨P0_1_ k_)) (kP HK) hb)
     replace HB:=bp hb
     (try clear hb)
     (try clear hb2)
     (try clear hk)
     (try clear hi)
     refine hK.out _ _ ⟨(kc BK271.out 0).trans rfl,(kc BK271.out 1).trans rfl,(kc BK271.out 2).trans rfl,(kc BK271.out 3).trans rfl⟩ (fun hHeld=>?_)
     clear hK K
     refine norm_ (a':=?_) ?_ ?_
     rotate_left
     · show Act.put _ (some 27) _=_
       simp only [Act.put,zS,zT,zU,i64_w,i32_w]
       rfl
     refine pu 7 28 (b_ 8 0) HT_.out ?_
     refine dn_ (dnO HT_.out (by kernel_rfl)) ?_
     have hnb76:=NB270_271.out
     have hnc76:=NB271_270.out
     have hnb77:=NB270_272.out
     have hnc77:=NB272_270.out
     have hnb78:=NB270_277.out
     have hnc78:=NB277_270.out
     obtain ⟨hcz79_0,hcz79_1,hfz79_0,hfz79_1⟩:=bx2 BK270
     have hnb80:=NB277_271.out
     have hnc80:=NB271_277.out
     have hnb81:=NB277_272.out
     have hnc81:=NB272_277.out
     obtain ⟨hcz82_0,hcz82_1,hcz82_2,hcz82_3,hcz82_4,hfz82_0,hfz82_1,hfz82_2,hfz82_3,hfz82_4⟩:=bx5 BK277
     obtain ⟨Ao84,co84,eo84⟩:=Kd.R_slice HO_278004.out
     subst eo84
     try go_wp2_with (first|((with_reducible refine gate_builtin (b := .append) (xs:=#[.tmp 66,.tmp 68]) rfl ?_);at_builtin;refine Kd.S_append k77 (w0:=w0) w0.heap.size rfl (.tmp 66) (.tmp 68) 24 77 (.agg #[(.string ⟨#[]⟩),(.int .i64 0),(.int .i64 0),(.string ⟨#[]⟩),(.slice none 0 0)]) 72 rfl Tryd.underlying24 info77 rfl (by decide) (by omega) u271001 x271001_1 (⟨(⟨a1_0,a1_1,a1_2,a1_3⟩:S28),x278004_1⟩:S77) [.string a1_0,.int .i64 a1_1,.int .i64 a1_2,.string a1_3,.slice Ao84 x278004_1.length co84] (fun k_=>((P0_0_ k_∨P0_1_ k_)∨w.heap.size≤k_)∧some k_ ≠ (v274:Value).ownBlock∧some k_ ≠ (u271000:Value).ownBlock∧k_ ≠ gb277) (fun k_=>some k_=(.slice Ao84 x278004_1.length co84:Value).ownBlock) rfl rfl ?aP (fun k_ hk_=>((Kd.R_mono (ok':=fun k_=>((fun k_=>((P0_0_ k_∨P0_1_ k_)∨w.heap.size≤k_)∧some k_ ≠ (v274:Value).ownBlock∧some k_ ≠ (u271000:Value).ownBlock∧k_ ≠ gb277)) k_∧some k_ ≠ (u271001:Value).ownBlock) (Kd.R_types (Kd.R_apart' (HO_278004.out) (Kd.S_typed HO_271001.out) (by decide)) BK277.out (by decide)) (fun k_ hk=>⟨⟨hk.1.1.1,⟨hk.1.1.2.1,⟨hk.1.1.2.2,hk.2⟩⟩⟩,hk.1.2⟩))).1 k_ hk_.symm) ?aF ?aO ?aB ?aS ?aL ?_;(case aP=>exact k77_mkM _ _ _ (⟨(⟨a1_0,a1_1,a1_2,a1_3⟩:S28),x278004_1⟩:S77) (Kd.R_mono (Kd.R_tight rfl (Kd.R_mono (ok':=fun k_=>((fun k_=>((P0_0_ k_∨P0_1_ k_)∨w.heap.size≤k_)∧some k_ ≠ (v274:Value).ownBlock∧some k_ ≠ (u271000:Value).ownBlock∧k_ ≠ gb277)) k_∧some k_ ≠ (u271001:Value).ownBlock) (Kd.R_types (Kd.R_apart' (HO_278004.out) (Kd.S_typed HO_271001.out) (by decide)) BK277.out (by decide)) (fun k_ hk=>⟨⟨hk.1.1.1,⟨hk.1.1.2.1,⟨hk.1.1.2.2,hk.2⟩⟩⟩,hk.1.2⟩))) (fun _ h_=>h_)));(case aB=>exact bel);(case aF=>exact (fun k_ hk=>⟨(.inr (Nat.le_trans (by first|exact HK.out.1|exact (show Kept w _ (fun k_=>P0_0_ k_∨P0_1_ k_) from kP HK).1) hk)),Kd.fresh' (Kd.R_lt (kR HO_5)) k_ hk,Kd.fresh' (Kd.R_lt (kR HO_271000)) k_ hk,Kd.freshB (bk BK277) k_ hk⟩));(case aO=>exact (by (with_reducible repeat (first|apply Kd.S_alloc|apply Kd.S_drewN|apply Kd.S_drew));exact Kd.S_mono HO_271001.out (fun k_ hk=>⟨⟨hk.1,⟨hk.2.1,⟨hk.2.2.1,hk.2.2.2.2⟩⟩⟩,fun e_=>hk.2.2.2.1 e_⟩)));(case aS=>exact (bwz bel));(case aL=>have:=LMc71.out;omega);intro v283 w83 ho hb hg hat;rw [← Ny282.out] at ho;have HO284:=AsZ.mk (ho);replace HO_5:=AsZ.mk (Kd.R_over' (kR HO_5) (Kd.S_typed (kS HO_271001)) (by decide) hg);replace HO_271000:=AsZ.mk (Kd.R_over' (kR HO_271000) (Kd.S_typed (kS HO_271001)) (by decide) hg);replace BK270:=AsZ.mk (blk_grown (bk BK270) hg (Kd.S_ne HO_271001.out BK270.out (by decide)));replace BK271:=AsZ.mk (blk_grown (bk BK271) hg (Kd.S_ne HO_271001.out BK271.out (by decide)));replace BK272:=AsZ.mk (blk_grown (bk BK272) hg (Kd.S_ne HO_271001.out BK272.out (by decide)));replace BK277:=AsZ.mk (blk_grown (bk BK277) hg (Kd.S_away HO_271001.out (fun _ hk=>hk.2.2.2.2)));replace HO280:=AsZ.mk (Kd.R_over' (kR HO280) (Kd.S_typed (kS HO_271001)) (by decide) hg);replace HB:=AsZ.mk (hb);replace HK:=AsZ.mk (Kept.of_grown (S:=(fun k_=>P0_0_ k_∨P0_1_ k_)) hg (kP HK) (fun k_ e_=>((Kd.S_R HO_271001.out).1 k_ e_).1));clear HO_271001 HO_278004;clear ho hb hg hat;obtain ⟨Ao85,co85,eo85⟩:=Kd.S_slice HO284.out;subst eo85;obtain ⟨hcz86_0,hcz86_1,hfz86_0,hfz86_1⟩:=bx2 BK270;obtain ⟨Ao87,co87,eo87⟩:=Kd.R_slice HO_271000.out;subst eo87;have hnb88:=NB272_271.out;have hnc88:=NB271_272.out;obtain ⟨hcz89_0,hcz89_1,hfz89_0,hfz89_1⟩:=bx2 BK272))
     refine bodyPost_ret (results_cell_row rfl _ _ gb272 26 #[.slice Ao87 x271000_1.length co87,.slice Ao85 y282.length co85] (0,0) _ rfl (bq BK272) Tryd.underlying26 rfl (by kernel_rfl)) rfl ?_
     exact ⟨_,_,re,by (with_reducible repeat (first|apply Kd.R_alloc|apply Kd.R_drewN|apply Kd.R_drew));exact Kd.R_mono (fR (fR (Kd.R_far (p:=⟨gb270,1,none⟩) (Kd.R_types (Kd.R_types HO_271000.out BK270.out (by decide)) BK272.out (by decide)) (fun _ hk=>hk.1.2) (.slice Ao85 y282.length co85)))) (fun _ hk=>hk.1.1.1),by (with_reducible repeat (first|apply Kd.S_alloc|apply Kd.S_drewN|apply Kd.S_drew));exact Kd.S_mono (fS (fS (Kd.S_far (p:=⟨gb270,1,none⟩) (Kd.S_types (Kd.S_types HO284.out BK270.out (by decide)) BK272.out (by decide)) (fun _ hk=>hk.1.2) (.slice Ao85 y282.length co85)))) (fun _ hk=>⟨hk.1.1.1,hk.1.1.2.2.1⟩),bel,kP HK⟩
   rw [if_pos c24] at H
   have c24b0:decide (x9_1 < t281)=true:=zE c24
   clear c24
   by_cases c25:0≤x9_1
   rotate_left
   · rw [if_neg c25] at H
     exact absurd H (by simp)
   rw [if_pos c25] at H
   have c25b0:decide (0≤x9_1)=true:=zE c25
   clear c25
   by_cases c26:x9_1 < (x5_1.length:Int)
   rotate_left
   · rw [if_neg c26] at H
     exact absurd H (by simp)
   rw [if_pos c26] at H
   have c26b0:decide (x9_1 < (x5_1.length:Int))=true:=zE c26
   clear c26
   replace H:=bs H
   obtain ⟨t286,A27,H⟩:=H
   by_cases c28:x278004_1.length < 17592186044416
   rotate_left
   · rw [if_neg c28] at H
     exact absurd H (by simp)
   rw [if_pos c28] at H
   have LMc28:=AsZ.mk c28
   clear c28
   obtain ⟨y287,hy287⟩:∃ y_:List Int,y_=(x278004_1 ++ [t286]):=⟨_,rfl⟩
   replace H:(if (rd x5_1 x9_1) < 0 then (if x9_1 < (x271000_1.length:Int) then (spec_l4Insert.l0 k1 x5_1 (l0_1.length:Int) (wrap64 (x9_1 + 1)) (x271000_1.set (x9_1:Int).toNat (l0_1.length:Int)) x271001_1 a1_0 a1_1 a1_2 a1_3 a1_0 a1_1 a1_2 a1_3 y287) else (none)) else (if 0≤(rd x5_1 x9_1) then (if (rd x5_1 x9_1) < (x271001_1.length:Int) then (if x9_1 < (((rd_T77 x271001_1 (rd x5_1 x9_1)).f1).length:Int) then (spec_l4Insert.l0 k1 x5_1 (l0_1.length:Int) (wrap64 (x9_1 + 1)) x271000_1 (x271001_1.set ((rd x5_1 x9_1):Int).toNat (⟨(⟨(rd_T77 x271001_1 (rd x5_1 x9_1)).f0.f0,(rd_T77 x271001_1 (rd x5_1 x9_1)).f0.f1,(rd_T77 x271001_1 (rd x5_1 x9_1)).f0.f2,(rd_T77 x271001_1 (rd x5_1 x9_1)).f0.f3⟩:S28),(((rd_T77 x271001_1 (rd x5_1 x9_1)).f1).set (x9_1:Int).toNat (l0_1.length:Int))⟩:S77)) a1_0 a1_1 a1_2 a1_3 a1_0 a1_1 a1_2 a1_3 y287) else (none)) else (none)) else (none)))=some (r1,r2):=ry hy287 H
   have Ny287:=AsZ.mk hy287
   clear hy287
   by_cases c29:(rd x5_1 x9_1) < 0
   · rw [if_pos c29] at H
     have c29b0:decide ((rd x5_1 x9_1) < 0)=true:=zE c29
     clear c29
     by_cases c30:x9_1 < (x271000_1.length:Int)
     rotate_left
     · rw [if_neg c30] at H
       exact absurd H (by simp)
     rw [if_pos c30] at H
     have c30b0:decide (x9_1 < (x271000_1.length:Int))=true:=zE c30
     clear c30
     obtain ⟨y291,hy291⟩:∃ y_:List Int,y_=(x271000_1.set (x9_1:Int).toNat (l0_1.length:Int)):=⟨_,rfl⟩
     replace H:(spec_l4Insert.l0 k1 x5_1 (l0_1.length:Int) (wrap64 (x9_1 + 1)) y291 x271001_1 a1_0 a1_1 a1_2 a1_3 a1_0 a1_1 a1_2 a1_3 y287)=some (r1,r2):=ry hy291 H
     have Ny291:=AsZ.mk hy291
     clear hy291
     have H':=AsZ.mk H
     clear H
     try go_wp2
     replace HO_5:=dR HO_5
     replace HO_271000:=dR HO_271000
     replace HO_271001:=dS HO_271001
     replace HO_278004:=dR HO_278004
     replace BK270:=db BK270
     replace BK271:=db BK271
     replace BK272:=db BK272
     replace BK277:=db BK277
     replace HK:=AsZ.mk (Kept.drew HK.out)
     replace HB:=dB HB
     refine start_ (n:=8) (S:=fun w'=>w'.cell? ⟨gb271,0,none⟩=some (.string a1_0)∧w'.cell? ⟨gb271,1,none⟩=some (.int .i64 a1_1)∧w'.cell? ⟨gb271,2,none⟩=some (.int .i64 a1_2)∧w'.cell? ⟨gb271,3,none⟩=some (.string a1_3)) (ds:=[]) (b_ 0 8) (by kernel_rfl) rfl rfl ⟨(kc BK271.out 0).trans rfl,(kc BK271.out 1).trans rfl,(kc BK271.out 2).trans rfl,(kc BK271.out 3).trans rfl⟩ (fun hHeld=>?_);refine with_tabW spec_l4Insert.tab5 spec_l4Insert.bits5 (fun HT_ HW_=>?_)
     generalize wr.drew=w32 at HO_5 HO_271000 HO_271001 HO_278004 BK270 BK271 BK272 BK277 HK HB hHeld ⊢
     refine pu 0 21 (b_ 1 7) HT_.out ?_
     refine pu 2 23 #[true,false,true,false,false,false,false,false] HT_.out ?_
     refine pu 4 25 #[true,false,true,false,true,false,false,false] HT_.out ?_
     refine tk4 3 24 #[true,false,true,true,true,false,false,false] HT_.out HW_.out hHeld ?_
     refine tk4 5 26 #[true,false,true,true,true,true,false,false] HT_.out HW_.out hHeld ?_
     refine one_ (i:=1) (N:=some 22) (b_ 6 2) rfl rfl (one_of HT_.out (by kernel_rfl)) (by decide) (fun K hK=>?_)
     refine goes_ Tryd.func56 (by kernel_rfl) rfl #[] (by rfl) rfl rfl gl ?_
     with_reducible refine (spec_l2Table.calls k1  t278 _ A22.out).mono ?_
     rintro e w33 ⟨v279,rfl,ho0,hb⟩
     refine ⟨_,rfl,?_⟩
     have HO280:=AsZ.mk (Kd.R_lower (Kd.R_newM (M:=fun k_=>((P0_0_ k_∨P0_1_ k_)∨w.heap.size≤k_)) ho0 (by first|exact HK.out.1|exact (show Kept w _ (fun k_=>P0_0_ k_∨P0_1_ k_) from kP HK).1) (fun k_ h_ => .inr h_)) (bwz bel))
     replace HO_5:=rR HO_5 hb
     replace HO_271000:=rR HO_271000 hb
     replace HO_271001:=rS HO_271001 hb
     replace HO_278004:=rR HO_278004 hb
     replace BK270:=bb BK270 hb
     replace BK271:=bb BK271 hb
     replace BK272:=bb BK272 hb
     replace BK277:=bb BK277 hb
     replace HK:=AsZ.mk (Kept.below (S:=(fun k_=>P0_0_ k_∨P0_1_ k_)) (kP HK) hb)
     replace HB:=bp hb
     (try clear hb)
     (try clear hb2)
     (try clear hk)
     (try clear hi)
     (try clear ho0)
     obtain ⟨Ao34,co34,eo34⟩:=Kd.R_slice HO280.out
     (first|subst eo34|(injection eo34 with f1_ f2_ f3_;have f4_:=f1_.symm;have f5_:=f3_.symm;clear f1_ f2_ f3_;subst f4_;subst f5_))
     refine hK.out _ _ ⟨(kc BK271.out 0).trans rfl,(kc BK271.out 1).trans rfl,(kc BK271.out 2).trans rfl,(kc BK271.out 3).trans rfl⟩ (fun hHeld=>?_)
     clear hK K
     refine norm_ (a':=?_) ?_ ?_
     rotate_left
     · show Act.put _ (some 22) _=_
       simp only [Act.put,zS,zT,zU,i64_w,i32_w]
       rfl
     refine one_ (i:=6) (N:=some 27) (b_ 7 1) rfl rfl (one_of HT_.out (by kernel_rfl)) (by decide) (fun K hK=>?_)
     refine goes_ Tryd.func55 (by kernel_rfl) rfl #[.slice Ao34 t278.length co34,.string a1_0,.int .i64 a1_1] (by rfl) rfl rfl gl ?_
     with_reducible refine (spec_l4Tower.calls k1 _ _ t278 a1_0 a1_1 t281 _ ?side1 ?side2 A23.out).mono ?_
     (case side1=>exact cC (Kd.R_reads' HO280.out).2.2)
     (case side2=>exact (Kd.R_reads' HO280.out).2.1)
     rintro e w35 ⟨rfl,hb⟩
     refine ⟨_,rfl,?_⟩
     replace HO_5:=rR HO_5 hb
     replace HO_271000:=rR HO_271000 hb
     replace HO_271001:=rS HO_271001 hb
     replace HO_278004:=rR HO_278004 hb
     replace HO280:=rR HO280 hb
     replace BK270:=bb BK270 hb
     replace BK271:=bb BK271 hb
     replace BK272:=bb BK272 hb
     replace BK277:=bb BK277 hb
     replace HK:=AsZ.mk (Kept.below (S:=(fun k_=>P0_0_ k_∨P0_1_ k_)) (kP HK) hb)
     replace HB:=bp hb
     (try clear hb)
     (try clear hb2)
     (try clear hk)
     (try clear hi)
     refine hK.out _ _ ⟨(kc BK271.out 0).trans rfl,(kc BK271.out 1).trans rfl,(kc BK271.out 2).trans rfl,(kc BK271.out 3).trans rfl⟩ (fun hHeld=>?_)
     clear hK K
     refine norm_ (a':=?_) ?_ ?_
     rotate_left
     · show Act.put _ (some 27) _=_
       simp only [Act.put,zS,zT,zU,i64_w,i32_w]
       rfl
     refine pu 7 28 (b_ 8 0) HT_.out ?_
     refine dn_ (dnO HT_.out (by kernel_rfl)) ?_
     try go_wp2
     replace HO_5:=dR HO_5
     replace HO_271000:=dR HO_271000
     replace HO_271001:=dS HO_271001
     replace HO_278004:=dR HO_278004
     replace HO280:=dR HO280
     replace BK270:=db BK270
     replace BK271:=db BK271
     replace BK272:=db BK272
     replace BK277:=db BK277
     replace HK:=AsZ.mk (Kept.drew HK.out)
     replace HB:=dB HB
     obtain ⟨Ao37,co37,eo37⟩:=Kd.R_slice HO_5.out
     (first|subst eo37|(injection eo37 with f1_ f2_ f3_;have f4_:=f1_.symm;have f5_:=f3_.symm;clear f1_ f2_ f3_;subst f4_;subst f5_))
     have p285:0≤(x9_1:Int):=dd
     have q285:x9_1 < (x5_1.length:Int):=dd
     obtain ⟨ad285,e285,hx285_0⟩:=Kd.at_int (Kd.R_reads' HO_5.out).2.2 x9_1 p285 q285
     cases e285
     replace p285:=eq_true p285
     replace q285:=eq_true q285
     obtain ⟨Ao38,co38,eo38⟩:=Kd.R_slice HO_271000.out
     (first|subst eo38|(injection eo38 with f1_ f2_ f3_;have f4_:=f1_.symm;have f5_:=f3_.symm;clear f1_ f2_ f3_;subst f4_;subst f5_))
     obtain ⟨Ao39,co39,eo39⟩:=Kd.S_slice HO_271001.out
     (first|subst eo39|(injection eo39 with f1_ f2_ f3_;have f4_:=f1_.symm;have f5_:=f3_.symm;clear f1_ f2_ f3_;subst f4_;subst f5_))
     refine start_ (n:=13) (S:=fun w'=>w'.cell? ⟨gb277,0,none⟩=some (.string a1_0)∧w'.cell? ⟨gb277,1,none⟩=some (.int .i64 a1_1)∧w'.cell? ⟨gb277,2,none⟩=some (.int .i64 a1_2)∧w'.cell? ⟨gb277,3,none⟩=some (.string a1_3)∧w'.cell? ⟨gb277,4,none⟩=some (u278004)∧w'.cell? ⟨gb270,0,none⟩=some (.slice Ao38 x271000_1.length co38)∧w'.cell? ⟨gb270,1,none⟩=some (.slice Ao39 x271001_1.length co39)∧w'.cell? (ad285.add (x9_1).toNat)=some (.int .i64 (rd x5_1 x9_1))) (ds:=[10,12]) (b_ 0 13) (by kernel_rfl) rfl rfl ⟨(kc BK277.out 0).trans rfl,(kc BK277.out 1).trans rfl,(kc BK277.out 2).trans rfl,(kc BK277.out 3).trans rfl,(kc BK277.out 4).trans rfl,(kc BK270.out 0).trans rfl,(kc BK270.out 1).trans rfl,hx285_0⟩ (fun hHeld=>?_);refine with_tabW spec_l4Insert.tab7 spec_l4Insert.bits7 (fun HT_ HW_=>?_)
     generalize w35.drew=w36 at HO_5 HO_271000 HO_271001 HO_278004 HO280 BK270 BK271 BK272 BK277 HK HB hx285_0 hHeld ⊢
     refine pu 0 31 (b_ 1 12) HT_.out ?_
     refine pu 3 34 #[true,false,false,true,false,false,false,false,false,false,false,false,false] HT_.out ?_
     refine pu 4 35 #[true,false,false,true,true,false,false,false,false,false,false,false,false] HT_.out ?_
     refine pu 5 36 #[true,false,false,true,true,true,false,false,false,false,false,false,false] HT_.out ?_
     refine pu 7 38 #[true,false,false,true,true,true,false,true,false,false,false,false,false] HT_.out ?_
     refine tk8 1 32 #[true,true,false,true,true,true,false,true,false,false,false,false,false] HT_.out HW_.out hHeld ?_
     refine tk8 2 33 #[true,true,true,true,true,true,false,true,false,false,false,false,false] HT_.out HW_.out hHeld ?_
     refine tk8 6 37 (b_ 8 5) HT_.out HW_.out hHeld ?_
     refine one_ (i:=8) (N:=some 39) (b_ 9 4) rfl rfl (one_of HT_.out (by kernel_rfl)) (by decide) (fun K hK=>?_)
     refine goes_ Tryd.func72 (by kernel_rfl) rfl #[.agg #[.slice Ao38 x271000_1.length co38,.slice Ao39 x271001_1.length co39],.int .i64 (rd x5_1 x9_1),.int .i64 x9_1] (by rfl) rfl rfl gl ?_
     with_reducible refine (spec_l4Next.calls _ _ x271000_1 _ _ x271001_1 (rd x5_1 x9_1) x9_1 t286 _ ?side1 ?side2 ?side3 ?side4 A27.out).mono ?_
     (case side1=>exact cC (Kd.R_reads' HO_271000.out).2.2)
     (case side2=>exact (Kd.R_reads' HO_271000.out).2.1)
     (case side3=>exact cC (Kd.S_reads' HO_271001.out).2.2)
     (case side4=>exact (Kd.S_reads' HO_271001.out).2.1)
     rintro e w40 ⟨rfl,hb⟩
     have HS7_:=(hb.cell (zB _ _ (hHeld.2.2.2.2.2.2.2))).trans (hHeld.2.2.2.2.2.2.2)
     refine ⟨_,rfl,?_⟩
     replace HO_5:=rR HO_5 hb
     replace HO_271000:=rR HO_271000 hb
     replace HO_271001:=rS HO_271001 hb
     replace HO_278004:=rR HO_278004 hb
     replace HO280:=rR HO280 hb
     replace BK270:=bb BK270 hb
     replace BK271:=bb BK271 hb
     replace BK272:=bb BK272 hb
     replace BK277:=bb BK277 hb
     replace HK:=AsZ.mk (Kept.below (S:=(fun k_=>P0_0_ k_∨P0_1_ k_)) (kP HK) hb)
     replace HB:=bp hb
     (try clear hb)
     (try clear hb2)
     (try clear hk)
     (try clear hi)
     refine hK.out _ _ ⟨(kc BK277.out 0).trans rfl,(kc BK277.out 1).trans rfl,(kc BK277.out 2).trans rfl,(kc BK277.out 3).trans rfl,(kc BK277.out 4).trans rfl,(kc BK270.out 0).trans rfl,(kc BK270.out 1).trans rfl,HS7_⟩ (fun hHeld=>?_)
     clear hK K
     refine norm_ (a':=?_) ?_ ?_
     rotate_left
     · show Act.put _ (some 39) _=_
       simp only [Act.put,zS,zT,zU,i64_w,i32_w]
       rfl
     refine one_ (i:=9) (N:=some 40) (b_ 10 3) rfl rfl (one_of HT_.out (by kernel_rfl)) (by decide) (fun K hK=>?_)
     refine value_ (w1:=?_) (v:=?_) (by rfl) rfl ?_ ?_
     rotate_left 2
     · go_simp
       constructor
       · rfl
       rfl
     refine hK.out _ _ ⟨(kc (ka BK277.out _) 0).trans rfl,(kc (ka BK277.out _) 1).trans rfl,(kc (ka BK277.out _) 2).trans rfl,(kc (ka BK277.out _) 3).trans rfl,(kc (ka BK277.out _) 4).trans rfl,(kc (ka BK270.out _) 0).trans rfl,(kc (ka BK270.out _) 1).trans rfl,(World.cell?_alloc_lt _ _ _ (zB _ _ (hHeld.2.2.2.2.2.2.2))).trans (hHeld.2.2.2.2.2.2.2)⟩ (fun hHeld=>?_)
     clear hK K
     refine norm_ (a':=?_) ?_ ?_
     rotate_left
     · show Act.put _ (some 40) _=_
       simp only [Act.put,zS,zT,zU,i64_w,i32_w]
       rfl
     refine last_ (i:=10) (N:=some 41) (b_ 11 2) rfl rfl (one_of HT_.out (by kernel_rfl)) (by decide) (fun K hK=>?_)
     refine Kd.R_append_step (Kd.int .i64) (w0:=w0) w0.heap.size (by rfl) (.tmp 32) (.tmp 40) 23 3 (.int .i64 0) 8 rfl Tryd.underlying23 info3 rfl (by decide) (by omega) u278004 x278004_1 t286 [.int .i64 t286] (fun k_=>((P0_0_ k_∨P0_1_ k_)∨w.heap.size≤k_)∧some k_ ≠ (.slice (some ad285) x5_1.length co37:Value).ownBlock∧some k_ ≠ (.slice Ao38 x271000_1.length co38:Value).ownBlock) (fun _=>False) rfl rfl ?aP (fun _ hk=>hk.elim) ?aF ?aO ?aB ?aS ?aL ?_
     (case aP=>exact rfl)
     (case aB=>exact bel)
     (case aF=>exact (fun k_ hk=>⟨(.inr (Nat.le_trans (by first|exact HK.out.1|exact (show Kept w _ (fun k_=>P0_0_ k_∨P0_1_ k_) from kP HK).1) hk)),Kd.fresh' (Kd.R_lt (kR HO_5)) k_ hk,Kd.fresh' (Kd.R_lt (kR HO_271000)) k_ hk⟩))
     (case aO=>exact (kR HO_278004))
     (case aS=>exact (bwz bel))
     (case aL=>have:=LMc28.out;omega)
     intro v288 w41 ho hb hg hat
     rw [← Ny287.out] at ho
     have HO289:=AsZ.mk (ho)
     replace HO_5:=AsZ.mk (Kd.R_after (ok:=(fun k_=>((P0_0_ k_∨P0_1_ k_)∨w.heap.size≤k_)∧some k_ ≠ (.slice Ao38 x271000_1.length co38:Value).ownBlock)) (by (with_reducible repeat (first|apply Kd.R_alloc|apply Kd.R_drewN|apply Kd.R_drew));exact Kd.R_mono HO_5.out (fun _ hk=>⟨⟨hk.1,hk.2.1⟩,hk.2.2⟩)) hg hat)
     replace HO_271000:=AsZ.mk (Kd.R_after (ok:=(fun k_=>((P0_0_ k_∨P0_1_ k_)∨w.heap.size≤k_)∧some k_ ≠ (.slice (some ad285) x5_1.length co37:Value).ownBlock)) (by (with_reducible repeat (first|apply Kd.R_alloc|apply Kd.R_drewN|apply Kd.R_drew));exact Kd.R_mono HO_271000.out (fun _ hk=>⟨⟨hk.1,hk.2.1⟩,hk.2.2⟩)) hg hat)
     replace HO_271001:=AsZ.mk (Kd.S_after (ok:=(fun k_=>((P0_0_ k_∨P0_1_ k_)∨w.heap.size≤k_)∧some k_ ≠ (.slice (some ad285) x5_1.length co37:Value).ownBlock∧some k_ ≠ (.slice Ao38 x271000_1.length co38:Value).ownBlock∧k_ ≠ gb277)) (by (with_reducible repeat (first|apply Kd.S_alloc|apply Kd.S_drewN|apply Kd.S_drew));exact Kd.S_mono HO_271001.out (fun _ hk=>⟨⟨hk.1,⟨hk.2.1,⟨hk.2.2.1,hk.2.2.2.2⟩⟩⟩,hk.2.2.2.1⟩)) hg hat)
     replace BK270:=AsZ.mk (blk_grown (bk BK270) hg (Kd.R_ne HO_278004.out BK270.out (by decide)))
     replace BK271:=AsZ.mk (blk_grown (bk BK271) hg (Kd.R_ne HO_278004.out BK271.out (by decide)))
     replace BK272:=AsZ.mk (blk_grown (bk BK272) hg (Kd.R_ne HO_278004.out BK272.out (by decide)))
     replace BK277:=AsZ.mk (blk_grown (bk BK277) hg (Kd.R_ne HO_278004.out BK277.out (by decide)))
     replace HO280:=AsZ.mk (Kd.R_over' (kR HO280) (Kd.R_typed (kR HO_278004)) (by decide) hg)
     replace HB:=AsZ.mk (hb)
     replace HK:=AsZ.mk (Kept.of_grown (S:=(fun k_=>P0_0_ k_∨P0_1_ k_)) hg (kP HK) (fun k_ e_=>(HO_278004.out.1 k_ e_).1))
     clear HO_278004 ho hb hg hat
     obtain ⟨Ao42,co42,eo42⟩:=Kd.R_slice HO289.out
     (first|subst eo42|(injection eo42 with f1_ f2_ f3_;have f4_:=f1_.symm;have f5_:=f3_.symm;clear f1_ f2_ f3_;subst f4_;subst f5_))
     refine hK.out _ _ ?_
     clear hK K
     refine norm_ (a':=?_) ?_ ?_
     rotate_left
     · show Act.put _ (some 41) _=_
       simp only [Act.put,zS,zT,zU,i64_w,i32_w]
       rfl
     refine pu 11 42 (b_ 12 1) HT_.out ?_
     refine last_ (i:=12) (N:=none) (b_ 13 0) rfl rfl (one_of HT_.out (by kernel_rfl)) (by decide) (fun K hK=>?_)
     have hs43:w41.cell? ⟨gb277,4,none⟩=some (u278004):=(kc BK277.out 4).trans rfl
     have hfs43:=kf BK277.out 4
     have hns43_0:=NB270_277.out
     have hns43_1:=NB271_277.out
     have hns43_2:=NB272_277.out
     have hms43_0:=NB277_270.out
     have hms43_1:=NB277_271.out
     have hms43_2:=NB277_272.out
     refine skip_ (w1:=?_) (by rfl) rfl ?_ ?_
     rotate_left
     · go_simp
       rfl
     refine hK.out _ _ ?_
     clear hK K
     refine dn_ (dnO HT_.out (by kernel_rfl)) ?_
     have n0_:AsZ (Kd.R (Kd.int .i64) 3 (w41.setCell ⟨gb277,4,none⟩ (.slice Ao42 y287.length co42)) w0.heap.size (fun k_=>((P0_0_ k_∨P0_1_ k_)∨w.heap.size≤k_)∧some k_ ≠ (.slice Ao38 x271000_1.length co38:Value).ownBlock∧some k_ ≠ (.slice Ao42 y287.length co42:Value).ownBlock) (.slice (some ad285) x5_1.length co37) x5_1):=⟨by (with_reducible repeat (first|apply Kd.R_alloc|apply Kd.R_drewN|apply Kd.R_drew));exact Kd.R_mono (fR (Kd.R_types HO_5.out BK277.out (by decide))) (fun _ hk=>⟨hk.1.1.1,⟨hk.1.1.2,hk.1.2⟩⟩)⟩
     have n1_:AsZ (Kd.R (Kd.int .i64) 3 (w41.setCell ⟨gb277,4,none⟩ (.slice Ao42 y287.length co42)) w0.heap.size (fun k_=>((P0_0_ k_∨P0_1_ k_)∨w.heap.size≤k_)∧some k_ ≠ (.slice (some ad285) x5_1.length co37:Value).ownBlock∧some k_ ≠ (.slice Ao42 y287.length co42:Value).ownBlock) (.slice Ao38 x271000_1.length co38) x271000_1):=⟨by (with_reducible repeat (first|apply Kd.R_alloc|apply Kd.R_drewN|apply Kd.R_drew));exact Kd.R_mono (fR (Kd.R_types HO_271000.out BK277.out (by decide))) (fun _ hk=>⟨hk.1.1.1,⟨hk.1.1.2,hk.1.2⟩⟩)⟩
     have n2_:AsZ (Kd.S k77 77 (w41.setCell ⟨gb277,4,none⟩ (.slice Ao42 y287.length co42)) w0.heap.size (fun k_=>((P0_0_ k_∨P0_1_ k_)∨w.heap.size≤k_)∧some k_ ≠ (.slice (some ad285) x5_1.length co37:Value).ownBlock∧some k_ ≠ (.slice Ao38 x271000_1.length co38:Value).ownBlock∧some k_ ≠ (.slice Ao42 y287.length co42:Value).ownBlock∧k_ ≠ gb277) (.slice Ao39 x271001_1.length co39) x271001_1):=⟨by (with_reducible repeat (first|apply Kd.S_alloc|apply Kd.S_drewN|apply Kd.S_drew));exact Kd.S_mono (fS (Kd.S_mono HO_271001.out (fun k_ hk=>(⟨hk,hk.1.2.2.2⟩:_∧k_ ≠ gb277)))) (fun _ hk=>⟨hk.1.1.1,⟨hk.1.1.2.1,⟨hk.1.1.2.2.1,⟨hk.1.2,hk.1.1.2.2.2⟩⟩⟩⟩)⟩
     have n3_:AsZ (Kd.R (Kd.int .u32) 106 (w41.setCell ⟨gb277,4,none⟩ (.slice Ao42 y287.length co42)) w0.heap.size (fun k_=>((P0_0_ k_∨P0_1_ k_)∨w.heap.size≤k_)) (.slice Ao34 t278.length co34) t278):=⟨by (with_reducible repeat (first|apply Kd.R_alloc|apply Kd.R_drewN|apply Kd.R_drew));exact Kd.R_mono (fR (Kd.R_types HO280.out BK277.out (by decide))) (fun _ hk=>hk.1.1)⟩
     have n4_:AsZ (Kd.R (Kd.int .i64) 3 (w41.setCell ⟨gb277,4,none⟩ (.slice Ao42 y287.length co42)) w0.heap.size (fun k_=>((P0_0_ k_∨P0_1_ k_)∨w.heap.size≤k_)∧some k_ ≠ (.slice (some ad285) x5_1.length co37:Value).ownBlock∧some k_ ≠ (.slice Ao38 x271000_1.length co38:Value).ownBlock) (.slice Ao42 y287.length co42) y287):=⟨by (with_reducible repeat (first|apply Kd.R_alloc|apply Kd.R_drewN|apply Kd.R_drew));exact Kd.R_mono (fR (Kd.R_types HO289.out BK277.out (by decide))) (fun _ hk=>⟨hk.1.1,⟨hk.1.2.1,hk.1.2.2⟩⟩)⟩
     have n5_:AsZ ((w41.setCell ⟨gb277,4,none⟩ (.slice Ao42 y287.length co42)).heap[gb270]? = some (.cells #[.slice Ao38 x271000_1.length co38,.slice Ao39 x271001_1.length co39] 26 (0,0))):=⟨bq BK270⟩
     have n6_:AsZ ((w41.setCell ⟨gb277,4,none⟩ (.slice Ao42 y287.length co42)).heap[gb271]? = some (.cells #[.string a1_0,.int .i64 a1_1,.int .i64 a1_2,.string a1_3] 28 (0,0))):=⟨bq BK271⟩
     have n7_:AsZ ((w41.setCell ⟨gb277,4,none⟩ (.slice Ao42 y287.length co42)).heap[gb272]? = some (.cells #[.slice none 0 0,.slice none 0 0] 26 (0,0))):=⟨bq BK272⟩
     have n8_:AsZ ((w41.setCell ⟨gb277,4,none⟩ (.slice Ao42 y287.length co42)).heap[gb277]? = some (.cells #[.string a1_0,.int .i64 a1_1,.int .i64 a1_2,.string a1_3,.slice Ao42 y287.length co42] 77 (0,0))):=⟨bq BK277⟩
     have n9_:AsZ (Kept w (w41.setCell ⟨gb277,4,none⟩ (.slice Ao42 y287.length co42)) (fun k_=>P0_0_ k_∨P0_1_ k_)):=⟨kP HK⟩
     have n10_:AsZ (Below w0.heap.size w0 (w41.setCell ⟨gb277,4,none⟩ (.slice Ao42 y287.length co42))):=⟨bel⟩
     (try clear HO_5)
     (try clear HO_271000)
     (try clear HO_271001)
     (try clear HO280)
     (try clear HO289)
     (try clear BK270)
     (try clear BK271)
     (try clear BK272)
     (try clear BK277)
     (try clear HK)
     (try clear HB)
     generalize (w41.setCell ⟨gb277,4,none⟩ (.slice Ao42 y287.length co42))=w44 at n0_ n1_ n2_ n3_ n4_ n5_ n6_ n7_ n8_ n9_ n10_ ⊢
     have HO_5:=n0_
     have HO_271000:=n1_
     have HO_271001:=n2_
     have HO280:=n3_
     have HO289:=n4_
     have BK270:=n5_
     have BK271:=n6_
     have BK272:=n7_
     have BK277:=n8_
     have HK:=n9_
     have HB:=n10_
     clear n0_ n1_ n2_ n3_ n4_ n5_ n6_ n7_ n8_ n9_ n10_
     have p290:0≤(x9_1:Int):=dd
     have q290:x9_1 < (x5_1.length:Int):=dd
     obtain ⟨ad290,e290,hx290_0⟩:=Kd.at_int (Kd.R_reads' HO_5.out).2.2 x9_1 p290 q290
     obtain rfl:ad285=ad290:=(by injection e290)
     replace p290:=eq_true p290
     replace q290:=eq_true q290
     have hnb45:=NB270_271.out
     have hnc45:=NB271_270.out
     have hnb46:=NB270_272.out
     have hnc46:=NB272_270.out
     have hnb47:=NB270_277.out
     have hnc47:=NB277_270.out
     obtain ⟨hcz48_0,hcz48_1,hfz48_0,hfz48_1⟩:=bx2 BK270
     have p31:0≤(x9_1:Int):=dd
     have q31:(x9_1:Int) < ((x271000_1.length:Int):Int):=dd
     obtain ⟨go31,co31,eo31,gb31,gl31,cl31,HG31⟩:=Kd.R_form HO_271000.out (by omega)
     (first|cases eo31|(injection eo31 with ea_ en_ ec_;(first|subst ea_|(injection ea_ with ea_;subst ea_));subst ec_;clear en_))
     have GB31:=AsZ.mk gb31
     have GG31:=AsZ.mk HG31
     clear gb31 gl31 HG31
     have HMgo31:=AsZ.mk (show ((P0_0_ go31∨P0_1_ go31)∨w.heap.size≤go31) from (HO_271000.out.1 _ rfl).1)
     obtain ⟨hx31_0,hf31_0⟩:=Kd.R_celln 0 HO_271000.out (x9_1:Int) p31 q31
     replace p31:=eq_true p31
     replace q31:=eq_true q31
     obtain ⟨hy49_,hz49_⟩:=Kd.R_celln 0 HO_271000.out (x9_1:Int) dd dd
     have HP49:=Kd.R_putg HO_271000.out (x9_1:Int) (l0_1.length:Int)
     try go_wp2_with (first|((with_reducible refine gate_store (t:=3) (p:=52) rfl ?_);refine store_event (t:=3) (p:=52) (v:=?vo_w50) (w1:=(w44.setCell ⟨go31,(x9_1:Int).toNat,none⟩ (.int .i64 (l0_1.length:Int)))) ?hg ?ho ?hn ?hr ?_;(case ho=>rfl);(case hg=>rfl);(case hn=>rfl);(case hr=>first|(go_simp;done)|(go_simp;rfl));intro w50 hw;have hg:w44.grownBy w50 (some go31):=(by rw [hw];exact HP49.2);have hp_:Kd.R (Kd.int .i64) 3 w50 w0.heap.size (fun k_=>((P0_0_ k_∨P0_1_ k_)∨w.heap.size≤k_)∧some k_ ≠ (.slice (some ad285) x5_1.length co37:Value).ownBlock∧some k_ ≠ (.slice Ao42 y287.length co42:Value).ownBlock) (.slice (some ⟨go31,0,none⟩) x271000_1.length co38) y291:=(by rw [hw,Ny291.out];exact HP49.1);clear HP49;replace HO_5:=AsZ.mk (Kd.R_after (v:=(.slice (some ⟨go31,0,none⟩) x271000_1.length co38)) (v1:=(.slice (some ⟨go31,0,none⟩) x271000_1.length co38)) (ok:=(fun k_=>((P0_0_ k_∨P0_1_ k_)∨w.heap.size≤k_)∧some k_ ≠ (.slice Ao42 y287.length co42:Value).ownBlock)) (by (with_reducible repeat (first|apply Kd.R_alloc|apply Kd.R_drewN|apply Kd.R_drew));exact Kd.R_mono HO_5.out (fun _ hk=>⟨⟨hk.1,hk.2.2⟩,hk.2.1⟩)) hg (.inl rfl));replace HO_271001:=AsZ.mk (Kd.S_after (v:=(.slice (some ⟨go31,0,none⟩) x271000_1.length co38)) (v1:=(.slice (some ⟨go31,0,none⟩) x271000_1.length co38)) (ok:=(fun k_=>((P0_0_ k_∨P0_1_ k_)∨w.heap.size≤k_)∧some k_ ≠ (.slice (some ad285) x5_1.length co37:Value).ownBlock∧some k_ ≠ (.slice Ao42 y287.length co42:Value).ownBlock∧k_ ≠ gb277)) (by (with_reducible repeat (first|apply Kd.S_alloc|apply Kd.S_drewN|apply Kd.S_drew));exact Kd.S_mono HO_271001.out (fun _ hk=>⟨⟨hk.1,⟨hk.2.1,⟨hk.2.2.2.1,hk.2.2.2.2⟩⟩⟩,hk.2.2.1⟩)) hg (.inl rfl));replace BK270:=AsZ.mk (blk_grown (bk BK270) hg (Kd.R_ne HO_271000.out BK270.out (by decide)));replace BK271:=AsZ.mk (blk_grown (bk BK271) hg (Kd.R_ne HO_271000.out BK271.out (by decide)));replace BK272:=AsZ.mk (blk_grown (bk BK272) hg (Kd.R_ne HO_271000.out BK272.out (by decide)));replace BK277:=AsZ.mk (blk_grown (bk BK277) hg (Kd.R_ne HO_271000.out BK277.out (by decide)));replace HO280:=AsZ.mk (Kd.R_over' (v:=(.slice (some ⟨go31,0,none⟩) x271000_1.length co38)) (kR HO280) (Kd.R_typed HO_271000.out) (by decide) hg);replace HO289:=AsZ.mk (Kd.R_after (v:=(.slice (some ⟨go31,0,none⟩) x271000_1.length co38)) (v1:=(.slice (some ⟨go31,0,none⟩) x271000_1.length co38)) (ok:=(fun k_=>((P0_0_ k_∨P0_1_ k_)∨w.heap.size≤k_)∧some k_ ≠ (.slice (some ad285) x5_1.length co37:Value).ownBlock)) (by (with_reducible repeat (first|apply Kd.R_alloc|apply Kd.R_drewN|apply Kd.R_drew));exact Kd.R_mono HO289.out (fun _ hk=>⟨⟨hk.1,hk.2.1⟩,hk.2.2⟩)) hg (.inl rfl));replace HB:=AsZ.mk ((by rw [hw];exact bws (HB.out) GB31.out:Below w0.heap.size w0 w50));replace HK:=AsZ.mk (Kept.of_grown (S:=(fun k_=>P0_0_ k_∨P0_1_ k_)) hg (kP HK) (fun k_ e_=>(HO_271000.out.1 k_ e_).1));replace HO_271000:=AsZ.mk (hp_);clear hg hw hp_))
     go_roundg k1
     case measure=>have:=HK1.out;omega
     case rel=>exact ⟨(x5_1),(wrap64 (x9_1 + 1)),(y291),(x271001_1),(y287),(.slice (some ⟨go31,0,none⟩) x271000_1.length co38),(.slice Ao39 x271001_1.length co39),(.slice Ao42 y287.length co42),rs,H',⟨by have:=HK1.out;omega⟩,⟨by (with_reducible repeat (first|apply Kd.R_alloc|apply Kd.R_drewN|apply Kd.R_drew));exact Kd.R_mono HO_5.out (fun _ hk=>⟨hk.1.1,⟨hk.2,hk.1.2⟩⟩)⟩,⟨kR HO_271000⟩,⟨by (with_reducible repeat (first|apply Kd.S_alloc|apply Kd.S_drewN|apply Kd.S_drew));exact Kd.S_mono HO_271001.out (fun _ hk=>⟨hk.1.1,⟨hk.1.2.1,⟨hk.2,⟨hk.1.2.2.1,hk.1.2.2.2⟩⟩⟩⟩)⟩,⟨by (with_reducible repeat (first|apply Kd.R_alloc|apply Kd.R_drewN|apply Kd.R_drew));exact Kd.R_mono HO289.out (fun _ hk=>⟨hk.1.1,⟨hk.1.2,hk.2⟩⟩)⟩,⟨bk BK270⟩,⟨bk BK271⟩,⟨bk BK272⟩,⟨bk BK277⟩,⟨kP HK⟩,⟨bel⟩⟩
   rw [if_neg c29] at H
   have c29b0:decide ((rd x5_1 x9_1) < 0)=false:=decide_eq_false c29
   clear c29
   by_cases c51:0≤(rd x5_1 x9_1)
   rotate_left
   · rw [if_neg c51] at H
     exact absurd H (by simp)
   rw [if_pos c51] at H
   have c51b0:decide (0≤(rd x5_1 x9_1))=true:=zE c51
   clear c51
   by_cases c52:(rd x5_1 x9_1) < (x271001_1.length:Int)
   rotate_left
   · rw [if_neg c52] at H
     exact absurd H (by simp)
   rw [if_pos c52] at H
   have c52b0:decide ((rd x5_1 x9_1) < (x271001_1.length:Int))=true:=zE c52
   clear c52
   by_cases c53:x9_1 < (((rd_T77 x271001_1 (rd x5_1 x9_1)).f1).length:Int)
   rotate_left
   · rw [if_neg c53] at H
     exact absurd H (by simp)
   rw [if_pos c53] at H
   have c53b0:decide (x9_1 < (((rd_T77 x271001_1 (rd x5_1 x9_1)).f1).length:Int))=true:=zE c53
   clear c53
   obtain ⟨y294,hy294⟩:∃ y_:List Int,y_=(((rd_T77 x271001_1 (rd x5_1 x9_1)).f1).set (x9_1:Int).toNat (l0_1.length:Int)):=⟨_,rfl⟩
   replace H:(spec_l4Insert.l0 k1 x5_1 (l0_1.length:Int) (wrap64 (x9_1 + 1)) x271000_1 (x271001_1.set ((rd x5_1 x9_1):Int).toNat (⟨(⟨(rd_T77 x271001_1 (rd x5_1 x9_1)).f0.f0,(rd_T77 x271001_1 (rd x5_1 x9_1)).f0.f1,(rd_T77 x271001_1 (rd x5_1 x9_1)).f0.f2,(rd_T77 x271001_1 (rd x5_1 x9_1)).f0.f3⟩:S28),y294⟩:S77)) a1_0 a1_1 a1_2 a1_3 a1_0 a1_1 a1_2 a1_3 y287)=some (r1,r2):=ry hy294 H
   have Ny294:=AsZ.mk hy294
   clear hy294
   obtain ⟨y296,hy296⟩:∃ y_:List (S77),y_=(x271001_1.set ((rd x5_1 x9_1):Int).toNat (⟨(⟨(rd_T77 x271001_1 (rd x5_1 x9_1)).f0.f0,(rd_T77 x271001_1 (rd x5_1 x9_1)).f0.f1,(rd_T77 x271001_1 (rd x5_1 x9_1)).f0.f2,(rd_T77 x271001_1 (rd x5_1 x9_1)).f0.f3⟩:S28),y294⟩:S77)):=⟨_,rfl⟩
   replace H:(spec_l4Insert.l0 k1 x5_1 (l0_1.length:Int) (wrap64 (x9_1 + 1)) x271000_1 y296 a1_0 a1_1 a1_2 a1_3 a1_0 a1_1 a1_2 a1_3 y287)=some (r1,r2):=ry hy296 H
   have Ny296:=AsZ.mk hy296
   clear hy296
   have H':=AsZ.mk H
   clear H
   try go_wp2
   replace HO_5:=dR HO_5
   replace HO_271000:=dR HO_271000
   replace HO_271001:=dS HO_271001
   replace HO_278004:=dR HO_278004
   replace BK270:=db BK270
   replace BK271:=db BK271
   replace BK272:=db BK272
   replace BK277:=db BK277
   replace HK:=AsZ.mk (Kept.drew HK.out)
   replace HB:=dB HB
   refine start_ (n:=8) (S:=fun w'=>w'.cell? ⟨gb271,0,none⟩=some (.string a1_0)∧w'.cell? ⟨gb271,1,none⟩=some (.int .i64 a1_1)∧w'.cell? ⟨gb271,2,none⟩=some (.int .i64 a1_2)∧w'.cell? ⟨gb271,3,none⟩=some (.string a1_3)) (ds:=[]) (b_ 0 8) (by kernel_rfl) rfl rfl ⟨(kc BK271.out 0).trans rfl,(kc BK271.out 1).trans rfl,(kc BK271.out 2).trans rfl,(kc BK271.out 3).trans rfl⟩ (fun hHeld=>?_);refine with_tabW spec_l4Insert.tab5 spec_l4Insert.bits5 (fun HT_ HW_=>?_)
   generalize wr.drew=w55 at HO_5 HO_271000 HO_271001 HO_278004 BK270 BK271 BK272 BK277 HK HB hHeld ⊢
   refine pu 0 21 (b_ 1 7) HT_.out ?_
   refine pu 2 23 #[true,false,true,false,false,false,false,false] HT_.out ?_
   refine pu 4 25 #[true,false,true,false,true,false,false,false] HT_.out ?_
   refine tk4 3 24 #[true,false,true,true,true,false,false,false] HT_.out HW_.out hHeld ?_
   refine tk4 5 26 #[true,false,true,true,true,true,false,false] HT_.out HW_.out hHeld ?_
   refine one_ (i:=1) (N:=some 22) (b_ 6 2) rfl rfl (one_of HT_.out (by kernel_rfl)) (by decide) (fun K hK=>?_)
   refine goes_ Tryd.func56 (by kernel_rfl) rfl #[] (by rfl) rfl rfl gl ?_
   with_reducible refine (spec_l2Table.calls k1  t278 _ A22.out).mono ?_
   rintro e w56 ⟨v279,rfl,ho0,hb⟩
   refine ⟨_,rfl,?_⟩
   have HO280:=AsZ.mk (Kd.R_lower (Kd.R_newM (M:=fun k_=>((P0_0_ k_∨P0_1_ k_)∨w.heap.size≤k_)) ho0 (by first|exact HK.out.1|exact (show Kept w _ (fun k_=>P0_0_ k_∨P0_1_ k_) from kP HK).1) (fun k_ h_ => .inr h_)) (bwz bel))
   replace HO_5:=rR HO_5 hb
   replace HO_271000:=rR HO_271000 hb
   replace HO_271001:=rS HO_271001 hb
   replace HO_278004:=rR HO_278004 hb
   replace BK270:=bb BK270 hb
   replace BK271:=bb BK271 hb
   replace BK272:=bb BK272 hb
   replace BK277:=bb BK277 hb
   replace HK:=AsZ.mk (Kept.below (S:=(fun k_=>P0_0_ k_∨P0_1_ k_)) (kP HK) hb)
   replace HB:=bp hb
   (try clear hb)
   (try clear hb2)
   (try clear hk)
   (try clear hi)
   (try clear ho0)
   obtain ⟨Ao57,co57,eo57⟩:=Kd.R_slice HO280.out
   (first|subst eo57|(injection eo57 with f1_ f2_ f3_;have f4_:=f1_.symm;have f5_:=f3_.symm;clear f1_ f2_ f3_;subst f4_;subst f5_))
   refine hK.out _ _ ⟨(kc BK271.out 0).trans rfl,(kc BK271.out 1).trans rfl,(kc BK271.out 2).trans rfl,(kc BK271.out 3).trans rfl⟩ (fun hHeld=>?_)
   clear hK K
   refine norm_ (a':=?_) ?_ ?_
   rotate_left
   · show Act.put _ (some 22) _=_
     simp only [Act.put,zS,zT,zU,i64_w,i32_w]
     rfl
   refine one_ (i:=6) (N:=some 27) (b_ 7 1) rfl rfl (one_of HT_.out (by kernel_rfl)) (by decide) (fun K hK=>?_)
   refine goes_ Tryd.func55 (by kernel_rfl) rfl #[.slice Ao57 t278.length co57,.string a1_0,.int .i64 a1_1] (by rfl) rfl rfl gl ?_
   with_reducible refine (spec_l4Tower.calls k1 _ _ t278 a1_0 a1_1 t281 _ ?side1 ?side2 A23.out).mono ?_
   (case side1=>exact cC (Kd.R_reads' HO280.out).2.2)
   (case side2=>exact (Kd.R_reads' HO280.out).2.1)
   rintro e w58 ⟨rfl,hb⟩
   refine ⟨_,rfl,?_⟩
   replace HO_5:=rR HO_5 hb
   replace HO_271000:=rR HO_271000 hb
   replace HO_271001:=rS HO_271001 hb
   replace HO_278004:=rR HO_278004 hb
   replace HO280:=rR HO280 hb
   replace BK270:=bb BK270 hb
   replace BK271:=bb BK271 hb
   replace BK272:=bb BK272 hb
   replace BK277:=bb BK277 hb
   replace HK:=AsZ.mk (Kept.below (S:=(fun k_=>P0_0_ k_∨P0_1_ k_)) (kP HK) hb)
   replace HB:=bp hb
   (try clear hb)
   (try clear hb2)
   (try clear hk)
   (try clear hi)
   refine hK.out _ _ ⟨(kc BK271.out 0).trans rfl,(kc BK271.out 1).trans rfl,(kc BK271.out 2).trans rfl,(kc BK271.out 3).trans rfl⟩ (fun hHeld=>?_)
   clear hK K
   refine norm_ (a':=?_) ?_ ?_
   rotate_left
   · show Act.put _ (some 27) _=_
     simp only [Act.put,zS,zT,zU,i64_w,i32_w]
     rfl
   refine pu 7 28 (b_ 8 0) HT_.out ?_
   refine dn_ (dnO HT_.out (by kernel_rfl)) ?_
   try go_wp2
   replace HO_5:=dR HO_5
   replace HO_271000:=dR HO_271000
   replace HO_271001:=dS HO_271001
   replace HO_278004:=dR HO_278004
   replace HO280:=dR HO280
   replace BK270:=db BK270
   replace BK271:=db BK271
   replace BK272:=db BK272
   replace BK277:=db BK277
   replace HK:=AsZ.mk (Kept.drew HK.out)
   replace HB:=dB HB
   obtain ⟨Ao60,co60,eo60⟩:=Kd.R_slice HO_5.out
   (first|subst eo60|(injection eo60 with f1_ f2_ f3_;have f4_:=f1_.symm;have f5_:=f3_.symm;clear f1_ f2_ f3_;subst f4_;subst f5_))
   have p285:0≤(x9_1:Int):=dd
   have q285:x9_1 < (x5_1.length:Int):=dd
   obtain ⟨ad285,e285,hx285_0⟩:=Kd.at_int (Kd.R_reads' HO_5.out).2.2 x9_1 p285 q285
   cases e285
   replace p285:=eq_true p285
   replace q285:=eq_true q285
   obtain ⟨Ao61,co61,eo61⟩:=Kd.R_slice HO_271000.out
   (first|subst eo61|(injection eo61 with f1_ f2_ f3_;have f4_:=f1_.symm;have f5_:=f3_.symm;clear f1_ f2_ f3_;subst f4_;subst f5_))
   obtain ⟨Ao62,co62,eo62⟩:=Kd.S_slice HO_271001.out
   (first|subst eo62|(injection eo62 with f1_ f2_ f3_;have f4_:=f1_.symm;have f5_:=f3_.symm;clear f1_ f2_ f3_;subst f4_;subst f5_))
   refine start_ (n:=13) (S:=fun w'=>w'.cell? ⟨gb277,0,none⟩=some (.string a1_0)∧w'.cell? ⟨gb277,1,none⟩=some (.int .i64 a1_1)∧w'.cell? ⟨gb277,2,none⟩=some (.int .i64 a1_2)∧w'.cell? ⟨gb277,3,none⟩=some (.string a1_3)∧w'.cell? ⟨gb277,4,none⟩=some (u278004)∧w'.cell? ⟨gb270,0,none⟩=some (.slice Ao61 x271000_1.length co61)∧w'.cell? ⟨gb270,1,none⟩=some (.slice Ao62 x271001_1.length co62)∧w'.cell? (ad285.add (x9_1).toNat)=some (.int .i64 (rd x5_1 x9_1))) (ds:=[10,12]) (b_ 0 13) (by kernel_rfl) rfl rfl ⟨(kc BK277.out 0).trans rfl,(kc BK277.out 1).trans rfl,(kc BK277.out 2).trans rfl,(kc BK277.out 3).trans rfl,(kc BK277.out 4).trans rfl,(kc BK270.out 0).trans rfl,(kc BK270.out 1).trans rfl,hx285_0⟩ (fun hHeld=>?_);refine with_tabW spec_l4Insert.tab7 spec_l4Insert.bits7 (fun HT_ HW_=>?_)
   generalize w58.drew=w59 at HO_5 HO_271000 HO_271001 HO_278004 HO280 BK270 BK271 BK272 BK277 HK HB hx285_0 hHeld ⊢
   refine pu 0 31 (b_ 1 12) HT_.out ?_
   refine pu 3 34 #[true,false,false,true,false,false,false,false,false,false,false,false,false] HT_.out ?_
   refine pu 4 35 #[true,false,false,true,true,false,false,false,false,false,false,false,false] HT_.out ?_
   refine pu 5 36 #[true,false,false,true,true,true,false,false,false,false,false,false,false] HT_.out ?_
   refine pu 7 38 #[true,false,false,true,true,true,false,true,false,false,false,false,false] HT_.out ?_
   refine tk8 1 32 #[true,true,false,true,true,true,false,true,false,false,false,false,false] HT_.out HW_.out hHeld ?_
   refine tk8 2 33 #[true,true,true,true,true,true,false,true,false,false,false,false,false] HT_.out HW_.out hHeld ?_
   refine tk8 6 37 (b_ 8 5) HT_.out HW_.out hHeld ?_
   refine one_ (i:=8) (N:=some 39) (b_ 9 4) rfl rfl (one_of HT_.out (by kernel_rfl)) (by decide) (fun K hK=>?_)
   refine goes_ Tryd.func72 (by kernel_rfl) rfl #[.agg #[.slice Ao61 x271000_1.length co61,.slice Ao62 x271001_1.length co62],.int .i64 (rd x5_1 x9_1),.int .i64 x9_1] (by rfl) rfl rfl gl ?_
   with_reducible refine (spec_l4Next.calls _ _ x271000_1 _ _ x271001_1 (rd x5_1 x9_1) x9_1 t286 _ ?side1 ?side2 ?side3 ?side4 A27.out).mono ?_
   (case side1=>exact cC (Kd.R_reads' HO_271000.out).2.2)
   (case side2=>exact (Kd.R_reads' HO_271000.out).2.1)
   (case side3=>exact cC (Kd.S_reads' HO_271001.out).2.2)
   (case side4=>exact (Kd.S_reads' HO_271001.out).2.1)
   rintro e w63 ⟨rfl,hb⟩
   have HS7_:=(hb.cell (zB _ _ (hHeld.2.2.2.2.2.2.2))).trans (hHeld.2.2.2.2.2.2.2)
   refine ⟨_,rfl,?_⟩
   replace HO_5:=rR HO_5 hb
   replace HO_271000:=rR HO_271000 hb
   replace HO_271001:=rS HO_271001 hb
   replace HO_278004:=rR HO_278004 hb
   replace HO280:=rR HO280 hb
   replace BK270:=bb BK270 hb
   replace BK271:=bb BK271 hb
   replace BK272:=bb BK272 hb
   replace BK277:=bb BK277 hb
   replace HK:=AsZ.mk (Kept.below (S:=(fun k_=>P0_0_ k_∨P0_1_ k_)) (kP HK) hb)
   replace HB:=bp hb
   (try clear hb)
   (try clear hb2)
   (try clear hk)
   (try clear hi)
   refine hK.out _ _ ⟨(kc BK277.out 0).trans rfl,(kc BK277.out 1).trans rfl,(kc BK277.out 2).trans rfl,(kc BK277.out 3).trans rfl,(kc BK277.out 4).trans rfl,(kc BK270.out 0).trans rfl,(kc BK270.out 1).trans rfl,HS7_⟩ (fun hHeld=>?_)
   clear hK K
   refine norm_ (a':=?_) ?_ ?_
   rotate_left
   · show Act.put _ (some 39) _=_
     simp only [Act.put,zS,zT,zU,i64_w,i32_w]
     rfl
   refine one_ (i:=9) (N:=some 40) (b_ 10 3) rfl rfl (one_of HT_.out (by kernel_rfl)) (by decide) (fun K hK=>?_)
   refine value_ (w1:=?_) (v:=?_) (by rfl) rfl ?_ ?_
   rotate_left 2
   · go_simp
     constructor
     · rfl
     rfl
   refine hK.out _ _ ⟨(kc (ka BK277.out _) 0).trans rfl,(kc (ka BK277.out _) 1).trans rfl,(kc (ka BK277.out _) 2).trans rfl,(kc (ka BK277.out _) 3).trans rfl,(kc (ka BK277.out _) 4).trans rfl,(kc (ka BK270.out _) 0).trans rfl,(kc (ka BK270.out _) 1).trans rfl,(World.cell?_alloc_lt _ _ _ (zB _ _ (hHeld.2.2.2.2.2.2.2))).trans (hHeld.2.2.2.2.2.2.2)⟩ (fun hHeld=>?_)
   clear hK K
   refine norm_ (a':=?_) ?_ ?_
   rotate_left
   · show Act.put _ (some 40) _=_
     simp only [Act.put,zS,zT,zU,i64_w,i32_w]
     rfl
   refine last_ (i:=10) (N:=some 41) (b_ 11 2) rfl rfl (one_of HT_.out (by kernel_rfl)) (by decide) (fun K hK=>?_)
   refine Kd.R_append_step (Kd.int .i64) (w0:=w0) w0.heap.size (by rfl) (.tmp 32) (.tmp 40) 23 3 (.int .i64 0) 8 rfl Tryd.underlying23 info3 rfl (by decide) (by omega) u278004 x278004_1 t286 [.int .i64 t286] (fun k_=>((P0_0_ k_∨P0_1_ k_)∨w.heap.size≤k_)∧some k_ ≠ (.slice (some ad285) x5_1.length co60:Value).ownBlock∧some k_ ≠ (.slice Ao61 x271000_1.length co61:Value).ownBlock) (fun _=>False) rfl rfl ?aP (fun _ hk=>hk.elim) ?aF ?aO ?aB ?aS ?aL ?_
   (case aP=>exact rfl)
   (case aB=>exact bel)
   (case aF=>exact (fun k_ hk=>⟨(.inr (Nat.le_trans (by first|exact HK.out.1|exact (show Kept w _ (fun k_=>P0_0_ k_∨P0_1_ k_) from kP HK).1) hk)),Kd.fresh' (Kd.R_lt (kR HO_5)) k_ hk,Kd.fresh' (Kd.R_lt (kR HO_271000)) k_ hk⟩))
   (case aO=>exact (kR HO_278004))
   (case aS=>exact (bwz bel))
   (case aL=>have:=LMc28.out;omega)
   intro v288 w64 ho hb hg hat
   rw [← Ny287.out] at ho
   have HO289:=AsZ.mk (ho)
   replace HO_5:=AsZ.mk (Kd.R_after (ok:=(fun k_=>((P0_0_ k_∨P0_1_ k_)∨w.heap.size≤k_)∧some k_ ≠ (.slice Ao61 x271000_1.length co61:Value).ownBlock)) (by (with_reducible repeat (first|apply Kd.R_alloc|apply Kd.R_drewN|apply Kd.R_drew));exact Kd.R_mono HO_5.out (fun _ hk=>⟨⟨hk.1,hk.2.1⟩,hk.2.2⟩)) hg hat)
   replace HO_271000:=AsZ.mk (Kd.R_after (ok:=(fun k_=>((P0_0_ k_∨P0_1_ k_)∨w.heap.size≤k_)∧some k_ ≠ (.slice (some ad285) x5_1.length co60:Value).ownBlock)) (by (with_reducible repeat (first|apply Kd.R_alloc|apply Kd.R_drewN|apply Kd.R_drew));exact Kd.R_mono HO_271000.out (fun _ hk=>⟨⟨hk.1,hk.2.1⟩,hk.2.2⟩)) hg hat)
   replace HO_271001:=AsZ.mk (Kd.S_after (ok:=(fun k_=>((P0_0_ k_∨P0_1_ k_)∨w.heap.size≤k_)∧some k_ ≠ (.slice (some ad285) x5_1.length co60:Value).ownBlock∧some k_ ≠ (.slice Ao61 x271000_1.length co61:Value).ownBlock∧k_ ≠ gb277)) (by (with_reducible repeat (first|apply Kd.S_alloc|apply Kd.S_drewN|apply Kd.S_drew));exact Kd.S_mono HO_271001.out (fun _ hk=>⟨⟨hk.1,⟨hk.2.1,⟨hk.2.2.1,hk.2.2.2.2⟩⟩⟩,hk.2.2.2.1⟩)) hg hat)
   replace BK270:=AsZ.mk (blk_grown (bk BK270) hg (Kd.R_ne HO_278004.out BK270.out (by decide)))
   replace BK271:=AsZ.mk (blk_grown (bk BK271) hg (Kd.R_ne HO_278004.out BK271.out (by decide)))
   replace BK272:=AsZ.mk (blk_grown (bk BK272) hg (Kd.R_ne HO_278004.out BK272.out (by decide)))
   replace BK277:=AsZ.mk (blk_grown (bk BK277) hg (Kd.R_ne HO_278004.out BK277.out (by decide)))
   replace HO280:=AsZ.mk (Kd.R_over' (kR HO280) (Kd.R_typed (kR HO_278004)) (by decide) hg)
   replace HB:=AsZ.mk (hb)
   replace HK:=AsZ.mk (Kept.of_grown (S:=(fun k_=>P0_0_ k_∨P0_1_ k_)) hg (kP HK) (fun k_ e_=>(HO_278004.out.1 k_ e_).1))
   clear HO_278004 ho hb hg hat
   obtain ⟨Ao65,co65,eo65⟩:=Kd.R_slice HO289.out
   (first|subst eo65|(injection eo65 with f1_ f2_ f3_;have f4_:=f1_.symm;have f5_:=f3_.symm;clear f1_ f2_ f3_;subst f4_;subst f5_))
   refine hK.out _ _ ?_
   clear hK K
   refine norm_ (a':=?_) ?_ ?_
   rotate_left
   · show Act.put _ (some 41) _=_
     simp only [Act.put,zS,zT,zU,i64_w,i32_w]
     rfl
   refine pu 11 42 (b_ 12 1) HT_.out ?_
   refine last_ (i:=12) (N:=none) (b_ 13 0) rfl rfl (one_of HT_.out (by kernel_rfl)) (by decide) (fun K hK=>?_)
   have hs66:w64.cell? ⟨gb277,4,none⟩=some (u278004):=(kc BK277.out 4).trans rfl
   have hfs66:=kf BK277.out 4
   have hns66_0:=NB270_277.out
   have hns66_1:=NB271_277.out
   have hns66_2:=NB272_277.out
   have hms66_0:=NB277_270.out
   have hms66_1:=NB277_271.out
   have hms66_2:=NB277_272.out
   refine skip_ (w1:=?_) (by rfl) rfl ?_ ?_
   rotate_left
   · go_simp
     rfl
   refine hK.out _ _ ?_
   clear hK K
   refine dn_ (dnO HT_.out (by kernel_rfl)) ?_
   have p290:0≤(x9_1:Int):=dd
   have q290:x9_1 < (x5_1.length:Int):=dd
   obtain ⟨ad290,e290,hx290_0⟩:=Kd.at_int (Kd.R_reads' HO_5.out).2.2 x9_1 p290 q290
   obtain rfl:ad285=ad290:=(by injection e290)
   have hn290_0:ad285.block ≠ gb277:=Kd.own_blk (Kd.R_ne HO_5.out BK277.out (by decide))
   replace hx290_0:=(cell_far (p:=⟨gb277,4,none⟩) (by first|(rw [add_block];exact hn290_0)|(show (Addr.add _ _).block ≠ _;rw [add_block];exact hn290_0)|exact hn290_0) (.slice Ao65 y287.length co65)).trans hx290_0
   clear hn290_0
   replace p290:=eq_true p290
   replace q290:=eq_true q290
   try go_wp2
   have n0_:AsZ (Kd.R (Kd.int .i64) 3 (w64.setCell ⟨gb277,4,none⟩ (.slice Ao65 y287.length co65)) w0.heap.size (fun k_=>((P0_0_ k_∨P0_1_ k_)∨w.heap.size≤k_)∧some k_ ≠ (.slice Ao61 x271000_1.length co61:Value).ownBlock∧some k_ ≠ (.slice Ao65 y287.length co65:Value).ownBlock) (.slice (some ad285) x5_1.length co60) x5_1):=⟨by (with_reducible repeat (first|apply Kd.R_alloc|apply Kd.R_drewN|apply Kd.R_drew));exact Kd.R_mono (fR (Kd.R_types HO_5.out BK277.out (by decide))) (fun _ hk=>⟨hk.1.1.1,⟨hk.1.1.2,hk.1.2⟩⟩)⟩
   have n1_:AsZ (Kd.R (Kd.int .i64) 3 (w64.setCell ⟨gb277,4,none⟩ (.slice Ao65 y287.length co65)) w0.heap.size (fun k_=>((P0_0_ k_∨P0_1_ k_)∨w.heap.size≤k_)∧some k_ ≠ (.slice (some ad285) x5_1.length co60:Value).ownBlock∧some k_ ≠ (.slice Ao65 y287.length co65:Value).ownBlock) (.slice Ao61 x271000_1.length co61) x271000_1):=⟨by (with_reducible repeat (first|apply Kd.R_alloc|apply Kd.R_drewN|apply Kd.R_drew));exact Kd.R_mono (fR (Kd.R_types HO_271000.out BK277.out (by decide))) (fun _ hk=>⟨hk.1.1.1,⟨hk.1.1.2,hk.1.2⟩⟩)⟩
   have n2_:AsZ (Kd.S k77 77 (w64.setCell ⟨gb277,4,none⟩ (.slice Ao65 y287.length co65)) w0.heap.size (fun k_=>((P0_0_ k_∨P0_1_ k_)∨w.heap.size≤k_)∧some k_ ≠ (.slice (some ad285) x5_1.length co60:Value).ownBlock∧some k_ ≠ (.slice Ao61 x271000_1.length co61:Value).ownBlock∧some k_ ≠ (.slice Ao65 y287.length co65:Value).ownBlock∧k_ ≠ gb277) (.slice Ao62 x271001_1.length co62) x271001_1):=⟨by (with_reducible repeat (first|apply Kd.S_alloc|apply Kd.S_drewN|apply Kd.S_drew));exact Kd.S_mono (fS (Kd.S_mono HO_271001.out (fun k_ hk=>(⟨hk,hk.1.2.2.2⟩:_∧k_ ≠ gb277)))) (fun _ hk=>⟨hk.1.1.1,⟨hk.1.1.2.1,⟨hk.1.1.2.2.1,⟨hk.1.2,hk.1.1.2.2.2⟩⟩⟩⟩)⟩
   have n3_:AsZ (Kd.R (Kd.int .u32) 106 (w64.setCell ⟨gb277,4,none⟩ (.slice Ao65 y287.length co65)) w0.heap.size (fun k_=>((P0_0_ k_∨P0_1_ k_)∨w.heap.size≤k_)) (.slice Ao57 t278.length co57) t278):=⟨by (with_reducible repeat (first|apply Kd.R_alloc|apply Kd.R_drewN|apply Kd.R_drew));exact Kd.R_mono (fR (Kd.R_types HO280.out BK277.out (by decide))) (fun _ hk=>hk.1.1)⟩
   have n4_:AsZ (Kd.R (Kd.int .i64) 3 (w64.setCell ⟨gb277,4,none⟩ (.slice Ao65 y287.length co65)) w0.heap.size (fun k_=>((P0_0_ k_∨P0_1_ k_)∨w.heap.size≤k_)∧some k_ ≠ (.slice (some ad285) x5_1.length co60:Value).ownBlock∧some k_ ≠ (.slice Ao61 x271000_1.length co61:Value).ownBlock) (.slice Ao65 y287.length co65) y287):=⟨by (with_reducible repeat (first|apply Kd.R_alloc|apply Kd.R_drewN|apply Kd.R_drew));exact Kd.R_mono (fR (Kd.R_types HO289.out BK277.out (by decide))) (fun _ hk=>⟨hk.1.1,⟨hk.1.2.1,hk.1.2.2⟩⟩)⟩
   have n5_:AsZ ((w64.setCell ⟨gb277,4,none⟩ (.slice Ao65 y287.length co65)).heap[gb270]? = some (.cells #[.slice Ao61 x271000_1.length co61,.slice Ao62 x271001_1.length co62] 26 (0,0))):=⟨bq BK270⟩
   have n6_:AsZ ((w64.setCell ⟨gb277,4,none⟩ (.slice Ao65 y287.length co65)).heap[gb271]? = some (.cells #[.string a1_0,.int .i64 a1_1,.int .i64 a1_2,.string a1_3] 28 (0,0))):=⟨bq BK271⟩
   have n7_:AsZ ((w64.setCell ⟨gb277,4,none⟩ (.slice Ao65 y287.length co65)).heap[gb272]? = some (.cells #[.slice none 0 0,.slice none 0 0] 26 (0,0))):=⟨bq BK272⟩
   have n8_:AsZ ((w64.setCell ⟨gb277,4,none⟩ (.slice Ao65 y287.length co65)).heap[gb277]? = some (.cells #[.string a1_0,.int .i64 a1_1,.int .i64 a1_2,.string a1_3,.slice Ao65 y287.length co65] 77 (0,0))):=⟨bq BK277⟩
   have n9_:AsZ (Kept w (w64.setCell ⟨gb277,4,none⟩ (.slice Ao65 y287.length co65)) (fun k_=>P0_0_ k_∨P0_1_ k_)):=⟨kP HK⟩
   have n10_:AsZ (Below w0.heap.size w0 (w64.setCell ⟨gb277,4,none⟩ (.slice Ao65 y287.length co65))):=⟨bel⟩
   (try clear HO_5)
   (try clear HO_271000)
   (try clear HO_271001)
   (try clear HO280)
   (try clear HO289)
   (try clear BK270)
   (try clear BK271)
   (try clear BK272)
   (try clear BK277)
   (try clear HK)
   (try clear HB)
   generalize (w64.setCell ⟨gb277,4,none⟩ (.slice Ao65 y287.length co65))=w67 at n0_ n1_ n2_ n3_ n4_ n5_ n6_ n7_ n8_ n9_ n10_ ⊢
   have HO_5:=n0_
   have HO_271000:=n1_
   have HO_271001:=n2_
   have HO280:=n3_
   have HO289:=n4_
   have BK270:=n5_
   have BK271:=n6_
   have BK272:=n7_
   have BK277:=n8_
   have HK:=n9_
   have HB:=n10_
   clear n0_ n1_ n2_ n3_ n4_ n5_ n6_ n7_ n8_ n9_ n10_
   replace HO_5:=dR HO_5
   replace HO_271000:=dR HO_271000
   replace HO_271001:=dS HO_271001
   replace HO280:=dR HO280
   replace HO289:=dR HO289
   replace BK270:=db BK270
   replace BK271:=db BK271
   replace BK272:=db BK272
   replace BK277:=db BK277
   replace HK:=AsZ.mk (Kept.drew HK.out)
   replace HB:=dB HB
   have p292:0≤(x9_1:Int):=dd
   have q292:x9_1 < (x5_1.length:Int):=dd
   obtain ⟨ad292,e292,hx292_0⟩:=Kd.at_int (Kd.R_reads' HO_5.out).2.2 x9_1 p292 q292
   obtain rfl:ad285=ad292:=(by injection e292)
   replace p292:=eq_true p292
   replace q292:=eq_true q292
   have p293:0≤((rd x5_1 x9_1):Int):=dd
   have q293:(rd x5_1 x9_1) < (x271001_1.length:Int):=dd
   obtain ⟨ad293,A293_4,c293_4,e293,hx293_0,hx293_1,hx293_2,hx293_3,hx293_4,hl293_4,hi293_4⟩:=at_T77 (Kd.S_reads' HO_271001.out).2.2 (rd x5_1 x9_1) p293 q293
   cases e293
   obtain ⟨ce293,hce293,hMe293,hcc293⟩:=Kd.S_get HO_271001.out z77 (rd x5_1 x9_1) p293 (by first|exact q293|exact dd|(have e_:=(Kd.S_reads' HO_271001.out).1;omega))
   obtain ⟨ve293_4,rfl,ge293_4⟩:=k77_openM hMe293
   have hv293_4:=hcc293 4 _ rfl
   rw [add_field _ _ 4 (by omega)] at hv293_4
   replace hv293_4:=zI (hv293_4.symm.trans hx293_4)
   rw [hv293_4] at ge293_4
   have HL293_4:=AsZ.mk (show Kd.R (Kd.int .i64) 3 _ _ _ _ ((rd_T77 x271001_1 (rd x5_1 x9_1)).f1) from ge293_4)
   clear hv293_4 ge293_4
   have HX293_4:=AsZ.mk hx293_4
   clear hcc293 hce293
   have HR293_4:=AsZ.mk hi293_4
   have HC293_4:=AsZ.mk hl293_4
   clear hi293_4 hl293_4
   replace p293:=eq_true p293
   replace q293:=eq_true q293
   have p54:0≤(x9_1:Int):=dd
   have q54:(x9_1:Int) < ((((rd_T77 x271001_1 (rd x5_1 x9_1)).f1).length:Int):Int):=dd
   obtain ⟨go54,co54,eo54,gb54,gl54,cl54,HG54⟩:=Kd.R_form HL293_4.out (by omega)
   (first|cases eo54|(injection eo54 with ea_ en_ ec_;(first|subst ea_|(injection ea_ with ea_;subst ea_));subst ec_;clear en_))
   have GB54:=AsZ.mk gb54
   have GG54:=AsZ.mk HG54
   clear gb54 gl54 HG54
   have HMgo54:=AsZ.mk (show ((P0_0_ go54∨P0_1_ go54)∨w.heap.size≤go54) from (HL293_4.out.1 _ rfl).1.1)
   obtain ⟨hx54_0,hf54_0⟩:=Kd.R_celln 0 HL293_4.out (x9_1:Int) p54 q54
   replace p54:=eq_true p54
   replace q54:=eq_true q54
   have hq69:((rd x5_1 x9_1):Int) < (x271001_1.length:Int):=(by have h_:((rd x5_1 x9_1):Int) < ((x271001_1.length:Int):Int):=dd;first|exact h_|(have e_:=(Kd.S_reads' HO_271001.out).1;omega)|simpa only [List.length_set,List.length_set] using h_)
   obtain ⟨oki69,ce69,hcl69,hM69,hcc69,hok69,hbk69⟩:=Kd.S_borrow HO_271001.out z77 ((rd x5_1 x9_1):Int) dd hq69
   obtain ⟨ve69_4,rfl,ge69_4⟩:=k77_openM hM69
   have hv69:=hcc69 4 _ rfl
   rw [add_field _ _ 4 (by omega)] at hv69
   replace hv69:=zI (hv69.symm.trans HX293_4.out)
   subst hv69
   clear hcc69 hcl69
   replace ge69_4:=(show Kd.R (Kd.int .i64) 3 _ _ _ _ ((rd_T77 x271001_1 (rd x5_1 x9_1)).f1) from ge69_4)
   have HP69:=Kd.R_putg ge69_4 (x9_1:Int) (l0_1.length:Int)
   rw [← Ny294.out] at HP69
   have HS69:=hbk69 HP69.2 (fun k_ e_=>by injection e_ with e_;subst e_;exact ge69_4.1 _ rfl) (x':=(⟨(⟨(rd_T77 x271001_1 (rd x5_1 x9_1)).f0.f0,(rd_T77 x271001_1 (rd x5_1 x9_1)).f0.f1,(rd_T77 x271001_1 (rd x5_1 x9_1)).f0.f2,(rd_T77 x271001_1 (rd x5_1 x9_1)).f0.f3⟩:S28),y294⟩:S77)) (k77_mkM _ _ _ (⟨(⟨(rd_T77 x271001_1 (rd x5_1 x9_1)).f0.f0,(rd_T77 x271001_1 (rd x5_1 x9_1)).f0.f1,(rd_T77 x271001_1 (rd x5_1 x9_1)).f0.f2,(rd_T77 x271001_1 (rd x5_1 x9_1)).f0.f3⟩:S28),y294⟩:S77) HP69.1)
   rw [← Ny296.out] at HS69
   have HQ69:=AsZ.mk HS69
   clear HP69 HS69 hbk69 hok69
   refine start_ (n:=13) (S:=fun w'=>w'.cell? ⟨gb270,0,none⟩=some (.slice Ao61 x271000_1.length co61)∧w'.cell? ⟨gb270,1,none⟩=some (.slice (some ad293) x271001_1.length co62)∧w'.cell? (ad285.add (x9_1).toNat)=some (.int .i64 (rd x5_1 x9_1))∧w'.cell? (ad293.add (((rd x5_1 x9_1)).toNat * 5))=some (.string ((rd_T77 x271001_1 (rd x5_1 x9_1)).f0.f0))∧w'.cell? ⟨(ad293.add (((rd x5_1 x9_1)).toNat * 5)).block,(ad293.add (((rd x5_1 x9_1)).toNat * 5)).off + 1,none⟩=some (.int .i64 ((rd_T77 x271001_1 (rd x5_1 x9_1)).f0.f1))∧w'.cell? ⟨(ad293.add (((rd x5_1 x9_1)).toNat * 5)).block,(ad293.add (((rd x5_1 x9_1)).toNat * 5)).off + 2,none⟩=some (.int .i64 ((rd_T77 x271001_1 (rd x5_1 x9_1)).f0.f2))∧w'.cell? ⟨(ad293.add (((rd x5_1 x9_1)).toNat * 5)).block,(ad293.add (((rd x5_1 x9_1)).toNat * 5)).off + 3,none⟩=some (.string ((rd_T77 x271001_1 (rd x5_1 x9_1)).f0.f3))∧w'.cell? ⟨(ad293.add (((rd x5_1 x9_1)).toNat * 5)).block,(ad293.add (((rd x5_1 x9_1)).toNat * 5)).off + 4,none⟩=some (.slice (some ⟨go54,0,none⟩) ((rd_T77 x271001_1 (rd x5_1 x9_1)).f1).length c293_4)) (ds:=[12]) (b_ 0 13) (by kernel_rfl) rfl rfl ⟨(kc BK270.out 0).trans rfl,(kc BK270.out 1).trans rfl,hx292_0,hx293_0,hx293_1,hx293_2,hx293_3,hx293_4⟩ (fun hHeld=>?_);refine with_tabW spec_l4Insert.tab10 spec_l4Insert.bits10 (fun HT_ HW_=>?_)
   generalize w67.drew=w68 at HO_5 HO_271000 HO_271001 HO280 HO289 BK270 BK271 BK272 BK277 HK HB GG54 HL293_4 HQ69 HR293_4 HX293_4 hf54_0 hx292_0 hx293_0 hx293_1 hx293_2 hx293_3 hx293_4 hx54_0 hHeld ⊢
   refine pu 0 53 (b_ 1 12) HT_.out ?_
   refine pu 2 55 #[true,false,true,false,false,false,false,false,false,false,false,false,false] HT_.out ?_
   refine pu 3 56 #[true,false,true,true,false,false,false,false,false,false,false,false,false] HT_.out ?_
   refine pu 4 57 #[true,false,true,true,true,false,false,false,false,false,false,false,false] HT_.out ?_
   refine pu 9 62 #[true,false,true,true,true,false,false,false,false,true,false,false,false] HT_.out ?_
   refine pu 10 63 #[true,false,true,true,true,false,false,false,false,true,true,false,false] HT_.out ?_
   refine tk8 1 54 #[true,true,true,true,true,false,false,false,false,true,true,false,false] HT_.out HW_.out hHeld ?_
   refine tk8 5 58 #[true,true,true,true,true,true,false,false,false,true,true,false,false] HT_.out HW_.out hHeld ?_
   refine pu 6 59 #[true,true,true,true,true,true,true,false,false,true,true,false,false] HT_.out ?_
   refine pu 7 60 #[true,true,true,true,true,true,true,true,false,true,true,false,false] HT_.out ?_
   refine tk8 8 61 (b_ 11 2) HT_.out HW_.out hHeld ?_
   refine pu 11 64 (b_ 12 1) HT_.out ?_
   refine last_ (i:=12) (N:=none) (b_ 13 0) rfl rfl (one_of HT_.out (by kernel_rfl)) (by decide) (fun K hK=>?_)
   refine skip_ (w1:=?_) (by rfl) rfl ?_ ?_
   rotate_left
   · go_simp
     rfl
   refine hK.out _ _ ?_
   clear hK K
   refine dn_ (dnO HT_.out (by kernel_rfl)) ?_
   try go_wp2
   go_roundg k1
   case measure=>have:=HK1.out;omega
   case rel=>exact ⟨(x5_1),(wrap64 (x9_1 + 1)),(x271000_1),(y296),(y287),(.slice Ao61 x271000_1.length co61),(.slice (some ad293) x271001_1.length co62),(.slice Ao65 y287.length co65),rs,H',⟨by have:=HK1.out;omega⟩,⟨by (with_reducible repeat (first|apply Kd.R_alloc|apply Kd.R_drewN|apply Kd.R_drew));exact Kd.R_mono (Kd.R_far (p:=⟨go54,(x9_1:Int).toNat,none⟩) (Kd.R_far1 HO_5.out rfl ((HL293_4.out.1 _ rfl).1.2.1)) (fun _ hk=>hk.2) (.int .i64 (l0_1.length:Int))) (fun _ hk=>⟨hk.1.1,⟨hk.1.2.1,hk.1.2.2⟩⟩)⟩,⟨by (with_reducible repeat (first|apply Kd.R_alloc|apply Kd.R_drewN|apply Kd.R_drew));exact Kd.R_mono (Kd.R_far (p:=⟨go54,(x9_1:Int).toNat,none⟩) (Kd.R_far1 HO_271000.out rfl ((HL293_4.out.1 _ rfl).1.2.2.1)) (fun _ hk=>hk.2) (.int .i64 (l0_1.length:Int))) (fun _ hk=>⟨hk.1.1,⟨hk.1.2.1,hk.1.2.2⟩⟩)⟩,⟨kS HQ69⟩,⟨by (with_reducible repeat (first|apply Kd.R_alloc|apply Kd.R_drewN|apply Kd.R_drew));exact Kd.R_mono (Kd.R_far (p:=⟨go54,(x9_1:Int).toNat,none⟩) (Kd.R_far1 HO289.out rfl ((HL293_4.out.1 _ rfl).1.2.2.2.1)) (fun _ hk=>hk.2) (.int .i64 (l0_1.length:Int))) (fun _ hk=>⟨hk.1.1,⟨hk.1.2.1,hk.1.2.2⟩⟩)⟩,⟨by (with_reducible repeat (first|refine kdN ?_ _|refine kd ?_|refine ka ?_ _));refine blk_far ?_ (by have h_:=Kd.R_ne HL293_4.out BK270.out (by decide);intro e_;exact h_ (by rw [e_];rfl)) _;(with_reducible repeat (first|refine kdN ?_ _|refine kd ?_|refine ka ?_ _));exact BK270.out⟩,⟨by (with_reducible repeat (first|refine kdN ?_ _|refine kd ?_|refine ka ?_ _));refine blk_far ?_ (by have h_:=Kd.R_ne HL293_4.out BK271.out (by decide);intro e_;exact h_ (by rw [e_];rfl)) _;(with_reducible repeat (first|refine kdN ?_ _|refine kd ?_|refine ka ?_ _));exact BK271.out⟩,⟨by (with_reducible repeat (first|refine kdN ?_ _|refine kd ?_|refine ka ?_ _));refine blk_far ?_ (by have h_:=Kd.R_ne HL293_4.out BK272.out (by decide);intro e_;exact h_ (by rw [e_];rfl)) _;(with_reducible repeat (first|refine kdN ?_ _|refine kd ?_|refine ka ?_ _));exact BK272.out⟩,⟨by (with_reducible repeat (first|refine kdN ?_ _|refine kd ?_|refine ka ?_ _));refine blk_far ?_ (by have h_:=Kd.R_ne HL293_4.out BK277.out (by decide);intro e_;exact h_ (by rw [e_];rfl)) _;(with_reducible repeat (first|refine kdN ?_ _|refine kd ?_|refine ka ?_ _));exact BK277.out⟩,⟨by repeat (first|(with_reducible first|exact HK.out|apply Kept.alloc|apply Kept.drewN|apply Kept.drew|refine Kept.setCell ?_ HMgo54.out _|refine Kept.setCell ?_ (.inr GW270.out) _|refine Kept.setCell ?_ (.inr GW271.out) _|refine Kept.setCell ?_ (.inr GW272.out) _|refine Kept.setCell ?_ (.inr GW277.out) _)|exact HK.out)⟩,⟨by repeat (first|(with_reducible first|exact HB.out|apply bwa|apply pbN|apply bw1|refine bws ?_ GB54.out|refine bws ?_ GE270.out|refine bws ?_ GE271.out|refine bws ?_ GE272.out|refine bws ?_ GE277.out)|exact HB.out)⟩⟩
end Go.Proofs.YtffjlpphcjfdgaaDoor.MFnFound
