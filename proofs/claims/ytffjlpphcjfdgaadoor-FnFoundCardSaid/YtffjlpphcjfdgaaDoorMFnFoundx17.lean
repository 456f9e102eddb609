-- Written by a program of this session out of the translation. Not trusted: Lean checks it.
import Derived.Test.YtffjlpphcjfdgaaDoorMFnFoundx0
import Derived.Test.YtffjlpphcjfdgaaDoorMFnFoundx14
import Derived.Test.YtffjlpphcjfdgaaDoorMFnFoundx15
import Derived.Test.YtffjlpphcjfdgaaDoorMFnFoundx16
namespace Go.Proofs.YtffjlpphcjfdgaaDoor.MFnFound
-- short
-- shrunk
-- TAB
-- RD
open Go.Proofs.YtffjlpphcjfdgaaDoor Go.RowKit Go.Proofs.YtffjlpphcjfdgaaDoorW.PrintWords Go.Proofs.YtffjlpphcjfdgaaDoorW.PrintLast Go.Proofs.YtffjlpphcjfdgaaDoorW.PrintMore Go.Proofs.YtffjlpphcjfdgaaDoorX
attribute [local go_sem] max2_int min2_int max_two min_two max_three min_three max_four min_four str_gtr str_leq str_geq cell_twice
set_option linter.unusedVariables false
set_option linter.unusedSimpArgs false
-- COMPACT
/-! ### spec_l1Cur_skip: function 37 -/
mutual
def spec_l1Cur_skip.j0:Nat→Int→List Int→Int→Int→List Int→List (S77)→Option (List Int × (List (S77)) × Int × Int)
  |0,_,_,_,_,_,_=>none
  |k + 1,x4,x1000,x1001,x1002,x422000,x422001=>spec_l1Cur_skip.l0 k x4 x1000 x1001 x1002 x422000 x422001
def spec_l1Cur_skip.l0:Nat→Int→List Int→Int→Int→List Int→List (S77)→Option (List Int × (List (S77)) × Int × Int)
  |0,_,_,_,_,_,_=>none
  |k + 1,x4,x1000,x1001,x1002,x422000,x422001=>if x4 > 0 then ((spec_l1Cur_item.f k x1000 x1001 x1002).bind fun bt428=>(if x4 > 20 then ((spec_l1Cur_pick.f x1000 bt428.2.2.2.2.1 bt428.2.2.2.2.2 300).bind fun bt435=>(spec_l1Cur_skip.j2 k x4 x1000 bt435.2.1 bt435.2.2 x422000 x422001 bt428.1 bt435.1 bt428.2.2.1 bt428.2.2.2.1)) else (spec_l1Cur_skip.j2 k x4 x1000 bt428.2.2.2.2.1 bt428.2.2.2.2.2 x422000 x422001 bt428.1 bt428.2.1 bt428.2.2.1 bt428.2.2.2.1))) else ((spec_l1Cur_pick.f x1000 x1001 x1002 40).bind fun bt446=>(if bt446.1=0 then ((spec_l1Cur_pick.f x1000 bt446.2.1 bt446.2.2 5).bind fun bt449=>((spec_l1Cur_pick.f x1000 bt449.2.1 bt449.2.2 20).bind fun bt452=>(if 0≤bt449.1 then (if bt449.1 < (x422000.length:Int) then (some ((x422000.set (bt449.1:Int).toNat (wrap64 (bt452.1 - 2))),x422001,bt452.2.1,bt452.2.2)) else (none)) else (none)))) else (if bt446.1=1 then (if 1≤(x422000.length:Int) then (some ((x422000.drop (1:Int).toNat),x422001,bt446.2.1,bt446.2.2)) else (none)) else (if bt446.1=2 then (if (x422001.length:Int) > 0 then (if 0 < (x422001.length:Int) then ((spec_l1Cur_pick.f x1000 bt446.2.1 bt446.2.2 9).bind fun bt460=>(if 0 < (((rd_T77 x422001 0).f1).length:Int) then (some (x422000,(x422001.set (0:Int).toNat (⟨(⟨(rd_T77 x422001 0).f0.f0,(rd_T77 x422001 0).f0.f1,(rd_T77 x422001 0).f0.f2,(rd_T77 x422001 0).f0.f3⟩:S28),(((rd_T77 x422001 0).f1).set (0:Int).toNat (wrap64 (bt460.1 - 2)))⟩:S77)),bt460.2.1,bt460.2.2)) else (none))) else (none)) else (some (x422000,x422001,bt446.2.1,bt446.2.2))) else (some (x422000,x422001,bt446.2.1,bt446.2.2))))))
def spec_l1Cur_skip.j2:Nat→Int→List Int→Int→Int→List Int→List (S77)→ByteArray→Int→Int→ByteArray→Option (List Int × (List (S77)) × Int × Int)
  |0,_,_,_,_,_,_,_,_,_,_=>none
  |k + 1,x4,x1000,x1001,x1002,x422000,x422001,x435000,x435001,x435002,x435003=>(spec_InsertSkip.f k x422000 x422001 x435000 x435001 x435002 x435003).bind fun bt438=>(if bt438.2.2=true then (spec_l1Cur_skip.l0 k (wrap64 (x4 - 1)) x1000 x1001 x1002 bt438.1 bt438.2.1) else (spec_l1Cur_skip.l0 k (wrap64 (x4 - 1)) x1000 x1001 x1002 x422000 x422001))
end
def spec_l1Cur_skip.f (k:Nat) (s0_0:List Int) (s0_1:Int) (s0_2:Int):Option (List Int × (List (S77)) × Int × Int):=(spec_NewSkip.f k).bind fun bt415=>((spec_l1Cur_pick.f s0_0 s0_1 s0_2 14).bind fun bt422=>((spec_l1Cur_one.f s0_0 bt422.2.1 bt422.2.2 12).bind fun bt425=>(if bt425.1=true then (spec_l1Cur_skip.j0 k 70 s0_0 bt425.2.1 bt425.2.2 bt415.1 bt415.2) else (spec_l1Cur_skip.j0 k bt422.1 s0_0 bt425.2.1 bt425.2.2 bt415.1 bt415.2))))
theorem spec_l1Cur_skip.mono_l:∀ k,(∀ y0 y1 y2 y3 y4 y5,LeO (spec_l1Cur_skip.j0 k y0 y1 y2 y3 y4 y5) (spec_l1Cur_skip.j0 (k + 1) y0 y1 y2 y3 y4 y5))∧(∀ y0 y1 y2 y3 y4 y5,LeO (spec_l1Cur_skip.l0 k y0 y1 y2 y3 y4 y5) (spec_l1Cur_skip.l0 (k + 1) y0 y1 y2 y3 y4 y5))∧(∀ y0 y1 y2 y3 y4 y5 y6 y7 y8 y9,LeO (spec_l1Cur_skip.j2 k y0 y1 y2 y3 y4 y5 y6 y7 y8 y9) (spec_l1Cur_skip.j2 (k + 1) y0 y1 y2 y3 y4 y5 y6 y7 y8 y9))
  |0=>⟨fun _ _ _ _ _ _ r h=>by simp [spec_l1Cur_skip.j0] at h,fun _ _ _ _ _ _ r h=>by simp [spec_l1Cur_skip.l0] at h,fun _ _ _ _ _ _ _ _ _ _ r h=>by simp [spec_l1Cur_skip.j2] at h⟩
  |k + 1=>by
    obtain ⟨ih0,ih1,ih2⟩:=spec_l1Cur_skip.mono_l k
    refine ⟨?_,?_,?_⟩
    · intro y0 y1 y2 y3 y4 y5
      unfold spec_l1Cur_skip.j0
      repeat' first|(with_reducible first|exact ih0 _ _ _ _ _ _|exact ih1 _ _ _ _ _ _|exact ih2 _ _ _ _ _ _ _ _ _ _|exact spec_InsertSkip.mono _ _ _ _ _ _ _|exact spec_NewSkip.mono _|exact spec_l1Cur_item.mono _ _ _ _|exact LeO.refl _|exact LeO.none _|refine LeO.ite ?_ ?_|refine LeO.bind ?_ (fun _=>?_))|exact ih0 _ _ _ _ _ _|exact ih1 _ _ _ _ _ _|exact ih2 _ _ _ _ _ _ _ _ _ _|exact spec_InsertSkip.mono _ _ _ _ _ _ _|exact spec_NewSkip.mono _|exact spec_l1Cur_item.mono _ _ _ _|exact LeO.none _|refine LeO.ite ?_ ?_|refine LeO.bind ?_ (fun _=>?_)
    · intro y0 y1 y2 y3 y4 y5
      unfold spec_l1Cur_skip.l0
      repeat' first|(with_reducible first|exact ih0 _ _ _ _ _ _|exact ih1 _ _ _ _ _ _|exact ih2 _ _ _ _ _ _ _ _ _ _|exact spec_InsertSkip.mono _ _ _ _ _ _ _|exact spec_NewSkip.mono _|exact spec_l1Cur_item.mono _ _ _ _|exact LeO.refl _|exact LeO.none _|refine LeO.ite ?_ ?_|refine LeO.bind ?_ (fun _=>?_))|exact ih0 _ _ _ _ _ _|exact ih1 _ _ _ _ _ _|exact ih2 _ _ _ _ _ _ _ _ _ _|exact spec_InsertSkip.mono _ _ _ _ _ _ _|exact spec_NewSkip.mono _|exact spec_l1Cur_item.mono _ _ _ _|exact LeO.none _|refine LeO.ite ?_ ?_|refine LeO.bind ?_ (fun _=>?_)
    · intro y0 y1 y2 y3 y4 y5 y6 y7 y8 y9
      unfold spec_l1Cur_skip.j2
      repeat' first|(with_reducible first|exact ih0 _ _ _ _ _ _|exact ih1 _ _ _ _ _ _|exact ih2 _ _ _ _ _ _ _ _ _ _|exact spec_InsertSkip.mono _ _ _ _ _ _ _|exact spec_NewSkip.mono _|exact spec_l1Cur_item.mono _ _ _ _|exact LeO.refl _|exact LeO.none _|refine LeO.ite ?_ ?_|refine LeO.bind ?_ (fun _=>?_))|exact ih0 _ _ _ _ _ _|exact ih1 _ _ _ _ _ _|exact ih2 _ _ _ _ _ _ _ _ _ _|exact spec_InsertSkip.mono _ _ _ _ _ _ _|exact spec_NewSkip.mono _|exact spec_l1Cur_item.mono _ _ _ _|exact LeO.none _|refine LeO.ite ?_ ?_|refine LeO.bind ?_ (fun _=>?_)
theorem spec_l1Cur_skip.mono:∀ a0 a1 a2 k,LeO (spec_l1Cur_skip.f k a0 a1 a2) (spec_l1Cur_skip.f (k + 1) a0 a1 a2):=by
  intro a0 a1 a2 k
  obtain ⟨ih0,ih1,ih2⟩:=spec_l1Cur_skip.mono_l k
  unfold spec_l1Cur_skip.f
  repeat' first|(with_reducible first|exact ih0 _ _ _ _ _ _|exact ih1 _ _ _ _ _ _|exact ih2 _ _ _ _ _ _ _ _ _ _|exact spec_InsertSkip.mono _ _ _ _ _ _ _|exact spec_NewSkip.mono _|exact spec_l1Cur_item.mono _ _ _ _|exact LeO.refl _|exact LeO.none _|refine LeO.ite ?_ ?_|refine LeO.bind ?_ (fun _=>?_))|exact ih0 _ _ _ _ _ _|exact ih1 _ _ _ _ _ _|exact ih2 _ _ _ _ _ _ _ _ _ _|exact spec_InsertSkip.mono _ _ _ _ _ _ _|exact spec_NewSkip.mono _|exact spec_l1Cur_item.mono _ _ _ _|exact LeO.none _|refine LeO.ite ?_ ?_|refine LeO.bind ?_ (fun _=>?_)
def spec_l1Cur_skip.T15:Bool × List (List Nat × List Nat):=(true,[([],[]),([0],[0]),([],[]),([2],[2]),([],[]),([4,3],[4]),([5],[5]),([1,3,0,1,2,3,4,5,6],[1,3]),([7,6,5,0,1,2,3,4,5,6],[6,7])])
def spec_l1Cur_skip.B15:List Nat:=[0,1,0,4,0,28,60,127,255]
theorem spec_l1Cur_skip.tab15:rtab .any (opsOf Tryd.f37 15)=spec_l1Cur_skip.T15:=by kernel_rfl
theorem spec_l1Cur_skip.bits15:waitsOk spec_l1Cur_skip.T15.2 spec_l1Cur_skip.B15=true:=by kernel_rfl
def spec_l1Cur_skip.T20:Bool × List (List Nat × List Nat):=(true,[([],[]),([0],[0]),([1],[1]),([2],[2]),([3],[3]),([],[]),([5],[5]),([6],[6]),([4,0,1,2,3,4,5,6,7],[4]),([8,7,6,0,1,2,3,4,5,6,7],[7,8])])
def spec_l1Cur_skip.B20:List Nat:=[0,1,3,7,15,0,32,96,255,511]
theorem spec_l1Cur_skip.tab20:rtab .any (opsOf Tryd.f37 20)=spec_l1Cur_skip.T20:=by kernel_rfl
theorem spec_l1Cur_skip.bits20:waitsOk spec_l1Cur_skip.T20.2 spec_l1Cur_skip.B20=true:=by kernel_rfl
set_option maxHeartbeats 8000000 in
set_option maxRecDepth 100000 in
theorem spec_l1Cur_skip.calls (k:Nat) (g:Nat) (s0_0:List Int) (s0_1:Int) (s0_2:Int) (r1:List Int) (r2:List (S77)) (r3:Int) (r4:Int) (w0 w:World) (hI:IsS68 w0 w g s0_0 s0_1 s0_2) (hB:Below w0.heap.size w0 w) (h:spec_l1Cur_skip.f k s0_0 s0_1 s0_2=some (r1,r2,r3,r4)) :
    Calls Tryd.prog 37 #[.pointer (some ⟨g,0,none⟩)] w fun e w' => ∃ v0_ v1_:Value,e = .returned (.agg #[v0_,v1_])∧Kd.Q (Kd.int .i64) 3 w' w.heap.size (fun _=>True) v0_ r1∧Kd.S k77 77 w' w.heap.size (fun k_=>some k_ ≠ (v0_:Value).ownBlock) v1_ r2∧IsS68 w0 w' g s0_0 r3 r4∧Below w0.heap.size w0 w'∧KeepBut w w' g none:=by
 have hu26:=Tryd.underlying26
 have hu28:=Tryd.underlying28
 have HI0:=AsZ.mk hI
 have HK:=AsZ.mk (KeepBut.refl w g none)
 have HL:=AsZ.mk hB.size
 clear hI
 have HW0:=AsZ.mk hB.size
 have HB:=AsZ.mk hB
 clear hB
 have H:((spec_NewSkip.f k).bind fun bt415=>((spec_l1Cur_pick.f s0_0 s0_1 s0_2 14).bind fun bt422=>((spec_l1Cur_one.f s0_0 bt422.2.1 bt422.2.2 12).bind fun bt425=>(if bt425.1=true then (spec_l1Cur_skip.j0 k 70 s0_0 bt425.2.1 bt425.2.2 bt415.1 bt415.2) else (spec_l1Cur_skip.j0 k bt422.1 s0_0 bt425.2.1 bt425.2.2 bt415.1 bt415.2)))))=some (r1,r2,r3,r4):=h
 clear h
 replace H:=bs H
 obtain ⟨⟨t415,t418⟩,A2,H⟩:=H
 replace H:=bs H
 obtain ⟨⟨t422,t423,t424⟩,A3,H⟩:=H
 replace H:=bs H
 obtain ⟨⟨t425,t426,t427⟩,A4,H⟩:=H
 have HC5:=AsZ.mk H
 clear H
 go_enter Tryd.func37,Tryd.ntmps37
 go_upto_if 12 with (first|((with_reducible refine gate_dst (N:=2) rfl ?_);refine bev 2 26 (cs:=#[.slice none 0 0,.slice none 0 0]) ?_;intro gb414 hg w6 hbox hb;have BK414:=AsZ.mk (hbox);have GW414:=AsZ.mk ((by rw [hg];exact (keep_size (w:=w) (g:=g) (row:=none) (kB HK)):w.heap.size≤gb414));have GE414:=AsZ.mk ((Nat.le_trans HW0.out (by rw [hg];exact (keep_size (w:=w) (g:=g) (row:=none) (kB HK)):w.heap.size≤gb414):w0.heap.size≤gb414));have NB0_414:=AsZ.mk ((by rw [hg];exact Nat.ne_of_lt (IsS68.lt (show IsS68 w0 _ g s0_0 s0_1 s0_2 from st68 HI0)):g ≠ gb414));have NB414_0:=AsZ.mk ((by rw [hg];exact Nat.ne_of_gt (IsS68.lt (show IsS68 w0 _ g s0_0 s0_1 s0_2 from st68 HI0)):gb414 ≠ g));replace HI0:=AsZ.mk (IsS68.below (st68 HI0) hb);replace HK:=AsZ.mk (KeepBut.trans (kB HK) (KeepBut.of_below hb g none) (.inl rfl));replace HB:=bp hb;clear hb hbox hg)|((with_reducible refine gcl (f:=74) rfl ?_);refine goesL_ (some 8) rfl rfl Tryd.func74 (by kernel_rfl) rfl #[] rfl gl ?_;(with_reducible refine (spec_NewSkip.calls k  t415 t418 _ A2.out).mono ?_);rintro e w7 ⟨v416,v419,rfl,ho0,ho1,hb⟩;refine ⟨_,rfl,?_⟩;have HO417:=AsZ.mk (Kd.R_lower ho0 (keep_size (w:=w) (g:=g) (row:=none) (kB HK)));have HO420:=AsZ.mk (Kd.S_lower ho1 (keep_size (w:=w) (g:=g) (row:=none) (kB HK)));replace HI0:=AsZ.mk (IsS68.below (st68 HI0) hb);replace BK414:=bb BK414 hb;replace HK:=AsZ.mk (KeepBut.trans (kB HK) (KeepBut.of_below hb g none) (.inl rfl));replace HB:=bp hb;(try clear hb);(try clear hb2);(try clear hk);(try clear hi);(try clear ho0);(try clear ho1))|((with_reducible refine gate_dst (N:=3) rfl ?_);refine bev 3 26 (cs:=#[.slice none 0 0,.slice none 0 0]) ?_;intro gb421 hg w8 hbox hb;have BK421:=AsZ.mk (hbox);have GW421:=AsZ.mk ((by rw [hg];exact (keep_size (w:=w) (g:=g) (row:=none) (kB HK)):w.heap.size≤gb421));have GE421:=AsZ.mk ((Nat.le_trans HW0.out (by rw [hg];exact (keep_size (w:=w) (g:=g) (row:=none) (kB HK)):w.heap.size≤gb421):w0.heap.size≤gb421));have NB414_421:=nl BK414 hg;have NB421_414:=nr BK414 hg;have NB0_421:=AsZ.mk ((by rw [hg];exact Nat.ne_of_lt (IsS68.lt (show IsS68 w0 _ g s0_0 s0_1 s0_2 from st68 HI0)):g ≠ gb421));have NB421_0:=AsZ.mk ((by rw [hg];exact Nat.ne_of_gt (IsS68.lt (show IsS68 w0 _ g s0_0 s0_1 s0_2 from st68 HI0)):gb421 ≠ g));replace HO417:=rR HO417 hb;replace HO420:=rS HO420 hb;replace HI0:=AsZ.mk (IsS68.below (st68 HI0) hb);replace BK414:=bb BK414 hb;replace HK:=AsZ.mk (KeepBut.trans (kB HK) (KeepBut.of_below hb g none) (.inl rfl));replace HB:=bp hb;clear hb hbox hg;obtain ⟨Ao9,co9,eo9⟩:=Kd.R_slice HO417.out;subst eo9;have hnb10:=NB421_414.out;have hnc10:=NB414_421.out;have hnb11:=NB421_0.out;have hnc11:=NB0_421.out;obtain ⟨hcz12_0,hcz12_1,hfz12_0,hfz12_1⟩:=bx2 BK421;obtain ⟨Ao13,co13,eo13⟩:=Kd.S_slice HO420.out;subst eo13)|((with_reducible refine gcl (f:=75) rfl ?_);refine goesL_ (some 10) rfl rfl Tryd.func75 (by kernel_rfl) rfl #[.pointer (some ⟨g,0,none⟩),.int .i64 14] rfl gl ?_;(with_reducible refine (spec_l1Cur_pick.calls g s0_0 s0_1 s0_2 14 t422 t423 t424 w0 _ ?side1 ?side2 A3.out).mono ?_);(case side1=>exact st68 HI0);(case side2=>exact bel);rintro e w14 ⟨rfl,hi,hb,hk⟩;refine ⟨_,rfl,?_⟩;replace BK414:=AsZ.mk (KeepBut.blk hk (g':=gb414) (o := .cells #[.slice none 0 0,.slice none 0 0] 26 (0,0)) (bq BK414) NB414_0.out (by simp));replace HO417:=AsZ.mk (Kd.R_mono (Kd.R_keep (IsS68.apart (show IsS68 w0 _ g s0_0 s0_1 s0_2 from st68 HI0) (by (with_reducible repeat (first|apply Kd.R_alloc|apply Kd.R_drewN|apply Kd.R_drew));exact (Kd.R_mono (fR (fR (Kd.R_types HO417.out BK421.out (by decide)))) (fun _ h_=>h_.1))) (by decide)) hk (fun _ h=>h.2)) (fun _ h=>h.1));replace HO420:=AsZ.mk (Kd.S_mono (Kd.S_keep (IsS68.apartS (show IsS68 w0 _ g s0_0 s0_1 s0_2 from st68 HI0) (by (with_reducible repeat (first|apply Kd.S_alloc|apply Kd.S_drewN|apply Kd.S_drew));exact (Kd.S_mono (fS (fS (Kd.S_types HO420.out BK421.out (by decide)))) (fun _ h_=>h_.1))) (by decide)) hk (fun _ h=>h.2)) (fun _ h=>h.1));replace BK421:=AsZ.mk (KeepBut.blk hk (g':=gb421) (o := .cells #[.slice Ao9 t415.length co9,.slice Ao13 t418.length co13] 26 (0,0)) (bq BK421) NB421_0.out (by simp));replace HK:=AsZ.mk (KeepBut.trans (kB HK) hk (.inl rfl));replace HB:=AsZ.mk (hb);replace HI0:=AsZ.mk (hi);(try clear hb);(try clear hb2);(try clear hk);(try clear hi))|((with_reducible refine gcl (f:=76) rfl ?_);refine goesL_ (some 12) rfl rfl Tryd.func76 (by kernel_rfl) rfl #[.pointer (some ⟨g,0,none⟩),.int .i64 12] rfl gl ?_;(with_reducible refine (spec_l1Cur_one.calls g s0_0 t423 t424 12 t425 t426 t427 w0 _ ?side1 ?side2 A4.out).mono ?_);(case side1=>exact st68 HI0);(case side2=>exact bel);rintro e w15 ⟨rfl,hi,hb,hk⟩;refine ⟨_,rfl,?_⟩;replace BK414:=AsZ.mk (KeepBut.blk hk (bk BK414) NB414_0.out (by simp));replace HO417:=AsZ.mk (Kd.R_mono (Kd.R_keep (IsS68.apart (show IsS68 w0 _ g s0_0 t423 t424 from st68 HI0) (kR HO417) (by decide)) hk (fun _ h=>h.2)) (fun _ h=>h.1));replace HO420:=AsZ.mk (Kd.S_mono (Kd.S_keep (IsS68.apartS (show IsS68 w0 _ g s0_0 t423 t424 from st68 HI0) (kS HO420) (by decide)) hk (fun _ h=>h.2)) (fun _ h=>h.1));replace BK421:=AsZ.mk (KeepBut.blk hk (bk BK421) NB421_0.out (by simp));replace HK:=AsZ.mk (KeepBut.trans (kB HK) hk (.inl rfl));replace HB:=AsZ.mk (hb);replace HI0:=AsZ.mk (hi);(try clear hb);(try clear hb2);(try clear hk);(try clear hi)))
 (try simp only [Act.put,zS,zT,zU])
 go_cut [4] (fun v4 wc => ∃ (kq:Nat) (x4_4:Int),v4 = .int .i64 x4_4∧AsZ (spec_l1Cur_skip.j0 kq x4_4 s0_0 t426 t427 t415 t418=some (r1,r2,r3,r4))∧AsZ (kq≤k)∧AsZ (Kd.Q (Kd.int .i64) 3 wc w.heap.size (fun _=>True) (.slice Ao9 t415.length co9) t415)∧AsZ (Kd.S k77 77 wc w.heap.size (fun k_=>some k_ ≠ ((.slice Ao9 t415.length co9):Value).ownBlock) (.slice Ao13 t418.length co13) t418)∧AsZ (wc.heap[gb414]? = some (.cells #[(.slice none 0 0),(.slice none 0 0)] 26 (0,0)))∧AsZ (wc.heap[gb421]? = some (.cells #[(.slice Ao9 t415.length co9),(.slice Ao13 t418.length co13)] 26 (0,0)))∧AsZ (IsS68 w0 wc g s0_0 t426 t427)∧AsZ (KeepBut w wc g none)∧AsZ (Below w0.heap.size w0 wc))
 case first =>
  have H:=HC5.out
  clear HC5
  by_cases c16:t425=true
  · subst c16
    replace H:=iP H
    have H':=AsZ.mk H
    clear H
    go_wp2
    go_meet
    case rel=>exact ⟨_,(70),rs,H',⟨lo⟩,⟨Kd.Q_of_R (kR HO417)⟩,⟨kS HO420⟩,⟨bk BK414⟩,⟨bk BK421⟩,⟨st68 HI0⟩,⟨kB HK⟩,⟨bel⟩⟩
  replace c16:=Bool.eq_false_iff.mpr c16
  subst c16
  replace H:=iN H
  have H':=AsZ.mk H
  clear H
  go_wp2
  go_meet
  case rel=>exact ⟨_,(t422),rs,H',⟨lo⟩,⟨Kd.Q_of_R (kR HO417)⟩,⟨kS HO420⟩,⟨bk BK414⟩,⟨bk BK421⟩,⟨st68 HI0⟩,⟨kB HK⟩,⟨bel⟩⟩
 case rest =>
  clear HC5
  try clear p2
  try clear hcz12_0 hcz12_1 hfz12_0 hfz12_1
  obtain ⟨kq,x4_4,rfl,HA,HJ4,HO_422000,HO_422001,BK414,BK421,HI0,HK,HB⟩:=hcut
  cases kq with
  |zero=>exact absurd HA.out (by simp [spec_l1Cur_skip.j0])
  |succ kj4 =>
   have H:=HA.out
   clear HA
   simp only [spec_l1Cur_skip.j0] at H
   have H':=AsZ.mk H
   clear H
   go_wp2
   go_loopg [4] kj4 (fun kq v4 w' => ∃ (x4_2:Int) (x1001_2:Int) (x1002_2:Int) (x422000_2:List Int) (x422001_2:List (S77)) (u422000:Value) (u422001:Value),v4 = .int .i64 x4_2∧AsZ (spec_l1Cur_skip.l0 kq x4_2 s0_0 x1001_2 x1002_2 x422000_2 x422001_2=some (r1,r2,r3,r4))∧AsZ (kq≤kj4)∧AsZ (Kd.Q (Kd.int .i64) 3 w' w.heap.size (fun _=>True) u422000 x422000_2)∧AsZ (Kd.S k77 77 w' w.heap.size (fun k_=>some k_ ≠ (u422000:Value).ownBlock) u422001 x422001_2)∧AsZ (w'.heap[gb414]? = some (.cells #[(.slice none 0 0),(.slice none 0 0)] 26 (0,0)))∧AsZ (w'.heap[gb421]? = some (.cells #[u422000,u422001] 26 (0,0)))∧AsZ (IsS68 w0 w' g s0_0 x1001_2 x1002_2)∧AsZ (KeepBut w w' g none)∧AsZ (Below w0.heap.size w0 w'))
   case atStart=>exact ⟨(x4_4),(t426),(t427),(t415),(t418),(.slice Ao9 t415.length co9),(.slice Ao13 t418.length co13),rs,H',⟨Nat.le_refl _⟩,⟨kQ HO_422000⟩,⟨kS HO_422001⟩,⟨bk BK414⟩,⟨bk BK421⟩,⟨st68 HI0⟩,⟨kB HK⟩,⟨bel⟩⟩
   case round =>
    clear H'
    try clear p2
    try clear hcz12_0 hcz12_1 hfz12_0 hfz12_1
    obtain ⟨x4_2,x1001_2,x1002_2,x422000_2,x422001_2,u422000,u422001,rfl,HA,HK2,HO_422000,HO_422001,BK414,BK421,HI0,HK,HB⟩:=hrel
    cases gk with
    |zero=>exact absurd HA.out (by simp [spec_l1Cur_skip.l0])
    |succ k2 =>
     have H:=HA.out
     clear HA
     simp only [spec_l1Cur_skip.l0] at H
     by_cases c17:x4_2 > 0
     · rw [if_pos c17] at H
       have c17b0:decide (0 < x4_2)=true:=zE c17
       clear c17
       replace H:=bs H
       obtain ⟨⟨t428,t429,t430,t431,t432,t433⟩,A18,H⟩:=H
       have HC19:=AsZ.mk H
       clear H
       go_upto_if 20 with (first|((with_reducible refine gcl (f:=38) rfl ?_);refine goesL_ (some 18) rfl rfl Tryd.func38 (by kernel_rfl) rfl #[.pointer (some ⟨g,0,none⟩)] rfl gl ?_;(with_reducible refine (spec_l1Cur_item.calls k2 g s0_0 x1001_2 x1002_2 t428 t429 t430 t431 t432 t433 w0 _ ?side1 ?side2 A18.out).mono ?_);(case side1=>exact st68 HI0);(case side2=>exact bel);rintro e w20 ⟨rfl,hi,hb,hk⟩;refine ⟨_,rfl,?_⟩;replace HO_422000:=AsZ.mk (Kd.Q_mono (Kd.Q_keep (IsS68.apartQ (show IsS68 w0 _ g s0_0 x1001_2 x1002_2 from st68 HI0) (kQ HO_422000) (by decide)) hk (fun _ h=>h.2)) (fun _ h=>h.1));replace HO_422001:=AsZ.mk (Kd.S_mono (Kd.S_keep (IsS68.apartS (show IsS68 w0 _ g s0_0 x1001_2 x1002_2 from st68 HI0) (kS HO_422001) (by decide)) hk (fun _ h=>h.2)) (fun _ h=>h.1));replace BK414:=AsZ.mk (KeepBut.blk hk (bk BK414) NB414_0.out (by simp));replace BK421:=AsZ.mk (KeepBut.blk hk (bk BK421) NB421_0.out (by simp));replace HK:=AsZ.mk (KeepBut.trans (kB HK) hk (.inl rfl));replace HB:=AsZ.mk (hb);replace HI0:=AsZ.mk (hi);(try clear hb);(try clear hb2);(try clear hk);(try clear hi))|((with_reducible refine gate_dst (N:=5) rfl ?_);refine bev 5 28 (cs:=#[.string (⟨#[]⟩:ByteArray),.int .i64 0,.int .i64 0,.string (⟨#[]⟩:ByteArray)]) ?_;intro gb434 hg w21 hbox hb;have BK434:=AsZ.mk (hbox);have GW434:=AsZ.mk ((by rw [hg];exact (keep_size (w:=w) (g:=g) (row:=none) (kB HK)):w.heap.size≤gb434));have GE434:=AsZ.mk ((Nat.le_trans HW0.out (by rw [hg];exact (keep_size (w:=w) (g:=g) (row:=none) (kB HK)):w.heap.size≤gb434):w0.heap.size≤gb434));have NB414_434:=nl BK414 hg;have NB434_414:=nr BK414 hg;have NB421_434:=nl BK421 hg;have NB434_421:=nr BK421 hg;have NB0_434:=AsZ.mk ((by rw [hg];exact Nat.ne_of_lt (IsS68.lt (show IsS68 w0 _ g s0_0 t432 t433 from st68 HI0)):g ≠ gb434));have NB434_0:=AsZ.mk ((by rw [hg];exact Nat.ne_of_gt (IsS68.lt (show IsS68 w0 _ g s0_0 t432 t433 from st68 HI0)):gb434 ≠ g));replace HO_422000:=rQ HO_422000 hb;replace HO_422001:=rS HO_422001 hb;replace BK414:=bb BK414 hb;replace BK421:=bb BK421 hb;replace HI0:=AsZ.mk (IsS68.below (st68 HI0) hb);replace HK:=AsZ.mk (KeepBut.trans (kB HK) (KeepBut.of_below hb g none) (.inl rfl));replace HB:=bp hb;clear hb hbox hg;have hnb22:=NB434_414.out;have hnc22:=NB414_434.out;have hnb23:=NB434_421.out;have hnc23:=NB421_434.out;have hnb24:=NB434_0.out;have hnc24:=NB0_434.out;obtain ⟨hcz25_0,hcz25_1,hcz25_2,hcz25_3,hfz25_0,hfz25_1,hfz25_2,hfz25_3⟩:=bx4 BK434))
       (try simp only [Act.put,zS,zT,zU])
       go_cut [] (fun wc => ∃ (kq:Nat) (x1001_18:Int) (x1002_18:Int) (x435001_18:Int),AsZ (spec_l1Cur_skip.j2 kq x4_2 s0_0 x1001_18 x1002_18 x422000_2 x422001_2 t428 x435001_18 t430 t431=some (r1,r2,r3,r4))∧AsZ (kq≤k2)∧AsZ (Kd.Q (Kd.int .i64) 3 wc w.heap.size (fun _=>True) u422000 x422000_2)∧AsZ (Kd.S k77 77 wc w.heap.size (fun k_=>some k_ ≠ (u422000:Value).ownBlock) u422001 x422001_2)∧AsZ (wc.heap[gb414]? = some (.cells #[(.slice none 0 0),(.slice none 0 0)] 26 (0,0)))∧AsZ (wc.heap[gb421]? = some (.cells #[u422000,u422001] 26 (0,0)))∧AsZ (wc.heap[gb434]? = some (.cells #[.string t428,.int .i64 x435001_18,.int .i64 t430,.string t431] 28 (0,0)))∧AsZ (IsS68 w0 wc g s0_0 x1001_18 x1002_18)∧AsZ (KeepBut w wc g none)∧AsZ (Below w0.heap.size w0 wc))
       case first =>
        have H:=HC19.out
        clear HC19
        by_cases c26:x4_2 > 20
        rotate_left
        · rw [if_neg c26] at H
          have c26b0:decide (20 < x4_2)=false:=decide_eq_false c26
          clear c26
          (first|rw [c26b0]|(simp only [i64_w,i32_w];rw [c26b0])|rw [c26b1]|skip)
          have H':=AsZ.mk H
          clear H
          go_wp2
          go_meet
          case rel=>exact ⟨_,(t432),(t433),(t429),H',⟨by have:=HJ4.out;have:=HK2.out;first|omega|exact Nat.le_refl _⟩,⟨by (with_reducible repeat (first|apply Kd.Q_alloc|apply Kd.Q_drewN|apply Kd.Q_drew));exact Kd.Q_mono (fQ (fQ (fQ (fQ (Kd.Q_types HO_422000.out BK434.out (by decide)))))) (fun _ hk=>trivial)⟩,⟨by (with_reducible repeat (first|apply Kd.S_alloc|apply Kd.S_drewN|apply Kd.S_drew));exact Kd.S_mono (fS (fS (fS (fS (Kd.S_types HO_422001.out BK434.out (by decide)))))) (fun _ hk=>hk.1)⟩,⟨bq BK414⟩,⟨bq BK421⟩,⟨bq BK434⟩,⟨st68 HI0⟩,⟨kB HK⟩,⟨bel⟩⟩
        rw [if_pos c26] at H
        have c26b0:decide (20 < x4_2)=true:=zE c26
        clear c26
        (first|rw [c26b0]|(simp only [i64_w,i32_w];rw [c26b0])|rw [c26b1]|skip)
        replace H:=bs H
        obtain ⟨⟨t435,t436,t437⟩,A27,H⟩:=H
        have H':=AsZ.mk H
        clear H
        go_wp2_with (first|((with_reducible refine gcl (f:=75) rfl ?_);refine goesL_ (some 22) rfl rfl Tryd.func75 (by kernel_rfl) rfl #[.pointer (some ⟨g,0,none⟩),.int .i64 300] rfl gl ?_;(with_reducible refine (spec_l1Cur_pick.calls g s0_0 t432 t433 300 t435 t436 t437 w0 _ ?side1 ?side2 A27.out).mono ?_);(case side1=>exact st68 HI0);(case side2=>exact bel);rintro e w28 ⟨rfl,hi,hb,hk⟩;refine ⟨_,rfl,?_⟩;replace HO_422000:=AsZ.mk (Kd.Q_mono (Kd.Q_keep (IsS68.apartQ (show IsS68 w0 _ g s0_0 t432 t433 from st68 HI0) (by (with_reducible repeat (first|apply Kd.Q_alloc|apply Kd.Q_drewN|apply Kd.Q_drew));exact (Kd.Q_mono (fQ (fQ (fQ (fQ (Kd.Q_types HO_422000.out BK434.out (by decide)))))) (fun _ h_=>h_.1))) (by decide)) hk (fun _ h=>h.2)) (fun _ h=>h.1));replace HO_422001:=AsZ.mk (Kd.S_mono (Kd.S_keep (IsS68.apartS (show IsS68 w0 _ g s0_0 t432 t433 from st68 HI0) (by (with_reducible repeat (first|apply Kd.S_alloc|apply Kd.S_drewN|apply Kd.S_drew));exact (Kd.S_mono (fS (fS (fS (fS (Kd.S_types HO_422001.out BK434.out (by decide)))))) (fun _ h_=>h_.1))) (by decide)) hk (fun _ h=>h.2)) (fun _ h=>h.1));replace BK414:=AsZ.mk (KeepBut.blk hk (g':=gb414) (o := .cells #[.slice none 0 0,.slice none 0 0] 26 (0,0)) (bq BK414) NB414_0.out (by simp));replace BK421:=AsZ.mk (KeepBut.blk hk (g':=gb421) (o := .cells #[u422000,u422001] 26 (0,0)) (bq BK421) NB421_0.out (by simp));replace BK434:=AsZ.mk (KeepBut.blk hk (g':=gb434) (o := .cells #[.string t428,.int .i64 t429,.int .i64 t430,.string t431] 28 (0,0)) (bq BK434) NB434_0.out (by simp));replace HK:=AsZ.mk (KeepBut.trans (kB HK) hk (.inl rfl));replace HB:=AsZ.mk (hb);replace HI0:=AsZ.mk (hi);(try clear hb);(try clear hb2);(try clear hk);(try clear hi);have hnb29:=NB434_414.out;have hnc29:=NB414_434.out;have hnb30:=NB434_421.out;have hnc30:=NB421_434.out;have hnb31:=NB434_0.out;have hnc31:=NB0_434.out;obtain ⟨hcz32_0,hcz32_1,hcz32_2,hcz32_3,hfz32_0,hfz32_1,hfz32_2,hfz32_3⟩:=bx4 BK434))
        go_meet
        case rel=>exact ⟨_,(t436),(t437),(t435),H',⟨by have:=HJ4.out;have:=HK2.out;first|omega|exact Nat.le_refl _⟩,⟨by (with_reducible repeat (first|apply Kd.Q_alloc|apply Kd.Q_drewN|apply Kd.Q_drew));exact Kd.Q_mono (fQ (Kd.Q_types HO_422000.out BK434.out (by decide))) (fun _ hk=>trivial)⟩,⟨by (with_reducible repeat (first|apply Kd.S_alloc|apply Kd.S_drewN|apply Kd.S_drew));exact Kd.S_mono (fS (Kd.S_types HO_422001.out BK434.out (by decide))) (fun _ hk=>hk.1)⟩,⟨bq BK414⟩,⟨bq BK421⟩,⟨bq BK434⟩,⟨st68 HI0⟩,⟨kB HK⟩,⟨bel⟩⟩
       case rest =>
        clear HC19
        try clear p2
        try clear c17b0
        try clear c26b0
        try clear c26b1
        try clear hcz12_0 hcz12_1 hfz12_0 hfz12_1
        try clear hcz25_0 hcz25_1 hcz25_2 hcz25_3 hfz25_0 hfz25_1 hfz25_2 hfz25_3
        try clear hcz32_0 hcz32_1 hcz32_2 hcz32_3 hfz32_0 hfz32_1 hfz32_2 hfz32_3
        obtain ⟨kq,x1001_18,x1002_18,x435001_18,HA,HJ18,HO_422000,HO_422001,BK414,BK421,BK434,HI0,HK,HB⟩:=hcut
        cases kq with
        |zero=>exact absurd HA.out (by simp [spec_l1Cur_skip.j2])
        |succ kj18 =>
         have H:=HA.out
         clear HA
         simp only [spec_l1Cur_skip.j2] at H
         replace H:=bs H
         obtain ⟨⟨t438,t441,t444⟩,A33,H⟩:=H
         by_cases c34:t444=true
         rotate_left
         · replace c34:=Bool.eq_false_iff.mpr c34
           subst c34
           replace H:=iN H
           have H':=AsZ.mk H
           clear H
           have hnb54:=NB421_414.out
           have hnc54:=NB414_421.out
           have hnb55:=NB421_434.out
           have hnc55:=NB434_421.out
           have hnb56:=NB421_0.out
           have hnc56:=NB0_421.out
           obtain ⟨hcz57_0,hcz57_1,hfz57_0,hfz57_1⟩:=bx2 BK421
           have hnb58:=NB434_414.out
           have hnc58:=NB414_434.out
           have hnb59:=NB434_0.out
           have hnc59:=NB0_434.out
           obtain ⟨hcz60_0,hcz60_1,hcz60_2,hcz60_3,hfz60_0,hfz60_1,hfz60_2,hfz60_3⟩:=bx4 BK434
           obtain ⟨Ao61,co61,eo61,_⟩:=Kd.Q_slice HO_422000.out
           subst eo61
           obtain ⟨Ao62,co62,eo62⟩:=Kd.S_slice HO_422001.out
           subst eo62
           go_wp2_with (first|((with_reducible refine gcl (f:=13) rfl ?_);refine goesL_ (some 27) rfl rfl Tryd.func13 (by kernel_rfl) rfl #[.agg #[.slice Ao61 x422000_2.length co61,.slice Ao62 x422001_2.length co62],.agg #[.string t428,.int .i64 x435001_18,.int .i64 t430,.string t431]] rfl gl ?_;(with_reducible refine (spec_InsertSkip.calls kj18 _ _ x422000_2 _ _ x422001_2 t428 x435001_18 t430 t431 t438 t441 false _ ?side1 ?side2 ?side3 ?side4 A33.out).mono ?_);(case side1=>exact cC (Kd.Q_reads' HO_422000.out).2.2);(case side2=>exact (Kd.Q_reads' HO_422000.out).2.1);(case side3=>exact cC (Kd.S_reads' HO_422001.out).2.2);(case side4=>exact (Kd.S_reads' HO_422001.out).2.1);rintro e w63 ⟨v439,v442,rfl,ho0,ho1,hb⟩;refine ⟨_,rfl,?_⟩;have HO440:=AsZ.mk (Kd.R_lower (Kd.R_new' ho0 (Kd.Q_lt (kQ HO_422000))) (keep_size (w:=w) (g:=g) (row:=none) (kB HK)));have HO443:=AsZ.mk (Kd.S_lower (Kd.S_new' (Kd.S_new' ho1 (Kd.Q_lt (kQ HO_422000))) (Kd.S_lt (kS HO_422001))) (keep_size (w:=w) (g:=g) (row:=none) (kB HK)));replace HO_422000:=AsZ.mk (Kd.Q_elder' (kQ HO_422000) (Kd.R_base ho0) hb);replace HO_422001:=AsZ.mk (Kd.S_mono (Kd.S_told (Kd.S_told (Kd.S_old (kS HO_422001) hb) (Kd.R_base ho0)) (Kd.S_base ho1)) (fun _ h_=>h_.1));replace BK414:=bb BK414 hb;replace BK421:=bb BK421 hb;replace BK434:=bb BK434 hb;replace HI0:=AsZ.mk (IsS68.below (st68 HI0) hb);replace HK:=AsZ.mk (KeepBut.trans (kB HK) (KeepBut.of_below hb g none) (.inl rfl));replace HB:=bp hb;(try clear hb);(try clear hb2);(try clear hk);(try clear hi);(try clear ho0);(try clear ho1))|((with_reducible refine gate_dst (N:=6) rfl ?_);refine bev 6 26 (cs:=#[.slice none 0 0,.slice none 0 0]) ?_;intro gb445 hg w64 hbox hb;have BK445:=AsZ.mk (hbox);have GW445:=AsZ.mk ((by rw [hg];exact (keep_size (w:=w) (g:=g) (row:=none) (kB HK)):w.heap.size≤gb445));have GE445:=AsZ.mk ((Nat.le_trans HW0.out (by rw [hg];exact (keep_size (w:=w) (g:=g) (row:=none) (kB HK)):w.heap.size≤gb445):w0.heap.size≤gb445));have NB414_445:=nl BK414 hg;have NB445_414:=nr BK414 hg;have NB421_445:=nl BK421 hg;have NB445_421:=nr BK421 hg;have NB434_445:=nl BK434 hg;have NB445_434:=nr BK434 hg;have NB0_445:=AsZ.mk ((by rw [hg];exact Nat.ne_of_lt (IsS68.lt (show IsS68 w0 _ g s0_0 x1001_18 x1002_18 from st68 HI0)):g ≠ gb445));have NB445_0:=AsZ.mk ((by rw [hg];exact Nat.ne_of_gt (IsS68.lt (show IsS68 w0 _ g s0_0 x1001_18 x1002_18 from st68 HI0)):gb445 ≠ g));replace HO_422000:=rQ HO_422000 hb;replace HO_422001:=rS HO_422001 hb;replace HO440:=rR HO440 hb;replace HO443:=rS HO443 hb;replace BK414:=bb BK414 hb;replace BK421:=bb BK421 hb;replace BK434:=bb BK434 hb;replace HI0:=AsZ.mk (IsS68.below (st68 HI0) hb);replace HK:=AsZ.mk (KeepBut.trans (kB HK) (KeepBut.of_below hb g none) (.inl rfl));replace HB:=bp hb;clear hb hbox hg;obtain ⟨Ao65,co65,eo65⟩:=Kd.R_slice HO440.out;subst eo65;have hnb66:=NB445_414.out;have hnc66:=NB414_445.out;have hnb67:=NB445_421.out;have hnc67:=NB421_445.out;have hnb68:=NB445_434.out;have hnc68:=NB434_445.out;have hnb69:=NB445_0.out;have hnc69:=NB0_445.out;obtain ⟨hcz70_0,hcz70_1,hfz70_0,hfz70_1⟩:=bx2 BK445;obtain ⟨Ao71,co71,eo71⟩:=Kd.S_slice HO443.out;subst eo71))
           go_roundg kj18
           case measure=>have:=HJ4.out;have:=HK2.out;have:=HJ18.out;omega
           case rel=>exact ⟨(wrap64 (x4_2 - 1)),(x1001_18),(x1002_18),(x422000_2),(x422001_2),(.slice Ao61 x422000_2.length co61),(.slice Ao62 x422001_2.length co62),rs,H',⟨by have:=HJ4.out;have:=HK2.out;have:=HJ18.out;omega⟩,⟨by (with_reducible repeat (first|apply Kd.Q_alloc|apply Kd.Q_drewN|apply Kd.Q_drew));exact Kd.Q_mono (fQ (fQ (Kd.Q_types HO_422000.out BK445.out (by decide)))) (fun _ hk=>trivial)⟩,⟨by (with_reducible repeat (first|apply Kd.S_alloc|apply Kd.S_drewN|apply Kd.S_drew));exact Kd.S_mono (fS (fS (Kd.S_types HO_422001.out BK445.out (by decide)))) (fun _ hk=>hk.1.1.1)⟩,⟨bq BK414⟩,⟨bq BK421⟩,⟨st68 HI0⟩,⟨kB HK⟩,⟨bel⟩⟩
         subst c34
         replace H:=iP H
         have H':=AsZ.mk H
         clear H
         have hnb35:=NB421_414.out
         have hnc35:=NB414_421.out
         have hnb36:=NB421_434.out
         have hnc36:=NB434_421.out
         have hnb37:=NB421_0.out
         have hnc37:=NB0_421.out
         obtain ⟨hcz38_0,hcz38_1,hfz38_0,hfz38_1⟩:=bx2 BK421
         have hnb39:=NB434_414.out
         have hnc39:=NB414_434.out
         have hnb40:=NB434_0.out
         have hnc40:=NB0_434.out
         obtain ⟨hcz41_0,hcz41_1,hcz41_2,hcz41_3,hfz41_0,hfz41_1,hfz41_2,hfz41_3⟩:=bx4 BK434
         obtain ⟨Ao42,co42,eo42,_⟩:=Kd.Q_slice HO_422000.out
         subst eo42
         obtain ⟨Ao43,co43,eo43⟩:=Kd.S_slice HO_422001.out
         subst eo43
         go_wp2_with (first|((with_reducible refine gcl (f:=13) rfl ?_);refine goesL_ (some 27) rfl rfl Tryd.func13 (by kernel_rfl) rfl #[.agg #[.slice Ao42 x422000_2.length co42,.slice Ao43 x422001_2.length co43],.agg #[.string t428,.int .i64 x435001_18,.int .i64 t430,.string t431]] rfl gl ?_;(with_reducible refine (spec_InsertSkip.calls kj18 _ _ x422000_2 _ _ x422001_2 t428 x435001_18 t430 t431 t438 t441 true _ ?side1 ?side2 ?side3 ?side4 A33.out).mono ?_);(case side1=>exact cC (Kd.Q_reads' HO_422000.out).2.2);(case side2=>exact (Kd.Q_reads' HO_422000.out).2.1);(case side3=>exact cC (Kd.S_reads' HO_422001.out).2.2);(case side4=>exact (Kd.S_reads' HO_422001.out).2.1);rintro e w44 ⟨v439,v442,rfl,ho0,ho1,hb⟩;refine ⟨_,rfl,?_⟩;have HO440:=AsZ.mk (Kd.R_lower (Kd.R_new' ho0 (Kd.Q_lt (kQ HO_422000))) (keep_size (w:=w) (g:=g) (row:=none) (kB HK)));have HO443:=AsZ.mk (Kd.S_lower (Kd.S_new' (Kd.S_new' ho1 (Kd.Q_lt (kQ HO_422000))) (Kd.S_lt (kS HO_422001))) (keep_size (w:=w) (g:=g) (row:=none) (kB HK)));replace HO_422000:=AsZ.mk (Kd.Q_elder' (kQ HO_422000) (Kd.R_base ho0) hb);replace HO_422001:=AsZ.mk (Kd.S_mono (Kd.S_told (Kd.S_told (Kd.S_old (kS HO_422001) hb) (Kd.R_base ho0)) (Kd.S_base ho1)) (fun _ h_=>h_.1));replace BK414:=bb BK414 hb;replace BK421:=bb BK421 hb;replace BK434:=bb BK434 hb;replace HI0:=AsZ.mk (IsS68.below (st68 HI0) hb);replace HK:=AsZ.mk (KeepBut.trans (kB HK) (KeepBut.of_below hb g none) (.inl rfl));replace HB:=bp hb;(try clear hb);(try clear hb2);(try clear hk);(try clear hi);(try clear ho0);(try clear ho1))|((with_reducible refine gate_dst (N:=6) rfl ?_);refine bev 6 26 (cs:=#[.slice none 0 0,.slice none 0 0]) ?_;intro gb445 hg w45 hbox hb;have BK445:=AsZ.mk (hbox);have GW445:=AsZ.mk ((by rw [hg];exact (keep_size (w:=w) (g:=g) (row:=none) (kB HK)):w.heap.size≤gb445));have GE445:=AsZ.mk ((Nat.le_trans HW0.out (by rw [hg];exact (keep_size (w:=w) (g:=g) (row:=none) (kB HK)):w.heap.size≤gb445):w0.heap.size≤gb445));have NB414_445:=nl BK414 hg;have NB445_414:=nr BK414 hg;have NB421_445:=nl BK421 hg;have NB445_421:=nr BK421 hg;have NB434_445:=nl BK434 hg;have NB445_434:=nr BK434 hg;have NB0_445:=AsZ.mk ((by rw [hg];exact Nat.ne_of_lt (IsS68.lt (show IsS68 w0 _ g s0_0 x1001_18 x1002_18 from st68 HI0)):g ≠ gb445));have NB445_0:=AsZ.mk ((by rw [hg];exact Nat.ne_of_gt (IsS68.lt (show IsS68 w0 _ g s0_0 x1001_18 x1002_18 from st68 HI0)):gb445 ≠ g));replace HO_422000:=rQ HO_422000 hb;replace HO_422001:=rS HO_422001 hb;replace HO440:=rR HO440 hb;replace HO443:=rS HO443 hb;replace BK414:=bb BK414 hb;replace BK421:=bb BK421 hb;replace BK434:=bb BK434 hb;replace HI0:=AsZ.mk (IsS68.below (st68 HI0) hb);replace HK:=AsZ.mk (KeepBut.trans (kB HK) (KeepBut.of_below hb g none) (.inl rfl));replace HB:=bp hb;clear hb hbox hg;obtain ⟨Ao46,co46,eo46⟩:=Kd.R_slice HO440.out;subst eo46;have hnb47:=NB445_414.out;have hnc47:=NB414_445.out;have hnb48:=NB445_421.out;have hnc48:=NB421_445.out;have hnb49:=NB445_434.out;have hnc49:=NB434_445.out;have hnb50:=NB445_0.out;have hnc50:=NB0_445.out;obtain ⟨hcz51_0,hcz51_1,hfz51_0,hfz51_1⟩:=bx2 BK445;obtain ⟨Ao52,co52,eo52⟩:=Kd.S_slice HO443.out;subst eo52;obtain ⟨hcz53_0,hcz53_1,hfz53_0,hfz53_1⟩:=bx2 BK421))
         go_roundg kj18
         case measure=>have:=HJ4.out;have:=HK2.out;have:=HJ18.out;omega
         case rel=>exact ⟨(wrap64 (x4_2 - 1)),(x1001_18),(x1002_18),(t438),(t441),(.slice Ao46 t438.length co46),(.slice Ao52 t441.length co52),rs,H',⟨by have:=HJ4.out;have:=HK2.out;have:=HJ18.out;omega⟩,⟨Kd.Q_of_R (by (with_reducible repeat (first|apply Kd.R_alloc|apply Kd.R_drewN|apply Kd.R_drew));exact Kd.R_mono (fR (fR (Kd.R_far (p:=⟨gb445,1,none⟩) (Kd.R_far (p:=⟨gb445,0,none⟩) (Kd.R_types (Kd.R_types HO440.out BK445.out (by decide)) BK421.out (by decide)) (fun _ hk=>hk.1.2) (.slice Ao46 t438.length co46)) (fun _ hk=>hk.1.2) (.slice Ao52 t441.length co52)))) (fun _ hk=>trivial))⟩,⟨by (with_reducible repeat (first|apply Kd.S_alloc|apply Kd.S_drewN|apply Kd.S_drew));exact Kd.S_mono (fS (fS (Kd.S_far (p:=⟨gb445,1,none⟩) (Kd.S_far (p:=⟨gb445,0,none⟩) (Kd.S_types (Kd.S_types HO443.out BK445.out (by decide)) BK421.out (by decide)) (fun _ hk=>hk.1.2) (.slice Ao46 t438.length co46)) (fun _ hk=>hk.1.2) (.slice Ao52 t441.length co52)))) (fun _ hk=>hk.1.1.1.1)⟩,⟨bq BK414⟩,⟨bq BK421⟩,⟨st68 HI0⟩,⟨kB HK⟩,⟨bel⟩⟩
     rw [if_neg c17] at H
     have c17b0:decide (0 < x4_2)=false:=decide_eq_false c17
     clear c17
     replace H:=bs H
     obtain ⟨⟨t446,t447,t448⟩,A72,H⟩:=H
     by_cases c73:t446=0
     · rw [if_pos c73] at H
       have c73b0:(t446 == 0)=true:=beq_iff_eq.mpr c73
       have c73b1:(t446 != 0)=false:=bne_eq_false_iff_eq.mpr c73
       clear c73
       replace H:=bs H
       obtain ⟨⟨t449,t450,t451⟩,A74,H⟩:=H
       replace H:=bs H
       obtain ⟨⟨t452,t453,t454⟩,A75,H⟩:=H
       by_cases c76:0≤t449
       rotate_left
       · rw [if_neg c76] at H
         exact absurd H (by simp)
       rw [if_pos c76] at H
       have c76b0:decide (0≤t449)=true:=zE c76
       clear c76
       by_cases c77:t449 < (x422000_2.length:Int)
       rotate_left
       · rw [if_neg c77] at H
         exact absurd H (by simp)
       rw [if_pos c77] at H
       have c77b0:decide (t449 < (x422000_2.length:Int))=true:=zE c77
       clear c77
       obtain ⟨y455,hy455⟩:∃ y_:List Int,y_=(x422000_2.set (t449:Int).toNat (wrap64 (t452 - 2))):=⟨_,rfl⟩
       replace H:(some (y455,x422001_2,t453,t454))=some (r1,r2,r3,r4):=ry hy455 H
       have Ny455:=AsZ.mk hy455
       clear hy455
       simp only [Option.some.injEq,Prod.mk.injEq] at H
       obtain ⟨rfl,rfl,rfl,rfl⟩:=H
       try go_wp2_with (first|((with_reducible refine gcl (f:=75) rfl ?_);refine goesL_ (some 33) rfl rfl Tryd.func75 (by kernel_rfl) rfl #[.pointer (some ⟨g,0,none⟩),.int .i64 40] rfl gl ?_;(with_reducible refine (spec_l1Cur_pick.calls g s0_0 x1001_2 x1002_2 40 t446 t447 t448 w0 _ ?side1 ?side2 A72.out).mono ?_);(case side1=>exact st68 HI0);(case side2=>exact bel);rintro e w79 ⟨rfl,hi,hb,hk⟩;refine ⟨_,rfl,?_⟩;replace HO_422000:=AsZ.mk (Kd.Q_mono (Kd.Q_keep (IsS68.apartQ (show IsS68 w0 _ g s0_0 x1001_2 x1002_2 from st68 HI0) (kQ HO_422000) (by decide)) hk (fun _ h=>h.2)) (fun _ h=>h.1));replace HO_422001:=AsZ.mk (Kd.S_mono (Kd.S_keep (IsS68.apartS (show IsS68 w0 _ g s0_0 x1001_2 x1002_2 from st68 HI0) (kS HO_422001) (by decide)) hk (fun _ h=>h.2)) (fun _ h=>h.1));replace BK414:=AsZ.mk (KeepBut.blk hk (bk BK414) NB414_0.out (by simp));replace BK421:=AsZ.mk (KeepBut.blk hk (bk BK421) NB421_0.out (by simp));replace HK:=AsZ.mk (KeepBut.trans (kB HK) hk (.inl rfl));replace HB:=AsZ.mk (hb);replace HI0:=AsZ.mk (hi);(try clear hb);(try clear hb2);(try clear hk);(try clear hi)))
       replace HO_422000:=dQ HO_422000
       replace HO_422001:=dS HO_422001
       replace BK414:=db BK414
       replace BK421:=db BK421
       replace HI0:=AsZ.mk (IsS68.drew HI0.out)
       replace HK:=AsZ.mk (keep_drew HK.out)
       replace HB:=dB HB
       refine start_ (n:=9) (S:=fun w'=>w'.cell? ⟨gb421,0,none⟩=some (u422000)∧w'.cell? ⟨gb421,1,none⟩=some (u422001)) (ds:=[8]) (b_ 0 9) (by kernel_rfl) rfl rfl ⟨(kc BK421.out 0).trans rfl,(kc BK421.out 1).trans rfl⟩ (fun hHeld=>?_);refine with_tabW spec_l1Cur_skip.tab15 spec_l1Cur_skip.bits15 (fun HT_ HW_=>?_)
       generalize w79.drew=w80 at HO_422000 HO_422001 BK414 BK421 HI0 HK HB hHeld ⊢
       refine pu 0 36 (b_ 1 8) HT_.out ?_
       refine pu 2 38 #[true,false,true,false,false,false,false,false,false] HT_.out ?_
       refine pu 4 40 #[true,false,true,false,true,false,false,false,false] HT_.out ?_
       refine tk2 1 37 #[true,true,true,false,true,false,false,false,false] HT_.out HW_.out hHeld ?_
       refine one_ (i:=3) (N:=some 39) (b_ 5 4) rfl rfl (one_of HT_.out (by kernel_rfl)) (by decide) (fun K hK=>?_)
       refine goes_ Tryd.func75 (by kernel_rfl) rfl #[.pointer (some ⟨g,0,none⟩),.int .i64 5] (by rfl) rfl rfl gl ?_
       with_reducible refine (spec_l1Cur_pick.calls g s0_0 t447 t448 5 t449 t450 t451 w0 _ ?side1 ?side2 A74.out).mono ?_
       (case side1=>exact st68 HI0)
       (case side2=>exact bel)
       rintro e w81 ⟨rfl,hi,hb,hk⟩
       refine ⟨_,rfl,?_⟩
       replace HO_422000:=AsZ.mk (Kd.Q_mono (Kd.Q_keep (IsS68.apartQ (show IsS68 w0 _ g s0_0 t447 t448 from st68 HI0) (kQ HO_422000) (by decide)) hk (fun _ h=>h.2)) (fun _ h=>h.1))
       replace HO_422001:=AsZ.mk (Kd.S_mono (Kd.S_keep (IsS68.apartS (show IsS68 w0 _ g s0_0 t447 t448 from st68 HI0) (kS HO_422001) (by decide)) hk (fun _ h=>h.2)) (fun _ h=>h.1))
       replace BK414:=AsZ.mk (KeepBut.blk hk (bk BK414) NB414_0.out (by simp))
       replace BK421:=AsZ.mk (KeepBut.blk hk (bk BK421) NB421_0.out (by simp))
       replace HK:=AsZ.mk (KeepBut.trans (kB HK) hk (.inl rfl))
       replace HB:=AsZ.mk (hb)
       replace HI0:=AsZ.mk (hi)
       (try clear hb)
       (try clear hb2)
       (try clear hk)
       (try clear hi)
       refine hK.out _ _ ⟨(kc BK421.out 0).trans rfl,(kc BK421.out 1).trans rfl⟩ (fun hHeld=>?_)
       clear hK K
       refine norm_ (a':=?_) ?_ ?_
       rotate_left
       · show Act.put _ (some 39) _=_
         simp only [Act.put,zS,zT,zU,i64_w,i32_w]
         rfl
       refine one_ (i:=5) (N:=some 41) (b_ 6 3) rfl rfl (one_of HT_.out (by kernel_rfl)) (by decide) (fun K hK=>?_)
       refine goes_ Tryd.func75 (by kernel_rfl) rfl #[.pointer (some ⟨g,0,none⟩),.int .i64 20] (by rfl) rfl rfl gl ?_
       with_reducible refine (spec_l1Cur_pick.calls g s0_0 t450 t451 20 t452 t453 t454 w0 _ ?side1 ?side2 A75.out).mono ?_
       (case side1=>exact st68 HI0)
       (case side2=>exact bel)
       rintro e w82 ⟨rfl,hi,hb,hk⟩
       refine ⟨_,rfl,?_⟩
       replace HO_422000:=AsZ.mk (Kd.Q_mono (Kd.Q_keep (IsS68.apartQ (show IsS68 w0 _ g s0_0 t450 t451 from st68 HI0) (kQ HO_422000) (by decide)) hk (fun _ h=>h.2)) (fun _ h=>h.1))
       replace HO_422001:=AsZ.mk (Kd.S_mono (Kd.S_keep (IsS68.apartS (show IsS68 w0 _ g s0_0 t450 t451 from st68 HI0) (kS HO_422001) (by decide)) hk (fun _ h=>h.2)) (fun _ h=>h.1))
       replace BK414:=AsZ.mk (KeepBut.blk hk (bk BK414) NB414_0.out (by simp))
       replace BK421:=AsZ.mk (KeepBut.blk hk (bk BK421) NB421_0.out (by simp))
       replace HK:=AsZ.mk (KeepBut.trans (kB HK) hk (.inl rfl))
       replace HB:=AsZ.mk (hb)
       replace HI0:=AsZ.mk (hi)
       (try clear hb)
       (try clear hb2)
       (try clear hk)
       (try clear hi)
       have p78:0≤(t449:Int):=dd
       have q78:(t449:Int) < ((x422000_2.length:Int):Int):=dd
       obtain ⟨go78,oo78,co78,eo78,gb78,gl78,cl78,HG78⟩:=Kd.Q_form HO_422000.out (by omega)
       (first|cases eo78|(injection eo78 with ea_ en_ ec_;(first|subst ea_|(injection ea_ with ea_;subst ea_));subst ec_;clear en_))
       have GB78:=AsZ.mk gb78
       have GG78:=AsZ.mk HG78
       clear gb78 gl78 HG78
       obtain ⟨hx78_0,hf78_0⟩:=Kd.Q_cell 0 HO_422000.out (t449:Int) p78 q78
       replace p78:=eq_true p78
       replace q78:=eq_true q78
       have HN0_go78:=AsZ.mk (show g ≠ go78 from by have h_:=IsS68.own_neQ HI0.out HO_422000.out (by decide);intro e_;exact h_ (by rw [e_];rfl))
       have HP83:=(Kd.Q_putg HO_422000.out (t449:Int) dd (by have h_:(t449:Int) < ((x422000_2.length:Int):Int):=dd;first|exact h_|(have e_:=(Kd.Q_reads' HO_422000.out).1;omega)|simpa using h_) (wrap64 (t452 - 2))).1
       rw [← Ny455.out] at HP83
       have HQ83:=AsZ.mk HP83
       clear HP83
       refine hK.out _ _ ⟨(kc BK421.out 0).trans rfl,(kc BK421.out 1).trans rfl⟩ (fun hHeld=>?_)
       clear hK K
       refine norm_ (a':=?_) ?_ ?_
       rotate_left
       · show Act.put _ (some 41) _=_
         simp only [Act.put,zS,zT,zU,i64_w,i32_w]
         rfl
       refine pu 6 42 (b_ 7 2) HT_.out ?_
       refine pu 7 43 (b_ 8 1) HT_.out ?_
       refine last_ (i:=8) (N:=none) (b_ 9 0) rfl rfl (one_of HT_.out (by kernel_rfl)) (by decide) (fun K hK=>?_)
       refine skip_ (w1:=?_) (by rfl) rfl ?_ ?_
       rotate_left
       · go_simp
         rfl
       refine hK.out _ _ ?_
       clear hK K
       refine dn_ (dnO HT_.out (by kernel_rfl)) ?_
       have n0_:AsZ (Kd.Q (Kd.int .i64) 3 (w82.setCell ⟨go78,oo78 + (t449:Int).toNat,none⟩ (.int .i64 (wrap64 (t452 - 2)))) w.heap.size (fun _=>True) (.slice (some ⟨go78,oo78,none⟩) x422000_2.length co78) y455):=⟨kQ HQ83⟩
       have n1_:AsZ (Kd.S k77 77 (w82.setCell ⟨go78,oo78 + (t449:Int).toNat,none⟩ (.int .i64 (wrap64 (t452 - 2)))) w.heap.size (fun k_=>some k_ ≠ (.slice (some ⟨go78,oo78,none⟩) x422000_2.length co78:Value).ownBlock) u422001 x422001_2):=⟨by (with_reducible repeat (first|apply Kd.S_alloc|apply Kd.S_drewN|apply Kd.S_drew));exact Kd.S_mono (Kd.S_far (p:=⟨go78,oo78 + (t449:Int).toNat,none⟩) (Kd.S_mono HO_422001.out (fun k_ hk=>(⟨hk,fun e_=>hk (by rw [e_];rfl)⟩:_∧k_ ≠ go78))) (fun _ hk=>hk.2) (.int .i64 (wrap64 (t452 - 2)))) (fun _ hk=>hk.1)⟩
       have n2_:AsZ ((w82.setCell ⟨go78,oo78 + (t449:Int).toNat,none⟩ (.int .i64 (wrap64 (t452 - 2)))).heap[gb414]? = some (.cells #[.slice none 0 0,.slice none 0 0] 26 (0,0))):=⟨by (with_reducible repeat (first|refine kdN ?_ _|refine kd ?_|refine ka ?_ _));refine blk_far ?_ (by have h_:=Kd.Q_ne HO_422000.out BK414.out (by decide);intro e_;exact h_ (by rw [e_];rfl)) _;(with_reducible repeat (first|refine kdN ?_ _|refine kd ?_|refine ka ?_ _));exact BK414.out⟩
       have n3_:AsZ ((w82.setCell ⟨go78,oo78 + (t449:Int).toNat,none⟩ (.int .i64 (wrap64 (t452 - 2)))).heap[gb421]? = some (.cells #[.slice (some ⟨go78,oo78,none⟩) x422000_2.length co78,u422001] 26 (0,0))):=⟨by (with_reducible repeat (first|refine kdN ?_ _|refine kd ?_|refine ka ?_ _));refine blk_far ?_ (by have h_:=Kd.Q_ne HO_422000.out BK421.out (by decide);intro e_;exact h_ (by rw [e_];rfl)) _;(with_reducible repeat (first|refine kdN ?_ _|refine kd ?_|refine ka ?_ _));exact BK421.out⟩
       have n4_:AsZ (IsS68 w0 (w82.setCell ⟨go78,oo78 + (t449:Int).toNat,none⟩ (.int .i64 (wrap64 (t452 - 2)))) g s0_0 t453 t454):=⟨by repeat (first|(with_reducible first|exact HI0.out|apply IsS68.alloc|apply IsS68.drewN|apply IsS68.drew|apply IsS68.set_1|apply IsS68.set_2|refine IsS68.far ?_ HN0_go78.out _|refine IsS68.far ?_ NB0_414.out _|refine IsS68.far ?_ NB0_421.out _)|exact HI0.out)⟩
       have n5_:AsZ (KeepBut w (w82.setCell ⟨go78,oo78 + (t449:Int).toNat,none⟩ (.int .i64 (wrap64 (t452 - 2)))) g none):=⟨by repeat (first|(with_reducible first|exact HK.out|apply KeepBut.set_|apply keep_drewN|apply keep_drew|apply keep_alloc|refine keep_far ?_ GB78.out _|refine keep_far ?_ GW414.out _|refine keep_far ?_ GW421.out _)|exact HK.out)⟩
       have n6_:AsZ (Below w0.heap.size w0 (w82.setCell ⟨go78,oo78 + (t449:Int).toNat,none⟩ (.int .i64 (wrap64 (t452 - 2))))):=⟨by repeat (first|(with_reducible first|exact HB.out|apply bwa|apply pbN|apply bw1|refine bws ?_ (Nat.le_trans HL.out GB78.out)|refine bws ?_ (IsS68.ge HI0.out)|refine bws ?_ GE414.out|refine bws ?_ GE421.out)|exact HB.out)⟩
       (try clear HO_422000)
       (try clear HO_422001)
       (try clear BK414)
       (try clear BK421)
       (try clear HI0)
       (try clear HK)
       (try clear HB)
       generalize (w82.setCell ⟨go78,oo78 + (t449:Int).toNat,none⟩ (.int .i64 (wrap64 (t452 - 2))))=w84 at n0_ n1_ n2_ n3_ n4_ n5_ n6_ ⊢
       have HO_422000:=n0_
       have HO_422001:=n1_
       have BK414:=n2_
       have BK421:=n3_
       have HI0:=n4_
       have HK:=n5_
       have HB:=n6_
       clear n0_ n1_ n2_ n3_ n4_ n5_ n6_
       have hnb85:=NB421_414.out
       have hnc85:=NB414_421.out
       have hnb86:=NB421_0.out
       have hnc86:=NB0_421.out
       obtain ⟨hcz87_0,hcz87_1,hfz87_0,hfz87_1⟩:=bx2 BK421
       have hnb88:=NB414_0.out
       have hnc88:=NB0_414.out
       obtain ⟨hcz89_0,hcz89_1,hfz89_0,hfz89_1⟩:=bx2 BK414
       obtain ⟨Ao90,co90,eo90⟩:=Kd.S_slice HO_422001.out
       subst eo90
       try go_wp2
       refine bodyPost_ret (results_cell_row rfl _ _ gb414 26 #[.slice (some ⟨go78,oo78,none⟩) x422000_2.length co78,.slice Ao90 x422001_2.length co90] (0,0) _ rfl (bq BK414) Tryd.underlying26 rfl (by kernel_rfl)) rfl ?_
       exact ⟨_,_,re,by (with_reducible repeat (first|apply Kd.Q_alloc|apply Kd.Q_drewN|apply Kd.Q_drew));exact Kd.Q_mono (fQ (fQ (Kd.Q_types HO_422000.out BK414.out (by decide)))) (fun _ hk=>trivial),by (with_reducible repeat (first|apply Kd.S_alloc|apply Kd.S_drewN|apply Kd.S_drew));exact Kd.S_mono (fS (fS (Kd.S_types HO_422001.out BK414.out (by decide)))) (fun _ hk=>hk.1),st68 HI0,bel,kB HK⟩
     rw [if_neg c73] at H
     have c73b0:(t446 == 0)=false:=beq_eq_false_iff_ne.mpr c73
     have c73b1:(t446 != 0)=true:=bne_iff_ne.mpr c73
     by_cases c91:t446=1
     · rw [if_pos c91] at H
       have c91b0:(t446 == 1)=true:=beq_iff_eq.mpr c91
       have c91b1:(t446 != 1)=false:=bne_eq_false_iff_eq.mpr c91
       clear c91
       by_cases c92:1≤(x422000_2.length:Int)
       rotate_left
       · rw [if_neg c92] at H
         exact absurd H (by simp)
       rw [if_pos c92] at H
       have c92b0:=eq_true c92
       have c92b1:decide (1≤(x422000_2.length:Int))=true:=zE c92
       clear c92
       obtain ⟨y456,hy456⟩:∃ y_:List Int,y_=(x422000_2.drop (1:Int).toNat):=⟨_,rfl⟩
       replace H:(some (y456,x422001_2,t447,t448))=some (r1,r2,r3,r4):=ry hy456 H
       have Ny456:=AsZ.mk hy456
       clear hy456
       simp only [Option.some.injEq,Prod.mk.injEq] at H
       obtain ⟨rfl,rfl,rfl,rfl⟩:=H
       go_wp2_with (first|((with_reducible refine gcl (f:=75) rfl ?_);refine goesL_ (some 33) rfl rfl Tryd.func75 (by kernel_rfl) rfl #[.pointer (some ⟨g,0,none⟩),.int .i64 40] rfl gl ?_;(with_reducible refine (spec_l1Cur_pick.calls g s0_0 x1001_2 x1002_2 40 t446 t447 t448 w0 _ ?side1 ?side2 A72.out).mono ?_);(case side1=>exact st68 HI0);(case side2=>exact bel);rintro e w93 ⟨rfl,hi,hb,hk⟩;refine ⟨_,rfl,?_⟩;replace HO_422000:=AsZ.mk (Kd.Q_mono (Kd.Q_keep (IsS68.apartQ (show IsS68 w0 _ g s0_0 x1001_2 x1002_2 from st68 HI0) (kQ HO_422000) (by decide)) hk (fun _ h=>h.2)) (fun _ h=>h.1));replace HO_422001:=AsZ.mk (Kd.S_mono (Kd.S_keep (IsS68.apartS (show IsS68 w0 _ g s0_0 x1001_2 x1002_2 from st68 HI0) (kS HO_422001) (by decide)) hk (fun _ h=>h.2)) (fun _ h=>h.1));replace BK414:=AsZ.mk (KeepBut.blk hk (bk BK414) NB414_0.out (by simp));replace BK421:=AsZ.mk (KeepBut.blk hk (bk BK421) NB421_0.out (by simp));replace HK:=AsZ.mk (KeepBut.trans (kB HK) hk (.inl rfl));replace HB:=AsZ.mk (hb);replace HI0:=AsZ.mk (hi);(try clear hb);(try clear hb2);(try clear hk);(try clear hi);have hnb94:=NB421_414.out;have hnc94:=NB414_421.out;have hnb95:=NB421_0.out;have hnc95:=NB0_421.out;obtain ⟨hcz96_0,hcz96_1,hfz96_0,hfz96_1⟩:=bx2 BK421;obtain ⟨Ao97,co97,eo97,_⟩:=Kd.Q_slice HO_422000.out;subst eo97;have q98:(1:Int)≤((x422000_2.length:Int):Int):=dd;obtain ⟨i098,hi098,_,hsz98,_⟩:=info_parts info3;have hcut98:=cut_from (P:=Tryd.prog) 23 3 .i64 Tryd.underlying23 hi098 1 hsz98 Ao97 x422000_2.length co97 1 (by omega) q98;have hr98:=Kd.Q_drop (k:=(1:Int).toNat) HO_422000.out (by omega);obtain ⟨A98,hA98⟩:∃ A1,A1=(if co97=(1:Int).toNat then Ao97 else (Ao97:Option Addr).map (·.add ((1:Int).toNat * 1))):=⟨_,rfl⟩;obtain ⟨c98,hc98⟩:∃ c1,c1=co97 - (1:Int).toNat:=⟨_,rfl⟩;have hy98:y456.length=x422000_2.length - (1:Int).toNat:=(by rw [Ny456.out,zM]);rw [← Ny456.out] at hr98;rw [← hy98,← hA98,← hc98] at hcut98;replace hr98:Kd.Q (Kd.int .i64) 3 w93 w.heap.size (fun _=>True) (.slice A98 y456.length c98) y456:=(by rw [hA98,hc98,hy98];exact hr98);have HE98:AsZ ((Value.slice A98 y456.length c98).ownBlock=(.slice Ao97 x422000_2.length co97:Value).ownBlock):=⟨by rw [hA98];split<;>(cases (Ao97:Option Addr)<;>rfl)⟩;clear hy98 hi098 hsz98 HO_422000 hA98 hc98;have HO458:=AsZ.mk hr98;clear hr98;replace q98:=eq_true q98;have n_:=AsZ.mk (Kd.S_mono (ok':=fun k_=>some k_ ≠ (.slice A98 y456.length c98:Value).ownBlock) HO_422001.out (fun k_ hk=>(by rw [HE98.out];exact hk)));clear HO_422001;have HO_422001:=n_;clear n_;have hnb99:=NB414_0.out;have hnc99:=NB0_414.out;obtain ⟨hcz100_0,hcz100_1,hfz100_0,hfz100_1⟩:=bx2 BK414;obtain ⟨Ao101,co101,eo101⟩:=Kd.S_slice HO_422001.out;subst eo101))
       refine bodyPost_ret (results_cell_row rfl _ _ gb414 26 #[.slice A98 y456.length c98,.slice Ao101 x422001_2.length co101] (0,0) _ rfl (bq BK414) Tryd.underlying26 rfl (by kernel_rfl)) rfl ?_
       exact ⟨_,_,re,by (with_reducible repeat (first|apply Kd.Q_alloc|apply Kd.Q_drewN|apply Kd.Q_drew));exact Kd.Q_mono (fQ (fQ (Kd.Q_far (p:=⟨gb421,0,none⟩) (Kd.Q_types (Kd.Q_types HO458.out BK421.out (by decide)) BK414.out (by decide)) (fun _ hk=>hk.1.2) (.slice A98 y456.length c98)))) (fun _ hk=>trivial),by (with_reducible repeat (first|apply Kd.S_alloc|apply Kd.S_drewN|apply Kd.S_drew));exact Kd.S_mono (fS (fS (Kd.S_far (p:=⟨gb421,0,none⟩) (Kd.S_types (Kd.S_types HO_422001.out BK421.out (by decide)) BK414.out (by decide)) (fun _ hk=>hk.1.2) (.slice A98 y456.length c98)))) (fun _ hk=>hk.1.1),st68 HI0,bel,kB HK⟩
     rw [if_neg c91] at H
     have c91b0:(t446 == 1)=false:=beq_eq_false_iff_ne.mpr c91
     have c91b1:(t446 != 1)=true:=bne_iff_ne.mpr c91
     by_cases c102:t446=2
     rotate_left
     · rw [if_neg c102] at H
       have c102b0:(t446 == 2)=false:=beq_eq_false_iff_ne.mpr c102
       have c102b1:(t446 != 2)=true:=bne_iff_ne.mpr c102
       simp only [Option.some.injEq,Prod.mk.injEq] at H
       obtain ⟨rfl,rfl,rfl,rfl⟩:=H
       go_wp2_with (first|((with_reducible refine gcl (f:=75) rfl ?_);refine goesL_ (some 33) rfl rfl Tryd.func75 (by kernel_rfl) rfl #[.pointer (some ⟨g,0,none⟩),.int .i64 40] rfl gl ?_;(with_reducible refine (spec_l1Cur_pick.calls g s0_0 x1001_2 x1002_2 40 t446 t447 t448 w0 _ ?side1 ?side2 A72.out).mono ?_);(case side1=>exact st68 HI0);(case side2=>exact bel);rintro e w130 ⟨rfl,hi,hb,hk⟩;refine ⟨_,rfl,?_⟩;replace HO_422000:=AsZ.mk (Kd.Q_mono (Kd.Q_keep (IsS68.apartQ (show IsS68 w0 _ g s0_0 x1001_2 x1002_2 from st68 HI0) (kQ HO_422000) (by decide)) hk (fun _ h=>h.2)) (fun _ h=>h.1));replace HO_422001:=AsZ.mk (Kd.S_mono (Kd.S_keep (IsS68.apartS (show IsS68 w0 _ g s0_0 x1001_2 x1002_2 from st68 HI0) (kS HO_422001) (by decide)) hk (fun _ h=>h.2)) (fun _ h=>h.1));replace BK414:=AsZ.mk (KeepBut.blk hk (bk BK414) NB414_0.out (by simp));replace BK421:=AsZ.mk (KeepBut.blk hk (bk BK421) NB421_0.out (by simp));replace HK:=AsZ.mk (KeepBut.trans (kB HK) hk (.inl rfl));replace HB:=AsZ.mk (hb);replace HI0:=AsZ.mk (hi);(try clear hb);(try clear hb2);(try clear hk);(try clear hi);have hnb131:=NB421_414.out;have hnc131:=NB414_421.out;have hnb132:=NB421_0.out;have hnc132:=NB0_421.out;obtain ⟨hcz133_0,hcz133_1,hfz133_0,hfz133_1⟩:=bx2 BK421;obtain ⟨Ao134,co134,eo134,_⟩:=Kd.Q_slice HO_422000.out;subst eo134;have hnb135:=NB414_0.out;have hnc135:=NB0_414.out;obtain ⟨hcz136_0,hcz136_1,hfz136_0,hfz136_1⟩:=bx2 BK414;obtain ⟨Ao137,co137,eo137⟩:=Kd.S_slice HO_422001.out;subst eo137))
       refine bodyPost_ret (results_cell_row rfl _ _ gb414 26 #[.slice Ao134 x422000_2.length co134,.slice Ao137 x422001_2.length co137] (0,0) _ rfl (bq BK414) Tryd.underlying26 rfl (by kernel_rfl)) rfl ?_
       exact ⟨_,_,re,by (with_reducible repeat (first|apply Kd.Q_alloc|apply Kd.Q_drewN|apply Kd.Q_drew));exact Kd.Q_mono (fQ (fQ (Kd.Q_types HO_422000.out BK414.out (by decide)))) (fun _ hk=>trivial),by (with_reducible repeat (first|apply Kd.S_alloc|apply Kd.S_drewN|apply Kd.S_drew));exact Kd.S_mono (fS (fS (Kd.S_types HO_422001.out BK414.out (by decide)))) (fun _ hk=>hk.1),st68 HI0,bel,kB HK⟩
     rw [if_pos c102] at H
     have c102b0:(t446 == 2)=true:=beq_iff_eq.mpr c102
     have c102b1:(t446 != 2)=false:=bne_eq_false_iff_eq.mpr c102
     clear c102
     by_cases c103:(x422001_2.length:Int) > 0
     rotate_left
     · rw [if_neg c103] at H
       have c103b0:decide (0 < (x422001_2.length:Int))=false:=decide_eq_false c103
       have c103b1:decide (0 < x422001_2.length)=false:=decide_eq_false (by omega)
       clear c103
       simp only [Option.some.injEq,Prod.mk.injEq] at H
       obtain ⟨rfl,rfl,rfl,rfl⟩:=H
       go_wp2_with (first|((with_reducible refine gcl (f:=75) rfl ?_);refine goesL_ (some 33) rfl rfl Tryd.func75 (by kernel_rfl) rfl #[.pointer (some ⟨g,0,none⟩),.int .i64 40] rfl gl ?_;(with_reducible refine (spec_l1Cur_pick.calls g s0_0 x1001_2 x1002_2 40 t446 t447 t448 w0 _ ?side1 ?side2 A72.out).mono ?_);(case side1=>exact st68 HI0);(case side2=>exact bel);rintro e w122 ⟨rfl,hi,hb,hk⟩;refine ⟨_,rfl,?_⟩;replace HO_422000:=AsZ.mk (Kd.Q_mono (Kd.Q_keep (IsS68.apartQ (show IsS68 w0 _ g s0_0 x1001_2 x1002_2 from st68 HI0) (kQ HO_422000) (by decide)) hk (fun _ h=>h.2)) (fun _ h=>h.1));replace HO_422001:=AsZ.mk (Kd.S_mono (Kd.S_keep (IsS68.apartS (show IsS68 w0 _ g s0_0 x1001_2 x1002_2 from st68 HI0) (kS HO_422001) (by decide)) hk (fun _ h=>h.2)) (fun _ h=>h.1));replace BK414:=AsZ.mk (KeepBut.blk hk (bk BK414) NB414_0.out (by simp));replace BK421:=AsZ.mk (KeepBut.blk hk (bk BK421) NB421_0.out (by simp));replace HK:=AsZ.mk (KeepBut.trans (kB HK) hk (.inl rfl));replace HB:=AsZ.mk (hb);replace HI0:=AsZ.mk (hi);(try clear hb);(try clear hb2);(try clear hk);(try clear hi);have hnb123:=NB421_414.out;have hnc123:=NB414_421.out;have hnb124:=NB421_0.out;have hnc124:=NB0_421.out;obtain ⟨hcz125_0,hcz125_1,hfz125_0,hfz125_1⟩:=bx2 BK421;obtain ⟨Ao126,co126,eo126⟩:=Kd.S_slice HO_422001.out;subst eo126;obtain ⟨Ao127,co127,eo127,_⟩:=Kd.Q_slice HO_422000.out;subst eo127;have hnb128:=NB414_0.out;have hnc128:=NB0_414.out;obtain ⟨hcz129_0,hcz129_1,hfz129_0,hfz129_1⟩:=bx2 BK414))
       refine bodyPost_ret (results_cell_row rfl _ _ gb414 26 #[.slice Ao127 x422000_2.length co127,.slice Ao126 x422001_2.length co126] (0,0) _ rfl (bq BK414) Tryd.underlying26 rfl (by kernel_rfl)) rfl ?_
       exact ⟨_,_,re,by (with_reducible repeat (first|apply Kd.Q_alloc|apply Kd.Q_drewN|apply Kd.Q_drew));exact Kd.Q_mono (fQ (fQ (Kd.Q_types HO_422000.out BK414.out (by decide)))) (fun _ hk=>trivial),by (with_reducible repeat (first|apply Kd.S_alloc|apply Kd.S_drewN|apply Kd.S_drew));exact Kd.S_mono (fS (fS (Kd.S_types HO_422001.out BK414.out (by decide)))) (fun _ hk=>hk.1),st68 HI0,bel,kB HK⟩
     rw [if_pos c103] at H
     have c103b0:decide (0 < (x422001_2.length:Int))=true:=zE c103
     have c103b1:decide (0 < x422001_2.length)=true:=zE (by omega)
     clear c103
     by_cases c104:0 < (x422001_2.length:Int)
     rotate_left
     · rw [if_neg c104] at H
       exact absurd H (by simp)
     rw [if_pos c104] at H
     have c104b0:decide (0 < (x422001_2.length:Int))=true:=zE c104
     have c104b1:decide (0 < x422001_2.length)=true:=zE (by omega)
     clear c104
     replace H:=bs H
     obtain ⟨⟨t460,t461,t462⟩,A105,H⟩:=H
     by_cases c106:0 < (((rd_T77 x422001_2 0).f1).length:Int)
     rotate_left
     · rw [if_neg c106] at H
       exact absurd H (by simp)
     rw [if_pos c106] at H
     have c106b0:decide (0 < (((rd_T77 x422001_2 0).f1).length:Int))=true:=zE c106
     have c106b1:decide (0 < ((rd_T77 x422001_2 0).f1).length)=true:=zE (by omega)
     clear c106
     obtain ⟨y463,hy463⟩:∃ y_:List Int,y_=(((rd_T77 x422001_2 0).f1).set (0:Int).toNat (wrap64 (t460 - 2))):=⟨_,rfl⟩
     replace H:(some (x422000_2,(x422001_2.set (0:Int).toNat (⟨(⟨(rd_T77 x422001_2 0).f0.f0,(rd_T77 x422001_2 0).f0.f1,(rd_T77 x422001_2 0).f0.f2,(rd_T77 x422001_2 0).f0.f3⟩:S28),y463⟩:S77)),t461,t462))=some (r1,r2,r3,r4):=ry hy463 H
     have Ny463:=AsZ.mk hy463
     clear hy463
     obtain ⟨y465,hy465⟩:∃ y_:List (S77),y_=(x422001_2.set (0:Int).toNat (⟨(⟨(rd_T77 x422001_2 0).f0.f0,(rd_T77 x422001_2 0).f0.f1,(rd_T77 x422001_2 0).f0.f2,(rd_T77 x422001_2 0).f0.f3⟩:S28),y463⟩:S77)):=⟨_,rfl⟩
     replace H:(some (x422000_2,y465,t461,t462))=some (r1,r2,r3,r4):=ry hy465 H
     have Ny465:=AsZ.mk hy465
     clear hy465
     simp only [Option.some.injEq,Prod.mk.injEq] at H
     obtain ⟨rfl,rfl,rfl,rfl⟩:=H
     try go_wp2_with (first|((with_reducible refine gcl (f:=75) rfl ?_);refine goesL_ (some 33) rfl rfl Tryd.func75 (by kernel_rfl) rfl #[.pointer (some ⟨g,0,none⟩),.int .i64 40] rfl gl ?_;(with_reducible refine (spec_l1Cur_pick.calls g s0_0 x1001_2 x1002_2 40 t446 t447 t448 w0 _ ?side1 ?side2 A72.out).mono ?_);(case side1=>exact st68 HI0);(case side2=>exact bel);rintro e w108 ⟨rfl,hi,hb,hk⟩;refine ⟨_,rfl,?_⟩;replace HO_422000:=AsZ.mk (Kd.Q_mono (Kd.Q_keep (IsS68.apartQ (show IsS68 w0 _ g s0_0 x1001_2 x1002_2 from st68 HI0) (kQ HO_422000) (by decide)) hk (fun _ h=>h.2)) (fun _ h=>h.1));replace HO_422001:=AsZ.mk (Kd.S_mono (Kd.S_keep (IsS68.apartS (show IsS68 w0 _ g s0_0 x1001_2 x1002_2 from st68 HI0) (kS HO_422001) (by decide)) hk (fun _ h=>h.2)) (fun _ h=>h.1));replace BK414:=AsZ.mk (KeepBut.blk hk (bk BK414) NB414_0.out (by simp));replace BK421:=AsZ.mk (KeepBut.blk hk (bk BK421) NB421_0.out (by simp));replace HK:=AsZ.mk (KeepBut.trans (kB HK) hk (.inl rfl));replace HB:=AsZ.mk (hb);replace HI0:=AsZ.mk (hi);(try clear hb);(try clear hb2);(try clear hk);(try clear hi);have hnb109:=NB421_414.out;have hnc109:=NB414_421.out;have hnb110:=NB421_0.out;have hnc110:=NB0_421.out;obtain ⟨hcz111_0,hcz111_1,hfz111_0,hfz111_1⟩:=bx2 BK421;obtain ⟨Ao112,co112,eo112⟩:=Kd.S_slice HO_422001.out;subst eo112))
     replace HO_422000:=dQ HO_422000
     replace HO_422001:=dS HO_422001
     replace BK414:=db BK414
     replace BK421:=db BK421
     replace HI0:=AsZ.mk (IsS68.drew HI0.out)
     replace HK:=AsZ.mk (keep_drew HK.out)
     replace HB:=dB HB
     have p459:0≤(0:Int):=(by omega)
     have q459:0 < (x422001_2.length:Int):=dd
     obtain ⟨ad459,A459_4,c459_4,e459,hx459_0,hx459_1,hx459_2,hx459_3,hx459_4,hl459_4,hi459_4⟩:=at_T77 (Kd.S_reads' HO_422001.out).2.2 0 p459 q459
     cases e459
     obtain ⟨ce459,hce459,hMe459,hcc459⟩:=Kd.S_get HO_422001.out z77 0 p459 (by first|exact q459|exact dd|(have e_:=(Kd.S_reads' HO_422001.out).1;omega))
     obtain ⟨ve459_4,rfl,ge459_4⟩:=k77_openM hMe459
     have hv459_4:=hcc459 4 _ rfl
     rw [add_field _ _ 4 (by omega)] at hv459_4
     replace hv459_4:=zI (hv459_4.symm.trans hx459_4)
     rw [hv459_4] at ge459_4
     have HL459_4:=AsZ.mk (show Kd.R (Kd.int .i64) 3 _ _ _ _ ((rd_T77 x422001_2 0).f1) from ge459_4)
     clear hv459_4 ge459_4
     have HX459_4:=AsZ.mk hx459_4
     clear hcc459 hce459
     have qi459:(0 < x422001_2.length)=True:=eq_true (by omega)
     (try rw [show ((0:Int)).toNat=0 from rfl] at hx459_0)
     (try rw [show 0 * 5=0 from rfl] at hx459_0)
     (try rw [Addr.add_zero'] at hx459_0)
     (try rw [show ((0:Int)).toNat=0 from rfl] at hx459_1)
     (try rw [show 0 * 5=0 from rfl] at hx459_1)
     (try rw [Addr.add_zero'] at hx459_1)
     (try rw [show ((0:Int)).toNat=0 from rfl] at hx459_2)
     (try rw [show 0 * 5=0 from rfl] at hx459_2)
     (try rw [Addr.add_zero'] at hx459_2)
     (try rw [show ((0:Int)).toNat=0 from rfl] at hx459_3)
     (try rw [show 0 * 5=0 from rfl] at hx459_3)
     (try rw [Addr.add_zero'] at hx459_3)
     (try rw [show ((0:Int)).toNat=0 from rfl] at hx459_4)
     (try rw [show 0 * 5=0 from rfl] at hx459_4)
     (try rw [Addr.add_zero'] at hx459_4)
     have HR459_4:=AsZ.mk hi459_4
     have HC459_4:=AsZ.mk hl459_4
     clear hi459_4 hl459_4
     replace p459:=eq_true p459
     replace q459:=eq_true q459
     refine start_ (n:=10) (S:=fun w'=>w'.cell? ⟨gb421,0,none⟩=some (u422000)∧w'.cell? ⟨gb421,1,none⟩=some (.slice (some ad459) x422001_2.length co112)∧w'.cell? ad459=some (.string ((rd_T77 x422001_2 0).f0.f0))∧w'.cell? ⟨ad459.block,ad459.off + 1,none⟩=some (.int .i64 ((rd_T77 x422001_2 0).f0.f1))∧w'.cell? ⟨ad459.block,ad459.off + 2,none⟩=some (.int .i64 ((rd_T77 x422001_2 0).f0.f2))∧w'.cell? ⟨ad459.block,ad459.off + 3,none⟩=some (.string ((rd_T77 x422001_2 0).f0.f3))∧w'.cell? ⟨ad459.block,ad459.off + 4,none⟩=some (.slice A459_4 ((rd_T77 x422001_2 0).f1).length c459_4)) (ds:=[9]) (b_ 0 10) (by kernel_rfl) rfl rfl ⟨(kc BK421.out 0).trans rfl,(kc BK421.out 1).trans rfl,hx459_0,hx459_1,hx459_2,hx459_3,hx459_4⟩ (fun hHeld=>?_);refine with_tabW spec_l1Cur_skip.tab20 spec_l1Cur_skip.bits20 (fun HT_ HW_=>?_)
     generalize w108.drew=w113 at HO_422000 HO_422001 BK414 BK421 HI0 HK HB HL459_4 HR459_4 HX459_4 hx459_0 hx459_1 hx459_2 hx459_3 hx459_4 hHeld ⊢
     refine pu 0 56 (b_ 1 9) HT_.out ?_
     refine pu 5 61 #[true,false,false,false,false,true,false,false,false,false] HT_.out ?_
     refine tk7 1 57 #[true,true,false,false,false,true,false,false,false,false] HT_.out HW_.out hHeld ?_
     refine pu 2 58 #[true,true,true,false,false,true,false,false,false,false] HT_.out ?_
     refine pu 3 59 #[true,true,true,true,false,true,false,false,false,false] HT_.out ?_
     refine tk7 4 60 (b_ 6 4) HT_.out HW_.out hHeld ?_
     refine one_ (i:=6) (N:=some 62) (b_ 7 3) rfl rfl (one_of HT_.out (by kernel_rfl)) (by decide) (fun K hK=>?_)
     refine goes_ Tryd.func75 (by kernel_rfl) rfl #[.pointer (some ⟨g,0,none⟩),.int .i64 9] (by rfl) rfl rfl gl ?_
     with_reducible refine (spec_l1Cur_pick.calls g s0_0 t447 t448 9 t460 t461 t462 w0 _ ?side1 ?side2 A105.out).mono ?_
     (case side1=>exact st68 HI0)
     (case side2=>exact bel)
     rintro e w114 ⟨rfl,hi,hb,hk⟩
     have HS2_:=keep_cell hk (hHeld.2.2.1) (by first|(rw [add_block];exact Kd.own_blk (IsS68.own_neS HI0.out HO_422001.out (by decide)))|(show (Addr.add _ _).block ≠ _;rw [add_block];exact Kd.own_blk (IsS68.own_neS HI0.out HO_422001.out (by decide)))|exact Kd.own_blk (IsS68.own_neS HI0.out HO_422001.out (by decide))|(dsimp only;exact Kd.own_blk (IsS68.own_neS HI0.out HO_422001.out (by decide))))
     have HS3_:=keep_cell hk (hHeld.2.2.2.1) (by first|(rw [add_block];exact Kd.own_blk (IsS68.own_neS HI0.out HO_422001.out (by decide)))|(show (Addr.add _ _).block ≠ _;rw [add_block];exact Kd.own_blk (IsS68.own_neS HI0.out HO_422001.out (by decide)))|exact Kd.own_blk (IsS68.own_neS HI0.out HO_422001.out (by decide))|(dsimp only;exact Kd.own_blk (IsS68.own_neS HI0.out HO_422001.out (by decide))))
     have HS4_:=keep_cell hk (hHeld.2.2.2.2.1) (by first|(rw [add_block];exact Kd.own_blk (IsS68.own_neS HI0.out HO_422001.out (by decide)))|(show (Addr.add _ _).block ≠ _;rw [add_block];exact Kd.own_blk (IsS68.own_neS HI0.out HO_422001.out (by decide)))|exact Kd.own_blk (IsS68.own_neS HI0.out HO_422001.out (by decide))|(dsimp only;exact Kd.own_blk (IsS68.own_neS HI0.out HO_422001.out (by decide))))
     have HS5_:=keep_cell hk (hHeld.2.2.2.2.2.1) (by first|(rw [add_block];exact Kd.own_blk (IsS68.own_neS HI0.out HO_422001.out (by decide)))|(show (Addr.add _ _).block ≠ _;rw [add_block];exact Kd.own_blk (IsS68.own_neS HI0.out HO_422001.out (by decide)))|exact Kd.own_blk (IsS68.own_neS HI0.out HO_422001.out (by decide))|(dsimp only;exact Kd.own_blk (IsS68.own_neS HI0.out HO_422001.out (by decide))))
     have HS6_:=keep_cell hk (hHeld.2.2.2.2.2.2) (by first|(rw [add_block];exact Kd.own_blk (IsS68.own_neS HI0.out HO_422001.out (by decide)))|(show (Addr.add _ _).block ≠ _;rw [add_block];exact Kd.own_blk (IsS68.own_neS HI0.out HO_422001.out (by decide)))|exact Kd.own_blk (IsS68.own_neS HI0.out HO_422001.out (by decide))|(dsimp only;exact Kd.own_blk (IsS68.own_neS HI0.out HO_422001.out (by decide))))
     refine ⟨_,rfl,?_⟩
     replace HO_422000:=AsZ.mk (Kd.Q_mono (Kd.Q_keep (IsS68.apartQ (show IsS68 w0 _ g s0_0 t447 t448 from st68 HI0) (kQ HO_422000) (by decide)) hk (fun _ h=>h.2)) (fun _ h=>h.1))
     replace BK414:=AsZ.mk (KeepBut.blk hk (bk BK414) NB414_0.out (by simp))
     replace BK421:=AsZ.mk (KeepBut.blk hk (bk BK421) NB421_0.out (by simp))
     replace HL459_4:=AsZ.mk (Kd.R_mono (Kd.R_keep (IsS68.apart (show IsS68 w0 _ g s0_0 t447 t448 from st68 HI0) (kR HL459_4) (by decide)) hk (fun _ h=>h.2)) (fun _ h=>h.1))
     replace HX459_4:=AsZ.mk (keep_cell hk HX459_4.out (by first|(rw [add_block];exact Kd.own_blk (IsS68.own_neS HI0.out HO_422001.out (by decide)))|(show (Addr.add _ _).block ≠ _;rw [add_block];exact Kd.own_blk (IsS68.own_neS HI0.out HO_422001.out (by decide)))|exact Kd.own_blk (IsS68.own_neS HI0.out HO_422001.out (by decide))|(dsimp only;exact Kd.own_blk (IsS68.own_neS HI0.out HO_422001.out (by decide)))))
     replace HO_422001:=AsZ.mk (Kd.S_mono (Kd.S_keep (IsS68.apartS (show IsS68 w0 _ g s0_0 t447 t448 from st68 HI0) (kS HO_422001) (by decide)) hk (fun _ h=>h.2)) (fun _ h=>h.1))
     replace HK:=AsZ.mk (KeepBut.trans (kB HK) hk (.inl rfl))
     replace HB:=AsZ.mk (hb)
     replace HI0:=AsZ.mk (hi)
     (try clear hb)
     (try clear hb2)
     (try clear hk)
     (try clear hi)
     have p107:0≤(0:Int):=(by omega)
     have q107:(0:Int) < ((((rd_T77 x422001_2 0).f1).length:Int):Int):=dd
     have qi107:(0 < ((rd_T77 x422001_2 0).f1).length)=True:=eq_true (by omega)
     obtain ⟨go107,co107,eo107,gb107,gl107,cl107,HG107⟩:=Kd.R_form HL459_4.out (by omega)
     (first|cases eo107|(injection eo107 with ea_ en_ ec_;(first|subst ea_|(injection ea_ with ea_;subst ea_));subst ec_;clear en_))
     have GB107:=AsZ.mk gb107
     have GG107:=AsZ.mk HG107
     clear gb107 gl107 HG107
     obtain ⟨hx107_0,hf107_0⟩:=Kd.R_celln 0 HL459_4.out (0:Int) p107 q107
     (try rw [show ((0:Int)).toNat=0 from rfl] at hx107_0)
     (try simp only [Nat.reduceMul,Nat.zero_mul,Nat.zero_add,Nat.reduceAdd] at hx107_0)
     (try rw [show ((0:Int)).toNat=0 from rfl] at hf107_0)
     (try simp only [Nat.reduceMul,Nat.zero_mul,Nat.zero_add,Nat.reduceAdd] at hf107_0)
     replace p107:=eq_true p107
     replace q107:=eq_true q107
     have hq115:(0:Int) < (x422001_2.length:Int):=(by have h_:(0:Int) < ((x422001_2.length:Int):Int):=dd;first|exact h_|(have e_:=(Kd.S_reads' HO_422001.out).1;omega)|simpa only [List.length_set,List.length_set] using h_)
     obtain ⟨oki115,ce115,hcl115,hM115,hcc115,hok115,hbk115⟩:=Kd.S_borrow HO_422001.out z77 (0:Int) (by omega) hq115
     obtain ⟨ve115_4,rfl,ge115_4⟩:=k77_openM hM115
     have hv115:=hcc115 4 _ rfl
     rw [add_field _ _ 4 (by omega)] at hv115
     replace hv115:=zI (hv115.symm.trans HX459_4.out)
     subst hv115
     clear hcc115 hcl115
     replace ge115_4:=(show Kd.R (Kd.int .i64) 3 _ _ _ _ ((rd_T77 x422001_2 0).f1) from ge115_4)
     have HP115:=Kd.R_putg ge115_4 (0:Int) (wrap64 (t460 - 2))
     have HN0_go107:=AsZ.mk (show g ≠ go107 from by have h_:=IsS68.own_ne HI0.out HL459_4.out (by decide);intro e_;exact h_ (by rw [e_];rfl))
     rw [← Ny463.out] at HP115
     have HS115:=hbk115 HP115.2 (fun k_ e_=>by injection e_ with e_;subst e_;exact ge115_4.1 _ rfl) (x':=(⟨(⟨(rd_T77 x422001_2 0).f0.f0,(rd_T77 x422001_2 0).f0.f1,(rd_T77 x422001_2 0).f0.f2,(rd_T77 x422001_2 0).f0.f3⟩:S28),y463⟩:S77)) (k77_mkM _ _ _ (⟨(⟨(rd_T77 x422001_2 0).f0.f0,(rd_T77 x422001_2 0).f0.f1,(rd_T77 x422001_2 0).f0.f2,(rd_T77 x422001_2 0).f0.f3⟩:S28),y463⟩:S77) HP115.1)
     rw [← Ny465.out] at HS115
     have HQ115:=AsZ.mk HS115
     clear HP115 HS115 hbk115 hok115
     refine hK.out _ _ ⟨(kc BK421.out 0).trans rfl,(kc BK421.out 1).trans rfl,HS2_,HS3_,HS4_,HS5_,HS6_⟩ (fun hHeld=>?_)
     clear hK K
     refine norm_ (a':=?_) ?_ ?_
     rotate_left
     · show Act.put _ (some 62) _=_
       simp only [Act.put,zS,zT,zU,i64_w,i32_w]
       rfl
     refine pu 7 63 (b_ 8 2) HT_.out ?_
     refine pu 8 64 (b_ 9 1) HT_.out ?_
     refine last_ (i:=9) (N:=none) (b_ 10 0) rfl rfl (one_of HT_.out (by kernel_rfl)) (by decide) (fun K hK=>?_)
     refine skip_ (w1:=?_) (by rfl) rfl ?_ ?_
     rotate_left
     · go_simp
       rfl
     refine hK.out _ _ ?_
     clear hK K
     refine dn_ (dnO HT_.out (by kernel_rfl)) ?_
     have n0_:AsZ (Kd.Q (Kd.int .i64) 3 (w114.setCell ⟨go107,0,none⟩ (.int .i64 (wrap64 (t460 - 2)))) w.heap.size (fun _=>True) u422000 x422000_2):=⟨by (with_reducible repeat (first|apply Kd.Q_alloc|apply Kd.Q_drewN|apply Kd.Q_drew));exact Kd.Q_mono (fQ (Kd.Q_far1 HO_422000.out rfl ((HL459_4.out.1 _ rfl).1))) (fun _ hk=>trivial)⟩
     have n1_:AsZ (Kd.S k77 77 (w114.setCell ⟨go107,0,none⟩ (.int .i64 (wrap64 (t460 - 2)))) w.heap.size (fun k_=>some k_ ≠ (u422000:Value).ownBlock) (.slice (some ad459) x422001_2.length co112) y465):=⟨kS HQ115⟩
     have n2_:AsZ ((w114.setCell ⟨go107,0,none⟩ (.int .i64 (wrap64 (t460 - 2)))).heap[gb414]? = some (.cells #[.slice none 0 0,.slice none 0 0] 26 (0,0))):=⟨by (with_reducible repeat (first|refine kdN ?_ _|refine kd ?_|refine ka ?_ _));refine blk_far ?_ (by have h_:=Kd.R_ne HL459_4.out BK414.out (by decide);intro e_;exact h_ (by rw [e_];rfl)) _;(with_reducible repeat (first|refine kdN ?_ _|refine kd ?_|refine ka ?_ _));exact BK414.out⟩
     have n3_:AsZ ((w114.setCell ⟨go107,0,none⟩ (.int .i64 (wrap64 (t460 - 2)))).heap[gb421]? = some (.cells #[u422000,.slice (some ad459) x422001_2.length co112] 26 (0,0))):=⟨by (with_reducible repeat (first|refine kdN ?_ _|refine kd ?_|refine ka ?_ _));refine blk_far ?_ (by have h_:=Kd.R_ne HL459_4.out BK421.out (by decide);intro e_;exact h_ (by rw [e_];rfl)) _;(with_reducible repeat (first|refine kdN ?_ _|refine kd ?_|refine ka ?_ _));exact BK421.out⟩
     have n4_:AsZ (IsS68 w0 (w114.setCell ⟨go107,0,none⟩ (.int .i64 (wrap64 (t460 - 2)))) g s0_0 t461 t462):=⟨by repeat (first|(with_reducible first|exact HI0.out|apply IsS68.alloc|apply IsS68.drewN|apply IsS68.drew|apply IsS68.set_1|apply IsS68.set_2|refine IsS68.far ?_ HN0_go107.out _|refine IsS68.far ?_ NB0_414.out _|refine IsS68.far ?_ NB0_421.out _)|exact HI0.out)⟩
     have n5_:AsZ (KeepBut w (w114.setCell ⟨go107,0,none⟩ (.int .i64 (wrap64 (t460 - 2)))) g none):=⟨by repeat (first|(with_reducible first|exact HK.out|apply KeepBut.set_|apply keep_drewN|apply keep_drew|apply keep_alloc|refine keep_far ?_ GB107.out _|refine keep_far ?_ GW414.out _|refine keep_far ?_ GW421.out _)|exact HK.out)⟩
     have n6_:AsZ (Below w0.heap.size w0 (w114.setCell ⟨go107,0,none⟩ (.int .i64 (wrap64 (t460 - 2))))):=⟨by repeat (first|(with_reducible first|exact HB.out|apply bwa|apply pbN|apply bw1|refine bws ?_ (Nat.le_trans HL.out GB107.out)|refine bws ?_ (IsS68.ge HI0.out)|refine bws ?_ GE414.out|refine bws ?_ GE421.out)|exact HB.out)⟩
     (try clear HO_422000)
     (try clear HO_422001)
     (try clear BK414)
     (try clear BK421)
     (try clear HI0)
     (try clear HK)
     (try clear HB)
     generalize (w114.setCell ⟨go107,0,none⟩ (.int .i64 (wrap64 (t460 - 2))))=w117 at n0_ n1_ n2_ n3_ n4_ n5_ n6_ ⊢
     have HO_422000:=n0_
     have HO_422001:=n1_
     have BK414:=n2_
     have BK421:=n3_
     have HI0:=n4_
     have HK:=n5_
     have HB:=n6_
     clear n0_ n1_ n2_ n3_ n4_ n5_ n6_
     obtain ⟨hcz118_0,hcz118_1,hfz118_0,hfz118_1⟩:=bx2 BK421
     obtain ⟨Ao119,co119,eo119,_⟩:=Kd.Q_slice HO_422000.out
     subst eo119
     have hnb120:=NB414_0.out
     have hnc120:=NB0_414.out
     obtain ⟨hcz121_0,hcz121_1,hfz121_0,hfz121_1⟩:=bx2 BK414
     try go_wp2
     refine bodyPost_ret (results_cell_row rfl _ _ gb414 26 #[.slice Ao119 x422000_2.length co119,.slice (some ad459) x422001_2.length co112] (0,0) _ rfl (bq BK414) Tryd.underlying26 rfl (by kernel_rfl)) rfl ?_
     exact ⟨_,_,re,by (with_reducible repeat (first|apply Kd.Q_alloc|apply Kd.Q_drewN|apply Kd.Q_drew));exact Kd.Q_mono (fQ (fQ (Kd.Q_types HO_422000.out BK414.out (by decide)))) (fun _ hk=>trivial),by (with_reducible repeat (first|apply Kd.S_alloc|apply Kd.S_drewN|apply Kd.S_drew));exact Kd.S_mono (fS (fS (Kd.S_types HO_422001.out BK414.out (by decide)))) (fun _ hk=>hk.1),st68 HI0,bel,kB HK⟩
end Go.Proofs.YtffjlpphcjfdgaaDoor.MFnFound
