-- Written by a program of this session out of the translation. Not trusted: Lean checks it.
import Derived.Test.YtffjlpphcjfdgaaDoorMFnExactListSkipx0
import Derived.Test.YtffjlpphcjfdgaaDoorMFnExactListSkipx11
namespace Go.Proofs.YtffjlpphcjfdgaaDoor.MFnExactListSkip
-- short
-- shrunk
-- TAB
-- RD
open Go.Proofs.YtffjlpphcjfdgaaDoor Go.RowKit Go.Proofs.YtffjlpphcjfdgaaDoorW.PrintWords Go.Proofs.YtffjlpphcjfdgaaDoorW.PrintLast Go.Proofs.YtffjlpphcjfdgaaDoorW.PrintMore Go.Proofs.YtffjlpphcjfdgaaDoorX
attribute [local go_sem] max2_int min2_int max_two min_two max_three min_three max_four min_four str_gtr str_leq str_geq cell_twice
set_option linter.unusedVariables false
set_option linter.unusedSimpArgs false
/-! ### laws_heldItemS: function 25 -/
def laws_heldItemS.l0:Nat→List (S28)→Int→Int→Option (Int)
  |0,_,_,_=>none
  |k + 1,x0,x1,x5=>if x5 < (x0.length:Int) then (if 0≤x5 then ((laws_markText.f k x1).bind fun t314=>(if ((rd_T28 x0 x5).f0).toList=t314.toList then (if ((rd_T28 x0 x5).f1)=(wrap64 (x1 + 1)) then (if ((rd_T28 x0 x5).f2)=(wrap64 ((wrap64 (x1 + 1)) + 1)) then ((laws_markText.f k (wrap64 ((wrap64 ((wrap64 (x1 + 1)) + 1)) + 1))).bind fun t318=>(if ((rd_T28 x0 x5).f3).toList=t318.toList then (laws_heldItemS.l0 k x0 (wrap64 ((wrap64 ((wrap64 ((wrap64 (x1 + 1)) + 1)) + 1)) + 1)) (wrap64 (x5 + 1))) else (some (-1)))) else (some (-1))) else (some (-1))) else (some (-1)))) else (none)) else (some x1)
def laws_heldItemS.f (k:Nat) (l0:List (S28)) (a1:Int):Option (Int):=laws_heldItemS.l0 k l0 a1 0
theorem laws_heldItemS.mono_l:∀ k,(∀ y0 y1 y2,LeO (laws_heldItemS.l0 k y0 y1 y2) (laws_heldItemS.l0 (k + 1) y0 y1 y2))
  |0=>fun _ _ _ r h=>by simp [laws_heldItemS.l0] at h
  |k + 1=>by
    have ih0:=laws_heldItemS.mono_l k
    · intro y0 y1 y2
      unfold laws_heldItemS.l0
      repeat' first
      |(with_reducible exact ih0 _ _ _)
      |(with_reducible exact laws_markText.mono _ _)
      |(with_reducible exact LeO.refl _)
      |(with_reducible exact LeO.none _)
      |(with_reducible refine LeO.ite ?_ ?_)
      |(with_reducible refine LeO.bind ?_ (fun _=>?_))
      |exact ih0 _ _ _
      |exact laws_markText.mono _ _
      |exact LeO.none _
      |refine LeO.ite ?_ ?_
      |refine LeO.bind ?_ (fun _=>?_)
theorem laws_heldItemS.mono:∀ a0 a1 k,LeO (laws_heldItemS.f k a0 a1) (laws_heldItemS.f (k + 1) a0 a1):=by
  intro a0 a1 k
  have ih0:=laws_heldItemS.mono_l k
  unfold laws_heldItemS.f
  repeat' first
      |(with_reducible exact ih0 _ _ _)
      |(with_reducible exact laws_markText.mono _ _)
      |(with_reducible exact LeO.refl _)
      |(with_reducible exact LeO.none _)
      |(with_reducible refine LeO.ite ?_ ?_)
      |(with_reducible refine LeO.bind ?_ (fun _=>?_))
      |exact ih0 _ _ _
      |exact laws_markText.mono _ _
      |exact LeO.none _
      |refine LeO.ite ?_ ?_
      |refine LeO.bind ?_ (fun _=>?_)
def laws_heldItemS.T4:Bool × List (List Nat × List Nat):=(true,[([],[]),([],[]),([0,1],[0,1]),([2],[2]),([3],[3]),([],[]),([5],[5]),([4,6],[4,6])])
def laws_heldItemS.B4:List Nat:=[0,0,3,7,15,0,32,127]
theorem laws_heldItemS.tab4:rtab .any (opsOf Tryd.f25 4)=laws_heldItemS.T4:=by kernel_rfl
theorem laws_heldItemS.bits4:waitsOk laws_heldItemS.T4.2 laws_heldItemS.B4=true:=by kernel_rfl
def laws_heldItemS.T13:Bool × List (List Nat × List Nat):=(true,[([],[]),([],[]),([0,1],[0,1]),([2],[2]),([3],[3]),([],[]),([5],[5]),([4,6],[4,6])])
def laws_heldItemS.B13:List Nat:=[0,0,3,7,15,0,32,127]
theorem laws_heldItemS.tab13:rtab .any (opsOf Tryd.f25 13)=laws_heldItemS.T13:=by kernel_rfl
theorem laws_heldItemS.bits13:waitsOk laws_heldItemS.T13.2 laws_heldItemS.B13=true:=by kernel_rfl
set_option maxHeartbeats 8000000 in
set_option maxRecDepth 100000 in
theorem laws_heldItemS.calls (k:Nat) (A0:Option Addr) (c0:Nat) (l0:List (S28)) (a1:Int) (r:Int) (w:World) (hr0:Kd.C k28 w A0 l0.length l0) (hc0:l0.length≤c0) (h:laws_heldItemS.f k l0 a1=some r) :
    Calls Tryd.prog 25 #[.slice A0 l0.length c0,.int .i64 a1] w fun e w'=>e = .returned (.int .i64 r)∧Below w.heap.size w w':=by
 have HR0:=AsZ.mk hr0
 have HC0:=AsZ.mk hc0
 clear hr0 hc0
 have HB:=AsZ.mk (Below.refl w.heap.size w)
 have H:(laws_heldItemS.l0 k l0 a1 0)=some r:=h
 clear h
 have H':=AsZ.mk H
 clear H
 go_enter Tryd.func25,Tryd.ntmps25
 go_wp2
 go_loopg [1,5] k (fun kq v1 v5 w' => ∃ (x1_1:Int) (x5_1:Int),v1 = .int .i64 x1_1∧v5 = .int .i64 x5_1∧AsZ (laws_heldItemS.l0 kq l0 x1_1 x5_1=some r)∧AsZ (kq≤k)∧AsZ (Below w.heap.size w w'))
 case atStart=>exact ⟨(a1),(0),(by first|rfl|(simp;done)|(simp [*];done)),(by first|rfl|(simp;done)|(simp [*];done)),H',⟨Nat.le_refl _⟩,⟨by repeat (first|(with_reducible first|exact HB.out|apply bwa|apply pbN|apply bw1)|exact HB.out)⟩⟩
 case round =>
  clear H'
  try clear c2
  try clear p2
  obtain ⟨x1_1,x5_1,rfl,rfl,HA,HK1,HB⟩:=hrel
  cases gk with
  |zero=>exact absurd HA.out (by simp [laws_heldItemS.l0])
  |succ k1 =>
   have H:=HA.out
   clear HA
   simp only [laws_heldItemS.l0] at H
   by_cases c3:x5_1 < (l0.length:Int)
   rotate_left
   · rw [if_neg c3] at H
     have c3b0:decide (x5_1 < (l0.length:Int))=false:=decide_eq_false c3
     clear c3
     obtain rfl:=zI H
     go_wp2
     go_ret
     exact ⟨by first|rfl|(simp [errW_none,errW_some]<;>rfl)|(simp [*,errW_none,errW_some]<;>rfl),by repeat (first|(with_reducible first|exact HB.out|apply bwa|apply pbN|apply bw1)|exact HB.out)⟩
   rw [if_pos c3] at H
   have c3b0:decide (x5_1 < (l0.length:Int))=true:=zE c3
   clear c3
   by_cases c4:0≤x5_1
   rotate_left
   · rw [if_neg c4] at H
     exact absurd H (by simp)
   rw [if_pos c4] at H
   have c4b0:decide (0≤x5_1)=true:=zE c4
   clear c4
   replace H:=Option.bind_eq_some_iff.mp H
   obtain ⟨t314,A50,H⟩:=H
   replace H:(if ((rd_T28 l0 x5_1).f0).toList=t314.toList then (if ((rd_T28 l0 x5_1).f1)=(wrap64 (x1_1 + 1)) then (if ((rd_T28 l0 x5_1).f2)=(wrap64 ((wrap64 (x1_1 + 1)) + 1)) then ((laws_markText.f k1 (wrap64 ((wrap64 ((wrap64 (x1_1 + 1)) + 1)) + 1))).bind fun t318=>(if ((rd_T28 l0 x5_1).f3).toList=t318.toList then (laws_heldItemS.l0 k1 l0 (wrap64 ((wrap64 ((wrap64 ((wrap64 (x1_1 + 1)) + 1)) + 1)) + 1)) (wrap64 (x5_1 + 1))) else (some (-1)))) else (some (-1))) else (some (-1))) else (some (-1)))=some r:=H
   have A5:=AsZ.mk A50
   clear A50
   by_cases c6:((rd_T28 l0 x5_1).f0).toList=t314.toList
   rotate_left
   · rw [if_neg c6] at H
     have c6b0:(((rd_T28 l0 x5_1).f0).toList == t314.toList)=false:=beq_eq_false_iff_ne.mpr c6
     have c6b1:(((rd_T28 l0 x5_1).f0).toList != t314.toList)=true:=bne_iff_ne.mpr c6
     obtain rfl:=zI H
     try go_wp2
     have n0_:=AsZ.mk (bw1 HB.out)
     clear HB
     have HB:=n0_
     clear n0_
     have p313:0≤(x5_1:Int):=zD (by first|(with_reducible assumption)|assumption)
     have q313:x5_1 < (l0.length:Int):=zD (by first|(with_reducible assumption)|assumption)
     obtain ⟨ad313,e313,hx313_0,hx313_1,hx313_2,hx313_3⟩:=at_T28 HR0.out x5_1 p313 q313
     have hw313_3:=hx313_3
     have hw313_2:=hx313_2
     have hw313_1:=hx313_1
     have hw313_0:=hx313_0
     cases e313
     replace hx313_0:=(HB.out.cell (zB w _ hx313_0)).trans hx313_0
     replace hx313_1:=(HB.out.cell (zB w _ hx313_1)).trans hx313_1
     replace hx313_2:=(HB.out.cell (zB w _ hx313_2)).trans hx313_2
     replace hx313_3:=(HB.out.cell (zB w _ hx313_3)).trans hx313_3
     replace p313:=eq_true p313
     replace q313:=eq_true q313
     refine start_ (n:=8) (S:=fun w'=>w'.cell? (ad313.add ((x5_1).toNat * 4))=some (.string ((rd_T28 l0 x5_1).f0))∧w'.cell? ⟨(ad313.add ((x5_1).toNat * 4)).block,(ad313.add ((x5_1).toNat * 4)).off + 1,none⟩=some (.int .i64 ((rd_T28 l0 x5_1).f1))∧w'.cell? ⟨(ad313.add ((x5_1).toNat * 4)).block,(ad313.add ((x5_1).toNat * 4)).off + 2,none⟩=some (.int .i64 ((rd_T28 l0 x5_1).f2))∧w'.cell? ⟨(ad313.add ((x5_1).toNat * 4)).block,(ad313.add ((x5_1).toNat * 4)).off + 3,none⟩=some (.string ((rd_T28 l0 x5_1).f3))) (ds:=[]) (b_ 0 8) (by kernel_rfl) rfl rfl ⟨((HB.out.cell (zB w _ hw313_0)).trans hw313_0),((HB.out.cell (zB w _ hw313_1)).trans hw313_1),((HB.out.cell (zB w _ hw313_2)).trans hw313_2),((HB.out.cell (zB w _ hw313_3)).trans hw313_3)⟩ (fun hHeld=>?_);refine with_tabW laws_heldItemS.tab4 laws_heldItemS.bits4 (fun HT_ HW_=>?_)
     generalize wr.drew=w23 at HB hx313_0 hx313_1 hx313_2 hx313_3 hHeld ⊢
     refine pure_ (i:=0) (N:=some 12) (v:=?_) (a':=?_) (b_ 1 7) rfl rfl (anO HT_.out (by kernel_rfl)) (fun _ _ _ h=>h) (Or.inl ⟨by rfl,?_⟩) ?_ ?_
     rotate_left
     · intro w'
       go_simp
       with_reducible rfl
     rotate_left
     · simp only [Act.put,zS,zT,zU,i64_w,i32_w]
       rfl
     refine pure_ (i:=1) (N:=some 13) (v:=?_) (a':=?_) (b_ 2 6) rfl rfl (anO HT_.out (by kernel_rfl)) (fun _ _ _ h=>h) (Or.inl ⟨by rfl,?_⟩) ?_ ?_
     rotate_left
     · intro w'
       go_simp
       with_reducible rfl
     rotate_left
     · simp only [Act.put,zS,zT,zU,i64_w,i32_w]
       rfl
     refine pure_ (i:=2) (N:=some 14) (v:=?_) (a':=?_) (b_ 3 5) rfl rfl (anO HT_.out (by kernel_rfl)) (fun _ _ _ h=>h) (Or.inl ⟨by rfl,?_⟩) ?_ ?_
     rotate_left
     · intro w'
       go_simp
       with_reducible rfl
     rotate_left
     · simp only [Act.put,zS,zT,zU,i64_w,i32_w]
       rfl
     refine pure_ (i:=3) (N:=some 15) (v:=?_) (a':=?_) (b_ 4 4) rfl rfl (anO HT_.out (by kernel_rfl)) (fun _ _ _ h=>h) (Or.inl ⟨by rfl,?_⟩) ?_ ?_
     rotate_left
     · intro w'
       go_simp
       with_reducible rfl
     rotate_left
     · simp only [Act.put,zS,zT,zU,i64_w,i32_w]
       rfl
     refine pure_ (i:=5) (N:=some 17) (v:=?_) (a':=?_) #[true,true,true,true,false,true,false,false] rfl rfl (anO HT_.out (by kernel_rfl)) (fun _ _ _ h=>h) (Or.inl ⟨by rfl,?_⟩) ?_ ?_
     rotate_left
     · intro w'
       go_simp
       with_reducible rfl
     rotate_left
     · simp only [Act.put,zS,zT,zU,i64_w,i32_w]
       rfl
     refine take_ (i:=4) (N:=some 16) (v:=?_) (a':=?_) (b_ 6 2) rfl rfl (tkO HT_.out HW_.out (by kernel_rfl)) (fun _ _ _ h=>h) (Or.inl ⟨by rfl,?_⟩) hHeld ?_ ?_
     rotate_left
     · rintro w' ⟨s0,s1,s2,s3⟩
       go_simp
       with_reducible rfl
     rotate_left
     · simp only [Act.put,zS,zT,zU,i64_w,i32_w]
       rfl
     refine one_ (i:=6) (N:=some 18) (b_ 7 1) rfl rfl (one_of HT_.out (by kernel_rfl)) (by decide) (fun K hK=>?_)
     refine goes_ Tryd.func67 (by kernel_rfl) rfl #[.int .i64 x1_1] (by rfl) rfl rfl (by (try simp only [zA,zC,zN]);first|done|rfl|(simp only [zM,zL];rfl)) ?_
     with_reducible refine (laws_markText.calls k1 x1_1 t314 _ A5.out).mono ?_
     rintro e w24 ⟨rfl,hb⟩
     refine ⟨_,rfl,?_⟩
     have n0_:=AsZ.mk (bwp (by repeat (first|(with_reducible first|exact HB.out|apply bwa|apply pbN|apply bw1)|exact HB.out)) hb)
     clear HB
     have HB:=n0_
     clear n0_
     (try clear hb)
     (try clear hb2)
     (try clear hk)
     (try clear hi)
     refine hK.out _ _ ⟨((HB.out.cell (zB w _ hw313_0)).trans hw313_0),((HB.out.cell (zB w _ hw313_1)).trans hw313_1),((HB.out.cell (zB w _ hw313_2)).trans hw313_2),((HB.out.cell (zB w _ hw313_3)).trans hw313_3)⟩ (fun hHeld=>?_)
     clear hK K
     refine norm_ (a':=?_) ?_ ?_
     rotate_left
     · show Act.put _ (some 18) _=_
       simp only [Act.put,zS,zT,zU,i64_w,i32_w]
       rfl
     refine pure_ (i:=7) (N:=some 19) (v:=?_) (a':=?_) (b_ 8 0) rfl rfl (anO HT_.out (by kernel_rfl)) (fun _ _ _ h=>h) (Or.inl ⟨by rfl,?_⟩) ?_ ?_
     rotate_left
     · intro w'
       go_simp
       with_reducible rfl
     rotate_left
     · simp only [Act.put,zS,zT,zU,i64_w,i32_w]
       rfl
     refine dn_ (dnO HT_.out (by kernel_rfl)) ?_
     try go_wp2
     go_ret
     exact ⟨by first|rfl|(simp [errW_none,errW_some]<;>rfl)|(simp [*,errW_none,errW_some]<;>rfl),by repeat (first|(with_reducible first|exact HB.out|apply bwa|apply pbN|apply bw1)|exact HB.out)⟩
   rw [if_pos c6] at H
   have c6b0:(((rd_T28 l0 x5_1).f0).toList == t314.toList)=true:=beq_iff_eq.mpr c6
   have c6b1:(((rd_T28 l0 x5_1).f0).toList != t314.toList)=false:=bne_eq_false_iff_eq.mpr c6
   clear c6
   by_cases c7:((rd_T28 l0 x5_1).f1)=(wrap64 (x1_1 + 1))
   rotate_left
   · rw [if_neg c7] at H
     have c7b0:(((rd_T28 l0 x5_1).f1) == (wrap64 (x1_1 + 1)))=false:=beq_eq_false_iff_ne.mpr c7
     have c7b1:(((rd_T28 l0 x5_1).f1) != (wrap64 (x1_1 + 1)))=true:=bne_iff_ne.mpr c7
     obtain rfl:=zI H
     try go_wp2
     have n0_:=AsZ.mk (bw1 HB.out)
     clear HB
     have HB:=n0_
     clear n0_
     have p313:0≤(x5_1:Int):=zD (by first|(with_reducible assumption)|assumption)
     have q313:x5_1 < (l0.length:Int):=zD (by first|(with_reducible assumption)|assumption)
     obtain ⟨ad313,e313,hx313_0,hx313_1,hx313_2,hx313_3⟩:=at_T28 HR0.out x5_1 p313 q313
     have hw313_3:=hx313_3
     have hw313_2:=hx313_2
     have hw313_1:=hx313_1
     have hw313_0:=hx313_0
     cases e313
     replace hx313_0:=(HB.out.cell (zB w _ hx313_0)).trans hx313_0
     replace hx313_1:=(HB.out.cell (zB w _ hx313_1)).trans hx313_1
     replace hx313_2:=(HB.out.cell (zB w _ hx313_2)).trans hx313_2
     replace hx313_3:=(HB.out.cell (zB w _ hx313_3)).trans hx313_3
     replace p313:=eq_true p313
     replace q313:=eq_true q313
     refine start_ (n:=8) (S:=fun w'=>w'.cell? (ad313.add ((x5_1).toNat * 4))=some (.string ((rd_T28 l0 x5_1).f0))∧w'.cell? ⟨(ad313.add ((x5_1).toNat * 4)).block,(ad313.add ((x5_1).toNat * 4)).off + 1,none⟩=some (.int .i64 ((rd_T28 l0 x5_1).f1))∧w'.cell? ⟨(ad313.add ((x5_1).toNat * 4)).block,(ad313.add ((x5_1).toNat * 4)).off + 2,none⟩=some (.int .i64 ((rd_T28 l0 x5_1).f2))∧w'.cell? ⟨(ad313.add ((x5_1).toNat * 4)).block,(ad313.add ((x5_1).toNat * 4)).off + 3,none⟩=some (.string ((rd_T28 l0 x5_1).f3))) (ds:=[]) (b_ 0 8) (by kernel_rfl) rfl rfl ⟨((HB.out.cell (zB w _ hw313_0)).trans hw313_0),((HB.out.cell (zB w _ hw313_1)).trans hw313_1),((HB.out.cell (zB w _ hw313_2)).trans hw313_2),((HB.out.cell (zB w _ hw313_3)).trans hw313_3)⟩ (fun hHeld=>?_);refine with_tabW laws_heldItemS.tab4 laws_heldItemS.bits4 (fun HT_ HW_=>?_)
     generalize wr.drew=w21 at HB hx313_0 hx313_1 hx313_2 hx313_3 hHeld ⊢
     refine pure_ (i:=0) (N:=some 12) (v:=?_) (a':=?_) (b_ 1 7) rfl rfl (anO HT_.out (by kernel_rfl)) (fun _ _ _ h=>h) (Or.inl ⟨by rfl,?_⟩) ?_ ?_
     rotate_left
     · intro w'
       go_simp
       with_reducible rfl
     rotate_left
     · simp only [Act.put,zS,zT,zU,i64_w,i32_w]
       rfl
     refine pure_ (i:=1) (N:=some 13) (v:=?_) (a':=?_) (b_ 2 6) rfl rfl (anO HT_.out (by kernel_rfl)) (fun _ _ _ h=>h) (Or.inl ⟨by rfl,?_⟩) ?_ ?_
     rotate_left
     · intro w'
       go_simp
       with_reducible rfl
     rotate_left
     · simp only [Act.put,zS,zT,zU,i64_w,i32_w]
       rfl
     refine pure_ (i:=2) (N:=some 14) (v:=?_) (a':=?_) (b_ 3 5) rfl rfl (anO HT_.out (by kernel_rfl)) (fun _ _ _ h=>h) (Or.inl ⟨by rfl,?_⟩) ?_ ?_
     rotate_left
     · intro w'
       go_simp
       with_reducible rfl
     rotate_left
     · simp only [Act.put,zS,zT,zU,i64_w,i32_w]
       rfl
     refine pure_ (i:=3) (N:=some 15) (v:=?_) (a':=?_) (b_ 4 4) rfl rfl (anO HT_.out (by kernel_rfl)) (fun _ _ _ h=>h) (Or.inl ⟨by rfl,?_⟩) ?_ ?_
     rotate_left
     · intro w'
       go_simp
       with_reducible rfl
     rotate_left
     · simp only [Act.put,zS,zT,zU,i64_w,i32_w]
       rfl
     refine pure_ (i:=5) (N:=some 17) (v:=?_) (a':=?_) #[true,true,true,true,false,true,false,false] rfl rfl (anO HT_.out (by kernel_rfl)) (fun _ _ _ h=>h) (Or.inl ⟨by rfl,?_⟩) ?_ ?_
     rotate_left
     · intro w'
       go_simp
       with_reducible rfl
     rotate_left
     · simp only [Act.put,zS,zT,zU,i64_w,i32_w]
       rfl
     refine take_ (i:=4) (N:=some 16) (v:=?_) (a':=?_) (b_ 6 2) rfl rfl (tkO HT_.out HW_.out (by kernel_rfl)) (fun _ _ _ h=>h) (Or.inl ⟨by rfl,?_⟩) hHeld ?_ ?_
     rotate_left
     · rintro w' ⟨s0,s1,s2,s3⟩
       go_simp
       with_reducible rfl
     rotate_left
     · simp only [Act.put,zS,zT,zU,i64_w,i32_w]
       rfl
     refine one_ (i:=6) (N:=some 18) (b_ 7 1) rfl rfl (one_of HT_.out (by kernel_rfl)) (by decide) (fun K hK=>?_)
     refine goes_ Tryd.func67 (by kernel_rfl) rfl #[.int .i64 x1_1] (by rfl) rfl rfl (by (try simp only [zA,zC,zN]);first|done|rfl|(simp only [zM,zL];rfl)) ?_
     with_reducible refine (laws_markText.calls k1 x1_1 t314 _ A5.out).mono ?_
     rintro e w22 ⟨rfl,hb⟩
     refine ⟨_,rfl,?_⟩
     have n0_:=AsZ.mk (bwp (by repeat (first|(with_reducible first|exact HB.out|apply bwa|apply pbN|apply bw1)|exact HB.out)) hb)
     clear HB
     have HB:=n0_
     clear n0_
     (try clear hb)
     (try clear hb2)
     (try clear hk)
     (try clear hi)
     refine hK.out _ _ ⟨((HB.out.cell (zB w _ hw313_0)).trans hw313_0),((HB.out.cell (zB w _ hw313_1)).trans hw313_1),((HB.out.cell (zB w _ hw313_2)).trans hw313_2),((HB.out.cell (zB w _ hw313_3)).trans hw313_3)⟩ (fun hHeld=>?_)
     clear hK K
     refine norm_ (a':=?_) ?_ ?_
     rotate_left
     · show Act.put _ (some 18) _=_
       simp only [Act.put,zS,zT,zU,i64_w,i32_w]
       rfl
     refine pure_ (i:=7) (N:=some 19) (v:=?_) (a':=?_) (b_ 8 0) rfl rfl (anO HT_.out (by kernel_rfl)) (fun _ _ _ h=>h) (Or.inl ⟨by rfl,?_⟩) ?_ ?_
     rotate_left
     · intro w'
       go_simp
       with_reducible rfl
     rotate_left
     · simp only [Act.put,zS,zT,zU,i64_w,i32_w]
       rfl
     refine dn_ (dnO HT_.out (by kernel_rfl)) ?_
     have p315:0≤(x5_1:Int):=zD (by first|(with_reducible assumption)|assumption)
     have q315:x5_1 < (l0.length:Int):=zD (by first|(with_reducible assumption)|assumption)
     obtain ⟨ad315,e315,hx315_0,hx315_1,hx315_2,hx315_3⟩:=at_T28 HR0.out x5_1 p315 q315
     obtain rfl:ad313=ad315:=(by injection e315)
     replace hx315_0:=(HB.out.cell (zB w _ hx315_0)).trans hx315_0
     replace hx315_1:=(HB.out.cell (zB w _ hx315_1)).trans hx315_1
     replace hx315_2:=(HB.out.cell (zB w _ hx315_2)).trans hx315_2
     replace hx315_3:=(HB.out.cell (zB w _ hx315_3)).trans hx315_3
     replace p315:=eq_true p315
     replace q315:=eq_true q315
     try go_wp2
     go_ret
     exact ⟨by first|rfl|(simp [errW_none,errW_some]<;>rfl)|(simp [*,errW_none,errW_some]<;>rfl),by repeat (first|(with_reducible first|exact HB.out|apply bwa|apply pbN|apply bw1)|exact HB.out)⟩
   rw [if_pos c7] at H
   have c7b0:(((rd_T28 l0 x5_1).f1) == (wrap64 (x1_1 + 1)))=true:=beq_iff_eq.mpr c7
   have c7b1:(((rd_T28 l0 x5_1).f1) != (wrap64 (x1_1 + 1)))=false:=bne_eq_false_iff_eq.mpr c7
   clear c7
   by_cases c8:((rd_T28 l0 x5_1).f2)=(wrap64 ((wrap64 (x1_1 + 1)) + 1))
   rotate_left
   · rw [if_neg c8] at H
     have c8b0:(((rd_T28 l0 x5_1).f2) == (wrap64 ((wrap64 (x1_1 + 1)) + 1)))=false:=beq_eq_false_iff_ne.mpr c8
     have c8b1:(((rd_T28 l0 x5_1).f2) != (wrap64 ((wrap64 (x1_1 + 1)) + 1)))=true:=bne_iff_ne.mpr c8
     obtain rfl:=zI H
     try go_wp2
     have n0_:=AsZ.mk (bw1 HB.out)
     clear HB
     have HB:=n0_
     clear n0_
     have p313:0≤(x5_1:Int):=zD (by first|(with_reducible assumption)|assumption)
     have q313:x5_1 < (l0.length:Int):=zD (by first|(with_reducible assumption)|assumption)
     obtain ⟨ad313,e313,hx313_0,hx313_1,hx313_2,hx313_3⟩:=at_T28 HR0.out x5_1 p313 q313
     have hw313_3:=hx313_3
     have hw313_2:=hx313_2
     have hw313_1:=hx313_1
     have hw313_0:=hx313_0
     cases e313
     replace hx313_0:=(HB.out.cell (zB w _ hx313_0)).trans hx313_0
     replace hx313_1:=(HB.out.cell (zB w _ hx313_1)).trans hx313_1
     replace hx313_2:=(HB.out.cell (zB w _ hx313_2)).trans hx313_2
     replace hx313_3:=(HB.out.cell (zB w _ hx313_3)).trans hx313_3
     replace p313:=eq_true p313
     replace q313:=eq_true q313
     refine start_ (n:=8) (S:=fun w'=>w'.cell? (ad313.add ((x5_1).toNat * 4))=some (.string ((rd_T28 l0 x5_1).f0))∧w'.cell? ⟨(ad313.add ((x5_1).toNat * 4)).block,(ad313.add ((x5_1).toNat * 4)).off + 1,none⟩=some (.int .i64 ((rd_T28 l0 x5_1).f1))∧w'.cell? ⟨(ad313.add ((x5_1).toNat * 4)).block,(ad313.add ((x5_1).toNat * 4)).off + 2,none⟩=some (.int .i64 ((rd_T28 l0 x5_1).f2))∧w'.cell? ⟨(ad313.add ((x5_1).toNat * 4)).block,(ad313.add ((x5_1).toNat * 4)).off + 3,none⟩=some (.string ((rd_T28 l0 x5_1).f3))) (ds:=[]) (b_ 0 8) (by kernel_rfl) rfl rfl ⟨((HB.out.cell (zB w _ hw313_0)).trans hw313_0),((HB.out.cell (zB w _ hw313_1)).trans hw313_1),((HB.out.cell (zB w _ hw313_2)).trans hw313_2),((HB.out.cell (zB w _ hw313_3)).trans hw313_3)⟩ (fun hHeld=>?_);refine with_tabW laws_heldItemS.tab4 laws_heldItemS.bits4 (fun HT_ HW_=>?_)
     generalize wr.drew=w19 at HB hx313_0 hx313_1 hx313_2 hx313_3 hHeld ⊢
     refine pure_ (i:=0) (N:=some 12) (v:=?_) (a':=?_) (b_ 1 7) rfl rfl (anO HT_.out (by kernel_rfl)) (fun _ _ _ h=>h) (Or.inl ⟨by rfl,?_⟩) ?_ ?_
     rotate_left
     · intro w'
       go_simp
       with_reducible rfl
     rotate_left
     · simp only [Act.put,zS,zT,zU,i64_w,i32_w]
       rfl
     refine pure_ (i:=1) (N:=some 13) (v:=?_) (a':=?_) (b_ 2 6) rfl rfl (anO HT_.out (by kernel_rfl)) (fun _ _ _ h=>h) (Or.inl ⟨by rfl,?_⟩) ?_ ?_
     rotate_left
     · intro w'
       go_simp
       with_reducible rfl
     rotate_left
     · simp only [Act.put,zS,zT,zU,i64_w,i32_w]
       rfl
     refine pure_ (i:=2) (N:=some 14) (v:=?_) (a':=?_) (b_ 3 5) rfl rfl (anO HT_.out (by kernel_rfl)) (fun _ _ _ h=>h) (Or.inl ⟨by rfl,?_⟩) ?_ ?_
     rotate_left
     · intro w'
       go_simp
       with_reducible rfl
     rotate_left
     · simp only [Act.put,zS,zT,zU,i64_w,i32_w]
       rfl
     refine pure_ (i:=3) (N:=some 15) (v:=?_) (a':=?_) (b_ 4 4) rfl rfl (anO HT_.out (by kernel_rfl)) (fun _ _ _ h=>h) (Or.inl ⟨by rfl,?_⟩) ?_ ?_
     rotate_left
     · intro w'
       go_simp
       with_reducible rfl
     rotate_left
     · simp only [Act.put,zS,zT,zU,i64_w,i32_w]
       rfl
     refine pure_ (i:=5) (N:=some 17) (v:=?_) (a':=?_) #[true,true,true,true,false,true,false,false] rfl rfl (anO HT_.out (by kernel_rfl)) (fun _ _ _ h=>h) (Or.inl ⟨by rfl,?_⟩) ?_ ?_
     rotate_left
     · intro w'
       go_simp
       with_reducible rfl
     rotate_left
     · simp only [Act.put,zS,zT,zU,i64_w,i32_w]
       rfl
     refine take_ (i:=4) (N:=some 16) (v:=?_) (a':=?_) (b_ 6 2) rfl rfl (tkO HT_.out HW_.out (by kernel_rfl)) (fun _ _ _ h=>h) (Or.inl ⟨by rfl,?_⟩) hHeld ?_ ?_
     rotate_left
     · rintro w' ⟨s0,s1,s2,s3⟩
       go_simp
       with_reducible rfl
     rotate_left
     · simp only [Act.put,zS,zT,zU,i64_w,i32_w]
       rfl
     refine one_ (i:=6) (N:=some 18) (b_ 7 1) rfl rfl (one_of HT_.out (by kernel_rfl)) (by decide) (fun K hK=>?_)
     refine goes_ Tryd.func67 (by kernel_rfl) rfl #[.int .i64 x1_1] (by rfl) rfl rfl (by (try simp only [zA,zC,zN]);first|done|rfl|(simp only [zM,zL];rfl)) ?_
     with_reducible refine (laws_markText.calls k1 x1_1 t314 _ A5.out).mono ?_
     rintro e w20 ⟨rfl,hb⟩
     refine ⟨_,rfl,?_⟩
     have n0_:=AsZ.mk (bwp (by repeat (first|(with_reducible first|exact HB.out|apply bwa|apply pbN|apply bw1)|exact HB.out)) hb)
     clear HB
     have HB:=n0_
     clear n0_
     (try clear hb)
     (try clear hb2)
     (try clear hk)
     (try clear hi)
     refine hK.out _ _ ⟨((HB.out.cell (zB w _ hw313_0)).trans hw313_0),((HB.out.cell (zB w _ hw313_1)).trans hw313_1),((HB.out.cell (zB w _ hw313_2)).trans hw313_2),((HB.out.cell (zB w _ hw313_3)).trans hw313_3)⟩ (fun hHeld=>?_)
     clear hK K
     refine norm_ (a':=?_) ?_ ?_
     rotate_left
     · show Act.put _ (some 18) _=_
       simp only [Act.put,zS,zT,zU,i64_w,i32_w]
       rfl
     refine pure_ (i:=7) (N:=some 19) (v:=?_) (a':=?_) (b_ 8 0) rfl rfl (anO HT_.out (by kernel_rfl)) (fun _ _ _ h=>h) (Or.inl ⟨by rfl,?_⟩) ?_ ?_
     rotate_left
     · intro w'
       go_simp
       with_reducible rfl
     rotate_left
     · simp only [Act.put,zS,zT,zU,i64_w,i32_w]
       rfl
     refine dn_ (dnO HT_.out (by kernel_rfl)) ?_
     have p315:0≤(x5_1:Int):=zD (by first|(with_reducible assumption)|assumption)
     have q315:x5_1 < (l0.length:Int):=zD (by first|(with_reducible assumption)|assumption)
     obtain ⟨ad315,e315,hx315_0,hx315_1,hx315_2,hx315_3⟩:=at_T28 HR0.out x5_1 p315 q315
     obtain rfl:ad313=ad315:=(by injection e315)
     replace hx315_0:=(HB.out.cell (zB w _ hx315_0)).trans hx315_0
     replace hx315_1:=(HB.out.cell (zB w _ hx315_1)).trans hx315_1
     replace hx315_2:=(HB.out.cell (zB w _ hx315_2)).trans hx315_2
     replace hx315_3:=(HB.out.cell (zB w _ hx315_3)).trans hx315_3
     replace p315:=eq_true p315
     replace q315:=eq_true q315
     have p316:0≤(x5_1:Int):=zD (by first|(with_reducible assumption)|assumption)
     have q316:x5_1 < (l0.length:Int):=zD (by first|(with_reducible assumption)|assumption)
     obtain ⟨ad316,e316,hx316_0,hx316_1,hx316_2,hx316_3⟩:=at_T28 HR0.out x5_1 p316 q316
     obtain rfl:ad313=ad316:=(by injection e316)
     replace hx316_0:=(HB.out.cell (zB w _ hx316_0)).trans hx316_0
     replace hx316_1:=(HB.out.cell (zB w _ hx316_1)).trans hx316_1
     replace hx316_2:=(HB.out.cell (zB w _ hx316_2)).trans hx316_2
     replace hx316_3:=(HB.out.cell (zB w _ hx316_3)).trans hx316_3
     replace p316:=eq_true p316
     replace q316:=eq_true q316
     try go_wp2
     go_ret
     exact ⟨by first|rfl|(simp [errW_none,errW_some]<;>rfl)|(simp [*,errW_none,errW_some]<;>rfl),by repeat (first|(with_reducible first|exact HB.out|apply bwa|apply pbN|apply bw1)|exact HB.out)⟩
   rw [if_pos c8] at H
   have c8b0:(((rd_T28 l0 x5_1).f2) == (wrap64 ((wrap64 (x1_1 + 1)) + 1)))=true:=beq_iff_eq.mpr c8
   have c8b1:(((rd_T28 l0 x5_1).f2) != (wrap64 ((wrap64 (x1_1 + 1)) + 1)))=false:=bne_eq_false_iff_eq.mpr c8
   clear c8
   replace H:=Option.bind_eq_some_iff.mp H
   obtain ⟨t318,A90,H⟩:=H
   replace H:(if ((rd_T28 l0 x5_1).f3).toList=t318.toList then (laws_heldItemS.l0 k1 l0 (wrap64 ((wrap64 ((wrap64 ((wrap64 (x1_1 + 1)) + 1)) + 1)) + 1)) (wrap64 (x5_1 + 1))) else (some (-1)))=some r:=H
   have A9:=AsZ.mk A90
   clear A90
   by_cases c10:((rd_T28 l0 x5_1).f3).toList=t318.toList
   rotate_left
   · rw [if_neg c10] at H
     have c10b0:(((rd_T28 l0 x5_1).f3).toList == t318.toList)=false:=beq_eq_false_iff_ne.mpr c10
     have c10b1:(((rd_T28 l0 x5_1).f3).toList != t318.toList)=true:=bne_iff_ne.mpr c10
     obtain rfl:=zI H
     try go_wp2
     have n0_:=AsZ.mk (bw1 HB.out)
     clear HB
     have HB:=n0_
     clear n0_
     have p313:0≤(x5_1:Int):=zD (by first|(with_reducible assumption)|assumption)
     have q313:x5_1 < (l0.length:Int):=zD (by first|(with_reducible assumption)|assumption)
     obtain ⟨ad313,e313,hx313_0,hx313_1,hx313_2,hx313_3⟩:=at_T28 HR0.out x5_1 p313 q313
     have hw313_3:=hx313_3
     have hw313_2:=hx313_2
     have hw313_1:=hx313_1
     have hw313_0:=hx313_0
     cases e313
     replace hx313_0:=(HB.out.cell (zB w _ hx313_0)).trans hx313_0
     replace hx313_1:=(HB.out.cell (zB w _ hx313_1)).trans hx313_1
     replace hx313_2:=(HB.out.cell (zB w _ hx313_2)).trans hx313_2
     replace hx313_3:=(HB.out.cell (zB w _ hx313_3)).trans hx313_3
     replace p313:=eq_true p313
     replace q313:=eq_true q313
     refine start_ (n:=8) (S:=fun w'=>w'.cell? (ad313.add ((x5_1).toNat * 4))=some (.string ((rd_T28 l0 x5_1).f0))∧w'.cell? ⟨(ad313.add ((x5_1).toNat * 4)).block,(ad313.add ((x5_1).toNat * 4)).off + 1,none⟩=some (.int .i64 ((rd_T28 l0 x5_1).f1))∧w'.cell? ⟨(ad313.add ((x5_1).toNat * 4)).block,(ad313.add ((x5_1).toNat * 4)).off + 2,none⟩=some (.int .i64 ((rd_T28 l0 x5_1).f2))∧w'.cell? ⟨(ad313.add ((x5_1).toNat * 4)).block,(ad313.add ((x5_1).toNat * 4)).off + 3,none⟩=some (.string ((rd_T28 l0 x5_1).f3))) (ds:=[]) (b_ 0 8) (by kernel_rfl) rfl rfl ⟨((HB.out.cell (zB w _ hw313_0)).trans hw313_0),((HB.out.cell (zB w _ hw313_1)).trans hw313_1),((HB.out.cell (zB w _ hw313_2)).trans hw313_2),((HB.out.cell (zB w _ hw313_3)).trans hw313_3)⟩ (fun hHeld=>?_);refine with_tabW laws_heldItemS.tab4 laws_heldItemS.bits4 (fun HT_ HW_=>?_)
     generalize wr.drew=w15 at HB hx313_0 hx313_1 hx313_2 hx313_3 hHeld ⊢
     refine pure_ (i:=0) (N:=some 12) (v:=?_) (a':=?_) (b_ 1 7) rfl rfl (anO HT_.out (by kernel_rfl)) (fun _ _ _ h=>h) (Or.inl ⟨by rfl,?_⟩) ?_ ?_
     rotate_left
     · intro w'
       go_simp
       with_reducible rfl
     rotate_left
     · simp only [Act.put,zS,zT,zU,i64_w,i32_w]
       rfl
     refine pure_ (i:=1) (N:=some 13) (v:=?_) (a':=?_) (b_ 2 6) rfl rfl (anO HT_.out (by kernel_rfl)) (fun _ _ _ h=>h) (Or.inl ⟨by rfl,?_⟩) ?_ ?_
     rotate_left
     · intro w'
       go_simp
       with_reducible rfl
     rotate_left
     · simp only [Act.put,zS,zT,zU,i64_w,i32_w]
       rfl
     refine pure_ (i:=2) (N:=some 14) (v:=?_) (a':=?_) (b_ 3 5) rfl rfl (anO HT_.out (by kernel_rfl)) (fun _ _ _ h=>h) (Or.inl ⟨by rfl,?_⟩) ?_ ?_
     rotate_left
     · intro w'
       go_simp
       with_reducible rfl
     rotate_left
     · simp only [Act.put,zS,zT,zU,i64_w,i32_w]
       rfl
     refine pure_ (i:=3) (N:=some 15) (v:=?_) (a':=?_) (b_ 4 4) rfl rfl (anO HT_.out (by kernel_rfl)) (fun _ _ _ h=>h) (Or.inl ⟨by rfl,?_⟩) ?_ ?_
     rotate_left
     · intro w'
       go_simp
       with_reducible rfl
     rotate_left
     · simp only [Act.put,zS,zT,zU,i64_w,i32_w]
       rfl
     refine pure_ (i:=5) (N:=some 17) (v:=?_) (a':=?_) #[true,true,true,true,false,true,false,false] rfl rfl (anO HT_.out (by kernel_rfl)) (fun _ _ _ h=>h) (Or.inl ⟨by rfl,?_⟩) ?_ ?_
     rotate_left
     · intro w'
       go_simp
       with_reducible rfl
     rotate_left
     · simp only [Act.put,zS,zT,zU,i64_w,i32_w]
       rfl
     refine take_ (i:=4) (N:=some 16) (v:=?_) (a':=?_) (b_ 6 2) rfl rfl (tkO HT_.out HW_.out (by kernel_rfl)) (fun _ _ _ h=>h) (Or.inl ⟨by rfl,?_⟩) hHeld ?_ ?_
     rotate_left
     · rintro w' ⟨s0,s1,s2,s3⟩
       go_simp
       with_reducible rfl
     rotate_left
     · simp only [Act.put,zS,zT,zU,i64_w,i32_w]
       rfl
     refine one_ (i:=6) (N:=some 18) (b_ 7 1) rfl rfl (one_of HT_.out (by kernel_rfl)) (by decide) (fun K hK=>?_)
     refine goes_ Tryd.func67 (by kernel_rfl) rfl #[.int .i64 x1_1] (by rfl) rfl rfl (by (try simp only [zA,zC,zN]);first|done|rfl|(simp only [zM,zL];rfl)) ?_
     with_reducible refine (laws_markText.calls k1 x1_1 t314 _ A5.out).mono ?_
     rintro e w16 ⟨rfl,hb⟩
     refine ⟨_,rfl,?_⟩
     have n0_:=AsZ.mk (bwp (by repeat (first|(with_reducible first|exact HB.out|apply bwa|apply pbN|apply bw1)|exact HB.out)) hb)
     clear HB
     have HB:=n0_
     clear n0_
     (try clear hb)
     (try clear hb2)
     (try clear hk)
     (try clear hi)
     refine hK.out _ _ ⟨((HB.out.cell (zB w _ hw313_0)).trans hw313_0),((HB.out.cell (zB w _ hw313_1)).trans hw313_1),((HB.out.cell (zB w _ hw313_2)).trans hw313_2),((HB.out.cell (zB w _ hw313_3)).trans hw313_3)⟩ (fun hHeld=>?_)
     clear hK K
     refine norm_ (a':=?_) ?_ ?_
     rotate_left
     · show Act.put _ (some 18) _=_
       simp only [Act.put,zS,zT,zU,i64_w,i32_w]
       rfl
     refine pure_ (i:=7) (N:=some 19) (v:=?_) (a':=?_) (b_ 8 0) rfl rfl (anO HT_.out (by kernel_rfl)) (fun _ _ _ h=>h) (Or.inl ⟨by rfl,?_⟩) ?_ ?_
     rotate_left
     · intro w'
       go_simp
       with_reducible rfl
     rotate_left
     · simp only [Act.put,zS,zT,zU,i64_w,i32_w]
       rfl
     refine dn_ (dnO HT_.out (by kernel_rfl)) ?_
     have p315:0≤(x5_1:Int):=zD (by first|(with_reducible assumption)|assumption)
     have q315:x5_1 < (l0.length:Int):=zD (by first|(with_reducible assumption)|assumption)
     obtain ⟨ad315,e315,hx315_0,hx315_1,hx315_2,hx315_3⟩:=at_T28 HR0.out x5_1 p315 q315
     obtain rfl:ad313=ad315:=(by injection e315)
     replace hx315_0:=(HB.out.cell (zB w _ hx315_0)).trans hx315_0
     replace hx315_1:=(HB.out.cell (zB w _ hx315_1)).trans hx315_1
     replace hx315_2:=(HB.out.cell (zB w _ hx315_2)).trans hx315_2
     replace hx315_3:=(HB.out.cell (zB w _ hx315_3)).trans hx315_3
     replace p315:=eq_true p315
     replace q315:=eq_true q315
     have p316:0≤(x5_1:Int):=zD (by first|(with_reducible assumption)|assumption)
     have q316:x5_1 < (l0.length:Int):=zD (by first|(with_reducible assumption)|assumption)
     obtain ⟨ad316,e316,hx316_0,hx316_1,hx316_2,hx316_3⟩:=at_T28 HR0.out x5_1 p316 q316
     obtain rfl:ad313=ad316:=(by injection e316)
     replace hx316_0:=(HB.out.cell (zB w _ hx316_0)).trans hx316_0
     replace hx316_1:=(HB.out.cell (zB w _ hx316_1)).trans hx316_1
     replace hx316_2:=(HB.out.cell (zB w _ hx316_2)).trans hx316_2
     replace hx316_3:=(HB.out.cell (zB w _ hx316_3)).trans hx316_3
     replace p316:=eq_true p316
     replace q316:=eq_true q316
     try go_wp2
     have n0_:=AsZ.mk (bw1 HB.out)
     clear HB
     have HB:=n0_
     clear n0_
     have p317:0≤(x5_1:Int):=zD (by first|(with_reducible assumption)|assumption)
     have q317:x5_1 < (l0.length:Int):=zD (by first|(with_reducible assumption)|assumption)
     obtain ⟨ad317,e317,hx317_0,hx317_1,hx317_2,hx317_3⟩:=at_T28 HR0.out x5_1 p317 q317
     have hw317_3:=hx317_3
     have hw317_2:=hx317_2
     have hw317_1:=hx317_1
     have hw317_0:=hx317_0
     obtain rfl:ad313=ad317:=(by injection e317)
     replace hx317_0:=(HB.out.cell (zB w _ hx317_0)).trans hx317_0
     replace hx317_1:=(HB.out.cell (zB w _ hx317_1)).trans hx317_1
     replace hx317_2:=(HB.out.cell (zB w _ hx317_2)).trans hx317_2
     replace hx317_3:=(HB.out.cell (zB w _ hx317_3)).trans hx317_3
     replace p317:=eq_true p317
     replace q317:=eq_true q317
     refine start_ (n:=8) (S:=fun w'=>w'.cell? (ad313.add ((x5_1).toNat * 4))=some (.string ((rd_T28 l0 x5_1).f0))∧w'.cell? ⟨(ad313.add ((x5_1).toNat * 4)).block,(ad313.add ((x5_1).toNat * 4)).off + 1,none⟩=some (.int .i64 ((rd_T28 l0 x5_1).f1))∧w'.cell? ⟨(ad313.add ((x5_1).toNat * 4)).block,(ad313.add ((x5_1).toNat * 4)).off + 2,none⟩=some (.int .i64 ((rd_T28 l0 x5_1).f2))∧w'.cell? ⟨(ad313.add ((x5_1).toNat * 4)).block,(ad313.add ((x5_1).toNat * 4)).off + 3,none⟩=some (.string ((rd_T28 l0 x5_1).f3))) (ds:=[]) (b_ 0 8) (by kernel_rfl) rfl rfl ⟨((HB.out.cell (zB w _ hw317_0)).trans hw317_0),((HB.out.cell (zB w _ hw317_1)).trans hw317_1),((HB.out.cell (zB w _ hw317_2)).trans hw317_2),((HB.out.cell (zB w _ hw317_3)).trans hw317_3)⟩ (fun hHeld=>?_);refine with_tabW laws_heldItemS.tab13 laws_heldItemS.bits13 (fun HT_ HW_=>?_)
     generalize w16.drew=w17 at HB hx317_0 hx317_1 hx317_2 hx317_3 hHeld ⊢
     refine pure_ (i:=0) (N:=some 40) (v:=?_) (a':=?_) (b_ 1 7) rfl rfl (anO HT_.out (by kernel_rfl)) (fun _ _ _ h=>h) (Or.inl ⟨by rfl,?_⟩) ?_ ?_
     rotate_left
     · intro w'
       go_simp
       with_reducible rfl
     rotate_left
     · simp only [Act.put,zS,zT,zU,i64_w,i32_w]
       rfl
     refine pure_ (i:=1) (N:=some 41) (v:=?_) (a':=?_) (b_ 2 6) rfl rfl (anO HT_.out (by kernel_rfl)) (fun _ _ _ h=>h) (Or.inl ⟨by rfl,?_⟩) ?_ ?_
     rotate_left
     · intro w'
       go_simp
       with_reducible rfl
     rotate_left
     · simp only [Act.put,zS,zT,zU,i64_w,i32_w]
       rfl
     refine pure_ (i:=2) (N:=some 42) (v:=?_) (a':=?_) (b_ 3 5) rfl rfl (anO HT_.out (by kernel_rfl)) (fun _ _ _ h=>h) (Or.inl ⟨by rfl,?_⟩) ?_ ?_
     rotate_left
     · intro w'
       go_simp
       with_reducible rfl
     rotate_left
     · simp only [Act.put,zS,zT,zU,i64_w,i32_w]
       rfl
     refine pure_ (i:=3) (N:=some 43) (v:=?_) (a':=?_) (b_ 4 4) rfl rfl (anO HT_.out (by kernel_rfl)) (fun _ _ _ h=>h) (Or.inl ⟨by rfl,?_⟩) ?_ ?_
     rotate_left
     · intro w'
       go_simp
       with_reducible rfl
     rotate_left
     · simp only [Act.put,zS,zT,zU,i64_w,i32_w]
       rfl
     refine pure_ (i:=5) (N:=some 45) (v:=?_) (a':=?_) #[true,true,true,true,false,true,false,false] rfl rfl (anO HT_.out (by kernel_rfl)) (fun _ _ _ h=>h) (Or.inl ⟨by rfl,?_⟩) ?_ ?_
     rotate_left
     · intro w'
       go_simp
       with_reducible rfl
     rotate_left
     · simp only [Act.put,zS,zT,zU,i64_w,i32_w]
       rfl
     refine take_ (i:=4) (N:=some 44) (v:=?_) (a':=?_) (b_ 6 2) rfl rfl (tkO HT_.out HW_.out (by kernel_rfl)) (fun _ _ _ h=>h) (Or.inl ⟨by rfl,?_⟩) hHeld ?_ ?_
     rotate_left
     · rintro w' ⟨s0,s1,s2,s3⟩
       go_simp
       with_reducible rfl
     rotate_left
     · simp only [Act.put,zS,zT,zU,i64_w,i32_w]
       rfl
     refine one_ (i:=6) (N:=some 46) (b_ 7 1) rfl rfl (one_of HT_.out (by kernel_rfl)) (by decide) (fun K hK=>?_)
     refine goes_ Tryd.func67 (by kernel_rfl) rfl #[.int .i64 (wrap64 ((wrap64 ((wrap64 (x1_1 + 1)) + 1)) + 1))] (by rfl) rfl rfl (by (try simp only [zA,zC,zN]);first|done|rfl|(simp only [zM,zL];rfl)) ?_
     with_reducible refine (laws_markText.calls k1 (wrap64 ((wrap64 ((wrap64 (x1_1 + 1)) + 1)) + 1)) t318 _ A9.out).mono ?_
     rintro e w18 ⟨rfl,hb⟩
     refine ⟨_,rfl,?_⟩
     have n0_:=AsZ.mk (bwp (by repeat (first|(with_reducible first|exact HB.out|apply bwa|apply pbN|apply bw1)|exact HB.out)) hb)
     clear HB
     have HB:=n0_
     clear n0_
     (try clear hb)
     (try clear hb2)
     (try clear hk)
     (try clear hi)
     refine hK.out _ _ ⟨((HB.out.cell (zB w _ hw317_0)).trans hw317_0),((HB.out.cell (zB w _ hw317_1)).trans hw317_1),((HB.out.cell (zB w _ hw317_2)).trans hw317_2),((HB.out.cell (zB w _ hw317_3)).trans hw317_3)⟩ (fun hHeld=>?_)
     clear hK K
     refine norm_ (a':=?_) ?_ ?_
     rotate_left
     · show Act.put _ (some 46) _=_
       simp only [Act.put,zS,zT,zU,i64_w,i32_w]
       rfl
     refine pure_ (i:=7) (N:=some 47) (v:=?_) (a':=?_) (b_ 8 0) rfl rfl (anO HT_.out (by kernel_rfl)) (fun _ _ _ h=>h) (Or.inl ⟨by rfl,?_⟩) ?_ ?_
     rotate_left
     · intro w'
       go_simp
       with_reducible rfl
     rotate_left
     · simp only [Act.put,zS,zT,zU,i64_w,i32_w]
       rfl
     refine dn_ (dnO HT_.out (by kernel_rfl)) ?_
     try go_wp2
     go_ret
     exact ⟨by first|rfl|(simp [errW_none,errW_some]<;>rfl)|(simp [*,errW_none,errW_some]<;>rfl),by repeat (first|(with_reducible first|exact HB.out|apply bwa|apply pbN|apply bw1)|exact HB.out)⟩
   rw [if_pos c10] at H
   have c10b0:(((rd_T28 l0 x5_1).f3).toList == t318.toList)=true:=beq_iff_eq.mpr c10
   have c10b1:(((rd_T28 l0 x5_1).f3).toList != t318.toList)=false:=bne_eq_false_iff_eq.mpr c10
   clear c10
   have H':=AsZ.mk H
   clear H
   try go_wp2
   have n0_:=AsZ.mk (bw1 HB.out)
   clear HB
   have HB:=n0_
   clear n0_
   have p313:0≤(x5_1:Int):=zD (by first|(with_reducible assumption)|assumption)
   have q313:x5_1 < (l0.length:Int):=zD (by first|(with_reducible assumption)|assumption)
   obtain ⟨ad313,e313,hx313_0,hx313_1,hx313_2,hx313_3⟩:=at_T28 HR0.out x5_1 p313 q313
   have hw313_3:=hx313_3
   have hw313_2:=hx313_2
   have hw313_1:=hx313_1
   have hw313_0:=hx313_0
   cases e313
   replace hx313_0:=(HB.out.cell (zB w _ hx313_0)).trans hx313_0
   replace hx313_1:=(HB.out.cell (zB w _ hx313_1)).trans hx313_1
   replace hx313_2:=(HB.out.cell (zB w _ hx313_2)).trans hx313_2
   replace hx313_3:=(HB.out.cell (zB w _ hx313_3)).trans hx313_3
   replace p313:=eq_true p313
   replace q313:=eq_true q313
   refine start_ (n:=8) (S:=fun w'=>w'.cell? (ad313.add ((x5_1).toNat * 4))=some (.string ((rd_T28 l0 x5_1).f0))∧w'.cell? ⟨(ad313.add ((x5_1).toNat * 4)).block,(ad313.add ((x5_1).toNat * 4)).off + 1,none⟩=some (.int .i64 ((rd_T28 l0 x5_1).f1))∧w'.cell? ⟨(ad313.add ((x5_1).toNat * 4)).block,(ad313.add ((x5_1).toNat * 4)).off + 2,none⟩=some (.int .i64 ((rd_T28 l0 x5_1).f2))∧w'.cell? ⟨(ad313.add ((x5_1).toNat * 4)).block,(ad313.add ((x5_1).toNat * 4)).off + 3,none⟩=some (.string ((rd_T28 l0 x5_1).f3))) (ds:=[]) (b_ 0 8) (by kernel_rfl) rfl rfl ⟨((HB.out.cell (zB w _ hw313_0)).trans hw313_0),((HB.out.cell (zB w _ hw313_1)).trans hw313_1),((HB.out.cell (zB w _ hw313_2)).trans hw313_2),((HB.out.cell (zB w _ hw313_3)).trans hw313_3)⟩ (fun hHeld=>?_);refine with_tabW laws_heldItemS.tab4 laws_heldItemS.bits4 (fun HT_ HW_=>?_)
   generalize wr.drew=w11 at HB hx313_0 hx313_1 hx313_2 hx313_3 hHeld ⊢
   refine pure_ (i:=0) (N:=some 12) (v:=?_) (a':=?_) (b_ 1 7) rfl rfl (anO HT_.out (by kernel_rfl)) (fun _ _ _ h=>h) (Or.inl ⟨by rfl,?_⟩) ?_ ?_
   rotate_left
   · intro w'
     go_simp
     with_reducible rfl
   rotate_left
   · simp only [Act.put,zS,zT,zU,i64_w,i32_w]
     rfl
   refine pure_ (i:=1) (N:=some 13) (v:=?_) (a':=?_) (b_ 2 6) rfl rfl (anO HT_.out (by kernel_rfl)) (fun _ _ _ h=>h) (Or.inl ⟨by rfl,?_⟩) ?_ ?_
   rotate_left
   · intro w'
     go_simp
     with_reducible rfl
   rotate_left
   · simp only [Act.put,zS,zT,zU,i64_w,i32_w]
     rfl
   refine pure_ (i:=2) (N:=some 14) (v:=?_) (a':=?_) (b_ 3 5) rfl rfl (anO HT_.out (by kernel_rfl)) (fun _ _ _ h=>h) (Or.inl ⟨by rfl,?_⟩) ?_ ?_
   rotate_left
   · intro w'
     go_simp
     with_reducible rfl
   rotate_left
   · simp only [Act.put,zS,zT,zU,i64_w,i32_w]
     rfl
   refine pure_ (i:=3) (N:=some 15) (v:=?_) (a':=?_) (b_ 4 4) rfl rfl (anO HT_.out (by kernel_rfl)) (fun _ _ _ h=>h) (Or.inl ⟨by rfl,?_⟩) ?_ ?_
   rotate_left
   · intro w'
     go_simp
     with_reducible rfl
   rotate_left
   · simp only [Act.put,zS,zT,zU,i64_w,i32_w]
     rfl
   refine pure_ (i:=5) (N:=some 17) (v:=?_) (a':=?_) #[true,true,true,true,false,true,false,false] rfl rfl (anO HT_.out (by kernel_rfl)) (fun _ _ _ h=>h) (Or.inl ⟨by rfl,?_⟩) ?_ ?_
   rotate_left
   · intro w'
     go_simp
     with_reducible rfl
   rotate_left
   · simp only [Act.put,zS,zT,zU,i64_w,i32_w]
     rfl
   refine take_ (i:=4) (N:=some 16) (v:=?_) (a':=?_) (b_ 6 2) rfl rfl (tkO HT_.out HW_.out (by kernel_rfl)) (fun _ _ _ h=>h) (Or.inl ⟨by rfl,?_⟩) hHeld ?_ ?_
   rotate_left
   · rintro w' ⟨s0,s1,s2,s3⟩
     go_simp
     with_reducible rfl
   rotate_left
   · simp only [Act.put,zS,zT,zU,i64_w,i32_w]
     rfl
   refine one_ (i:=6) (N:=some 18) (b_ 7 1) rfl rfl (one_of HT_.out (by kernel_rfl)) (by decide) (fun K hK=>?_)
   refine goes_ Tryd.func67 (by kernel_rfl) rfl #[.int .i64 x1_1] (by rfl) rfl rfl (by (try simp only [zA,zC,zN]);first|done|rfl|(simp only [zM,zL];rfl)) ?_
   with_reducible refine (laws_markText.calls k1 x1_1 t314 _ A5.out).mono ?_
   rintro e w12 ⟨rfl,hb⟩
   refine ⟨_,rfl,?_⟩
   have n0_:=AsZ.mk (bwp (by repeat (first|(with_reducible first|exact HB.out|apply bwa|apply pbN|apply bw1)|exact HB.out)) hb)
   clear HB
   have HB:=n0_
   clear n0_
   (try clear hb)
   (try clear hb2)
   (try clear hk)
   (try clear hi)
   refine hK.out _ _ ⟨((HB.out.cell (zB w _ hw313_0)).trans hw313_0),((HB.out.cell (zB w _ hw313_1)).trans hw313_1),((HB.out.cell (zB w _ hw313_2)).trans hw313_2),((HB.out.cell (zB w _ hw313_3)).trans hw313_3)⟩ (fun hHeld=>?_)
   clear hK K
   refine norm_ (a':=?_) ?_ ?_
   rotate_left
   · show Act.put _ (some 18) _=_
     simp only [Act.put,zS,zT,zU,i64_w,i32_w]
     rfl
   refine pure_ (i:=7) (N:=some 19) (v:=?_) (a':=?_) (b_ 8 0) rfl rfl (anO HT_.out (by kernel_rfl)) (fun _ _ _ h=>h) (Or.inl ⟨by rfl,?_⟩) ?_ ?_
   rotate_left
   · intro w'
     go_simp
     with_reducible rfl
   rotate_left
   · simp only [Act.put,zS,zT,zU,i64_w,i32_w]
     rfl
   refine dn_ (dnO HT_.out (by kernel_rfl)) ?_
   have p315:0≤(x5_1:Int):=zD (by first|(with_reducible assumption)|assumption)
   have q315:x5_1 < (l0.length:Int):=zD (by first|(with_reducible assumption)|assumption)
   obtain ⟨ad315,e315,hx315_0,hx315_1,hx315_2,hx315_3⟩:=at_T28 HR0.out x5_1 p315 q315
   obtain rfl:ad313=ad315:=(by injection e315)
   replace hx315_0:=(HB.out.cell (zB w _ hx315_0)).trans hx315_0
   replace hx315_1:=(HB.out.cell (zB w _ hx315_1)).trans hx315_1
   replace hx315_2:=(HB.out.cell (zB w _ hx315_2)).trans hx315_2
   replace hx315_3:=(HB.out.cell (zB w _ hx315_3)).trans hx315_3
   replace p315:=eq_true p315
   replace q315:=eq_true q315
   have p316:0≤(x5_1:Int):=zD (by first|(with_reducible assumption)|assumption)
   have q316:x5_1 < (l0.length:Int):=zD (by first|(with_reducible assumption)|assumption)
   obtain ⟨ad316,e316,hx316_0,hx316_1,hx316_2,hx316_3⟩:=at_T28 HR0.out x5_1 p316 q316
   obtain rfl:ad313=ad316:=(by injection e316)
   replace hx316_0:=(HB.out.cell (zB w _ hx316_0)).trans hx316_0
   replace hx316_1:=(HB.out.cell (zB w _ hx316_1)).trans hx316_1
   replace hx316_2:=(HB.out.cell (zB w _ hx316_2)).trans hx316_2
   replace hx316_3:=(HB.out.cell (zB w _ hx316_3)).trans hx316_3
   replace p316:=eq_true p316
   replace q316:=eq_true q316
   try go_wp2
   have n0_:=AsZ.mk (bw1 HB.out)
   clear HB
   have HB:=n0_
   clear n0_
   have p317:0≤(x5_1:Int):=zD (by first|(with_reducible assumption)|assumption)
   have q317:x5_1 < (l0.length:Int):=zD (by first|(with_reducible assumption)|assumption)
   obtain ⟨ad317,e317,hx317_0,hx317_1,hx317_2,hx317_3⟩:=at_T28 HR0.out x5_1 p317 q317
   have hw317_3:=hx317_3
   have hw317_2:=hx317_2
   have hw317_1:=hx317_1
   have hw317_0:=hx317_0
   obtain rfl:ad313=ad317:=(by injection e317)
   replace hx317_0:=(HB.out.cell (zB w _ hx317_0)).trans hx317_0
   replace hx317_1:=(HB.out.cell (zB w _ hx317_1)).trans hx317_1
   replace hx317_2:=(HB.out.cell (zB w _ hx317_2)).trans hx317_2
   replace hx317_3:=(HB.out.cell (zB w _ hx317_3)).trans hx317_3
   replace p317:=eq_true p317
   replace q317:=eq_true q317
   refine start_ (n:=8) (S:=fun w'=>w'.cell? (ad313.add ((x5_1).toNat * 4))=some (.string ((rd_T28 l0 x5_1).f0))∧w'.cell? ⟨(ad313.add ((x5_1).toNat * 4)).block,(ad313.add ((x5_1).toNat * 4)).off + 1,none⟩=some (.int .i64 ((rd_T28 l0 x5_1).f1))∧w'.cell? ⟨(ad313.add ((x5_1).toNat * 4)).block,(ad313.add ((x5_1).toNat * 4)).off + 2,none⟩=some (.int .i64 ((rd_T28 l0 x5_1).f2))∧w'.cell? ⟨(ad313.add ((x5_1).toNat * 4)).block,(ad313.add ((x5_1).toNat * 4)).off + 3,none⟩=some (.string ((rd_T28 l0 x5_1).f3))) (ds:=[]) (b_ 0 8) (by kernel_rfl) rfl rfl ⟨((HB.out.cell (zB w _ hw317_0)).trans hw317_0),((HB.out.cell (zB w _ hw317_1)).trans hw317_1),((HB.out.cell (zB w _ hw317_2)).trans hw317_2),((HB.out.cell (zB w _ hw317_3)).trans hw317_3)⟩ (fun hHeld=>?_);refine with_tabW laws_heldItemS.tab13 laws_heldItemS.bits13 (fun HT_ HW_=>?_)
   generalize w12.drew=w13 at HB hx317_0 hx317_1 hx317_2 hx317_3 hHeld ⊢
   refine pure_ (i:=0) (N:=some 40) (v:=?_) (a':=?_) (b_ 1 7) rfl rfl (anO HT_.out (by kernel_rfl)) (fun _ _ _ h=>h) (Or.inl ⟨by rfl,?_⟩) ?_ ?_
   rotate_left
   · intro w'
     go_simp
     with_reducible rfl
   rotate_left
   · simp only [Act.put,zS,zT,zU,i64_w,i32_w]
     rfl
   refine pure_ (i:=1) (N:=some 41) (v:=?_) (a':=?_) (b_ 2 6) rfl rfl (anO HT_.out (by kernel_rfl)) (fun _ _ _ h=>h) (Or.inl ⟨by rfl,?_⟩) ?_ ?_
   rotate_left
   · intro w'
     go_simp
     with_reducible rfl
   rotate_left
   · simp only [Act.put,zS,zT,zU,i64_w,i32_w]
     rfl
   refine pure_ (i:=2) (N:=some 42) (v:=?_) (a':=?_) (b_ 3 5) rfl rfl (anO HT_.out (by kernel_rfl)) (fun _ _ _ h=>h) (Or.inl ⟨by rfl,?_⟩) ?_ ?_
   rotate_left
   · intro w'
     go_simp
     with_reducible rfl
   rotate_left
   · simp only [Act.put,zS,zT,zU,i64_w,i32_w]
     rfl
   refine pure_ (i:=3) (N:=some 43) (v:=?_) (a':=?_) (b_ 4 4) rfl rfl (anO HT_.out (by kernel_rfl)) (fun _ _ _ h=>h) (Or.inl ⟨by rfl,?_⟩) ?_ ?_
   rotate_left
   · intro w'
     go_simp
     with_reducible rfl
   rotate_left
   · simp only [Act.put,zS,zT,zU,i64_w,i32_w]
     rfl
   refine pure_ (i:=5) (N:=some 45) (v:=?_) (a':=?_) #[true,true,true,true,false,true,false,false] rfl rfl (anO HT_.out (by kernel_rfl)) (fun _ _ _ h=>h) (Or.inl ⟨by rfl,?_⟩) ?_ ?_
   rotate_left
   · intro w'
     go_simp
     with_reducible rfl
   rotate_left
   · simp only [Act.put,zS,zT,zU,i64_w,i32_w]
     rfl
   refine take_ (i:=4) (N:=some 44) (v:=?_) (a':=?_) (b_ 6 2) rfl rfl (tkO HT_.out HW_.out (by kernel_rfl)) (fun _ _ _ h=>h) (Or.inl ⟨by rfl,?_⟩) hHeld ?_ ?_
   rotate_left
   · rintro w' ⟨s0,s1,s2,s3⟩
     go_simp
     with_reducible rfl
   rotate_left
   · simp only [Act.put,zS,zT,zU,i64_w,i32_w]
     rfl
   refine one_ (i:=6) (N:=some 46) (b_ 7 1) rfl rfl (one_of HT_.out (by kernel_rfl)) (by decide) (fun K hK=>?_)
   refine goes_ Tryd.func67 (by kernel_rfl) rfl #[.int .i64 (wrap64 ((wrap64 ((wrap64 (x1_1 + 1)) + 1)) + 1))] (by rfl) rfl rfl (by (try simp only [zA,zC,zN]);first|done|rfl|(simp only [zM,zL];rfl)) ?_
   with_reducible refine (laws_markText.calls k1 (wrap64 ((wrap64 ((wrap64 (x1_1 + 1)) + 1)) + 1)) t318 _ A9.out).mono ?_
   rintro e w14 ⟨rfl,hb⟩
   refine ⟨_,rfl,?_⟩
   have n0_:=AsZ.mk (bwp (by repeat (first|(with_reducible first|exact HB.out|apply bwa|apply pbN|apply bw1)|exact HB.out)) hb)
   clear HB
   have HB:=n0_
   clear n0_
   (try clear hb)
   (try clear hb2)
   (try clear hk)
   (try clear hi)
   refine hK.out _ _ ⟨((HB.out.cell (zB w _ hw317_0)).trans hw317_0),((HB.out.cell (zB w _ hw317_1)).trans hw317_1),((HB.out.cell (zB w _ hw317_2)).trans hw317_2),((HB.out.cell (zB w _ hw317_3)).trans hw317_3)⟩ (fun hHeld=>?_)
   clear hK K
   refine norm_ (a':=?_) ?_ ?_
   rotate_left
   · show Act.put _ (some 46) _=_
     simp only [Act.put,zS,zT,zU,i64_w,i32_w]
     rfl
   refine pure_ (i:=7) (N:=some 47) (v:=?_) (a':=?_) (b_ 8 0) rfl rfl (anO HT_.out (by kernel_rfl)) (fun _ _ _ h=>h) (Or.inl ⟨by rfl,?_⟩) ?_ ?_
   rotate_left
   · intro w'
     go_simp
     with_reducible rfl
   rotate_left
   · simp only [Act.put,zS,zT,zU,i64_w,i32_w]
     rfl
   refine dn_ (dnO HT_.out (by kernel_rfl)) ?_
   try go_wp2
   go_roundg k1
   case measure=>have:=HK1.out;omega
   case rel=>exact ⟨(wrap64 ((wrap64 ((wrap64 ((wrap64 (x1_1 + 1)) + 1)) + 1)) + 1)),(wrap64 (x5_1 + 1)),(by first|rfl|(simp;done)|(simp [*];done)),(by first|rfl|(simp;done)|(simp [*];done)),H',⟨by have:=HK1.out;omega⟩,⟨by repeat (first|(with_reducible first|exact HB.out|apply bwa|apply pbN|apply bw1)|exact HB.out)⟩⟩
end Go.Proofs.YtffjlpphcjfdgaaDoor.MFnExactListSkip
