-- Written by a program of this session out of the translation. Not trusted: Lean checks it.
import Derived.Test.YtffjlpphcjfdgaaDoorMFnExactListSkipx0
import Derived.Test.YtffjlpphcjfdgaaDoorMFnExactListSkipx10
namespace Go.Proofs.YtffjlpphcjfdgaaDoor.MFnExactListSkip
-- short
-- shrunk
-- TAB
-- RD
open Go.Proofs.YtffjlpphcjfdgaaDoor Go.RowKit Go.Proofs.YtffjlpphcjfdgaaDoorW.PrintWords Go.Proofs.YtffjlpphcjfdgaaDoorW.PrintLast Go.Proofs.YtffjlpphcjfdgaaDoorW.PrintMore Go.Proofs.YtffjlpphcjfdgaaDoorX
attribute [local go_sem] max2_int min2_int max_two min_two max_three min_three max_four min_four str_gtr str_leq str_geq cell_twice
set_option linter.unusedVariables false
set_option linter.unusedSimpArgs false
/-! ### laws_eqTowerS: function 64 -/
def laws_eqTowerS.l0:Nat→List (S77)→List (S77)→Int→Option (Bool)
  |0,_,_,_=>none
  |k + 1,x0,x1,x5=>if x5 < (x0.length:Int) then (if 0≤x5 then (if x5 < (x1.length:Int) then ((laws_eqTower.f k ((rd_T77 x0 x5).f0.f0) ((rd_T77 x0 x5).f0.f1) ((rd_T77 x0 x5).f0.f2) ((rd_T77 x0 x5).f0.f3) ((rd_T77 x0 x5).f1) ((rd_T77 x1 x5).f0.f0) ((rd_T77 x1 x5).f0.f1) ((rd_T77 x1 x5).f0.f2) ((rd_T77 x1 x5).f0.f3) ((rd_T77 x1 x5).f1)).bind fun t298=>(if t298=true then (laws_eqTowerS.l0 k x0 x1 (wrap64 (x5 + 1))) else (some false))) else (none)) else (none)) else (some true)
def laws_eqTowerS.f (k:Nat) (l0:List (S77)) (l1:List (S77)):Option (Bool):=if (l0.length:Int)=(l1.length:Int) then (laws_eqTowerS.l0 k l0 l1 0) else (some false)
theorem laws_eqTowerS.mono_l:∀ k,(∀ y0 y1 y2,LeO (laws_eqTowerS.l0 k y0 y1 y2) (laws_eqTowerS.l0 (k + 1) y0 y1 y2))
  |0=>fun _ _ _ r h=>by simp [laws_eqTowerS.l0] at h
  |k + 1=>by
    have ih0:=laws_eqTowerS.mono_l k
    · intro y0 y1 y2
      unfold laws_eqTowerS.l0
      repeat' first
      |(with_reducible exact ih0 _ _ _)
      |(with_reducible exact laws_eqTower.mono _ _ _ _ _ _ _ _ _ _ _)
      |(with_reducible exact LeO.refl _)
      |(with_reducible exact LeO.none _)
      |(with_reducible refine LeO.ite ?_ ?_)
      |(with_reducible refine LeO.bind ?_ (fun _=>?_))
      |exact ih0 _ _ _
      |exact laws_eqTower.mono _ _ _ _ _ _ _ _ _ _ _
      |exact LeO.none _
      |refine LeO.ite ?_ ?_
      |refine LeO.bind ?_ (fun _=>?_)
theorem laws_eqTowerS.mono:∀ a0 a1 k,LeO (laws_eqTowerS.f k a0 a1) (laws_eqTowerS.f (k + 1) a0 a1):=by
  intro a0 a1 k
  have ih0:=laws_eqTowerS.mono_l k
  unfold laws_eqTowerS.f
  repeat' first
      |(with_reducible exact ih0 _ _ _)
      |(with_reducible exact laws_eqTower.mono _ _ _ _ _ _ _ _ _ _ _)
      |(with_reducible exact LeO.refl _)
      |(with_reducible exact LeO.none _)
      |(with_reducible refine LeO.ite ?_ ?_)
      |(with_reducible refine LeO.bind ?_ (fun _=>?_))
      |exact ih0 _ _ _
      |exact laws_eqTower.mono _ _ _ _ _ _ _ _ _ _ _
      |exact LeO.none _
      |refine LeO.ite ?_ ?_
      |refine LeO.bind ?_ (fun _=>?_)
def laws_eqTowerS.T6:Bool × List (List Nat × List Nat):=(true,[([],[]),([],[]),([0,1],[0,1]),([2],[2]),([],[]),([],[]),([4,5],[4,5]),([6],[6]),([3,7],[3,7]),([8],[8])])
def laws_eqTowerS.B6:List Nat:=[0,0,3,7,0,0,48,112,255,511]
theorem laws_eqTowerS.tab6:rtab .any (opsOf Tryd.f64 6)=laws_eqTowerS.T6:=by kernel_rfl
theorem laws_eqTowerS.bits6:waitsOk laws_eqTowerS.T6.2 laws_eqTowerS.B6=true:=by kernel_rfl
set_option maxHeartbeats 8000000 in
set_option maxRecDepth 100000 in
theorem laws_eqTowerS.calls (k:Nat) (A0:Option Addr) (c0:Nat) (l0:List (S77)) (A1:Option Addr) (c1:Nat) (l1:List (S77)) (r:Bool) (w:World) (hr0:Kd.C k77 w A0 l0.length l0) (hc0:l0.length≤c0) (hr1:Kd.C k77 w A1 l1.length l1) (hc1:l1.length≤c1) (h:laws_eqTowerS.f k l0 l1=some r) :
    Calls Tryd.prog 64 #[.slice A0 l0.length c0,.slice A1 l1.length c1] w fun e w'=>e = .returned (.bool r)∧Below w.heap.size w w':=by
 have hu77:=Tryd.underlying77
 have HR0:=AsZ.mk hr0
 have HC0:=AsZ.mk hc0
 clear hr0 hc0
 have HR1:=AsZ.mk hr1
 have HC1:=AsZ.mk hc1
 clear hr1 hc1
 have HB:=AsZ.mk (Below.refl w.heap.size w)
 have H:(if (l0.length:Int)=(l1.length:Int) then (laws_eqTowerS.l0 k l0 l1 0) else (some false))=some r:=h
 clear h
 by_cases c3:(l0.length:Int)=(l1.length:Int)
 rotate_left
 · rw [if_neg c3] at H
   have c3b0:((l0.length:Int) == (l1.length:Int))=false:=beq_eq_false_iff_ne.mpr c3
   have c3b1:((l0.length:Int) != (l1.length:Int))=true:=bne_iff_ne.mpr c3
   have c3b2:(l0.length == l1.length)=false:=by first|simpa using c3|(simp at c3 ⊢;omega)
   obtain rfl:=zI H
   go_enter Tryd.func64,Tryd.ntmps64
   go_wp2
   go_ret
   exact ⟨by first|rfl|(simp [errW_none,errW_some]<;>rfl)|(simp [*,errW_none,errW_some]<;>rfl),by repeat (first|(with_reducible first|exact HB.out|apply bwa|apply pbN|apply bw1)|exact HB.out)⟩
 rw [if_pos c3] at H
 have c3b0:((l0.length:Int) == (l1.length:Int))=true:=beq_iff_eq.mpr c3
 have c3b1:((l0.length:Int) != (l1.length:Int))=false:=bne_eq_false_iff_eq.mpr c3
 have c3b2:(l0.length == l1.length)=true:=by first|simpa using c3|(simp at c3 ⊢;omega)
 clear c3
 have H':=AsZ.mk H
 clear H
 go_enter Tryd.func64,Tryd.ntmps64
 go_wp2
 go_loopg [5] k (fun kq v5 w' => ∃ (x5_1:Int),v5 = .int .i64 x5_1∧AsZ (laws_eqTowerS.l0 kq l0 l1 x5_1=some r)∧AsZ (kq≤k)∧AsZ (Below w.heap.size w w'))
 case atStart=>exact ⟨(0),(by first|rfl|(simp;done)|(simp [*];done)),H',⟨Nat.le_refl _⟩,⟨by repeat (first|(with_reducible first|exact HB.out|apply bwa|apply pbN|apply bw1)|exact HB.out)⟩⟩
 case round =>
  clear H'
  try clear c1
  try clear p2
  try clear c3
  try clear c3b0
  try clear c3b1
  try clear c3b2
  obtain ⟨x5_1,rfl,HA,HK1,HB⟩:=hrel
  cases gk with
  |zero=>exact absurd HA.out (by simp [laws_eqTowerS.l0])
  |succ k1 =>
   have H:=HA.out
   clear HA
   simp only [laws_eqTowerS.l0] at H
   by_cases c4:x5_1 < (l0.length:Int)
   rotate_left
   · rw [if_neg c4] at H
     have c4b0:decide (x5_1 < (l0.length:Int))=false:=decide_eq_false c4
     clear c4
     obtain rfl:=zI H
     go_wp2
     go_ret
     exact ⟨by first|rfl|(simp [errW_none,errW_some]<;>rfl)|(simp [*,errW_none,errW_some]<;>rfl),by repeat (first|(with_reducible first|exact HB.out|apply bwa|apply pbN|apply bw1)|exact HB.out)⟩
   rw [if_pos c4] at H
   have c4b0:decide (x5_1 < (l0.length:Int))=true:=zE c4
   clear c4
   by_cases c5:0≤x5_1
   rotate_left
   · rw [if_neg c5] at H
     exact absurd H (by simp)
   rw [if_pos c5] at H
   have c5b0:decide (0≤x5_1)=true:=zE c5
   clear c5
   by_cases c6:x5_1 < (l1.length:Int)
   rotate_left
   · rw [if_neg c6] at H
     exact absurd H (by simp)
   rw [if_pos c6] at H
   have c6b0:decide (x5_1 < (l1.length:Int))=true:=zE c6
   clear c6
   replace H:=Option.bind_eq_some_iff.mp H
   obtain ⟨t298,A70,H⟩:=H
   replace H:(if t298=true then (laws_eqTowerS.l0 k1 l0 l1 (wrap64 (x5_1 + 1))) else (some false))=some r:=H
   have A7:=AsZ.mk A70
   clear A70
   by_cases c8:t298=true
   rotate_left
   · replace c8:=Bool.eq_false_iff.mpr c8
     subst c8
     have H1:(some false)=some r:=by rw [if_neg (show ¬ (false=true) by decide)] at H;exact H
     clear H
     have H:=H1
     clear H1
     obtain rfl:=zI H
     try go_wp2
     have n0_:=AsZ.mk (bw1 HB.out)
     clear HB
     have HB:=n0_
     clear n0_
     have p296:0≤(x5_1:Int):=zD (by first|(with_reducible assumption)|assumption)
     have q296:x5_1 < (l0.length:Int):=zD (by first|(with_reducible assumption)|assumption)
     obtain ⟨ad296,A296_4,c296_4,e296,hx296_0,hx296_1,hx296_2,hx296_3,hx296_4,hl296_4,hi296_4⟩:=at_T77 HR0.out x5_1 p296 q296
     have hw296_4:=hx296_4
     have hw296_3:=hx296_3
     have hw296_2:=hx296_2
     have hw296_1:=hx296_1
     have hw296_0:=hx296_0
     cases e296
     replace hx296_0:=(HB.out.cell (zB w _ hx296_0)).trans hx296_0
     replace hx296_1:=(HB.out.cell (zB w _ hx296_1)).trans hx296_1
     replace hx296_2:=(HB.out.cell (zB w _ hx296_2)).trans hx296_2
     replace hx296_3:=(HB.out.cell (zB w _ hx296_3)).trans hx296_3
     replace hx296_4:=(HB.out.cell (zB w _ hx296_4)).trans hx296_4
     have HR296_4:=AsZ.mk hi296_4
     have HC296_4:=AsZ.mk hl296_4
     clear hi296_4 hl296_4
     replace p296:=eq_true p296
     replace q296:=eq_true q296
     have p297:0≤(x5_1:Int):=zD (by first|(with_reducible assumption)|assumption)
     have q297:x5_1 < (l1.length:Int):=zD (by first|(with_reducible assumption)|assumption)
     obtain ⟨ad297,A297_4,c297_4,e297,hx297_0,hx297_1,hx297_2,hx297_3,hx297_4,hl297_4,hi297_4⟩:=at_T77 HR1.out x5_1 p297 q297
     have hw297_4:=hx297_4
     have hw297_3:=hx297_3
     have hw297_2:=hx297_2
     have hw297_1:=hx297_1
     have hw297_0:=hx297_0
     cases e297
     replace hx297_0:=(HB.out.cell (zB w _ hx297_0)).trans hx297_0
     replace hx297_1:=(HB.out.cell (zB w _ hx297_1)).trans hx297_1
     replace hx297_2:=(HB.out.cell (zB w _ hx297_2)).trans hx297_2
     replace hx297_3:=(HB.out.cell (zB w _ hx297_3)).trans hx297_3
     replace hx297_4:=(HB.out.cell (zB w _ hx297_4)).trans hx297_4
     have HR297_4:=AsZ.mk hi297_4
     have HC297_4:=AsZ.mk hl297_4
     clear hi297_4 hl297_4
     replace p297:=eq_true p297
     replace q297:=eq_true q297
     refine start_ (n:=10) (S:=fun w'=>w'.cell? (ad296.add ((x5_1).toNat * 5))=some (.string ((rd_T77 l0 x5_1).f0.f0))∧w'.cell? ⟨(ad296.add ((x5_1).toNat * 5)).block,(ad296.add ((x5_1).toNat * 5)).off + 1,none⟩=some (.int .i64 ((rd_T77 l0 x5_1).f0.f1))∧w'.cell? ⟨(ad296.add ((x5_1).toNat * 5)).block,(ad296.add ((x5_1).toNat * 5)).off + 2,none⟩=some (.int .i64 ((rd_T77 l0 x5_1).f0.f2))∧w'.cell? ⟨(ad296.add ((x5_1).toNat * 5)).block,(ad296.add ((x5_1).toNat * 5)).off + 3,none⟩=some (.string ((rd_T77 l0 x5_1).f0.f3))∧w'.cell? ⟨(ad296.add ((x5_1).toNat * 5)).block,(ad296.add ((x5_1).toNat * 5)).off + 4,none⟩=some (.slice A296_4 ((rd_T77 l0 x5_1).f1).length c296_4)∧w'.cell? (ad297.add ((x5_1).toNat * 5))=some (.string ((rd_T77 l1 x5_1).f0.f0))∧w'.cell? ⟨(ad297.add ((x5_1).toNat * 5)).block,(ad297.add ((x5_1).toNat * 5)).off + 1,none⟩=some (.int .i64 ((rd_T77 l1 x5_1).f0.f1))∧w'.cell? ⟨(ad297.add ((x5_1).toNat * 5)).block,(ad297.add ((x5_1).toNat * 5)).off + 2,none⟩=some (.int .i64 ((rd_T77 l1 x5_1).f0.f2))∧w'.cell? ⟨(ad297.add ((x5_1).toNat * 5)).block,(ad297.add ((x5_1).toNat * 5)).off + 3,none⟩=some (.string ((rd_T77 l1 x5_1).f0.f3))∧w'.cell? ⟨(ad297.add ((x5_1).toNat * 5)).block,(ad297.add ((x5_1).toNat * 5)).off + 4,none⟩=some (.slice A297_4 ((rd_T77 l1 x5_1).f1).length c297_4)) (ds:=[]) (b_ 0 10) (by kernel_rfl) rfl rfl ⟨((HB.out.cell (zB w _ hw296_0)).trans hw296_0),((HB.out.cell (zB w _ hw296_1)).trans hw296_1),((HB.out.cell (zB w _ hw296_2)).trans hw296_2),((HB.out.cell (zB w _ hw296_3)).trans hw296_3),((HB.out.cell (zB w _ hw296_4)).trans hw296_4),((HB.out.cell (zB w _ hw297_0)).trans hw297_0),((HB.out.cell (zB w _ hw297_1)).trans hw297_1),((HB.out.cell (zB w _ hw297_2)).trans hw297_2),((HB.out.cell (zB w _ hw297_3)).trans hw297_3),((HB.out.cell (zB w _ hw297_4)).trans hw297_4)⟩ (fun hHeld=>?_);refine with_tabW laws_eqTowerS.tab6 laws_eqTowerS.bits6 (fun HT_ HW_=>?_)
     generalize wr.drew=w11 at HB HR296_4 HR297_4 hx296_0 hx296_1 hx296_2 hx296_3 hx296_4 hx297_0 hx297_1 hx297_2 hx297_3 hx297_4 hHeld ⊢
     refine pure_ (i:=0) (N:=some 17) (v:=?_) (a':=?_) (b_ 1 9) rfl rfl (anO HT_.out (by kernel_rfl)) (fun _ _ _ h=>h) (Or.inl ⟨by rfl,?_⟩) ?_ ?_
     rotate_left
     · intro w'
       go_simp
       with_reducible rfl
     rotate_left
     · simp only [Act.put,zS,zT,zU,i64_w,i32_w]
       rfl
     refine pure_ (i:=1) (N:=some 18) (v:=?_) (a':=?_) (b_ 2 8) rfl rfl (anO HT_.out (by kernel_rfl)) (fun _ _ _ h=>h) (Or.inl ⟨by rfl,?_⟩) ?_ ?_
     rotate_left
     · intro w'
       go_simp
       with_reducible rfl
     rotate_left
     · simp only [Act.put,zS,zT,zU,i64_w,i32_w]
       rfl
     refine pure_ (i:=2) (N:=some 19) (v:=?_) (a':=?_) (b_ 3 7) rfl rfl (anO HT_.out (by kernel_rfl)) (fun _ _ _ h=>h) (Or.inl ⟨by rfl,?_⟩) ?_ ?_
     rotate_left
     · intro w'
       go_simp
       with_reducible rfl
     rotate_left
     · simp only [Act.put,zS,zT,zU,i64_w,i32_w]
       rfl
     refine pure_ (i:=4) (N:=some 21) (v:=?_) (a':=?_) #[true,true,true,false,true,false,false,false,false,false] rfl rfl (anO HT_.out (by kernel_rfl)) (fun _ _ _ h=>h) (Or.inl ⟨by rfl,?_⟩) ?_ ?_
     rotate_left
     · intro w'
       go_simp
       with_reducible rfl
     rotate_left
     · simp only [Act.put,zS,zT,zU,i64_w,i32_w]
       rfl
     refine pure_ (i:=5) (N:=some 22) (v:=?_) (a':=?_) #[true,true,true,false,true,true,false,false,false,false] rfl rfl (anO HT_.out (by kernel_rfl)) (fun _ _ _ h=>h) (Or.inl ⟨by rfl,?_⟩) ?_ ?_
     rotate_left
     · intro w'
       go_simp
       with_reducible rfl
     rotate_left
     · simp only [Act.put,zS,zT,zU,i64_w,i32_w]
       rfl
     refine pure_ (i:=6) (N:=some 23) (v:=?_) (a':=?_) #[true,true,true,false,true,true,true,false,false,false] rfl rfl (anO HT_.out (by kernel_rfl)) (fun _ _ _ h=>h) (Or.inl ⟨by rfl,?_⟩) ?_ ?_
     rotate_left
     · intro w'
       go_simp
       with_reducible rfl
     rotate_left
     · simp only [Act.put,zS,zT,zU,i64_w,i32_w]
       rfl
     refine take_ (i:=3) (N:=some 20) (v:=?_) (a':=?_) (b_ 7 3) rfl rfl (tkO HT_.out HW_.out (by kernel_rfl)) (fun _ _ _ h=>h) (Or.inl ⟨by rfl,?_⟩) hHeld ?_ ?_
     rotate_left
     · rintro w' ⟨s0,s1,s2,s3,s4,s5,s6,s7,s8,s9⟩
       go_simp
       with_reducible rfl
     rotate_left
     · simp only [Act.put,zS,zT,zU,i64_w,i32_w]
       rfl
     refine take_ (i:=7) (N:=some 24) (v:=?_) (a':=?_) (b_ 8 2) rfl rfl (tkO HT_.out HW_.out (by kernel_rfl)) (fun _ _ _ h=>h) (Or.inl ⟨by rfl,?_⟩) hHeld ?_ ?_
     rotate_left
     · rintro w' ⟨s0,s1,s2,s3,s4,s5,s6,s7,s8,s9⟩
       go_simp
       with_reducible rfl
     rotate_left
     · simp only [Act.put,zS,zT,zU,i64_w,i32_w]
       rfl
     refine one_ (i:=8) (N:=some 25) (b_ 9 1) rfl rfl (one_of HT_.out (by kernel_rfl)) (by decide) (fun K hK=>?_)
     refine goes_ Tryd.func92 (by kernel_rfl) rfl #[.agg #[.string ((rd_T77 l0 x5_1).f0.f0),.int .i64 ((rd_T77 l0 x5_1).f0.f1),.int .i64 ((rd_T77 l0 x5_1).f0.f2),.string ((rd_T77 l0 x5_1).f0.f3),.slice A296_4 ((rd_T77 l0 x5_1).f1).length c296_4],.agg #[.string ((rd_T77 l1 x5_1).f0.f0),.int .i64 ((rd_T77 l1 x5_1).f0.f1),.int .i64 ((rd_T77 l1 x5_1).f0.f2),.string ((rd_T77 l1 x5_1).f0.f3),.slice A297_4 ((rd_T77 l1 x5_1).f1).length c297_4]] (by rfl) rfl rfl (by (try simp only [zA,zC,zN]);first|done|rfl|(simp only [zM,zL];rfl)) ?_
     with_reducible refine (laws_eqTower.calls k1 ((rd_T77 l0 x5_1).f0.f0) ((rd_T77 l0 x5_1).f0.f1) ((rd_T77 l0 x5_1).f0.f2) ((rd_T77 l0 x5_1).f0.f3) _ _ ((rd_T77 l0 x5_1).f1) ((rd_T77 l1 x5_1).f0.f0) ((rd_T77 l1 x5_1).f0.f1) ((rd_T77 l1 x5_1).f0.f2) ((rd_T77 l1 x5_1).f0.f3) _ _ ((rd_T77 l1 x5_1).f1) false _ ?side1 ?side2 ?side3 ?side4 A7.out).mono ?_
     (case side1=>repeat (first|exact (Kd.C_below HR296_4.out HB.out)|(with_reducible refine Kd.C_alloc ?_ _)|(with_reducible refine Kd.C_drewN ?_ _)|(with_reducible refine Kd.C_drew ?_)))
     (case side2=>exact HC296_4.out)
     (case side3=>repeat (first|exact (Kd.C_below HR297_4.out HB.out)|(with_reducible refine Kd.C_alloc ?_ _)|(with_reducible refine Kd.C_drewN ?_ _)|(with_reducible refine Kd.C_drew ?_)))
     (case side4=>exact HC297_4.out)
     rintro e w12 ⟨rfl,hb⟩
     refine ⟨_,rfl,?_⟩
     have n0_:=AsZ.mk (bwp (by repeat (first|(with_reducible first|exact HB.out|apply bwa|apply pbN|apply bw1)|exact HB.out)) hb)
     clear HB
     have HB:=n0_
     clear n0_
     (try clear hb)
     (try clear hb2)
     (try clear hk)
     (try clear hi)
     refine hK.out _ _ ⟨((HB.out.cell (zB w _ hw296_0)).trans hw296_0),((HB.out.cell (zB w _ hw296_1)).trans hw296_1),((HB.out.cell (zB w _ hw296_2)).trans hw296_2),((HB.out.cell (zB w _ hw296_3)).trans hw296_3),((HB.out.cell (zB w _ hw296_4)).trans hw296_4),((HB.out.cell (zB w _ hw297_0)).trans hw297_0),((HB.out.cell (zB w _ hw297_1)).trans hw297_1),((HB.out.cell (zB w _ hw297_2)).trans hw297_2),((HB.out.cell (zB w _ hw297_3)).trans hw297_3),((HB.out.cell (zB w _ hw297_4)).trans hw297_4)⟩ (fun hHeld=>?_)
     clear hK K
     refine norm_ (a':=?_) ?_ ?_
     rotate_left
     · show Act.put _ (some 25) _=_
       simp only [Act.put,zS,zT,zU,i64_w,i32_w]
       rfl
     refine pure_ (i:=9) (N:=some 26) (v:=?_) (a':=?_) (b_ 10 0) rfl rfl (anO HT_.out (by kernel_rfl)) (fun _ _ _ h=>h) (Or.inl ⟨by rfl,?_⟩) ?_ ?_
     rotate_left
     · intro w'
       go_simp
       with_reducible rfl
     rotate_left
     · simp only [Act.put,zS,zT,zU,i64_w,i32_w]
       rfl
     refine dn_ (dnO HT_.out (by kernel_rfl)) ?_
     try go_wp2
     go_ret
     exact ⟨by first|rfl|(simp [errW_none,errW_some]<;>rfl)|(simp [*,errW_none,errW_some]<;>rfl),by repeat (first|(with_reducible first|exact HB.out|apply bwa|apply pbN|apply bw1)|exact HB.out)⟩
   subst c8
   have H1:(laws_eqTowerS.l0 k1 l0 l1 (wrap64 (x5_1 + 1)))=some r:=by rw [if_pos rfl] at H;exact H
   clear H
   have H:=H1
   clear H1
   have H':=AsZ.mk H
   clear H
   try go_wp2
   have n0_:=AsZ.mk (bw1 HB.out)
   clear HB
   have HB:=n0_
   clear n0_
   have p296:0≤(x5_1:Int):=zD (by first|(with_reducible assumption)|assumption)
   have q296:x5_1 < (l0.length:Int):=zD (by first|(with_reducible assumption)|assumption)
   obtain ⟨ad296,A296_4,c296_4,e296,hx296_0,hx296_1,hx296_2,hx296_3,hx296_4,hl296_4,hi296_4⟩:=at_T77 HR0.out x5_1 p296 q296
   have hw296_4:=hx296_4
   have hw296_3:=hx296_3
   have hw296_2:=hx296_2
   have hw296_1:=hx296_1
   have hw296_0:=hx296_0
   cases e296
   replace hx296_0:=(HB.out.cell (zB w _ hx296_0)).trans hx296_0
   replace hx296_1:=(HB.out.cell (zB w _ hx296_1)).trans hx296_1
   replace hx296_2:=(HB.out.cell (zB w _ hx296_2)).trans hx296_2
   replace hx296_3:=(HB.out.cell (zB w _ hx296_3)).trans hx296_3
   replace hx296_4:=(HB.out.cell (zB w _ hx296_4)).trans hx296_4
   have HR296_4:=AsZ.mk hi296_4
   have HC296_4:=AsZ.mk hl296_4
   clear hi296_4 hl296_4
   replace p296:=eq_true p296
   replace q296:=eq_true q296
   have p297:0≤(x5_1:Int):=zD (by first|(with_reducible assumption)|assumption)
   have q297:x5_1 < (l1.length:Int):=zD (by first|(with_reducible assumption)|assumption)
   obtain ⟨ad297,A297_4,c297_4,e297,hx297_0,hx297_1,hx297_2,hx297_3,hx297_4,hl297_4,hi297_4⟩:=at_T77 HR1.out x5_1 p297 q297
   have hw297_4:=hx297_4
   have hw297_3:=hx297_3
   have hw297_2:=hx297_2
   have hw297_1:=hx297_1
   have hw297_0:=hx297_0
   cases e297
   replace hx297_0:=(HB.out.cell (zB w _ hx297_0)).trans hx297_0
   replace hx297_1:=(HB.out.cell (zB w _ hx297_1)).trans hx297_1
   replace hx297_2:=(HB.out.cell (zB w _ hx297_2)).trans hx297_2
   replace hx297_3:=(HB.out.cell (zB w _ hx297_3)).trans hx297_3
   replace hx297_4:=(HB.out.cell (zB w _ hx297_4)).trans hx297_4
   have HR297_4:=AsZ.mk hi297_4
   have HC297_4:=AsZ.mk hl297_4
   clear hi297_4 hl297_4
   replace p297:=eq_true p297
   replace q297:=eq_true q297
   refine start_ (n:=10) (S:=fun w'=>w'.cell? (ad296.add ((x5_1).toNat * 5))=some (.string ((rd_T77 l0 x5_1).f0.f0))∧w'.cell? ⟨(ad296.add ((x5_1).toNat * 5)).block,(ad296.add ((x5_1).toNat * 5)).off + 1,none⟩=some (.int .i64 ((rd_T77 l0 x5_1).f0.f1))∧w'.cell? ⟨(ad296.add ((x5_1).toNat * 5)).block,(ad296.add ((x5_1).toNat * 5)).off + 2,none⟩=some (.int .i64 ((rd_T77 l0 x5_1).f0.f2))∧w'.cell? ⟨(ad296.add ((x5_1).toNat * 5)).block,(ad296.add ((x5_1).toNat * 5)).off + 3,none⟩=some (.string ((rd_T77 l0 x5_1).f0.f3))∧w'.cell? ⟨(ad296.add ((x5_1).toNat * 5)).block,(ad296.add ((x5_1).toNat * 5)).off + 4,none⟩=some (.slice A296_4 ((rd_T77 l0 x5_1).f1).length c296_4)∧w'.cell? (ad297.add ((x5_1).toNat * 5))=some (.string ((rd_T77 l1 x5_1).f0.f0))∧w'.cell? ⟨(ad297.add ((x5_1).toNat * 5)).block,(ad297.add ((x5_1).toNat * 5)).off + 1,none⟩=some (.int .i64 ((rd_T77 l1 x5_1).f0.f1))∧w'.cell? ⟨(ad297.add ((x5_1).toNat * 5)).block,(ad297.add ((x5_1).toNat * 5)).off + 2,none⟩=some (.int .i64 ((rd_T77 l1 x5_1).f0.f2))∧w'.cell? ⟨(ad297.add ((x5_1).toNat * 5)).block,(ad297.add ((x5_1).toNat * 5)).off + 3,none⟩=some (.string ((rd_T77 l1 x5_1).f0.f3))∧w'.cell? ⟨(ad297.add ((x5_1).toNat * 5)).block,(ad297.add ((x5_1).toNat * 5)).off + 4,none⟩=some (.slice A297_4 ((rd_T77 l1 x5_1).f1).length c297_4)) (ds:=[]) (b_ 0 10) (by kernel_rfl) rfl rfl ⟨((HB.out.cell (zB w _ hw296_0)).trans hw296_0),((HB.out.cell (zB w _ hw296_1)).trans hw296_1),((HB.out.cell (zB w _ hw296_2)).trans hw296_2),((HB.out.cell (zB w _ hw296_3)).trans hw296_3),((HB.out.cell (zB w _ hw296_4)).trans hw296_4),((HB.out.cell (zB w _ hw297_0)).trans hw297_0),((HB.out.cell (zB w _ hw297_1)).trans hw297_1),((HB.out.cell (zB w _ hw297_2)).trans hw297_2),((HB.out.cell (zB w _ hw297_3)).trans hw297_3),((HB.out.cell (zB w _ hw297_4)).trans hw297_4)⟩ (fun hHeld=>?_);refine with_tabW laws_eqTowerS.tab6 laws_eqTowerS.bits6 (fun HT_ HW_=>?_)
   generalize wr.drew=w9 at HB HR296_4 HR297_4 hx296_0 hx296_1 hx296_2 hx296_3 hx296_4 hx297_0 hx297_1 hx297_2 hx297_3 hx297_4 hHeld ⊢
   refine pure_ (i:=0) (N:=some 17) (v:=?_) (a':=?_) (b_ 1 9) rfl rfl (anO HT_.out (by kernel_rfl)) (fun _ _ _ h=>h) (Or.inl ⟨by rfl,?_⟩) ?_ ?_
   rotate_left
   · intro w'
     go_simp
     with_reducible rfl
   rotate_left
   · simp only [Act.put,zS,zT,zU,i64_w,i32_w]
     rfl
   refine pure_ (i:=1) (N:=some 18) (v:=?_) (a':=?_) (b_ 2 8) rfl rfl (anO HT_.out (by kernel_rfl)) (fun _ _ _ h=>h) (Or.inl ⟨by rfl,?_⟩) ?_ ?_
   rotate_left
   · intro w'
     go_simp
     with_reducible rfl
   rotate_left
   · simp only [Act.put,zS,zT,zU,i64_w,i32_w]
     rfl
   refine pure_ (i:=2) (N:=some 19) (v:=?_) (a':=?_) (b_ 3 7) rfl rfl (anO HT_.out (by kernel_rfl)) (fun _ _ _ h=>h) (Or.inl ⟨by rfl,?_⟩) ?_ ?_
   rotate_left
   · intro w'
     go_simp
     with_reducible rfl
   rotate_left
   · simp only [Act.put,zS,zT,zU,i64_w,i32_w]
     rfl
   refine pure_ (i:=4) (N:=some 21) (v:=?_) (a':=?_) #[true,true,true,false,true,false,false,false,false,false] rfl rfl (anO HT_.out (by kernel_rfl)) (fun _ _ _ h=>h) (Or.inl ⟨by rfl,?_⟩) ?_ ?_
   rotate_left
   · intro w'
     go_simp
     with_reducible rfl
   rotate_left
   · simp only [Act.put,zS,zT,zU,i64_w,i32_w]
     rfl
   refine pure_ (i:=5) (N:=some 22) (v:=?_) (a':=?_) #[true,true,true,false,true,true,false,false,false,false] rfl rfl (anO HT_.out (by kernel_rfl)) (fun _ _ _ h=>h) (Or.inl ⟨by rfl,?_⟩) ?_ ?_
   rotate_left
   · intro w'
     go_simp
     with_reducible rfl
   rotate_left
   · simp only [Act.put,zS,zT,zU,i64_w,i32_w]
     rfl
   refine pure_ (i:=6) (N:=some 23) (v:=?_) (a':=?_) #[true,true,true,false,true,true,true,false,false,false] rfl rfl (anO HT_.out (by kernel_rfl)) (fun _ _ _ h=>h) (Or.inl ⟨by rfl,?_⟩) ?_ ?_
   rotate_left
   · intro w'
     go_simp
     with_reducible rfl
   rotate_left
   · simp only [Act.put,zS,zT,zU,i64_w,i32_w]
     rfl
   refine take_ (i:=3) (N:=some 20) (v:=?_) (a':=?_) (b_ 7 3) rfl rfl (tkO HT_.out HW_.out (by kernel_rfl)) (fun _ _ _ h=>h) (Or.inl ⟨by rfl,?_⟩) hHeld ?_ ?_
   rotate_left
   · rintro w' ⟨s0,s1,s2,s3,s4,s5,s6,s7,s8,s9⟩
     go_simp
     with_reducible rfl
   rotate_left
   · simp only [Act.put,zS,zT,zU,i64_w,i32_w]
     rfl
   refine take_ (i:=7) (N:=some 24) (v:=?_) (a':=?_) (b_ 8 2) rfl rfl (tkO HT_.out HW_.out (by kernel_rfl)) (fun _ _ _ h=>h) (Or.inl ⟨by rfl,?_⟩) hHeld ?_ ?_
   rotate_left
   · rintro w' ⟨s0,s1,s2,s3,s4,s5,s6,s7,s8,s9⟩
     go_simp
     with_reducible rfl
   rotate_left
   · simp only [Act.put,zS,zT,zU,i64_w,i32_w]
     rfl
   refine one_ (i:=8) (N:=some 25) (b_ 9 1) rfl rfl (one_of HT_.out (by kernel_rfl)) (by decide) (fun K hK=>?_)
   refine goes_ Tryd.func92 (by kernel_rfl) rfl #[.agg #[.string ((rd_T77 l0 x5_1).f0.f0),.int .i64 ((rd_T77 l0 x5_1).f0.f1),.int .i64 ((rd_T77 l0 x5_1).f0.f2),.string ((rd_T77 l0 x5_1).f0.f3),.slice A296_4 ((rd_T77 l0 x5_1).f1).length c296_4],.agg #[.string ((rd_T77 l1 x5_1).f0.f0),.int .i64 ((rd_T77 l1 x5_1).f0.f1),.int .i64 ((rd_T77 l1 x5_1).f0.f2),.string ((rd_T77 l1 x5_1).f0.f3),.slice A297_4 ((rd_T77 l1 x5_1).f1).length c297_4]] (by rfl) rfl rfl (by (try simp only [zA,zC,zN]);first|done|rfl|(simp only [zM,zL];rfl)) ?_
   with_reducible refine (laws_eqTower.calls k1 ((rd_T77 l0 x5_1).f0.f0) ((rd_T77 l0 x5_1).f0.f1) ((rd_T77 l0 x5_1).f0.f2) ((rd_T77 l0 x5_1).f0.f3) _ _ ((rd_T77 l0 x5_1).f1) ((rd_T77 l1 x5_1).f0.f0) ((rd_T77 l1 x5_1).f0.f1) ((rd_T77 l1 x5_1).f0.f2) ((rd_T77 l1 x5_1).f0.f3) _ _ ((rd_T77 l1 x5_1).f1) true _ ?side1 ?side2 ?side3 ?side4 A7.out).mono ?_
   (case side1=>repeat (first|exact (Kd.C_below HR296_4.out HB.out)|(with_reducible refine Kd.C_alloc ?_ _)|(with_reducible refine Kd.C_drewN ?_ _)|(with_reducible refine Kd.C_drew ?_)))
   (case side2=>exact HC296_4.out)
   (case side3=>repeat (first|exact (Kd.C_below HR297_4.out HB.out)|(with_reducible refine Kd.C_alloc ?_ _)|(with_reducible refine Kd.C_drewN ?_ _)|(with_reducible refine Kd.C_drew ?_)))
   (case side4=>exact HC297_4.out)
   rintro e w10 ⟨rfl,hb⟩
   refine ⟨_,rfl,?_⟩
   have n0_:=AsZ.mk (bwp (by repeat (first|(with_reducible first|exact HB.out|apply bwa|apply pbN|apply bw1)|exact HB.out)) hb)
   clear HB
   have HB:=n0_
   clear n0_
   (try clear hb)
   (try clear hb2)
   (try clear hk)
   (try clear hi)
   refine hK.out _ _ ⟨((HB.out.cell (zB w _ hw296_0)).trans hw296_0),((HB.out.cell (zB w _ hw296_1)).trans hw296_1),((HB.out.cell (zB w _ hw296_2)).trans hw296_2),((HB.out.cell (zB w _ hw296_3)).trans hw296_3),((HB.out.cell (zB w _ hw296_4)).trans hw296_4),((HB.out.cell (zB w _ hw297_0)).trans hw297_0),((HB.out.cell (zB w _ hw297_1)).trans hw297_1),((HB.out.cell (zB w _ hw297_2)).trans hw297_2),((HB.out.cell (zB w _ hw297_3)).trans hw297_3),((HB.out.cell (zB w _ hw297_4)).trans hw297_4)⟩ (fun hHeld=>?_)
   clear hK K
   refine norm_ (a':=?_) ?_ ?_
   rotate_left
   · show Act.put _ (some 25) _=_
     simp only [Act.put,zS,zT,zU,i64_w,i32_w]
     rfl
   refine pure_ (i:=9) (N:=some 26) (v:=?_) (a':=?_) (b_ 10 0) rfl rfl (anO HT_.out (by kernel_rfl)) (fun _ _ _ h=>h) (Or.inl ⟨by rfl,?_⟩) ?_ ?_
   rotate_left
   · intro w'
     go_simp
     with_reducible rfl
   rotate_left
   · simp only [Act.put,zS,zT,zU,i64_w,i32_w]
     rfl
   refine dn_ (dnO HT_.out (by kernel_rfl)) ?_
   try go_wp2
   go_roundg k1
   case measure=>have:=HK1.out;omega
   case rel=>exact ⟨(wrap64 (x5_1 + 1)),(by first|rfl|(simp;done)|(simp [*];done)),H',⟨by have:=HK1.out;omega⟩,⟨by repeat (first|(with_reducible first|exact HB.out|apply bwa|apply pbN|apply bw1)|exact HB.out)⟩⟩
/-! ### laws_eqSkip: function 22 -/
def laws_eqSkip.f (k:Nat) (l0_0:List Int) (l0_1:List (S77)) (l1_0:List Int) (l1_1:List (S77)):Option (Bool):=(laws_eqIntS.f k l0_0 l1_0).bind fun t301=>(if t301=true then ((laws_eqTowerS.f k l0_1 l1_1).bind fun t302=>(if t302=true then (some true) else (some false))) else (some false))
theorem laws_eqSkip.mono:∀ a0 a1 a2 a3 k,LeO (laws_eqSkip.f k a0 a1 a2 a3) (laws_eqSkip.f (k + 1) a0 a1 a2 a3):=by
  intro a0 a1 a2 a3 k
  unfold laws_eqSkip.f
  repeat' first
      |(with_reducible exact laws_eqIntS.mono _ _ _)
      |(with_reducible exact laws_eqTowerS.mono _ _ _)
      |(with_reducible exact LeO.refl _)
      |(with_reducible exact LeO.none _)
      |(with_reducible refine LeO.ite ?_ ?_)
      |(with_reducible refine LeO.bind ?_ (fun _=>?_))
      |exact laws_eqIntS.mono _ _ _
      |exact laws_eqTowerS.mono _ _ _
      |exact LeO.none _
      |refine LeO.ite ?_ ?_
      |refine LeO.bind ?_ (fun _=>?_)
set_option maxHeartbeats 8000000 in
set_option maxRecDepth 100000 in
theorem laws_eqSkip.calls (k:Nat) (A0_0:Option Addr) (c0_0:Nat) (l0_0:List Int) (A0_1:Option Addr) (c0_1:Nat) (l0_1:List (S77)) (A1_0:Option Addr) (c1_0:Nat) (l1_0:List Int) (A1_1:Option Addr) (c1_1:Nat) (l1_1:List (S77)) (r:Bool) (w:World) (hr0_0:Kd.C (Kd.int .i64) w A0_0 l0_0.length l0_0) (hc0_0:l0_0.length≤c0_0) (hr0_1:Kd.C k77 w A0_1 l0_1.length l0_1) (hc0_1:l0_1.length≤c0_1) (hr1_0:Kd.C (Kd.int .i64) w A1_0 l1_0.length l1_0) (hc1_0:l1_0.length≤c1_0) (hr1_1:Kd.C k77 w A1_1 l1_1.length l1_1) (hc1_1:l1_1.length≤c1_1) (h:laws_eqSkip.f k l0_0 l0_1 l1_0 l1_1=some r) :
    Calls Tryd.prog 22 #[.agg #[.slice A0_0 l0_0.length c0_0,.slice A0_1 l0_1.length c0_1],.agg #[.slice A1_0 l1_0.length c1_0,.slice A1_1 l1_1.length c1_1]] w fun e w'=>e = .returned (.bool r)∧Below w.heap.size w w':=by
 have hu26:=Tryd.underlying26
 have HR0_0:=AsZ.mk hr0_0
 have HC0_0:=AsZ.mk hc0_0
 clear hr0_0 hc0_0
 have HR0_1:=AsZ.mk hr0_1
 have HC0_1:=AsZ.mk hc0_1
 clear hr0_1 hc0_1
 have HR1_0:=AsZ.mk hr1_0
 have HC1_0:=AsZ.mk hc1_0
 clear hr1_0 hc1_0
 have HR1_1:=AsZ.mk hr1_1
 have HC1_1:=AsZ.mk hc1_1
 clear hr1_1 hc1_1
 have HB:=AsZ.mk (Below.refl w.heap.size w)
 have H:((laws_eqIntS.f k l0_0 l1_0).bind fun t301=>(if t301=true then ((laws_eqTowerS.f k l0_1 l1_1).bind fun t302=>(if t302=true then (some true) else (some false))) else (some false)))=some r:=h
 clear h
 replace H:=Option.bind_eq_some_iff.mp H
 obtain ⟨t301,A30,H⟩:=H
 replace H:(if t301=true then ((laws_eqTowerS.f k l0_1 l1_1).bind fun t302=>(if t302=true then (some true) else (some false))) else (some false))=some r:=H
 have A3:=AsZ.mk A30
 clear A30
 by_cases c4:t301=true
 rotate_left
 · replace c4:=Bool.eq_false_iff.mpr c4
   subst c4
   have H1:(some false)=some r:=by rw [if_neg (show ¬ (false=true) by decide)] at H;exact H
   clear H
   have H:=H1
   clear H1
   obtain rfl:=zI H
   go_enter Tryd.func22,Tryd.ntmps22
   go_wp2_with (first|((with_reducible refine gate_dst (N:=2) rfl ?_);refine box_event ?hg (N:=2) ?hd (cs:=#[.slice A0_0 l0_0.length c0_0,.slice A0_1 l0_1.length c0_1]) (t:=26) ?hr ?_;(case hd=>rfl);(case hg=>rfl);(case hr=>first|(go_simp;done)|(go_simp;rfl));intro gb299 hg w19 hbox hb;have n0_:=AsZ.mk (bwp (by repeat (first|(with_reducible first|exact HB.out|apply bwa|apply pbN|apply bw1)|exact HB.out)) hb);have n1_:=AsZ.mk (hbox);have n2_:=AsZ.mk ((by rw [hg];exact (bwz (by repeat (first|(with_reducible first|exact HB.out|apply bwa|apply pbN|apply bw1)|exact HB.out))):w.heap.size≤gb299));have n3_:=AsZ.mk ((by rw [hg];exact (bwz (by repeat (first|(with_reducible first|exact HB.out|apply bwa|apply pbN|apply bw1)|exact HB.out))):w.heap.size≤gb299));clear HB;have HB:=n0_;have BK299:=n1_;have GW299:=n2_;have GE299:=n3_;clear n0_ n1_ n2_ n3_;clear hb hbox hg)|((with_reducible refine gate_dst (N:=3) rfl ?_);refine box_event ?hg (N:=3) ?hd (cs:=#[.slice A1_0 l1_0.length c1_0,.slice A1_1 l1_1.length c1_1]) (t:=26) ?hr ?_;(case hd=>rfl);(case hg=>rfl);(case hr=>first|(go_simp;done)|(go_simp;rfl));intro gb300 hg w20 hbox hb;have n0_:=AsZ.mk (kb (g:=gb299) (o := .cells #[.slice A0_0 l0_0.length c0_0,.slice A0_1 l0_1.length c0_1] 26 (0,0)) (by (with_reducible repeat (first|refine kdN ?_ _|refine kd ?_|refine ka ?_ _));exact BK299.out) hb);have n1_:=AsZ.mk (bwp (by repeat (first|(with_reducible first|exact HB.out|apply bwa|apply pbN|apply bw1|refine bws ?_ GE299.out)|exact HB.out)) hb);have n2_:=AsZ.mk (hbox);have n3_:=AsZ.mk ((by rw [hg];exact (bwz (by repeat (first|(with_reducible first|exact HB.out|apply bwa|apply pbN|apply bw1|refine bws ?_ GE299.out)|exact HB.out))):w.heap.size≤gb300));have n4_:=AsZ.mk ((by rw [hg];exact (bwz (by repeat (first|(with_reducible first|exact HB.out|apply bwa|apply pbN|apply bw1|refine bws ?_ GE299.out)|exact HB.out))):w.heap.size≤gb300));have n5_:=AsZ.mk ((by rw [hg];exact Nat.ne_of_lt (blk_lt (g:=gb299) (o := .cells #[.slice A0_0 l0_0.length c0_0,.slice A0_1 l0_1.length c0_1] 26 (0,0)) (by (with_reducible repeat (first|refine kdN ?_ _|refine kd ?_|refine ka ?_ _));exact BK299.out)):gb299 ≠ gb300));have n6_:=AsZ.mk ((by rw [hg];exact Nat.ne_of_gt (blk_lt (g:=gb299) (o := .cells #[.slice A0_0 l0_0.length c0_0,.slice A0_1 l0_1.length c0_1] 26 (0,0)) (by (with_reducible repeat (first|refine kdN ?_ _|refine kd ?_|refine ka ?_ _));exact BK299.out)):gb300 ≠ gb299));clear BK299;clear HB;have BK299:=n0_;have HB:=n1_;have BK300:=n2_;have GW300:=n3_;have GE300:=n4_;have NB299_300:=n5_;have NB300_299:=n6_;clear n0_ n1_ n2_ n3_ n4_ n5_ n6_;clear hb hbox hg;have hnb21:=NB299_300.out;have hnc21:=NB300_299.out;have hcz22_0:w20.cell? ⟨gb299,0,none⟩=some (.slice A0_0 l0_0.length c0_0):=(kc BK299.out 0).trans rfl;have hcz22_1:w20.cell? ⟨gb299,1,none⟩=some (.slice A0_1 l0_1.length c0_1):=(kc BK299.out 1).trans rfl;have hfz22_0:=kf BK299.out 0;have hfz22_1:=kf BK299.out 1;have hcz23_0:w20.cell? ⟨gb300,0,none⟩=some (.slice A1_0 l1_0.length c1_0):=(kc BK300.out 0).trans rfl;have hcz23_1:w20.cell? ⟨gb300,1,none⟩=some (.slice A1_1 l1_1.length c1_1):=(kc BK300.out 1).trans rfl;have hfz23_0:=kf BK300.out 0;have hfz23_1:=kf BK300.out 1)|((with_reducible refine gcl (f:=63) rfl ?_);refine goesL_ (some 9) rfl rfl Tryd.func63 (by kernel_rfl) rfl #[.slice A0_0 l0_0.length c0_0,.slice A1_0 l1_0.length c1_0] rfl (by (try simp only [zA,zC,zN]);first|done|rfl|(simp only [zM,zL];rfl)) ?_;(with_reducible refine (laws_eqIntS.calls k _ _ l0_0 _ _ l1_0 false _ ?side1 ?side2 ?side3 ?side4 A3.out).mono ?_);(case side1=>repeat (first|exact (Kd.C_below HR0_0.out HB.out)|(with_reducible refine Kd.C_alloc ?_ _)|(with_reducible refine Kd.C_drewN ?_ _)|(with_reducible refine Kd.C_drew ?_)));(case side2=>exact HC0_0.out);(case side3=>repeat (first|exact (Kd.C_below HR1_0.out HB.out)|(with_reducible refine Kd.C_alloc ?_ _)|(with_reducible refine Kd.C_drewN ?_ _)|(with_reducible refine Kd.C_drew ?_)));(case side4=>exact HC1_0.out);rintro e w' ⟨rfl,⟨nd,rfl⟩⟩;refine ⟨_,rfl,?_⟩))
   go_ret
   exact ⟨by first|rfl|(simp [errW_none,errW_some]<;>rfl)|(simp [*,errW_none,errW_some]<;>rfl),by repeat (first|(with_reducible first|exact HB.out|apply bwa|apply pbN|apply bw1|refine bws ?_ GE299.out|refine bws ?_ GE300.out)|exact HB.out)⟩
 subst c4
 have H1:((laws_eqTowerS.f k l0_1 l1_1).bind fun t302=>(if t302=true then (some true) else (some false)))=some r:=by rw [if_pos rfl] at H;exact H
 clear H
 have H:=H1
 clear H1
 replace H:=Option.bind_eq_some_iff.mp H
 obtain ⟨t302,A50,H⟩:=H
 replace H:(if t302=true then (some true) else (some false))=some r:=H
 have A5:=AsZ.mk A50
 clear A50
 by_cases c6:t302=true
 · subst c6
   have H1:(some true)=some r:=by rw [if_pos rfl] at H;exact H
   clear H
   have H:=H1
   clear H1
   obtain rfl:=zI H
   go_enter Tryd.func22,Tryd.ntmps22
   go_wp2_with (first|((with_reducible refine gate_dst (N:=2) rfl ?_);refine box_event ?hg (N:=2) ?hd (cs:=#[.slice A0_0 l0_0.length c0_0,.slice A0_1 l0_1.length c0_1]) (t:=26) ?hr ?_;(case hd=>rfl);(case hg=>rfl);(case hr=>first|(go_simp;done)|(go_simp;rfl));intro gb299 hg w7 hbox hb;have n0_:=AsZ.mk (bwp (by repeat (first|(with_reducible first|exact HB.out|apply bwa|apply pbN|apply bw1)|exact HB.out)) hb);have n1_:=AsZ.mk (hbox);have n2_:=AsZ.mk ((by rw [hg];exact (bwz (by repeat (first|(with_reducible first|exact HB.out|apply bwa|apply pbN|apply bw1)|exact HB.out))):w.heap.size≤gb299));have n3_:=AsZ.mk ((by rw [hg];exact (bwz (by repeat (first|(with_reducible first|exact HB.out|apply bwa|apply pbN|apply bw1)|exact HB.out))):w.heap.size≤gb299));clear HB;have HB:=n0_;have BK299:=n1_;have GW299:=n2_;have GE299:=n3_;clear n0_ n1_ n2_ n3_;clear hb hbox hg)|((with_reducible refine gate_dst (N:=3) rfl ?_);refine box_event ?hg (N:=3) ?hd (cs:=#[.slice A1_0 l1_0.length c1_0,.slice A1_1 l1_1.length c1_1]) (t:=26) ?hr ?_;(case hd=>rfl);(case hg=>rfl);(case hr=>first|(go_simp;done)|(go_simp;rfl));intro gb300 hg w8 hbox hb;have n0_:=AsZ.mk (kb (g:=gb299) (o := .cells #[.slice A0_0 l0_0.length c0_0,.slice A0_1 l0_1.length c0_1] 26 (0,0)) (by (with_reducible repeat (first|refine kdN ?_ _|refine kd ?_|refine ka ?_ _));exact BK299.out) hb);have n1_:=AsZ.mk (bwp (by repeat (first|(with_reducible first|exact HB.out|apply bwa|apply pbN|apply bw1|refine bws ?_ GE299.out)|exact HB.out)) hb);have n2_:=AsZ.mk (hbox);have n3_:=AsZ.mk ((by rw [hg];exact (bwz (by repeat (first|(with_reducible first|exact HB.out|apply bwa|apply pbN|apply bw1|refine bws ?_ GE299.out)|exact HB.out))):w.heap.size≤gb300));have n4_:=AsZ.mk ((by rw [hg];exact (bwz (by repeat (first|(with_reducible first|exact HB.out|apply bwa|apply pbN|apply bw1|refine bws ?_ GE299.out)|exact HB.out))):w.heap.size≤gb300));have n5_:=AsZ.mk ((by rw [hg];exact Nat.ne_of_lt (blk_lt (g:=gb299) (o := .cells #[.slice A0_0 l0_0.length c0_0,.slice A0_1 l0_1.length c0_1] 26 (0,0)) (by (with_reducible repeat (first|refine kdN ?_ _|refine kd ?_|refine ka ?_ _));exact BK299.out)):gb299 ≠ gb300));have n6_:=AsZ.mk ((by rw [hg];exact Nat.ne_of_gt (blk_lt (g:=gb299) (o := .cells #[.slice A0_0 l0_0.length c0_0,.slice A0_1 l0_1.length c0_1] 26 (0,0)) (by (with_reducible repeat (first|refine kdN ?_ _|refine kd ?_|refine ka ?_ _));exact BK299.out)):gb300 ≠ gb299));clear BK299;clear HB;have BK299:=n0_;have HB:=n1_;have BK300:=n2_;have GW300:=n3_;have GE300:=n4_;have NB299_300:=n5_;have NB300_299:=n6_;clear n0_ n1_ n2_ n3_ n4_ n5_ n6_;clear hb hbox hg;have hnb9:=NB299_300.out;have hnc9:=NB300_299.out;have hcz10_0:w8.cell? ⟨gb299,0,none⟩=some (.slice A0_0 l0_0.length c0_0):=(kc BK299.out 0).trans rfl;have hcz10_1:w8.cell? ⟨gb299,1,none⟩=some (.slice A0_1 l0_1.length c0_1):=(kc BK299.out 1).trans rfl;have hfz10_0:=kf BK299.out 0;have hfz10_1:=kf BK299.out 1;have hcz11_0:w8.cell? ⟨gb300,0,none⟩=some (.slice A1_0 l1_0.length c1_0):=(kc BK300.out 0).trans rfl;have hcz11_1:w8.cell? ⟨gb300,1,none⟩=some (.slice A1_1 l1_1.length c1_1):=(kc BK300.out 1).trans rfl;have hfz11_0:=kf BK300.out 0;have hfz11_1:=kf BK300.out 1)|((with_reducible refine gcl (f:=63) rfl ?_);refine goesL_ (some 9) rfl rfl Tryd.func63 (by kernel_rfl) rfl #[.slice A0_0 l0_0.length c0_0,.slice A1_0 l1_0.length c1_0] rfl (by (try simp only [zA,zC,zN]);first|done|rfl|(simp only [zM,zL];rfl)) ?_;(with_reducible refine (laws_eqIntS.calls k _ _ l0_0 _ _ l1_0 true _ ?side1 ?side2 ?side3 ?side4 A3.out).mono ?_);(case side1=>repeat (first|exact (Kd.C_below HR0_0.out HB.out)|(with_reducible refine Kd.C_alloc ?_ _)|(with_reducible refine Kd.C_drewN ?_ _)|(with_reducible refine Kd.C_drew ?_)));(case side2=>exact HC0_0.out);(case side3=>repeat (first|exact (Kd.C_below HR1_0.out HB.out)|(with_reducible refine Kd.C_alloc ?_ _)|(with_reducible refine Kd.C_drewN ?_ _)|(with_reducible refine Kd.C_drew ?_)));(case side4=>exact HC1_0.out);rintro e w' ⟨rfl,⟨nd,rfl⟩⟩;refine ⟨_,rfl,?_⟩)|((with_reducible refine gcl (f:=64) rfl ?_);refine goesL_ (some 15) rfl rfl Tryd.func64 (by kernel_rfl) rfl #[.slice A0_1 l0_1.length c0_1,.slice A1_1 l1_1.length c1_1] rfl (by (try simp only [zA,zC,zN]);first|done|rfl|(simp only [zM,zL];rfl)) ?_;(with_reducible refine (laws_eqTowerS.calls k _ _ l0_1 _ _ l1_1 true _ ?side1 ?side2 ?side3 ?side4 A5.out).mono ?_);(case side1=>repeat (first|exact (Kd.C_below HR0_1.out (by repeat (first|(with_reducible first|exact HB.out|apply bwa|apply pbN|apply bw1|refine bws ?_ GE299.out|refine bws ?_ GE300.out)|exact HB.out)))|(with_reducible refine Kd.C_alloc ?_ _)|(with_reducible refine Kd.C_drewN ?_ _)|(with_reducible refine Kd.C_drew ?_)));(case side2=>exact HC0_1.out);(case side3=>repeat (first|exact (Kd.C_below HR1_1.out (by repeat (first|(with_reducible first|exact HB.out|apply bwa|apply pbN|apply bw1|refine bws ?_ GE299.out|refine bws ?_ GE300.out)|exact HB.out)))|(with_reducible refine Kd.C_alloc ?_ _)|(with_reducible refine Kd.C_drewN ?_ _)|(with_reducible refine Kd.C_drew ?_)));(case side4=>exact HC1_1.out);rintro e w12 ⟨rfl,hb⟩;refine ⟨_,rfl,?_⟩;have n0_:=AsZ.mk (kb (g:=gb299) (o := .cells #[.slice A0_0 l0_0.length c0_0,.slice A0_1 l0_1.length c0_1] 26 (0,0)) (by (with_reducible repeat (first|refine kdN ?_ _|refine kd ?_|refine ka ?_ _));exact BK299.out) hb);have n1_:=AsZ.mk (kb (g:=gb300) (o := .cells #[.slice A1_0 l1_0.length c1_0,.slice A1_1 l1_1.length c1_1] 26 (0,0)) (by (with_reducible repeat (first|refine kdN ?_ _|refine kd ?_|refine ka ?_ _));exact BK300.out) hb);have n2_:=AsZ.mk (bwp (by repeat (first|(with_reducible first|exact HB.out|apply bwa|apply pbN|apply bw1|refine bws ?_ GE299.out|refine bws ?_ GE300.out)|exact HB.out)) hb);clear BK299;clear BK300;clear HB;have BK299:=n0_;have BK300:=n1_;have HB:=n2_;clear n0_ n1_ n2_;(try clear hb);(try clear hb2);(try clear hk);(try clear hi)))
   go_ret
   exact ⟨by first|rfl|(simp [errW_none,errW_some]<;>rfl)|(simp [*,errW_none,errW_some]<;>rfl),by repeat (first|(with_reducible first|exact HB.out|apply bwa|apply pbN|apply bw1|refine bws ?_ GE299.out|refine bws ?_ GE300.out)|exact HB.out)⟩
 replace c6:=Bool.eq_false_iff.mpr c6
 subst c6
 have H1:(some false)=some r:=by rw [if_neg (show ¬ (false=true) by decide)] at H;exact H
 clear H
 have H:=H1
 clear H1
 obtain rfl:=zI H
 go_enter Tryd.func22,Tryd.ntmps22
 go_wp2_with (first|((with_reducible refine gate_dst (N:=2) rfl ?_);refine box_event ?hg (N:=2) ?hd (cs:=#[.slice A0_0 l0_0.length c0_0,.slice A0_1 l0_1.length c0_1]) (t:=26) ?hr ?_;(case hd=>rfl);(case hg=>rfl);(case hr=>first|(go_simp;done)|(go_simp;rfl));intro gb299 hg w13 hbox hb;have n0_:=AsZ.mk (bwp (by repeat (first|(with_reducible first|exact HB.out|apply bwa|apply pbN|apply bw1)|exact HB.out)) hb);have n1_:=AsZ.mk (hbox);have n2_:=AsZ.mk ((by rw [hg];exact (bwz (by repeat (first|(with_reducible first|exact HB.out|apply bwa|apply pbN|apply bw1)|exact HB.out))):w.heap.size≤gb299));have n3_:=AsZ.mk ((by rw [hg];exact (bwz (by repeat (first|(with_reducible first|exact HB.out|apply bwa|apply pbN|apply bw1)|exact HB.out))):w.heap.size≤gb299));clear HB;have HB:=n0_;have BK299:=n1_;have GW299:=n2_;have GE299:=n3_;clear n0_ n1_ n2_ n3_;clear hb hbox hg)|((with_reducible refine gate_dst (N:=3) rfl ?_);refine box_event ?hg (N:=3) ?hd (cs:=#[.slice A1_0 l1_0.length c1_0,.slice A1_1 l1_1.length c1_1]) (t:=26) ?hr ?_;(case hd=>rfl);(case hg=>rfl);(case hr=>first|(go_simp;done)|(go_simp;rfl));intro gb300 hg w14 hbox hb;have n0_:=AsZ.mk (kb (g:=gb299) (o := .cells #[.slice A0_0 l0_0.length c0_0,.slice A0_1 l0_1.length c0_1] 26 (0,0)) (by (with_reducible repeat (first|refine kdN ?_ _|refine kd ?_|refine ka ?_ _));exact BK299.out) hb);have n1_:=AsZ.mk (bwp (by repeat (first|(with_reducible first|exact HB.out|apply bwa|apply pbN|apply bw1|refine bws ?_ GE299.out)|exact HB.out)) hb);have n2_:=AsZ.mk (hbox);have n3_:=AsZ.mk ((by rw [hg];exact (bwz (by repeat (first|(with_reducible first|exact HB.out|apply bwa|apply pbN|apply bw1|refine bws ?_ GE299.out)|exact HB.out))):w.heap.size≤gb300));have n4_:=AsZ.mk ((by rw [hg];exact (bwz (by repeat (first|(with_reducible first|exact HB.out|apply bwa|apply pbN|apply bw1|refine bws ?_ GE299.out)|exact HB.out))):w.heap.size≤gb300));have n5_:=AsZ.mk ((by rw [hg];exact Nat.ne_of_lt (blk_lt (g:=gb299) (o := .cells #[.slice A0_0 l0_0.length c0_0,.slice A0_1 l0_1.length c0_1] 26 (0,0)) (by (with_reducible repeat (first|refine kdN ?_ _|refine kd ?_|refine ka ?_ _));exact BK299.out)):gb299 ≠ gb300));have n6_:=AsZ.mk ((by rw [hg];exact Nat.ne_of_gt (blk_lt (g:=gb299) (o := .cells #[.slice A0_0 l0_0.length c0_0,.slice A0_1 l0_1.length c0_1] 26 (0,0)) (by (with_reducible repeat (first|refine kdN ?_ _|refine kd ?_|refine ka ?_ _));exact BK299.out)):gb300 ≠ gb299));clear BK299;clear HB;have BK299:=n0_;have HB:=n1_;have BK300:=n2_;have GW300:=n3_;have GE300:=n4_;have NB299_300:=n5_;have NB300_299:=n6_;clear n0_ n1_ n2_ n3_ n4_ n5_ n6_;clear hb hbox hg;have hnb15:=NB299_300.out;have hnc15:=NB300_299.out;have hcz16_0:w14.cell? ⟨gb299,0,none⟩=some (.slice A0_0 l0_0.length c0_0):=(kc BK299.out 0).trans rfl;have hcz16_1:w14.cell? ⟨gb299,1,none⟩=some (.slice A0_1 l0_1.length c0_1):=(kc BK299.out 1).trans rfl;have hfz16_0:=kf BK299.out 0;have hfz16_1:=kf BK299.out 1;have hcz17_0:w14.cell? ⟨gb300,0,none⟩=some (.slice A1_0 l1_0.length c1_0):=(kc BK300.out 0).trans rfl;have hcz17_1:w14.cell? ⟨gb300,1,none⟩=some (.slice A1_1 l1_1.length c1_1):=(kc BK300.out 1).trans rfl;have hfz17_0:=kf BK300.out 0;have hfz17_1:=kf BK300.out 1)|((with_reducible refine gcl (f:=63) rfl ?_);refine goesL_ (some 9) rfl rfl Tryd.func63 (by kernel_rfl) rfl #[.slice A0_0 l0_0.length c0_0,.slice A1_0 l1_0.length c1_0] rfl (by (try simp only [zA,zC,zN]);first|done|rfl|(simp only [zM,zL];rfl)) ?_;(with_reducible refine (laws_eqIntS.calls k _ _ l0_0 _ _ l1_0 true _ ?side1 ?side2 ?side3 ?side4 A3.out).mono ?_);(case side1=>repeat (first|exact (Kd.C_below HR0_0.out HB.out)|(with_reducible refine Kd.C_alloc ?_ _)|(with_reducible refine Kd.C_drewN ?_ _)|(with_reducible refine Kd.C_drew ?_)));(case side2=>exact HC0_0.out);(case side3=>repeat (first|exact (Kd.C_below HR1_0.out HB.out)|(with_reducible refine Kd.C_alloc ?_ _)|(with_reducible refine Kd.C_drewN ?_ _)|(with_reducible refine Kd.C_drew ?_)));(case side4=>exact HC1_0.out);rintro e w' ⟨rfl,⟨nd,rfl⟩⟩;refine ⟨_,rfl,?_⟩)|((with_reducible refine gcl (f:=64) rfl ?_);refine goesL_ (some 15) rfl rfl Tryd.func64 (by kernel_rfl) rfl #[.slice A0_1 l0_1.length c0_1,.slice A1_1 l1_1.length c1_1] rfl (by (try simp only [zA,zC,zN]);first|done|rfl|(simp only [zM,zL];rfl)) ?_;(with_reducible refine (laws_eqTowerS.calls k _ _ l0_1 _ _ l1_1 false _ ?side1 ?side2 ?side3 ?side4 A5.out).mono ?_);(case side1=>repeat (first|exact (Kd.C_below HR0_1.out (by repeat (first|(with_reducible first|exact HB.out|apply bwa|apply pbN|apply bw1|refine bws ?_ GE299.out|refine bws ?_ GE300.out)|exact HB.out)))|(with_reducible refine Kd.C_alloc ?_ _)|(with_reducible refine Kd.C_drewN ?_ _)|(with_reducible refine Kd.C_drew ?_)));(case side2=>exact HC0_1.out);(case side3=>repeat (first|exact (Kd.C_below HR1_1.out (by repeat (first|(with_reducible first|exact HB.out|apply bwa|apply pbN|apply bw1|refine bws ?_ GE299.out|refine bws ?_ GE300.out)|exact HB.out)))|(with_reducible refine Kd.C_alloc ?_ _)|(with_reducible refine Kd.C_drewN ?_ _)|(with_reducible refine Kd.C_drew ?_)));(case side4=>exact HC1_1.out);rintro e w18 ⟨rfl,hb⟩;refine ⟨_,rfl,?_⟩;have n0_:=AsZ.mk (kb (g:=gb299) (o := .cells #[.slice A0_0 l0_0.length c0_0,.slice A0_1 l0_1.length c0_1] 26 (0,0)) (by (with_reducible repeat (first|refine kdN ?_ _|refine kd ?_|refine ka ?_ _));exact BK299.out) hb);have n1_:=AsZ.mk (kb (g:=gb300) (o := .cells #[.slice A1_0 l1_0.length c1_0,.slice A1_1 l1_1.length c1_1] 26 (0,0)) (by (with_reducible repeat (first|refine kdN ?_ _|refine kd ?_|refine ka ?_ _));exact BK300.out) hb);have n2_:=AsZ.mk (bwp (by repeat (first|(with_reducible first|exact HB.out|apply bwa|apply pbN|apply bw1|refine bws ?_ GE299.out|refine bws ?_ GE300.out)|exact HB.out)) hb);clear BK299;clear BK300;clear HB;have BK299:=n0_;have BK300:=n1_;have HB:=n2_;clear n0_ n1_ n2_;(try clear hb);(try clear hb2);(try clear hk);(try clear hi)))
 go_ret
 exact ⟨by first|rfl|(simp [errW_none,errW_some]<;>rfl)|(simp [*,errW_none,errW_some]<;>rfl),by repeat (first|(with_reducible first|exact HB.out|apply bwa|apply pbN|apply bw1|refine bws ?_ GE299.out|refine bws ?_ GE300.out)|exact HB.out)⟩
/-! ### laws_markIntS: function 65 -/
def laws_markIntS.l0:Nat→List Int→Int→Int→Option (Int × List Int)
  |0,_,_,_=>none
  |k + 1,x0,x1,x5=>if x5 < (x0.length:Int) then (if 0≤x5 then (laws_markIntS.l0 k (x0.set (x5:Int).toNat x1) (wrap64 (x1 + 1)) (wrap64 (x5 + 1))) else (none)) else (some (x1,x0))
def laws_markIntS.f (k:Nat) (l0:List Int) (a1:Int):Option (Int × List Int):=laws_markIntS.l0 k l0 a1 0
theorem laws_markIntS.mono_l:∀ k,(∀ y0 y1 y2,LeO (laws_markIntS.l0 k y0 y1 y2) (laws_markIntS.l0 (k + 1) y0 y1 y2))
  |0=>fun _ _ _ r h=>by simp [laws_markIntS.l0] at h
  |k + 1=>by
    have ih0:=laws_markIntS.mono_l k
    · intro y0 y1 y2
      unfold laws_markIntS.l0
      repeat' first
      |(with_reducible exact ih0 _ _ _)
      |(with_reducible exact LeO.refl _)
      |(with_reducible exact LeO.none _)
      |(with_reducible refine LeO.ite ?_ ?_)
      |(with_reducible refine LeO.bind ?_ (fun _=>?_))
      |exact ih0 _ _ _
      |exact LeO.none _
      |refine LeO.ite ?_ ?_
      |refine LeO.bind ?_ (fun _=>?_)
theorem laws_markIntS.mono:∀ a0 a1 k,LeO (laws_markIntS.f k a0 a1) (laws_markIntS.f (k + 1) a0 a1):=by
  intro a0 a1 k
  have ih0:=laws_markIntS.mono_l k
  unfold laws_markIntS.f
  repeat' first
      |(with_reducible exact ih0 _ _ _)
      |(with_reducible exact LeO.refl _)
      |(with_reducible exact LeO.none _)
      |(with_reducible refine LeO.ite ?_ ?_)
      |(with_reducible refine LeO.bind ?_ (fun _=>?_))
      |exact ih0 _ _ _
      |exact LeO.none _
      |refine LeO.ite ?_ ?_
      |refine LeO.bind ?_ (fun _=>?_)
set_option maxHeartbeats 8000000 in
set_option maxRecDepth 100000 in
theorem laws_markIntS.calls (k:Nat) (P0_:Nat→Prop) (u9000_:Value) (l0:List Int) (a1:Int) (r1:Int) (r2:List Int) (w0 w:World) (hB:Below w0.heap.size w0 w) (ho0:Kd.R (Kd.int .i64) 3 w w0.heap.size P0_ u9000_ l0) (h:laws_markIntS.f k l0 a1=some (r1,r2)) :
    Calls Tryd.prog 65 #[u9000_,.int .i64 a1] w fun e w'=>e = .returned (.int .i64 r1)∧Kd.R (Kd.int .i64) 3 w' w0.heap.size (fun k_=>(P0_ k_∨w.heap.size≤k_)) u9000_ r2∧Below w0.heap.size w0 w'∧Kept w w' (fun k_=>P0_ k_):=by
 have HO0:=AsZ.mk (show Kd.R (Kd.int .i64) 3 w w0.heap.size (fun k_=>(P0_ k_∨w.heap.size≤k_)) u9000_ l0 from Kd.R_mono ho0 (fun k_ hk=>(.inl hk)))
 have HK:=AsZ.mk (Kept.refl w (fun k_=>P0_ k_))
 have HW0:=AsZ.mk hB.size
 have HB:=AsZ.mk hB
 clear hB
 have H:(laws_markIntS.l0 k l0 a1 0)=some (r1,r2):=h
 clear h
 have H':=AsZ.mk H
 clear H
 go_enter Tryd.func65,Tryd.ntmps65
 go_wp2
 go_loopg [1,5] k (fun kq v1 v5 w' => ∃ (x0_1:List Int) (x1_1:Int) (x5_1:Int),v1 = .int .i64 x1_1∧v5 = .int .i64 x5_1∧AsZ (laws_markIntS.l0 kq x0_1 x1_1 x5_1=some (r1,r2))∧AsZ (kq≤k)∧AsZ (Kd.R (Kd.int .i64) 3 w' w0.heap.size (fun k_=>(P0_ k_∨w.heap.size≤k_)) u9000_ x0_1)∧AsZ (Kept w w' (fun k_=>P0_ k_))∧AsZ (Below w0.heap.size w0 w'))
 case atStart=>exact ⟨(l0),(a1),(0),(by first|rfl|(simp;done)|(simp [*];done)),(by first|rfl|(simp;done)|(simp [*];done)),H',⟨Nat.le_refl _⟩,⟨by (with_reducible repeat (first|apply Kd.R_alloc|apply Kd.R_drewN|apply Kd.R_drew));exact HO0.out⟩,⟨by repeat (first|(with_reducible first|exact HK.out|apply Kept.alloc|apply Kept.drewN|apply Kept.drew)|exact HK.out)⟩,⟨by repeat (first|(with_reducible first|exact HB.out|apply bwa|apply pbN|apply bw1)|exact HB.out)⟩⟩
 case round =>
  clear H'
  try clear p2
  obtain ⟨x0_1,x1_1,x5_1,rfl,rfl,HA,HK1,HO_0,HK,HB⟩:=hrel
  cases gk with
  |zero=>exact absurd HA.out (by simp [laws_markIntS.l0])
  |succ k1 =>
   have H:=HA.out
   clear HA
   simp only [laws_markIntS.l0] at H
   by_cases c3:x5_1 < (x0_1.length:Int)
   rotate_left
   · rw [if_neg c3] at H
     have c3b0:decide (x5_1 < (x0_1.length:Int))=false:=decide_eq_false c3
     clear c3
     simp only [Option.some.injEq,Prod.mk.injEq] at H
     obtain ⟨rfl,rfl⟩:=H
     obtain ⟨Ao9,co9,eo9⟩:=Kd.R_slice HO_0.out
     subst eo9
     go_wp2
     go_ret
     exact ⟨by first|rfl|(simp [errW_none,errW_some]<;>rfl)|(simp [*,errW_none,errW_some]<;>rfl),by (with_reducible repeat (first|apply Kd.R_alloc|apply Kd.R_drewN|apply Kd.R_drew));exact HO_0.out,by repeat (first|(with_reducible first|exact HB.out|apply bwa|apply pbN|apply bw1)|exact HB.out),by repeat (first|(with_reducible first|exact HK.out|apply Kept.alloc|apply Kept.drewN|apply Kept.drew)|exact HK.out)⟩
   rw [if_pos c3] at H
   have c3b0:decide (x5_1 < (x0_1.length:Int))=true:=zE c3
   clear c3
   by_cases c4:0≤x5_1
   rotate_left
   · rw [if_neg c4] at H
     exact absurd H (by simp)
   rw [if_pos c4] at H
   have c4b0:decide (0≤x5_1)=true:=zE c4
   clear c4
   obtain ⟨y303,hy303⟩:∃ y_:List Int,y_=(x0_1.set (x5_1:Int).toNat x1_1):=⟨_,rfl⟩
   replace H:(laws_markIntS.l0 k1 y303 (wrap64 (x1_1 + 1)) (wrap64 (x5_1 + 1)))=some (r1,r2):=by first|(rw [hy303];with_reducible exact H)|(have H2_:=(Option.bind_some _ _).symm.trans H;rw [hy303];with_reducible exact H2_)|(have H2_:=(Option.bind_some _ _).symm.trans H;with_reducible exact H2_)|with_reducible exact H|(rw [hy303];exact H)|exact H
   have Ny303:=AsZ.mk hy303
   clear hy303
   have H':=AsZ.mk H
   clear H
   obtain ⟨Ao6,co6,eo6⟩:=Kd.R_slice HO_0.out
   subst eo6
   have p5:0≤(x5_1:Int):=zD (by first|(with_reducible assumption)|assumption)
   have q5:(x5_1:Int) < ((x0_1.length:Int):Int):=zD (by first|(with_reducible assumption)|assumption)
   obtain ⟨go5,co5,eo5,gb5,gl5,cl5,HG5⟩:=Kd.R_form HO_0.out (by omega)
   (first|cases eo5|(injection eo5 with ea_ en_ ec_;(first|subst ea_|(injection ea_ with ea_;subst ea_));subst ec_;clear en_))
   have GB5:=AsZ.mk gb5
   have GG5:=AsZ.mk HG5
   clear gb5 gl5 HG5
   have HMgo5:=AsZ.mk (show (P0_ go5∨w.heap.size≤go5) from (HO_0.out.1 _ rfl))
   obtain ⟨hx5_0,hf5_0⟩:=Kd.R_celln 0 HO_0.out (x5_1:Int) p5 q5
   replace p5:=eq_true p5
   replace q5:=eq_true q5
   have HP7:=Kd.R_putg HO_0.out (x5_1:Int) x1_1
   go_wp2_with (first|((with_reducible refine gate_store (t:=3) (p:=15) rfl ?_);refine store_event (t:=3) (p:=15) (v:=?vo_w8) (w1:=(wr.setCell ⟨go5,(x5_1:Int).toNat,none⟩ (.int .i64 x1_1))) ?hg ?ho ?hn ?hr ?_;(case ho=>rfl);(case hg=>rfl);(case hn=>rfl);(case hr=>first|(go_simp;done)|(go_simp;rfl));intro w8 hw;have hg:wr.grownBy w8 (some go5):=(by rw [hw];exact HP7.2);have hp_:Kd.R (Kd.int .i64) 3 w8 w0.heap.size (fun k_=>(P0_ k_∨w.heap.size≤k_)) (.slice (some ⟨go5,0,none⟩) x0_1.length co6) y303:=(by rw [hw,Ny303.out];exact HP7.1);clear HP7;have n0_:=AsZ.mk (hp_);have n1_:=AsZ.mk ((by rw [hw];exact bws (HB.out) GB5.out:Below w0.heap.size w0 w8));have n2_:=AsZ.mk (Kept.of_grown (S:=(fun k_=>P0_ k_)) hg (by repeat (first|(with_reducible first|exact HK.out|apply Kept.alloc|apply Kept.drewN|apply Kept.drew)|exact HK.out)) (fun k_ e_=>(HO_0.out.1 k_ e_)));clear HO_0;clear HB;clear HK;have HO_0:=n0_;have HB:=n1_;have HK:=n2_;clear n0_ n1_ n2_;clear hg hw hp_))
   go_roundg k1
   case measure=>have:=HK1.out;omega
   case rel=>exact ⟨(y303),(wrap64 (x1_1 + 1)),(wrap64 (x5_1 + 1)),(by first|rfl|(simp;done)|(simp [*];done)),(by first|rfl|(simp;done)|(simp [*];done)),H',⟨by have:=HK1.out;omega⟩,⟨by (with_reducible repeat (first|apply Kd.R_alloc|apply Kd.R_drewN|apply Kd.R_drew));exact HO_0.out⟩,⟨by repeat (first|(with_reducible first|exact HK.out|apply Kept.alloc|apply Kept.drewN|apply Kept.drew)|exact HK.out)⟩,⟨by repeat (first|(with_reducible first|exact HB.out|apply bwa|apply pbN|apply bw1)|exact HB.out)⟩⟩
/-! ### laws_markText: function 67 -/
def laws_markText.l0:Nat→Int→ByteArray→Option (ByteArray)
  |0,_,_=>none
  |k + 1,x0,x3=>if x0 > 0 then ((some (([(wrap64 (48 + (Int.tmod x0 10))) % 256]:List Int):List Int)).bind fun y304=>(if (strOfNums y304).size + x3.size≤9223372036854775807 then (laws_markText.l0 k (wrap64 (Int.tdiv x0 10)) ((strOfNums y304) ++ x3)) else (none))) else (if 1 + x3.size≤9223372036854775807 then (some ((⟨#[109]⟩:ByteArray) ++ x3)) else (none))
def laws_markText.f (k:Nat) (a0:Int):Option (ByteArray):=if a0≤0 then (some (⟨#[109,48]⟩:ByteArray)) else (laws_markText.l0 k a0 (⟨#[]⟩:ByteArray))
theorem laws_markText.mono_l:∀ k,(∀ y0 y1,LeO (laws_markText.l0 k y0 y1) (laws_markText.l0 (k + 1) y0 y1))
  |0=>fun _ _ r h=>by simp [laws_markText.l0] at h
  |k + 1=>by
    have ih0:=laws_markText.mono_l k
    · intro y0 y1
      unfold laws_markText.l0
      repeat' first
      |(with_reducible exact ih0 _ _)
      |(with_reducible exact LeO.refl _)
      |(with_reducible exact LeO.none _)
      |(with_reducible refine LeO.ite ?_ ?_)
      |(with_reducible refine LeO.bind ?_ (fun _=>?_))
      |exact ih0 _ _
      |exact LeO.none _
      |refine LeO.ite ?_ ?_
      |refine LeO.bind ?_ (fun _=>?_)
theorem laws_markText.mono:∀ a0 k,LeO (laws_markText.f k a0) (laws_markText.f (k + 1) a0):=by
  intro a0 k
  have ih0:=laws_markText.mono_l k
  unfold laws_markText.f
  repeat' first
      |(with_reducible exact ih0 _ _)
      |(with_reducible exact LeO.refl _)
      |(with_reducible exact LeO.none _)
      |(with_reducible refine LeO.ite ?_ ?_)
      |(with_reducible refine LeO.bind ?_ (fun _=>?_))
      |exact ih0 _ _
      |exact LeO.none _
      |refine LeO.ite ?_ ?_
      |refine LeO.bind ?_ (fun _=>?_)
set_option maxHeartbeats 8000000 in
set_option maxRecDepth 100000 in
theorem laws_markText.calls (k:Nat) (a0:Int) (r:ByteArray) (w:World) (h:laws_markText.f k a0=some r) :
    Calls Tryd.prog 67 #[.int .i64 a0] w fun e w'=>e = .returned (.string r)∧Below w.heap.size w w':=by
 have HB:=AsZ.mk (Below.refl w.heap.size w)
 have H:(if a0≤0 then (some (⟨#[109,48]⟩:ByteArray)) else (laws_markText.l0 k a0 (⟨#[]⟩:ByteArray)))=some r:=h
 clear h
 by_cases c2:a0≤0
 · rw [if_pos c2] at H
   have c2b0:decide (a0≤0)=true:=zE c2
   clear c2
   obtain rfl:=zI H
   go_enter Tryd.func67,Tryd.ntmps67
   go_wp2
   go_ret
   exact ⟨by first|rfl|(simp [errW_none,errW_some]<;>rfl)|(simp [*,errW_none,errW_some]<;>rfl),by repeat (first|(with_reducible first|exact HB.out|apply bwa|apply pbN|apply bw1)|exact HB.out)⟩
 rw [if_neg c2] at H
 have c2b0:decide (a0≤0)=false:=decide_eq_false c2
 clear c2
 have H':=AsZ.mk H
 clear H
 go_enter Tryd.func67,Tryd.ntmps67
 go_wp2
 go_loopg [0,3] k (fun kq v0 v3 w' => ∃ (x0_1:Int) (x3_1:ByteArray),v0 = .int .i64 x0_1∧v3 = .string x3_1∧AsZ (laws_markText.l0 kq x0_1 x3_1=some r)∧AsZ (kq≤k)∧AsZ (Below w.heap.size w w'))
 case atStart=>exact ⟨(a0),((⟨#[]⟩:ByteArray)),(by first|rfl|(simp;done)|(simp [*];done)),(by first|rfl|(simp;done)|(simp [*];done)),H',⟨Nat.le_refl _⟩,⟨by repeat (first|(with_reducible first|exact HB.out|apply bwa|apply pbN|apply bw1)|exact HB.out)⟩⟩
 case round =>
  clear H'
  try clear c2
  try clear c2b0
  try clear p2
  obtain ⟨x0_1,x3_1,rfl,rfl,HA,HK1,HB⟩:=hrel
  cases gk with
  |zero=>exact absurd HA.out (by simp [laws_markText.l0])
  |succ k1 =>
   have H:=HA.out
   clear HA
   simp only [laws_markText.l0] at H
   by_cases c3:x0_1 > 0
   rotate_left
   · rw [if_neg c3] at H
     have c3b0:decide (0 < x0_1)=false:=decide_eq_false c3
     clear c3
     by_cases c8:1 + x3_1.size≤9223372036854775807
     rotate_left
     · rw [if_neg c8] at H
       exact absurd H (by simp)
     rw [if_pos c8] at H
     have c8b0:=eq_true c8
     have c8b1:decide (1 + x3_1.size≤9223372036854775807)=true:=zE c8
     try have c8b2:(9223372036854775807 < 1 + x3_1.size)=False:=eq_false (Nat.not_lt.2 c8)
     obtain rfl:=zI H
     go_wp2
     go_ret
     exact ⟨by first|rfl|(simp [errW_none,errW_some]<;>rfl)|(simp [*,errW_none,errW_some]<;>rfl),by repeat (first|(with_reducible first|exact HB.out|apply bwa|apply pbN|apply bw1)|exact HB.out)⟩
   rw [if_pos c3] at H
   have c3b0:decide (0 < x0_1)=true:=zE c3
   clear c3
   obtain ⟨y304,hy304⟩:∃ y_:List Int,y_=(([(wrap64 (48 + (Int.tmod x0_1 10))) % 256]:List Int)):=⟨_,rfl⟩
   replace H:(if (strOfNums y304).size + x3_1.size≤9223372036854775807 then (laws_markText.l0 k1 (wrap64 (Int.tdiv x0_1 10)) ((strOfNums y304) ++ x3_1)) else (none))=some r:=by first|(rw [hy304];with_reducible exact H)|(have H2_:=(Option.bind_some _ _).symm.trans H;rw [hy304];with_reducible exact H2_)|(have H2_:=(Option.bind_some _ _).symm.trans H;with_reducible exact H2_)|with_reducible exact H|(rw [hy304];exact H)|exact H
   have Ny304:=AsZ.mk hy304
   clear hy304
   by_cases c4:(strOfNums y304).size + x3_1.size≤9223372036854775807
   rotate_left
   · rw [if_neg c4] at H
     exact absurd H (by simp)
   rw [if_pos c4] at H
   have c4b0:=eq_true c4
   have c4b1:decide ((strOfNums y304).size + x3_1.size≤9223372036854775807)=true:=zE c4
   try have c4b2:(9223372036854775807 < (strOfNums y304).size + x3_1.size)=False:=eq_false (Nat.not_lt.2 c4)
   have H':=AsZ.mk H
   clear H
   go_wp2_with (first|((with_reducible refine gate_dst (N:=12) rfl ?_);refine Kd.R_lit (Kd.int .u8) _ 5 ?hg (N:=12) ?hd (xs:=([(wrap64 (48 + (Int.tmod x0_1 10))) % 256]:List Int)) (inner:=[.int .u8 ((wrap64 (48 + (Int.tmod x0_1 10))) % 256)]) (ok:=fun _=>True) (okp:=fun _=>True) ?hr ?hp (fun _ hk=>hk) trivial (Below.refl _ _) (Nat.le_refl _) (by simp) ?_;(case hd=>rfl);(case hg=>rfl);(case hr=>first|(go_simp;done)|(go_simp;rfl));(case hp=>exact (Reps.one (show Kd.M (Kd.int .u8) _ _ _ ((wrap64 (48 + (Int.tmod x0_1 10))) % 256) [.int .u8 ((wrap64 (48 + (Int.tmod x0_1 10))) % 256)] from rfl) (Reps.none _ _)));intro v305 w5 ho6 hb hg_ hnew_;clear hg_ hnew_;(first|rw [← Ny304.out] at ho6|(simp only [Int.reduceToNat] at ho6;rw [← Ny304.out] at ho6));have n0_:=AsZ.mk (Kd.R_lower ho6 (bwz (by repeat (first|(with_reducible first|exact HB.out|apply bwa|apply pbN|apply bw1)|exact HB.out))));have n1_:=AsZ.mk (bwp (by repeat (first|(with_reducible first|exact HB.out|apply bwa|apply pbN|apply bw1)|exact HB.out)) hb);clear HB;have HO306:=n0_;have HB:=n1_;clear n0_ n1_;clear hb ho6;have hcv7:=own_string (P:=Tryd.prog) Tryd.underlying22 Tryd.underlying5 Tryd.underlying9 (Kd.own_of_R HO306.out)))
   go_roundg k1
   case measure=>have:=HK1.out;omega
   case rel=>exact ⟨(wrap64 (Int.tdiv x0_1 10)),((strOfNums y304) ++ x3_1),(by first|rfl|(simp;done)|(simp [*];done)),(by first|rfl|(simp;done)|(simp [*];done)),H',⟨by have:=HK1.out;omega⟩,⟨by repeat (first|(with_reducible first|exact HB.out|apply bwa|apply pbN|apply bw1)|exact HB.out)⟩⟩
/-! ### laws_markTowerS: function 66 -/
def laws_markTowerS.l0:Nat→List (S77)→Int→Int→Option (Int × (List (S77)))
  |0,_,_,_=>none
  |k + 1,x0,x1,x5=>if x5 < (x0.length:Int) then ((laws_markText.f k x1).bind fun t307=>(if 0≤x5 then ((some (x0.set (x5:Int).toNat (⟨(⟨t307,(rd_T77 x0 x5).f0.f1,(rd_T77 x0 x5).f0.f2,(rd_T77 x0 x5).f0.f3⟩:S28),(rd_T77 x0 x5).f1⟩:S77):List (S77))).bind fun y308=>((some (y308.set (x5:Int).toNat (⟨(⟨(rd_T77 y308 x5).f0.f0,wrap64 (x1 + 1),(rd_T77 y308 x5).f0.f2,(rd_T77 y308 x5).f0.f3⟩:S28),(rd_T77 y308 x5).f1⟩:S77):List (S77))).bind fun y309=>((some (y309.set (x5:Int).toNat (⟨(⟨(rd_T77 y309 x5).f0.f0,(rd_T77 y309 x5).f0.f1,wrap64 ((wrap64 (x1 + 1)) + 1),(rd_T77 y309 x5).f0.f3⟩:S28),(rd_T77 y309 x5).f1⟩:S77):List (S77))).bind fun y310=>((laws_markText.f k (wrap64 ((wrap64 ((wrap64 (x1 + 1)) + 1)) + 1))).bind fun t311=>((some (y310.set (x5:Int).toNat (⟨(⟨(rd_T77 y310 x5).f0.f0,(rd_T77 y310 x5).f0.f1,(rd_T77 y310 x5).f0.f2,t311⟩:S28),(rd_T77 y310 x5).f1⟩:S77):List (S77))).bind fun y312=>((laws_markIntS.f k ((rd_T77 y312 x5).f1) (wrap64 ((wrap64 ((wrap64 ((wrap64 (x1 + 1)) + 1)) + 1)) + 1))).bind fun bt314=>(laws_markTowerS.l0 k (y312.set (x5:Int).toNat (⟨(rd_T77 y312 x5).f0,bt314.2⟩:S77)) bt314.1 (wrap64 (x5 + 1))))))))) else (none))) else (some (x1,x0))
def laws_markTowerS.f (k:Nat) (l0:List (S77)) (a1:Int):Option (Int × (List (S77))):=laws_markTowerS.l0 k l0 a1 0
theorem laws_markTowerS.mono_l:∀ k,(∀ y0 y1 y2,LeO (laws_markTowerS.l0 k y0 y1 y2) (laws_markTowerS.l0 (k + 1) y0 y1 y2))
  |0=>fun _ _ _ r h=>by simp [laws_markTowerS.l0] at h
  |k + 1=>by
    have ih0:=laws_markTowerS.mono_l k
    · intro y0 y1 y2
      unfold laws_markTowerS.l0
      repeat' first
      |(with_reducible exact ih0 _ _ _)
      |(with_reducible exact laws_markIntS.mono _ _ _)
      |(with_reducible exact laws_markText.mono _ _)
      |(with_reducible exact LeO.refl _)
      |(with_reducible exact LeO.none _)
      |(with_reducible refine LeO.ite ?_ ?_)
      |(with_reducible refine LeO.bind ?_ (fun _=>?_))
      |exact ih0 _ _ _
      |exact laws_markIntS.mono _ _ _
      |exact laws_markText.mono _ _
      |exact LeO.none _
      |refine LeO.ite ?_ ?_
      |refine LeO.bind ?_ (fun _=>?_)
theorem laws_markTowerS.mono:∀ a0 a1 k,LeO (laws_markTowerS.f k a0 a1) (laws_markTowerS.f (k + 1) a0 a1):=by
  intro a0 a1 k
  have ih0:=laws_markTowerS.mono_l k
  unfold laws_markTowerS.f
  repeat' first
      |(with_reducible exact ih0 _ _ _)
      |(with_reducible exact laws_markIntS.mono _ _ _)
      |(with_reducible exact laws_markText.mono _ _)
      |(with_reducible exact LeO.refl _)
      |(with_reducible exact LeO.none _)
      |(with_reducible refine LeO.ite ?_ ?_)
      |(with_reducible refine LeO.bind ?_ (fun _=>?_))
      |exact ih0 _ _ _
      |exact laws_markIntS.mono _ _ _
      |exact laws_markText.mono _ _
      |exact LeO.none _
      |refine LeO.ite ?_ ?_
      |refine LeO.bind ?_ (fun _=>?_)
set_option maxHeartbeats 8000000 in
set_option maxRecDepth 100000 in
theorem laws_markTowerS.calls (k:Nat) (P0_:Nat→Prop) (u9000_:Value) (l0:List (S77)) (a1:Int) (r1:Int) (r2:List (S77)) (w0 w:World) (hB:Below w0.heap.size w0 w) (ho0:Kd.S k77 77 w w0.heap.size P0_ u9000_ l0) (h:laws_markTowerS.f k l0 a1=some (r1,r2)) :
    Calls Tryd.prog 66 #[u9000_,.int .i64 a1] w fun e w'=>e = .returned (.int .i64 r1)∧Kd.S k77 77 w' w0.heap.size (fun k_=>(P0_ k_∨w.heap.size≤k_)) u9000_ r2∧Below w0.heap.size w0 w'∧Kept w w' (fun k_=>P0_ k_):=by
 have HO0:=AsZ.mk (show Kd.S k77 77 w w0.heap.size (fun k_=>(P0_ k_∨w.heap.size≤k_)) u9000_ l0 from Kd.S_mono ho0 (fun k_ hk=>(.inl hk)))
 have HK:=AsZ.mk (Kept.refl w (fun k_=>P0_ k_))
 have HW0:=AsZ.mk hB.size
 have HB:=AsZ.mk hB
 clear hB
 have H:(laws_markTowerS.l0 k l0 a1 0)=some (r1,r2):=h
 clear h
 have H':=AsZ.mk H
 clear H
 go_enter Tryd.func66,Tryd.ntmps66
 go_wp2
 go_loopg [1,5] k (fun kq v1 v5 w' => ∃ (x0_1:List (S77)) (x1_1:Int) (x5_1:Int),v1 = .int .i64 x1_1∧v5 = .int .i64 x5_1∧AsZ (laws_markTowerS.l0 kq x0_1 x1_1 x5_1=some (r1,r2))∧AsZ (kq≤k)∧AsZ (Kd.S k77 77 w' w0.heap.size (fun k_=>(P0_ k_∨w.heap.size≤k_)) u9000_ x0_1)∧AsZ (Kept w w' (fun k_=>P0_ k_))∧AsZ (Below w0.heap.size w0 w'))
 case atStart=>exact ⟨(l0),(a1),(0),(by first|rfl|(simp;done)|(simp [*];done)),(by first|rfl|(simp;done)|(simp [*];done)),H',⟨Nat.le_refl _⟩,⟨by (with_reducible repeat (first|apply Kd.S_alloc|apply Kd.S_drewN|apply Kd.S_drew));exact HO0.out⟩,⟨by repeat (first|(with_reducible first|exact HK.out|apply Kept.alloc|apply Kept.drewN|apply Kept.drew)|exact HK.out)⟩,⟨by repeat (first|(with_reducible first|exact HB.out|apply bwa|apply pbN|apply bw1)|exact HB.out)⟩⟩
 case round =>
  clear H'
  try clear p2
  obtain ⟨x0_1,x1_1,x5_1,rfl,rfl,HA,HK1,HO_0,HK,HB⟩:=hrel
  cases gk with
  |zero=>exact absurd HA.out (by simp [laws_markTowerS.l0])
  |succ k1 =>
   have H:=HA.out
   clear HA
   simp only [laws_markTowerS.l0] at H
   by_cases c3:x5_1 < (x0_1.length:Int)
   rotate_left
   · rw [if_neg c3] at H
     have c3b0:decide (x5_1 < (x0_1.length:Int))=false:=decide_eq_false c3
     clear c3
     simp only [Option.some.injEq,Prod.mk.injEq] at H
     obtain ⟨rfl,rfl⟩:=H
     obtain ⟨Ao24,co24,eo24⟩:=Kd.S_slice HO_0.out
     subst eo24
     go_wp2
     go_ret
     exact ⟨by first|rfl|(simp [errW_none,errW_some]<;>rfl)|(simp [*,errW_none,errW_some]<;>rfl),by (with_reducible repeat (first|apply Kd.S_alloc|apply Kd.S_drewN|apply Kd.S_drew));exact HO_0.out,by repeat (first|(with_reducible first|exact HB.out|apply bwa|apply pbN|apply bw1)|exact HB.out),by repeat (first|(with_reducible first|exact HK.out|apply Kept.alloc|apply Kept.drewN|apply Kept.drew)|exact HK.out)⟩
   rw [if_pos c3] at H
   have c3b0:decide (x5_1 < (x0_1.length:Int))=true:=zE c3
   clear c3
   replace H:=Option.bind_eq_some_iff.mp H
   obtain ⟨t307,A40,H⟩:=H
   replace H:(if 0≤x5_1 then ((some (x0_1.set (x5_1:Int).toNat (⟨(⟨t307,(rd_T77 x0_1 x5_1).f0.f1,(rd_T77 x0_1 x5_1).f0.f2,(rd_T77 x0_1 x5_1).f0.f3⟩:S28),(rd_T77 x0_1 x5_1).f1⟩:S77):List (S77))).bind fun y308=>((some (y308.set (x5_1:Int).toNat (⟨(⟨(rd_T77 y308 x5_1).f0.f0,wrap64 (x1_1 + 1),(rd_T77 y308 x5_1).f0.f2,(rd_T77 y308 x5_1).f0.f3⟩:S28),(rd_T77 y308 x5_1).f1⟩:S77):List (S77))).bind fun y309=>((some (y309.set (x5_1:Int).toNat (⟨(⟨(rd_T77 y309 x5_1).f0.f0,(rd_T77 y309 x5_1).f0.f1,wrap64 ((wrap64 (x1_1 + 1)) + 1),(rd_T77 y309 x5_1).f0.f3⟩:S28),(rd_T77 y309 x5_1).f1⟩:S77):List (S77))).bind fun y310=>((laws_markText.f k1 (wrap64 ((wrap64 ((wrap64 (x1_1 + 1)) + 1)) + 1))).bind fun t311=>((some (y310.set (x5_1:Int).toNat (⟨(⟨(rd_T77 y310 x5_1).f0.f0,(rd_T77 y310 x5_1).f0.f1,(rd_T77 y310 x5_1).f0.f2,t311⟩:S28),(rd_T77 y310 x5_1).f1⟩:S77):List (S77))).bind fun y312=>((laws_markIntS.f k1 ((rd_T77 y312 x5_1).f1) (wrap64 ((wrap64 ((wrap64 ((wrap64 (x1_1 + 1)) + 1)) + 1)) + 1))).bind fun bt314=>(laws_markTowerS.l0 k1 (y312.set (x5_1:Int).toNat (⟨(rd_T77 y312 x5_1).f0,bt314.2⟩:S77)) bt314.1 (wrap64 (x5_1 + 1))))))))) else (none))=some (r1,r2):=H
   have A4:=AsZ.mk A40
   clear A40
   by_cases c5:0≤x5_1
   rotate_left
   · rw [if_neg c5] at H
     exact absurd H (by simp)
   rw [if_pos c5] at H
   have c5b0:decide (0≤x5_1)=true:=zE c5
   clear c5
   obtain ⟨y308,hy308⟩:∃ y_:List (S77),y_=(x0_1.set (x5_1:Int).toNat (⟨(⟨t307,(rd_T77 x0_1 x5_1).f0.f1,(rd_T77 x0_1 x5_1).f0.f2,(rd_T77 x0_1 x5_1).f0.f3⟩:S28),(rd_T77 x0_1 x5_1).f1⟩:S77)):=⟨_,rfl⟩
   replace H:((some (y308.set (x5_1:Int).toNat (⟨(⟨(rd_T77 y308 x5_1).f0.f0,wrap64 (x1_1 + 1),(rd_T77 y308 x5_1).f0.f2,(rd_T77 y308 x5_1).f0.f3⟩:S28),(rd_T77 y308 x5_1).f1⟩:S77):List (S77))).bind fun y309=>((some (y309.set (x5_1:Int).toNat (⟨(⟨(rd_T77 y309 x5_1).f0.f0,(rd_T77 y309 x5_1).f0.f1,wrap64 ((wrap64 (x1_1 + 1)) + 1),(rd_T77 y309 x5_1).f0.f3⟩:S28),(rd_T77 y309 x5_1).f1⟩:S77):List (S77))).bind fun y310=>((laws_markText.f k1 (wrap64 ((wrap64 ((wrap64 (x1_1 + 1)) + 1)) + 1))).bind fun t311=>((some (y310.set (x5_1:Int).toNat (⟨(⟨(rd_T77 y310 x5_1).f0.f0,(rd_T77 y310 x5_1).f0.f1,(rd_T77 y310 x5_1).f0.f2,t311⟩:S28),(rd_T77 y310 x5_1).f1⟩:S77):List (S77))).bind fun y312=>((laws_markIntS.f k1 ((rd_T77 y312 x5_1).f1) (wrap64 ((wrap64 ((wrap64 ((wrap64 (x1_1 + 1)) + 1)) + 1)) + 1))).bind fun bt314=>(laws_markTowerS.l0 k1 (y312.set (x5_1:Int).toNat (⟨(rd_T77 y312 x5_1).f0,bt314.2⟩:S77)) bt314.1 (wrap64 (x5_1 + 1))))))))=some (r1,r2):=by first|(rw [hy308];with_reducible exact H)|(have H2_:=(Option.bind_some _ _).symm.trans H;rw [hy308];with_reducible exact H2_)|(have H2_:=(Option.bind_some _ _).symm.trans H;with_reducible exact H2_)|with_reducible exact H|(rw [hy308];exact H)|exact H
   have Ny308:=AsZ.mk hy308
   clear hy308
   obtain ⟨y309,hy309⟩:∃ y_:List (S77),y_=(y308.set (x5_1:Int).toNat (⟨(⟨(rd_T77 y308 x5_1).f0.f0,wrap64 (x1_1 + 1),(rd_T77 y308 x5_1).f0.f2,(rd_T77 y308 x5_1).f0.f3⟩:S28),(rd_T77 y308 x5_1).f1⟩:S77)):=⟨_,rfl⟩
   replace H:((some (y309.set (x5_1:Int).toNat (⟨(⟨(rd_T77 y309 x5_1).f0.f0,(rd_T77 y309 x5_1).f0.f1,wrap64 ((wrap64 (x1_1 + 1)) + 1),(rd_T77 y309 x5_1).f0.f3⟩:S28),(rd_T77 y309 x5_1).f1⟩:S77):List (S77))).bind fun y310=>((laws_markText.f k1 (wrap64 ((wrap64 ((wrap64 (x1_1 + 1)) + 1)) + 1))).bind fun t311=>((some (y310.set (x5_1:Int).toNat (⟨(⟨(rd_T77 y310 x5_1).f0.f0,(rd_T77 y310 x5_1).f0.f1,(rd_T77 y310 x5_1).f0.f2,t311⟩:S28),(rd_T77 y310 x5_1).f1⟩:S77):List (S77))).bind fun y312=>((laws_markIntS.f k1 ((rd_T77 y312 x5_1).f1) (wrap64 ((wrap64 ((wrap64 ((wrap64 (x1_1 + 1)) + 1)) + 1)) + 1))).bind fun bt314=>(laws_markTowerS.l0 k1 (y312.set (x5_1:Int).toNat (⟨(rd_T77 y312 x5_1).f0,bt314.2⟩:S77)) bt314.1 (wrap64 (x5_1 + 1)))))))=some (r1,r2):=by first|(rw [hy309];with_reducible exact H)|(have H2_:=(Option.bind_some _ _).symm.trans H;rw [hy309];with_reducible exact H2_)|(have H2_:=(Option.bind_some _ _).symm.trans H;with_reducible exact H2_)|with_reducible exact H|(rw [hy309];exact H)|exact H
   have Ny309:=AsZ.mk hy309
   clear hy309
   obtain ⟨y310,hy310⟩:∃ y_:List (S77),y_=(y309.set (x5_1:Int).toNat (⟨(⟨(rd_T77 y309 x5_1).f0.f0,(rd_T77 y309 x5_1).f0.f1,wrap64 ((wrap64 (x1_1 + 1)) + 1),(rd_T77 y309 x5_1).f0.f3⟩:S28),(rd_T77 y309 x5_1).f1⟩:S77)):=⟨_,rfl⟩
   replace H:((laws_markText.f k1 (wrap64 ((wrap64 ((wrap64 (x1_1 + 1)) + 1)) + 1))).bind fun t311=>((some (y310.set (x5_1:Int).toNat (⟨(⟨(rd_T77 y310 x5_1).f0.f0,(rd_T77 y310 x5_1).f0.f1,(rd_T77 y310 x5_1).f0.f2,t311⟩:S28),(rd_T77 y310 x5_1).f1⟩:S77):List (S77))).bind fun y312=>((laws_markIntS.f k1 ((rd_T77 y312 x5_1).f1) (wrap64 ((wrap64 ((wrap64 ((wrap64 (x1_1 + 1)) + 1)) + 1)) + 1))).bind fun bt314=>(laws_markTowerS.l0 k1 (y312.set (x5_1:Int).toNat (⟨(rd_T77 y312 x5_1).f0,bt314.2⟩:S77)) bt314.1 (wrap64 (x5_1 + 1))))))=some (r1,r2):=by first|(rw [hy310];with_reducible exact H)|(have H2_:=(Option.bind_some _ _).symm.trans H;rw [hy310];with_reducible exact H2_)|(have H2_:=(Option.bind_some _ _).symm.trans H;with_reducible exact H2_)|with_reducible exact H|(rw [hy310];exact H)|exact H
   have Ny310:=AsZ.mk hy310
   clear hy310
   replace H:=Option.bind_eq_some_iff.mp H
   obtain ⟨t311,A90,H⟩:=H
   replace H:((some (y310.set (x5_1:Int).toNat (⟨(⟨(rd_T77 y310 x5_1).f0.f0,(rd_T77 y310 x5_1).f0.f1,(rd_T77 y310 x5_1).f0.f2,t311⟩:S28),(rd_T77 y310 x5_1).f1⟩:S77):List (S77))).bind fun y312=>((laws_markIntS.f k1 ((rd_T77 y312 x5_1).f1) (wrap64 ((wrap64 ((wrap64 ((wrap64 (x1_1 + 1)) + 1)) + 1)) + 1))).bind fun bt314=>(laws_markTowerS.l0 k1 (y312.set (x5_1:Int).toNat (⟨(rd_T77 y312 x5_1).f0,bt314.2⟩:S77)) bt314.1 (wrap64 (x5_1 + 1)))))=some (r1,r2):=H
   have A9:=AsZ.mk A90
   clear A90
   obtain ⟨y312,hy312⟩:∃ y_:List (S77),y_=(y310.set (x5_1:Int).toNat (⟨(⟨(rd_T77 y310 x5_1).f0.f0,(rd_T77 y310 x5_1).f0.f1,(rd_T77 y310 x5_1).f0.f2,t311⟩:S28),(rd_T77 y310 x5_1).f1⟩:S77)):=⟨_,rfl⟩
   replace H:((laws_markIntS.f k1 ((rd_T77 y312 x5_1).f1) (wrap64 ((wrap64 ((wrap64 ((wrap64 (x1_1 + 1)) + 1)) + 1)) + 1))).bind fun bt314=>(laws_markTowerS.l0 k1 (y312.set (x5_1:Int).toNat (⟨(rd_T77 y312 x5_1).f0,bt314.2⟩:S77)) bt314.1 (wrap64 (x5_1 + 1))))=some (r1,r2):=by first|(rw [hy312];with_reducible exact H)|(have H2_:=(Option.bind_some _ _).symm.trans H;rw [hy312];with_reducible exact H2_)|(have H2_:=(Option.bind_some _ _).symm.trans H;with_reducible exact H2_)|with_reducible exact H|(rw [hy312];exact H)|exact H
   have Ny312:=AsZ.mk hy312
   clear hy312
   replace H:=Option.bind_eq_some_iff.mp H
   obtain ⟨⟨t314,t315⟩,A110,H⟩:=H
   replace H:(laws_markTowerS.l0 k1 (y312.set (x5_1:Int).toNat (⟨(rd_T77 y312 x5_1).f0,t315⟩:S77)) t314 (wrap64 (x5_1 + 1)))=some (r1,r2):=H
   obtain ⟨y316,hy316⟩:∃ y_:List (S77),y_=(y312.set (x5_1:Int).toNat (⟨(rd_T77 y312 x5_1).f0,t315⟩:S77)):=⟨_,rfl⟩
   rw [← hy316] at H
   have Ny316:=AsZ.mk hy316
   clear hy316
   have A11:=AsZ.mk A110
   clear A110
   have H':=AsZ.mk H
   clear H
   obtain ⟨Ao12,co12,eo12⟩:=Kd.S_slice HO_0.out
   subst eo12
   go_wp2_with (first|((with_reducible refine gcl (f:=67) rfl ?_);refine goesL_ (some 15) rfl rfl Tryd.func67 (by kernel_rfl) rfl #[.int .i64 x1_1] rfl (by (try simp only [zA,zC,zN]);first|done|rfl|(simp only [zM,zL];rfl)) ?_;(with_reducible refine (laws_markText.calls k1 x1_1 t307 _ A4.out).mono ?_);rintro e w13 ⟨rfl,hb⟩;refine ⟨_,rfl,?_⟩;have n0_:=AsZ.mk (Kd.S_below (by (with_reducible repeat (first|apply Kd.S_alloc|apply Kd.S_drewN|apply Kd.S_drew));exact HO_0.out) hb);have n1_:=AsZ.mk (Kept.below (S:=(fun k_=>P0_ k_)) (by repeat (first|(with_reducible first|exact HK.out|apply Kept.alloc|apply Kept.drewN|apply Kept.drew)|exact HK.out)) hb);have n2_:=AsZ.mk (bwp (by repeat (first|(with_reducible first|exact HB.out|apply bwa|apply pbN|apply bw1)|exact HB.out)) hb);clear HO_0;clear HK;clear HB;have HO_0:=n0_;have HK:=n1_;have HB:=n2_;clear n0_ n1_ n2_;(try clear hb);(try clear hb2);(try clear hk);(try clear hi);have p6:0≤(x5_1:Int):=zD (by first|(with_reducible assumption)|assumption);have q6:(x5_1:Int) < ((x0_1.length:Int):Int):=zD (by first|(with_reducible assumption)|assumption);obtain ⟨go6,co6,eo6,gb6,gl6,cl6,HG6⟩:=Kd.S_form HO_0.out (by omega);(first|cases eo6|(injection eo6 with ea_ en_ ec_;(first|subst ea_|(injection ea_ with ea_;subst ea_));subst ec_;clear en_));have GB6:=AsZ.mk gb6;have GG6:=AsZ.mk HG6;clear gb6 gl6 HG6;have HMgo6:=AsZ.mk (show (P0_ go6∨w.heap.size≤go6) from ((Kd.S_R HO_0.out).1 _ rfl));obtain ⟨_,ce6,hcl6,hM6,hcc6,hfr6,_,_⟩:=Kd.S_elem HO_0.out z77 (x5_1:Int) p6 q6;obtain ⟨ve6_4,rfl,ge6_4⟩:=k77_openM hM6;have hx6_0:w13.cell? ⟨go6,(x5_1:Int).toNat * 5,none⟩=some (.string ((rd_T77 x0_1 x5_1).f0.f0)):=hcc6 0 _ rfl;have hx6_1:w13.cell? ⟨go6,(x5_1:Int).toNat * 5 + 1,none⟩=some (.int .i64 ((rd_T77 x0_1 x5_1).f0.f1)):=hcc6 1 _ rfl;have hx6_2:w13.cell? ⟨go6,(x5_1:Int).toNat * 5 + 2,none⟩=some (.int .i64 ((rd_T77 x0_1 x5_1).f0.f2)):=hcc6 2 _ rfl;have hx6_3:w13.cell? ⟨go6,(x5_1:Int).toNat * 5 + 3,none⟩=some (.string ((rd_T77 x0_1 x5_1).f0.f3)):=hcc6 3 _ rfl;have hx6_4:w13.cell? ⟨go6,(x5_1:Int).toNat * 5 + 4,none⟩=some (ve6_4):=hcc6 4 _ rfl;have hf6_0:w13.frozen? ⟨go6,(x5_1:Int).toNat * 5,none⟩=false:=hfr6 0;have hf6_1:w13.frozen? ⟨go6,(x5_1:Int).toNat * 5 + 1,none⟩=false:=hfr6 1;have hf6_2:w13.frozen? ⟨go6,(x5_1:Int).toNat * 5 + 2,none⟩=false:=hfr6 2;have hf6_3:w13.frozen? ⟨go6,(x5_1:Int).toNat * 5 + 3,none⟩=false:=hfr6 3;have hf6_4:w13.frozen? ⟨go6,(x5_1:Int).toNat * 5 + 4,none⟩=false:=hfr6 4;clear hcl6 hcc6 hfr6 hM6;replace p6:=eq_true p6;replace q6:=eq_true q6;have HX14:=AsZ.mk (show Kd.S k77 77 w13 w0.heap.size (fun k_=>((fun k_=>(P0_ k_∨w.heap.size≤k_))) k_ ∧ ¬ ((fun _=>False)) k_) (.slice (some ⟨go6,0,none⟩) x0_1.length co12) x0_1 from (by (with_reducible repeat (first|apply Kd.S_alloc|apply Kd.S_drewN|apply Kd.S_drew));exact Kd.S_mono HO_0.out (fun k_ hk=>⟨hk,fun e_=>e_⟩)));obtain ⟨oki14,ce14,hcl14,hM14,hcc14,hfr14,hoki14,hH14⟩:=Kd.S_elem HX14.out z77 (x5_1:Int) (zD (by first|(with_reducible assumption)|assumption)) (by have h_:(x5_1:Int) < ((x0_1.length:Int):Int):=zD (by first|(with_reducible assumption)|assumption);first|exact h_|(have e_:=(Kd.S_reads' HO_0.out).1;omega)|simpa using h_);obtain ⟨ve14_4,rfl,ge14_4⟩:=k77_openM hM14;have HP14:=Kd.S_seg hH14 (zD (by first|(with_reducible assumption)|assumption)) (by have h_:(x5_1:Int) < ((x0_1.length:Int):Int):=zD (by first|(with_reducible assumption)|assumption);first|exact h_|(have e_:=(Kd.S_reads' HO_0.out).1;omega)|simpa using h_) (seg:=[.string t307]) (j:=0) (show 1≤5 from by decide) (x':=(⟨(⟨t307,(rd_T77 x0_1 x5_1).f0.f1,(rd_T77 x0_1 x5_1).f0.f2,(rd_T77 x0_1 x5_1).f0.f3⟩:S28),(rd_T77 x0_1 x5_1).f1⟩:S77)) (k77_mkM _ _ _ (⟨(⟨t307,(rd_T77 x0_1 x5_1).f0.f1,(rd_T77 x0_1 x5_1).f0.f2,(rd_T77 x0_1 x5_1).f0.f3⟩:S28),(rd_T77 x0_1 x5_1).f1⟩:S77) (Kd.R_mono ge14_4 (fun _ h_=>Or.inl h_))) (fun _ hk=>hk) (fun k_ hk_=>hk_.elim);have hx14_0:=hcc14 0 _ rfl;(try simp only [show (k77).sz=5 from rfl,Nat.mul_one,Nat.add_zero] at hx14_0);have hf14_0:=hfr14 0;(try simp only [show (k77).sz=5 from rfl,Nat.mul_one,Nat.add_zero] at hf14_0);clear hcl14 hcc14 hfr14 hM14 hoki14 hH14)|((with_reducible refine gate_store (t:=9) (p:=18) rfl ?_);refine store_event (t:=9) (p:=18) (v:=?vo_w15) (w1:=(w13.setCell ⟨go6,(x5_1:Int).toNat * 5,none⟩ (.string t307))) ?hg ?ho ?hn ?hr ?_;(case ho=>rfl);(case hg=>rfl);(case hn=>rfl);(case hr=>first|(go_simp;done)|(go_simp;rfl));intro w15 hw;have hg:w13.grownBy w15 (some go6):=(by rw [hw];exact HP14.2);have hp_:Kd.S k77 77 w15 w0.heap.size (fun k_=>(P0_ k_∨w.heap.size≤k_)) (.slice (some ⟨go6,0,none⟩) x0_1.length co12) y308:=(by rw [hw,Ny308.out];exact HP14.1);clear HP14;have n0_:=AsZ.mk (hp_);have n1_:=AsZ.mk ((by rw [hw];exact bws (HB.out) GB6.out:Below w0.heap.size w0 w15));have n2_:=AsZ.mk (Kept.of_grown (S:=(fun k_=>P0_ k_)) hg (by repeat (first|(with_reducible first|exact HK.out|apply Kept.alloc|apply Kept.drewN|apply Kept.drew)|exact HK.out)) (fun k_ e_=>((Kd.S_R HO_0.out).1 k_ e_)));clear HO_0;clear HB;clear HK;have HO_0:=n0_;have HB:=n1_;have HK:=n2_;clear n0_ n1_ n2_;clear hg hw hp_;have p7:0≤(x5_1:Int):=zD (by first|(with_reducible assumption)|assumption);have q7:(x5_1:Int) < ((x0_1.length:Int):Int):=zD (by first|(with_reducible assumption)|assumption);obtain ⟨_,ce7,hcl7,hM7,hcc7,hfr7,_,_⟩:=Kd.S_elem HO_0.out z77 (x5_1:Int) p7 q7;obtain ⟨ve7_4,rfl,ge7_4⟩:=k77_openM hM7;have hx7_0:w15.cell? ⟨go6,(x5_1:Int).toNat * 5,none⟩=some (.string ((rd_T77 y308 x5_1).f0.f0)):=hcc7 0 _ rfl;have hx7_1:w15.cell? ⟨go6,(x5_1:Int).toNat * 5 + 1,none⟩=some (.int .i64 ((rd_T77 y308 x5_1).f0.f1)):=hcc7 1 _ rfl;have hx7_2:w15.cell? ⟨go6,(x5_1:Int).toNat * 5 + 2,none⟩=some (.int .i64 ((rd_T77 y308 x5_1).f0.f2)):=hcc7 2 _ rfl;have hx7_3:w15.cell? ⟨go6,(x5_1:Int).toNat * 5 + 3,none⟩=some (.string ((rd_T77 y308 x5_1).f0.f3)):=hcc7 3 _ rfl;have hx7_4:w15.cell? ⟨go6,(x5_1:Int).toNat * 5 + 4,none⟩=some (ve7_4):=hcc7 4 _ rfl;have hf7_0:w15.frozen? ⟨go6,(x5_1:Int).toNat * 5,none⟩=false:=hfr7 0;have hf7_1:w15.frozen? ⟨go6,(x5_1:Int).toNat * 5 + 1,none⟩=false:=hfr7 1;have hf7_2:w15.frozen? ⟨go6,(x5_1:Int).toNat * 5 + 2,none⟩=false:=hfr7 2;have hf7_3:w15.frozen? ⟨go6,(x5_1:Int).toNat * 5 + 3,none⟩=false:=hfr7 3;have hf7_4:w15.frozen? ⟨go6,(x5_1:Int).toNat * 5 + 4,none⟩=false:=hfr7 4;clear hcl7 hcc7 hfr7 hM7;replace p7:=eq_true p7;replace q7:=eq_true q7;have HX16:=AsZ.mk (show Kd.S k77 77 w15 w0.heap.size (fun k_=>((fun k_=>(P0_ k_∨w.heap.size≤k_))) k_ ∧ ¬ ((fun _=>False)) k_) (.slice (some ⟨go6,0,none⟩) x0_1.length co12) y308 from (by (with_reducible repeat (first|apply Kd.S_alloc|apply Kd.S_drewN|apply Kd.S_drew));exact Kd.S_mono HO_0.out (fun k_ hk=>⟨hk,fun e_=>e_⟩)));obtain ⟨oki16,ce16,hcl16,hM16,hcc16,hfr16,hoki16,hH16⟩:=Kd.S_elem HX16.out z77 (x5_1:Int) (zD (by first|(with_reducible assumption)|assumption)) (by have h_:(x5_1:Int) < ((x0_1.length:Int):Int):=zD (by first|(with_reducible assumption)|assumption);first|exact h_|(have e_:=(Kd.S_reads' HO_0.out).1;omega)|simpa using h_);obtain ⟨ve16_4,rfl,ge16_4⟩:=k77_openM hM16;have HP16:=Kd.S_seg hH16 (zD (by first|(with_reducible assumption)|assumption)) (by have h_:(x5_1:Int) < ((x0_1.length:Int):Int):=zD (by first|(with_reducible assumption)|assumption);first|exact h_|(have e_:=(Kd.S_reads' HO_0.out).1;omega)|simpa using h_) (seg:=[.int .i64 (wrap64 (x1_1 + 1))]) (j:=1) (show 2≤5 from by decide) (x':=(⟨(⟨(rd_T77 y308 x5_1).f0.f0,wrap64 (x1_1 + 1),(rd_T77 y308 x5_1).f0.f2,(rd_T77 y308 x5_1).f0.f3⟩:S28),(rd_T77 y308 x5_1).f1⟩:S77)) (k77_mkM _ _ _ (⟨(⟨(rd_T77 y308 x5_1).f0.f0,wrap64 (x1_1 + 1),(rd_T77 y308 x5_1).f0.f2,(rd_T77 y308 x5_1).f0.f3⟩:S28),(rd_T77 y308 x5_1).f1⟩:S77) (Kd.R_mono ge16_4 (fun _ h_=>Or.inl h_))) (fun _ hk=>hk) (fun k_ hk_=>hk_.elim);have hx16_1:=hcc16 1 _ rfl;(try simp only [show (k77).sz=5 from rfl,Nat.mul_one,Nat.add_zero] at hx16_1);have hf16_1:=hfr16 1;(try simp only [show (k77).sz=5 from rfl,Nat.mul_one,Nat.add_zero] at hf16_1);clear hcl16 hcc16 hfr16 hM16 hoki16 hH16)|((with_reducible refine gate_store (t:=3) (p:=26) rfl ?_);refine store_event (t:=3) (p:=26) (v:=?vo_w17) (w1:=(w15.setCell ⟨go6,(x5_1:Int).toNat * 5 + 1,none⟩ (.int .i64 (wrap64 (x1_1 + 1))))) ?hg ?ho ?hn ?hr ?_;(case ho=>rfl);(case hg=>rfl);(case hn=>rfl);(case hr=>first|(go_simp;done)|(go_simp;rfl));intro w17 hw;have hg:w15.grownBy w17 (some go6):=(by rw [hw];exact HP16.2);have hp_:Kd.S k77 77 w17 w0.heap.size (fun k_=>(P0_ k_∨w.heap.size≤k_)) (.slice (some ⟨go6,0,none⟩) x0_1.length co12) y309:=(by rw [hw,Ny309.out];exact HP16.1);clear HP16;have n0_:=AsZ.mk (hp_);have n1_:=AsZ.mk ((by rw [hw];exact bws (HB.out) GB6.out:Below w0.heap.size w0 w17));have n2_:=AsZ.mk (Kept.of_grown (S:=(fun k_=>P0_ k_)) hg (by repeat (first|(with_reducible first|exact HK.out|apply Kept.alloc|apply Kept.drewN|apply Kept.drew)|exact HK.out)) (fun k_ e_=>((Kd.S_R HO_0.out).1 k_ e_)));clear HO_0;clear HB;clear HK;have HO_0:=n0_;have HB:=n1_;have HK:=n2_;clear n0_ n1_ n2_;clear hg hw hp_;have p8:0≤(x5_1:Int):=zD (by first|(with_reducible assumption)|assumption);have q8:(x5_1:Int) < ((x0_1.length:Int):Int):=zD (by first|(with_reducible assumption)|assumption);obtain ⟨_,ce8,hcl8,hM8,hcc8,hfr8,_,_⟩:=Kd.S_elem HO_0.out z77 (x5_1:Int) p8 q8;obtain ⟨ve8_4,rfl,ge8_4⟩:=k77_openM hM8;have hx8_0:w17.cell? ⟨go6,(x5_1:Int).toNat * 5,none⟩=some (.string ((rd_T77 y309 x5_1).f0.f0)):=hcc8 0 _ rfl;have hx8_1:w17.cell? ⟨go6,(x5_1:Int).toNat * 5 + 1,none⟩=some (.int .i64 ((rd_T77 y309 x5_1).f0.f1)):=hcc8 1 _ rfl;have hx8_2:w17.cell? ⟨go6,(x5_1:Int).toNat * 5 + 2,none⟩=some (.int .i64 ((rd_T77 y309 x5_1).f0.f2)):=hcc8 2 _ rfl;have hx8_3:w17.cell? ⟨go6,(x5_1:Int).toNat * 5 + 3,none⟩=some (.string ((rd_T77 y309 x5_1).f0.f3)):=hcc8 3 _ rfl;have hx8_4:w17.cell? ⟨go6,(x5_1:Int).toNat * 5 + 4,none⟩=some (ve8_4):=hcc8 4 _ rfl;have hf8_0:w17.frozen? ⟨go6,(x5_1:Int).toNat * 5,none⟩=false:=hfr8 0;have hf8_1:w17.frozen? ⟨go6,(x5_1:Int).toNat * 5 + 1,none⟩=false:=hfr8 1;have hf8_2:w17.frozen? ⟨go6,(x5_1:Int).toNat * 5 + 2,none⟩=false:=hfr8 2;have hf8_3:w17.frozen? ⟨go6,(x5_1:Int).toNat * 5 + 3,none⟩=false:=hfr8 3;have hf8_4:w17.frozen? ⟨go6,(x5_1:Int).toNat * 5 + 4,none⟩=false:=hfr8 4;clear hcl8 hcc8 hfr8 hM8;replace p8:=eq_true p8;replace q8:=eq_true q8;have HX18:=AsZ.mk (show Kd.S k77 77 w17 w0.heap.size (fun k_=>((fun k_=>(P0_ k_∨w.heap.size≤k_))) k_ ∧ ¬ ((fun _=>False)) k_) (.slice (some ⟨go6,0,none⟩) x0_1.length co12) y309 from (by (with_reducible repeat (first|apply Kd.S_alloc|apply Kd.S_drewN|apply Kd.S_drew));exact Kd.S_mono HO_0.out (fun k_ hk=>⟨hk,fun e_=>e_⟩)));obtain ⟨oki18,ce18,hcl18,hM18,hcc18,hfr18,hoki18,hH18⟩:=Kd.S_elem HX18.out z77 (x5_1:Int) (zD (by first|(with_reducible assumption)|assumption)) (by have h_:(x5_1:Int) < ((x0_1.length:Int):Int):=zD (by first|(with_reducible assumption)|assumption);first|exact h_|(have e_:=(Kd.S_reads' HO_0.out).1;omega)|simpa using h_);obtain ⟨ve18_4,rfl,ge18_4⟩:=k77_openM hM18;have HP18:=Kd.S_seg hH18 (zD (by first|(with_reducible assumption)|assumption)) (by have h_:(x5_1:Int) < ((x0_1.length:Int):Int):=zD (by first|(with_reducible assumption)|assumption);first|exact h_|(have e_:=(Kd.S_reads' HO_0.out).1;omega)|simpa using h_) (seg:=[.int .i64 (wrap64 ((wrap64 (x1_1 + 1)) + 1))]) (j:=2) (show 3≤5 from by decide) (x':=(⟨(⟨(rd_T77 y309 x5_1).f0.f0,(rd_T77 y309 x5_1).f0.f1,wrap64 ((wrap64 (x1_1 + 1)) + 1),(rd_T77 y309 x5_1).f0.f3⟩:S28),(rd_T77 y309 x5_1).f1⟩:S77)) (k77_mkM _ _ _ (⟨(⟨(rd_T77 y309 x5_1).f0.f0,(rd_T77 y309 x5_1).f0.f1,wrap64 ((wrap64 (x1_1 + 1)) + 1),(rd_T77 y309 x5_1).f0.f3⟩:S28),(rd_T77 y309 x5_1).f1⟩:S77) (Kd.R_mono ge18_4 (fun _ h_=>Or.inl h_))) (fun _ hk=>hk) (fun k_ hk_=>hk_.elim);have hx18_2:=hcc18 2 _ rfl;(try simp only [show (k77).sz=5 from rfl,Nat.mul_one,Nat.add_zero] at hx18_2);have hf18_2:=hfr18 2;(try simp only [show (k77).sz=5 from rfl,Nat.mul_one,Nat.add_zero] at hf18_2);clear hcl18 hcc18 hfr18 hM18 hoki18 hH18)|((with_reducible refine gate_store (t:=3) (p:=34) rfl ?_);refine store_event (t:=3) (p:=34) (v:=?vo_w19) (w1:=(w17.setCell ⟨go6,(x5_1:Int).toNat * 5 + 2,none⟩ (.int .i64 (wrap64 ((wrap64 (x1_1 + 1)) + 1))))) ?hg ?ho ?hn ?hr ?_;(case ho=>rfl);(case hg=>rfl);(case hn=>rfl);(case hr=>first|(go_simp;done)|(go_simp;rfl));intro w19 hw;have hg:w17.grownBy w19 (some go6):=(by rw [hw];exact HP18.2);have hp_:Kd.S k77 77 w19 w0.heap.size (fun k_=>(P0_ k_∨w.heap.size≤k_)) (.slice (some ⟨go6,0,none⟩) x0_1.length co12) y310:=(by rw [hw,Ny310.out];exact HP18.1);clear HP18;have n0_:=AsZ.mk (hp_);have n1_:=AsZ.mk ((by rw [hw];exact bws (HB.out) GB6.out:Below w0.heap.size w0 w19));have n2_:=AsZ.mk (Kept.of_grown (S:=(fun k_=>P0_ k_)) hg (by repeat (first|(with_reducible first|exact HK.out|apply Kept.alloc|apply Kept.drewN|apply Kept.drew)|exact HK.out)) (fun k_ e_=>((Kd.S_R HO_0.out).1 k_ e_)));clear HO_0;clear HB;clear HK;have HO_0:=n0_;have HB:=n1_;have HK:=n2_;clear n0_ n1_ n2_;clear hg hw hp_)|((with_reducible refine gcl (f:=67) rfl ?_);refine goesL_ (some 40) rfl rfl Tryd.func67 (by kernel_rfl) rfl #[.int .i64 (wrap64 ((wrap64 ((wrap64 (x1_1 + 1)) + 1)) + 1))] rfl (by (try simp only [zA,zC,zN]);first|done|rfl|(simp only [zM,zL];rfl)) ?_;(with_reducible refine (laws_markText.calls k1 (wrap64 ((wrap64 ((wrap64 (x1_1 + 1)) + 1)) + 1)) t311 _ A9.out).mono ?_);rintro e w20 ⟨rfl,hb⟩;refine ⟨_,rfl,?_⟩;have n0_:=AsZ.mk (Kd.S_below (by (with_reducible repeat (first|apply Kd.S_alloc|apply Kd.S_drewN|apply Kd.S_drew));exact HO_0.out) hb);have n1_:=AsZ.mk (Kept.below (S:=(fun k_=>P0_ k_)) (by repeat (first|(with_reducible first|exact HK.out|apply Kept.alloc|apply Kept.drewN|apply Kept.drew)|exact HK.out)) hb);have n2_:=AsZ.mk (bwp (by repeat (first|(with_reducible first|exact HB.out|apply bwa|apply pbN|apply bw1)|exact HB.out)) hb);clear HO_0;clear HK;clear HB;have HO_0:=n0_;have HK:=n1_;have HB:=n2_;clear n0_ n1_ n2_;(try clear hb);(try clear hb2);(try clear hk);(try clear hi);have p10:0≤(x5_1:Int):=zD (by first|(with_reducible assumption)|assumption);have q10:(x5_1:Int) < ((x0_1.length:Int):Int):=zD (by first|(with_reducible assumption)|assumption);obtain ⟨_,ce10,hcl10,hM10,hcc10,hfr10,_,_⟩:=Kd.S_elem HO_0.out z77 (x5_1:Int) p10 q10;obtain ⟨ve10_4,rfl,ge10_4⟩:=k77_openM hM10;have hx10_0:w20.cell? ⟨go6,(x5_1:Int).toNat * 5,none⟩=some (.string ((rd_T77 y310 x5_1).f0.f0)):=hcc10 0 _ rfl;have hx10_1:w20.cell? ⟨go6,(x5_1:Int).toNat * 5 + 1,none⟩=some (.int .i64 ((rd_T77 y310 x5_1).f0.f1)):=hcc10 1 _ rfl;have hx10_2:w20.cell? ⟨go6,(x5_1:Int).toNat * 5 + 2,none⟩=some (.int .i64 ((rd_T77 y310 x5_1).f0.f2)):=hcc10 2 _ rfl;have hx10_3:w20.cell? ⟨go6,(x5_1:Int).toNat * 5 + 3,none⟩=some (.string ((rd_T77 y310 x5_1).f0.f3)):=hcc10 3 _ rfl;have hx10_4:w20.cell? ⟨go6,(x5_1:Int).toNat * 5 + 4,none⟩=some (ve10_4):=hcc10 4 _ rfl;have hf10_0:w20.frozen? ⟨go6,(x5_1:Int).toNat * 5,none⟩=false:=hfr10 0;have hf10_1:w20.frozen? ⟨go6,(x5_1:Int).toNat * 5 + 1,none⟩=false:=hfr10 1;have hf10_2:w20.frozen? ⟨go6,(x5_1:Int).toNat * 5 + 2,none⟩=false:=hfr10 2;have hf10_3:w20.frozen? ⟨go6,(x5_1:Int).toNat * 5 + 3,none⟩=false:=hfr10 3;have hf10_4:w20.frozen? ⟨go6,(x5_1:Int).toNat * 5 + 4,none⟩=false:=hfr10 4;clear hcl10 hcc10 hfr10 hM10;replace p10:=eq_true p10;replace q10:=eq_true q10;have HX21:=AsZ.mk (show Kd.S k77 77 w20 w0.heap.size (fun k_=>((fun k_=>(P0_ k_∨w.heap.size≤k_))) k_ ∧ ¬ ((fun _=>False)) k_) (.slice (some ⟨go6,0,none⟩) x0_1.length co12) y310 from (by (with_reducible repeat (first|apply Kd.S_alloc|apply Kd.S_drewN|apply Kd.S_drew));exact Kd.S_mono HO_0.out (fun k_ hk=>⟨hk,fun e_=>e_⟩)));obtain ⟨oki21,ce21,hcl21,hM21,hcc21,hfr21,hoki21,hH21⟩:=Kd.S_elem HX21.out z77 (x5_1:Int) (zD (by first|(with_reducible assumption)|assumption)) (by have h_:(x5_1:Int) < ((x0_1.length:Int):Int):=zD (by first|(with_reducible assumption)|assumption);first|exact h_|(have e_:=(Kd.S_reads' HO_0.out).1;omega)|simpa using h_);obtain ⟨ve21_4,rfl,ge21_4⟩:=k77_openM hM21;have HP21:=Kd.S_seg hH21 (zD (by first|(with_reducible assumption)|assumption)) (by have h_:(x5_1:Int) < ((x0_1.length:Int):Int):=zD (by first|(with_reducible assumption)|assumption);first|exact h_|(have e_:=(Kd.S_reads' HO_0.out).1;omega)|simpa using h_) (seg:=[.string t311]) (j:=3) (show 4≤5 from by decide) (x':=(⟨(⟨(rd_T77 y310 x5_1).f0.f0,(rd_T77 y310 x5_1).f0.f1,(rd_T77 y310 x5_1).f0.f2,t311⟩:S28),(rd_T77 y310 x5_1).f1⟩:S77)) (k77_mkM _ _ _ (⟨(⟨(rd_T77 y310 x5_1).f0.f0,(rd_T77 y310 x5_1).f0.f1,(rd_T77 y310 x5_1).f0.f2,t311⟩:S28),(rd_T77 y310 x5_1).f1⟩:S77) (Kd.R_mono ge21_4 (fun _ h_=>Or.inl h_))) (fun _ hk=>hk) (fun k_ hk_=>hk_.elim);have hx21_3:=hcc21 3 _ rfl;(try simp only [show (k77).sz=5 from rfl,Nat.mul_one,Nat.add_zero] at hx21_3);have hf21_3:=hfr21 3;(try simp only [show (k77).sz=5 from rfl,Nat.mul_one,Nat.add_zero] at hf21_3);clear hcl21 hcc21 hfr21 hM21 hoki21 hH21)|((with_reducible refine gate_store (t:=9) (p:=43) rfl ?_);refine store_event (t:=9) (p:=43) (v:=?vo_w22) (w1:=(w20.setCell ⟨go6,(x5_1:Int).toNat * 5 + 3,none⟩ (.string t311))) ?hg ?ho ?hn ?hr ?_;(case ho=>rfl);(case hg=>rfl);(case hn=>rfl);(case hr=>first|(go_simp;done)|(go_simp;rfl));intro w22 hw;have hg:w20.grownBy w22 (some go6):=(by rw [hw];exact HP21.2);have hp_:Kd.S k77 77 w22 w0.heap.size (fun k_=>(P0_ k_∨w.heap.size≤k_)) (.slice (some ⟨go6,0,none⟩) x0_1.length co12) y312:=(by rw [hw,Ny312.out];exact HP21.1);clear HP21;have n0_:=AsZ.mk (hp_);have n1_:=AsZ.mk ((by rw [hw];exact bws (HB.out) GB6.out:Below w0.heap.size w0 w22));have n2_:=AsZ.mk (Kept.of_grown (S:=(fun k_=>P0_ k_)) hg (by repeat (first|(with_reducible first|exact HK.out|apply Kept.alloc|apply Kept.drewN|apply Kept.drew)|exact HK.out)) (fun k_ e_=>((Kd.S_R HO_0.out).1 k_ e_)));clear HO_0;clear HB;clear HK;have HO_0:=n0_;have HB:=n1_;have HK:=n2_;clear n0_ n1_ n2_;clear hg hw hp_;have p313:0≤(x5_1:Int):=zD (by first|(with_reducible assumption)|assumption);have q313:x5_1 < (y312.length:Int):=(by have h_:(x5_1:Int) < ((x0_1.length:Int):Int):=zD (by first|(with_reducible assumption)|assumption);first|(have e_:=(Kd.S_reads' HO_0.out).1;omega)|simpa only [Ny308.out,Ny309.out,Ny310.out,Ny312.out,List.length_set] using h_);have ql313:((x5_1:Int) < ((x0_1.length:Int):Int))=True:=eq_true (zD (by first|(with_reducible assumption)|assumption));have q313':(x5_1:Int) < (x0_1.length:Int):=zD (by first|(with_reducible assumption)|assumption);obtain ⟨oki313,ce313,hcl313,hM313,hcc313,hoki313,hH313⟩:=Kd.S_lend HO_0.out z77 (x5_1:Int) p313 (by first|exact q313'|simpa using q313');obtain ⟨ve313,rfl,ge313⟩:=k77_openM hM313;have hx313_4:w22.cell? ⟨go6,(x5_1:Int).toNat * 5 + 4,none⟩=some ve313:=hcc313 4 _ rfl;have HL313:=AsZ.mk hH313;have HM313:=AsZ.mk (show Kd.R (Kd.int .i64) 3 _ _ _ _ ((rd_T77 y312 x5_1).f1) from ge313);have HI313:=AsZ.mk hoki313;clear hH313 ge313 hM313 hcl313 hcc313 hoki313 q313';replace p313:=eq_true p313;replace q313:=eq_true q313)|((with_reducible refine gcl (f:=65) rfl ?_);refine goesL_ (some 52) rfl rfl Tryd.func65 (by kernel_rfl) rfl #[ve313,.int .i64 (wrap64 ((wrap64 ((wrap64 ((wrap64 (x1_1 + 1)) + 1)) + 1)) + 1))] rfl (by (try simp only [zA,zC,zN]);first|done|rfl) ?_;(with_reducible refine (laws_markIntS.calls k1 oki313 ve313 ((rd_T77 y312 x5_1).f1) (wrap64 ((wrap64 ((wrap64 ((wrap64 (x1_1 + 1)) + 1)) + 1)) + 1)) t314 t315 w0 _ HB.out HM313.out A11.out).mono ?_);rintro e w23 ⟨rfl,hr,hb,hk⟩;refine ⟨_,rfl,?_⟩;have hH1:=Kd.H_step (Kd.H_widen HL313.out) (fun k_ _ hn_ hlt_=>hk.2 k_ hlt_ (fun h_=>hn_ (Or.inl h_)));have hp_:Kd.S k77 77 w23 w0.heap.size (fun k_=>(P0_ k_∨w.heap.size≤k_)) (.slice (some ⟨go6,0,none⟩) x0_1.length co12) y316:=(by rw [Ny316.out];exact Kd.H_back hH1 (k77_mkM _ _ _ (⟨(rd_T77 y312 x5_1).f0,t315⟩:S77) hr) (fun k_ h_=>h_.elim Or.inl (fun h2_=>Or.inr ⟨Or.inr (Nat.le_trans HK.out.1 h2_),h2_⟩)));have n0_:=AsZ.mk hp_;have n3_:=AsZ.mk (Kept.then_ HK.out hk (fun k_ h_=>(HI313.out k_ h_).1));have n4_:=AsZ.mk hb;clear HO_0;clear HL313;clear HM313;clear HI313;clear HK;clear HB;have HO_0:=n0_;have HK:=n3_;have HB:=n4_;clear n0_ n3_ n4_ hp_ hH1 hr hb hk))
   go_roundg k1
   case measure=>have:=HK1.out;omega
   case rel=>exact ⟨(y316),(t314),(wrap64 (x5_1 + 1)),(by first|rfl|(simp;done)|(simp [*];done)),(by first|rfl|(simp;done)|(simp [*];done)),H',⟨by have:=HK1.out;omega⟩,⟨by (with_reducible repeat (first|apply Kd.S_alloc|apply Kd.S_drewN|apply Kd.S_drew));exact HO_0.out⟩,⟨by repeat (first|(with_reducible first|exact HK.out|apply Kept.alloc|apply Kept.drewN|apply Kept.drew)|exact HK.out)⟩,⟨by repeat (first|(with_reducible first|exact HB.out|apply bwa|apply pbN|apply bw1)|exact HB.out)⟩⟩
end Go.Proofs.YtffjlpphcjfdgaaDoor.MFnExactListSkip
