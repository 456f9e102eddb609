-- Written by a program of this session out of the translation. Not trusted: Lean checks it.
import Derived.Test.YtffjlpphcjfdgaaDoorMFnExactListSkipx0
import Derived.Test.YtffjlpphcjfdgaaDoorMFnExactListSkipx9
namespace Go.Proofs.YtffjlpphcjfdgaaDoor.MFnExactListSkip
-- short
-- shrunk
-- TAB
-- RD
open Go.Proofs.YtffjlpphcjfdgaaDoor Go.RowKit Go.Proofs.YtffjlpphcjfdgaaDoorW.PrintWords Go.Proofs.YtffjlpphcjfdgaaDoorW.PrintLast Go.Proofs.YtffjlpphcjfdgaaDoorW.PrintMore Go.Proofs.YtffjlpphcjfdgaaDoorX
attribute [local go_sem] max2_int min2_int max_two min_two max_three min_three max_four min_four str_gtr str_leq str_geq cell_twice
set_option linter.unusedVariables false
set_option linter.unusedSimpArgs false
/-! ### laws_eqItemS: function 21 -/
def laws_eqItemS.l0:Nat→List (S28)→List (S28)→Int→Option (Bool)
  |0,_,_,_=>none
  |k + 1,x0,x1,x5=>if x5 < (x0.length:Int) then (if 0≤x5 then (if x5 < (x1.length:Int) then ((laws_eqItem.f ((rd_T28 x0 x5).f0) ((rd_T28 x0 x5).f1) ((rd_T28 x0 x5).f2) ((rd_T28 x0 x5).f3) ((rd_T28 x1 x5).f0) ((rd_T28 x1 x5).f1) ((rd_T28 x1 x5).f2) ((rd_T28 x1 x5).f3)).bind fun t289=>(if t289=true then (laws_eqItemS.l0 k x0 x1 (wrap64 (x5 + 1))) else (some false))) else (none)) else (none)) else (some true)
def laws_eqItemS.f (k:Nat) (l0:List (S28)) (l1:List (S28)):Option (Bool):=if (l0.length:Int)=(l1.length:Int) then (laws_eqItemS.l0 k l0 l1 0) else (some false)
theorem laws_eqItemS.mono_l:∀ k,(∀ y0 y1 y2,LeO (laws_eqItemS.l0 k y0 y1 y2) (laws_eqItemS.l0 (k + 1) y0 y1 y2))
  |0=>fun _ _ _ r h=>by simp [laws_eqItemS.l0] at h
  |k + 1=>by
    have ih0:=laws_eqItemS.mono_l k
    · intro y0 y1 y2
      unfold laws_eqItemS.l0
      repeat' first
      |(with_reducible exact ih0 _ _ _)
      |(with_reducible exact LeO.refl _)
      |(with_reducible exact LeO.none _)
      |(with_reducible refine LeO.ite ?_ ?_)
      |(with_reducible refine LeO.bind ?_ (fun _=>?_))
      |exact ih0 _ _ _
      |exact LeO.none _
      |refine LeO.ite ?_ ?_
      |refine LeO.bind ?_ (fun _=>?_)
theorem laws_eqItemS.mono:∀ a0 a1 k,LeO (laws_eqItemS.f k a0 a1) (laws_eqItemS.f (k + 1) a0 a1):=by
  intro a0 a1 k
  have ih0:=laws_eqItemS.mono_l k
  unfold laws_eqItemS.f
  repeat' first
      |(with_reducible exact ih0 _ _ _)
      |(with_reducible exact LeO.refl _)
      |(with_reducible exact LeO.none _)
      |(with_reducible refine LeO.ite ?_ ?_)
      |(with_reducible refine LeO.bind ?_ (fun _=>?_))
      |exact ih0 _ _ _
      |exact LeO.none _
      |refine LeO.ite ?_ ?_
      |refine LeO.bind ?_ (fun _=>?_)
def laws_eqItemS.T6:Bool × List (List Nat × List Nat):=(true,[([],[]),([],[]),([0,1],[0,1]),([2],[2]),([],[]),([],[]),([4,5],[4,5]),([6],[6]),([3,7],[3,7]),([8],[8])])
def laws_eqItemS.B6:List Nat:=[0,0,3,7,0,0,48,112,255,511]
theorem laws_eqItemS.tab6:rtab .any (opsOf Tryd.f21 6)=laws_eqItemS.T6:=by kernel_rfl
theorem laws_eqItemS.bits6:waitsOk laws_eqItemS.T6.2 laws_eqItemS.B6=true:=by kernel_rfl
set_option maxHeartbeats 8000000 in
set_option maxRecDepth 100000 in
theorem laws_eqItemS.calls (k:Nat) (A0:Option Addr) (c0:Nat) (l0:List (S28)) (A1:Option Addr) (c1:Nat) (l1:List (S28)) (r:Bool) (w:World) (hr0:Kd.C k28 w A0 l0.length l0) (hc0:l0.length≤c0) (hr1:Kd.C k28 w A1 l1.length l1) (hc1:l1.length≤c1) (h:laws_eqItemS.f k l0 l1=some r) :
    Calls Tryd.prog 21 #[.slice A0 l0.length c0,.slice A1 l1.length c1] w fun e w'=>e = .returned (.bool r)∧Below w.heap.size w w':=by
 have hu28:=Tryd.underlying28
 have HR0:=AsZ.mk hr0
 have HC0:=AsZ.mk hc0
 clear hr0 hc0
 have HR1:=AsZ.mk hr1
 have HC1:=AsZ.mk hc1
 clear hr1 hc1
 have HB:=AsZ.mk (Below.refl w.heap.size w)
 have H:(if (l0.length:Int)=(l1.length:Int) then (laws_eqItemS.l0 k l0 l1 0) else (some false))=some r:=h
 clear h
 by_cases c3:(l0.length:Int)=(l1.length:Int)
 rotate_left
 · rw [if_neg c3] at H
   have c3b0:((l0.length:Int) == (l1.length:Int))=false:=beq_eq_false_iff_ne.mpr c3
   have c3b1:((l0.length:Int) != (l1.length:Int))=true:=bne_iff_ne.mpr c3
   have c3b2:(l0.length == l1.length)=false:=by first|simpa using c3|(simp at c3 ⊢;omega)
   obtain rfl:=zI H
   go_enter Tryd.func21,Tryd.ntmps21
   go_wp2
   go_ret
   exact ⟨by first|rfl|(simp [errW_none,errW_some]<;>rfl)|(simp [*,errW_none,errW_some]<;>rfl),by repeat (first|(with_reducible first|exact HB.out|apply bwa|apply pbN|apply bw1)|exact HB.out)⟩
 rw [if_pos c3] at H
 have c3b0:((l0.length:Int) == (l1.length:Int))=true:=beq_iff_eq.mpr c3
 have c3b1:((l0.length:Int) != (l1.length:Int))=false:=bne_eq_false_iff_eq.mpr c3
 have c3b2:(l0.length == l1.length)=true:=by first|simpa using c3|(simp at c3 ⊢;omega)
 clear c3
 have H':=AsZ.mk H
 clear H
 go_enter Tryd.func21,Tryd.ntmps21
 go_wp2
 go_loopg [5] k (fun kq v5 w' => ∃ (x5_1:Int),v5 = .int .i64 x5_1∧AsZ (laws_eqItemS.l0 kq l0 l1 x5_1=some r)∧AsZ (kq≤k)∧AsZ (Below w.heap.size w w'))
 case atStart=>exact ⟨(0),(by first|rfl|(simp;done)|(simp [*];done)),H',⟨Nat.le_refl _⟩,⟨by repeat (first|(with_reducible first|exact HB.out|apply bwa|apply pbN|apply bw1)|exact HB.out)⟩⟩
 case round =>
  clear H'
  try clear c1
  try clear c2
  try clear p2
  try clear c3
  try clear c3b0
  try clear c3b1
  try clear c3b2
  obtain ⟨x5_1,rfl,HA,HK1,HB⟩:=hrel
  cases gk with
  |zero=>exact absurd HA.out (by simp [laws_eqItemS.l0])
  |succ k1 =>
   have H:=HA.out
   clear HA
   simp only [laws_eqItemS.l0] at H
   by_cases c4:x5_1 < (l0.length:Int)
   rotate_left
   · rw [if_neg c4] at H
     have c4b0:decide (x5_1 < (l0.length:Int))=false:=decide_eq_false c4
     clear c4
     obtain rfl:=zI H
     go_wp2
     go_ret
     exact ⟨by first|rfl|(simp [errW_none,errW_some]<;>rfl)|(simp [*,errW_none,errW_some]<;>rfl),by repeat (first|(with_reducible first|exact HB.out|apply bwa|apply pbN|apply bw1)|exact HB.out)⟩
   rw [if_pos c4] at H
   have c4b0:decide (x5_1 < (l0.length:Int))=true:=zE c4
   clear c4
   by_cases c5:0≤x5_1
   rotate_left
   · rw [if_neg c5] at H
     exact absurd H (by simp)
   rw [if_pos c5] at H
   have c5b0:decide (0≤x5_1)=true:=zE c5
   clear c5
   by_cases c6:x5_1 < (l1.length:Int)
   rotate_left
   · rw [if_neg c6] at H
     exact absurd H (by simp)
   rw [if_pos c6] at H
   have c6b0:decide (x5_1 < (l1.length:Int))=true:=zE c6
   clear c6
   replace H:=Option.bind_eq_some_iff.mp H
   obtain ⟨t289,A70,H⟩:=H
   replace H:(if t289=true then (laws_eqItemS.l0 k1 l0 l1 (wrap64 (x5_1 + 1))) else (some false))=some r:=H
   have A7:=AsZ.mk A70
   clear A70
   by_cases c8:t289=true
   rotate_left
   · replace c8:=Bool.eq_false_iff.mpr c8
     subst c8
     have H1:(some false)=some r:=by rw [if_neg (show ¬ (false=true) by decide)] at H;exact H
     clear H
     have H:=H1
     clear H1
     obtain rfl:=zI H
     try go_wp2
     have n0_:=AsZ.mk (bw1 HB.out)
     clear HB
     have HB:=n0_
     clear n0_
     have p287:0≤(x5_1:Int):=zD (by first|(with_reducible assumption)|assumption)
     have q287:x5_1 < (l0.length:Int):=zD (by first|(with_reducible assumption)|assumption)
     obtain ⟨ad287,e287,hx287_0,hx287_1,hx287_2,hx287_3⟩:=at_T28 HR0.out x5_1 p287 q287
     have hw287_3:=hx287_3
     have hw287_2:=hx287_2
     have hw287_1:=hx287_1
     have hw287_0:=hx287_0
     cases e287
     replace hx287_0:=(HB.out.cell (zB w _ hx287_0)).trans hx287_0
     replace hx287_1:=(HB.out.cell (zB w _ hx287_1)).trans hx287_1
     replace hx287_2:=(HB.out.cell (zB w _ hx287_2)).trans hx287_2
     replace hx287_3:=(HB.out.cell (zB w _ hx287_3)).trans hx287_3
     replace p287:=eq_true p287
     replace q287:=eq_true q287
     have p288:0≤(x5_1:Int):=zD (by first|(with_reducible assumption)|assumption)
     have q288:x5_1 < (l1.length:Int):=zD (by first|(with_reducible assumption)|assumption)
     obtain ⟨ad288,e288,hx288_0,hx288_1,hx288_2,hx288_3⟩:=at_T28 HR1.out x5_1 p288 q288
     have hw288_3:=hx288_3
     have hw288_2:=hx288_2
     have hw288_1:=hx288_1
     have hw288_0:=hx288_0
     cases e288
     replace hx288_0:=(HB.out.cell (zB w _ hx288_0)).trans hx288_0
     replace hx288_1:=(HB.out.cell (zB w _ hx288_1)).trans hx288_1
     replace hx288_2:=(HB.out.cell (zB w _ hx288_2)).trans hx288_2
     replace hx288_3:=(HB.out.cell (zB w _ hx288_3)).trans hx288_3
     replace p288:=eq_true p288
     replace q288:=eq_true q288
     refine start_ (n:=10) (S:=fun w'=>w'.cell? (ad287.add ((x5_1).toNat * 4))=some (.string ((rd_T28 l0 x5_1).f0))∧w'.cell? ⟨(ad287.add ((x5_1).toNat * 4)).block,(ad287.add ((x5_1).toNat * 4)).off + 1,none⟩=some (.int .i64 ((rd_T28 l0 x5_1).f1))∧w'.cell? ⟨(ad287.add ((x5_1).toNat * 4)).block,(ad287.add ((x5_1).toNat * 4)).off + 2,none⟩=some (.int .i64 ((rd_T28 l0 x5_1).f2))∧w'.cell? ⟨(ad287.add ((x5_1).toNat * 4)).block,(ad287.add ((x5_1).toNat * 4)).off + 3,none⟩=some (.string ((rd_T28 l0 x5_1).f3))∧w'.cell? (ad288.add ((x5_1).toNat * 4))=some (.string ((rd_T28 l1 x5_1).f0))∧w'.cell? ⟨(ad288.add ((x5_1).toNat * 4)).block,(ad288.add ((x5_1).toNat * 4)).off + 1,none⟩=some (.int .i64 ((rd_T28 l1 x5_1).f1))∧w'.cell? ⟨(ad288.add ((x5_1).toNat * 4)).block,(ad288.add ((x5_1).toNat * 4)).off + 2,none⟩=some (.int .i64 ((rd_T28 l1 x5_1).f2))∧w'.cell? ⟨(ad288.add ((x5_1).toNat * 4)).block,(ad288.add ((x5_1).toNat * 4)).off + 3,none⟩=some (.string ((rd_T28 l1 x5_1).f3))) (ds:=[]) (b_ 0 10) (by kernel_rfl) rfl rfl ⟨((HB.out.cell (zB w _ hw287_0)).trans hw287_0),((HB.out.cell (zB w _ hw287_1)).trans hw287_1),((HB.out.cell (zB w _ hw287_2)).trans hw287_2),((HB.out.cell (zB w _ hw287_3)).trans hw287_3),((HB.out.cell (zB w _ hw288_0)).trans hw288_0),((HB.out.cell (zB w _ hw288_1)).trans hw288_1),((HB.out.cell (zB w _ hw288_2)).trans hw288_2),((HB.out.cell (zB w _ hw288_3)).trans hw288_3)⟩ (fun hHeld=>?_);refine with_tabW laws_eqItemS.tab6 laws_eqItemS.bits6 (fun HT_ HW_=>?_)
     generalize wr.drew=w11 at HB hx287_0 hx287_1 hx287_2 hx287_3 hx288_0 hx288_1 hx288_2 hx288_3 hHeld ⊢
     refine pure_ (i:=0) (N:=some 17) (v:=?_) (a':=?_) (b_ 1 9) rfl rfl (anO HT_.out (by kernel_rfl)) (fun _ _ _ h=>h) (Or.inl ⟨by rfl,?_⟩) ?_ ?_
     rotate_left
     · intro w'
       go_simp
       with_reducible rfl
     rotate_left
     · simp only [Act.put,zS,zT,zU,i64_w,i32_w]
       rfl
     refine pure_ (i:=1) (N:=some 18) (v:=?_) (a':=?_) (b_ 2 8) rfl rfl (anO HT_.out (by kernel_rfl)) (fun _ _ _ h=>h) (Or.inl ⟨by rfl,?_⟩) ?_ ?_
     rotate_left
     · intro w'
       go_simp
       with_reducible rfl
     rotate_left
     · simp only [Act.put,zS,zT,zU,i64_w,i32_w]
       rfl
     refine pure_ (i:=2) (N:=some 19) (v:=?_) (a':=?_) (b_ 3 7) rfl rfl (anO HT_.out (by kernel_rfl)) (fun _ _ _ h=>h) (Or.inl ⟨by rfl,?_⟩) ?_ ?_
     rotate_left
     · intro w'
       go_simp
       with_reducible rfl
     rotate_left
     · simp only [Act.put,zS,zT,zU,i64_w,i32_w]
       rfl
     refine pure_ (i:=4) (N:=some 21) (v:=?_) (a':=?_) #[true,true,true,false,true,false,false,false,false,false] rfl rfl (anO HT_.out (by kernel_rfl)) (fun _ _ _ h=>h) (Or.inl ⟨by rfl,?_⟩) ?_ ?_
     rotate_left
     · intro w'
       go_simp
       with_reducible rfl
     rotate_left
     · simp only [Act.put,zS,zT,zU,i64_w,i32_w]
       rfl
     refine pure_ (i:=5) (N:=some 22) (v:=?_) (a':=?_) #[true,true,true,false,true,true,false,false,false,false] rfl rfl (anO HT_.out (by kernel_rfl)) (fun _ _ _ h=>h) (Or.inl ⟨by rfl,?_⟩) ?_ ?_
     rotate_left
     · intro w'
       go_simp
       with_reducible rfl
     rotate_left
     · simp only [Act.put,zS,zT,zU,i64_w,i32_w]
       rfl
     refine pure_ (i:=6) (N:=some 23) (v:=?_) (a':=?_) #[true,true,true,false,true,true,true,false,false,false] rfl rfl (anO HT_.out (by kernel_rfl)) (fun _ _ _ h=>h) (Or.inl ⟨by rfl,?_⟩) ?_ ?_
     rotate_left
     · intro w'
       go_simp
       with_reducible rfl
     rotate_left
     · simp only [Act.put,zS,zT,zU,i64_w,i32_w]
       rfl
     refine take_ (i:=3) (N:=some 20) (v:=?_) (a':=?_) (b_ 7 3) rfl rfl (tkO HT_.out HW_.out (by kernel_rfl)) (fun _ _ _ h=>h) (Or.inl ⟨by rfl,?_⟩) hHeld ?_ ?_
     rotate_left
     · rintro w' ⟨s0,s1,s2,s3,s4,s5,s6,s7⟩
       go_simp
       with_reducible rfl
     rotate_left
     · simp only [Act.put,zS,zT,zU,i64_w,i32_w]
       rfl
     refine take_ (i:=7) (N:=some 24) (v:=?_) (a':=?_) (b_ 8 2) rfl rfl (tkO HT_.out HW_.out (by kernel_rfl)) (fun _ _ _ h=>h) (Or.inl ⟨by rfl,?_⟩) hHeld ?_ ?_
     rotate_left
     · rintro w' ⟨s0,s1,s2,s3,s4,s5,s6,s7⟩
       go_simp
       with_reducible rfl
     rotate_left
     · simp only [Act.put,zS,zT,zU,i64_w,i32_w]
       rfl
     refine one_ (i:=8) (N:=some 25) (b_ 9 1) rfl rfl (one_of HT_.out (by kernel_rfl)) (by decide) (fun K hK=>?_)
     refine goes_ Tryd.func33 (by kernel_rfl) rfl #[.agg #[.string ((rd_T28 l0 x5_1).f0),.int .i64 ((rd_T28 l0 x5_1).f1),.int .i64 ((rd_T28 l0 x5_1).f2),.string ((rd_T28 l0 x5_1).f3)],.agg #[.string ((rd_T28 l1 x5_1).f0),.int .i64 ((rd_T28 l1 x5_1).f1),.int .i64 ((rd_T28 l1 x5_1).f2),.string ((rd_T28 l1 x5_1).f3)]] (by rfl) rfl rfl (by (try simp only [zA,zC,zN]);first|done|rfl|(simp only [zM,zL];rfl)) ?_
     with_reducible refine (laws_eqItem.calls ((rd_T28 l0 x5_1).f0) ((rd_T28 l0 x5_1).f1) ((rd_T28 l0 x5_1).f2) ((rd_T28 l0 x5_1).f3) ((rd_T28 l1 x5_1).f0) ((rd_T28 l1 x5_1).f1) ((rd_T28 l1 x5_1).f2) ((rd_T28 l1 x5_1).f3) false _ A7.out).mono ?_
     rintro e w12 ⟨rfl,hb⟩
     refine ⟨_,rfl,?_⟩
     have n0_:=AsZ.mk (bwp (by repeat (first|(with_reducible first|exact HB.out|apply bwa|apply pbN|apply bw1)|exact HB.out)) hb)
     clear HB
     have HB:=n0_
     clear n0_
     (try clear hb)
     (try clear hb2)
     (try clear hk)
     (try clear hi)
     refine hK.out _ _ ⟨((HB.out.cell (zB w _ hw287_0)).trans hw287_0),((HB.out.cell (zB w _ hw287_1)).trans hw287_1),((HB.out.cell (zB w _ hw287_2)).trans hw287_2),((HB.out.cell (zB w _ hw287_3)).trans hw287_3),((HB.out.cell (zB w _ hw288_0)).trans hw288_0),((HB.out.cell (zB w _ hw288_1)).trans hw288_1),((HB.out.cell (zB w _ hw288_2)).trans hw288_2),((HB.out.cell (zB w _ hw288_3)).trans hw288_3)⟩ (fun hHeld=>?_)
     clear hK K
     refine norm_ (a':=?_) ?_ ?_
     rotate_left
     · show Act.put _ (some 25) _=_
       simp only [Act.put,zS,zT,zU,i64_w,i32_w]
       rfl
     refine pure_ (i:=9) (N:=some 26) (v:=?_) (a':=?_) (b_ 10 0) rfl rfl (anO HT_.out (by kernel_rfl)) (fun _ _ _ h=>h) (Or.inl ⟨by rfl,?_⟩) ?_ ?_
     rotate_left
     · intro w'
       go_simp
       with_reducible rfl
     rotate_left
     · simp only [Act.put,zS,zT,zU,i64_w,i32_w]
       rfl
     refine dn_ (dnO HT_.out (by kernel_rfl)) ?_
     try go_wp2
     go_ret
     exact ⟨by first|rfl|(simp [errW_none,errW_some]<;>rfl)|(simp [*,errW_none,errW_some]<;>rfl),by repeat (first|(with_reducible first|exact HB.out|apply bwa|apply pbN|apply bw1)|exact HB.out)⟩
   subst c8
   have H1:(laws_eqItemS.l0 k1 l0 l1 (wrap64 (x5_1 + 1)))=some r:=by rw [if_pos rfl] at H;exact H
   clear H
   have H:=H1
   clear H1
   have H':=AsZ.mk H
   clear H
   try go_wp2
   have n0_:=AsZ.mk (bw1 HB.out)
   clear HB
   have HB:=n0_
   clear n0_
   have p287:0≤(x5_1:Int):=zD (by first|(with_reducible assumption)|assumption)
   have q287:x5_1 < (l0.length:Int):=zD (by first|(with_reducible assumption)|assumption)
   obtain ⟨ad287,e287,hx287_0,hx287_1,hx287_2,hx287_3⟩:=at_T28 HR0.out x5_1 p287 q287
   have hw287_3:=hx287_3
   have hw287_2:=hx287_2
   have hw287_1:=hx287_1
   have hw287_0:=hx287_0
   cases e287
   replace hx287_0:=(HB.out.cell (zB w _ hx287_0)).trans hx287_0
   replace hx287_1:=(HB.out.cell (zB w _ hx287_1)).trans hx287_1
   replace hx287_2:=(HB.out.cell (zB w _ hx287_2)).trans hx287_2
   replace hx287_3:=(HB.out.cell (zB w _ hx287_3)).trans hx287_3
   replace p287:=eq_true p287
   replace q287:=eq_true q287
   have p288:0≤(x5_1:Int):=zD (by first|(with_reducible assumption)|assumption)
   have q288:x5_1 < (l1.length:Int):=zD (by first|(with_reducible assumption)|assumption)
   obtain ⟨ad288,e288,hx288_0,hx288_1,hx288_2,hx288_3⟩:=at_T28 HR1.out x5_1 p288 q288
   have hw288_3:=hx288_3
   have hw288_2:=hx288_2
   have hw288_1:=hx288_1
   have hw288_0:=hx288_0
   cases e288
   replace hx288_0:=(HB.out.cell (zB w _ hx288_0)).trans hx288_0
   replace hx288_1:=(HB.out.cell (zB w _ hx288_1)).trans hx288_1
   replace hx288_2:=(HB.out.cell (zB w _ hx288_2)).trans hx288_2
   replace hx288_3:=(HB.out.cell (zB w _ hx288_3)).trans hx288_3
   replace p288:=eq_true p288
   replace q288:=eq_true q288
   refine start_ (n:=10) (S:=fun w'=>w'.cell? (ad287.add ((x5_1).toNat * 4))=some (.string ((rd_T28 l0 x5_1).f0))∧w'.cell? ⟨(ad287.add ((x5_1).toNat * 4)).block,(ad287.add ((x5_1).toNat * 4)).off + 1,none⟩=some (.int .i64 ((rd_T28 l0 x5_1).f1))∧w'.cell? ⟨(ad287.add ((x5_1).toNat * 4)).block,(ad287.add ((x5_1).toNat * 4)).off + 2,none⟩=some (.int .i64 ((rd_T28 l0 x5_1).f2))∧w'.cell? ⟨(ad287.add ((x5_1).toNat * 4)).block,(ad287.add ((x5_1).toNat * 4)).off + 3,none⟩=some (.string ((rd_T28 l0 x5_1).f3))∧w'.cell? (ad288.add ((x5_1).toNat * 4))=some (.string ((rd_T28 l1 x5_1).f0))∧w'.cell? ⟨(ad288.add ((x5_1).toNat * 4)).block,(ad288.add ((x5_1).toNat * 4)).off + 1,none⟩=some (.int .i64 ((rd_T28 l1 x5_1).f1))∧w'.cell? ⟨(ad288.add ((x5_1).toNat * 4)).block,(ad288.add ((x5_1).toNat * 4)).off + 2,none⟩=some (.int .i64 ((rd_T28 l1 x5_1).f2))∧w'.cell? ⟨(ad288.add ((x5_1).toNat * 4)).block,(ad288.add ((x5_1).toNat * 4)).off + 3,none⟩=some (.string ((rd_T28 l1 x5_1).f3))) (ds:=[]) (b_ 0 10) (by kernel_rfl) rfl rfl ⟨((HB.out.cell (zB w _ hw287_0)).trans hw287_0),((HB.out.cell (zB w _ hw287_1)).trans hw287_1),((HB.out.cell (zB w _ hw287_2)).trans hw287_2),((HB.out.cell (zB w _ hw287_3)).trans hw287_3),((HB.out.cell (zB w _ hw288_0)).trans hw288_0),((HB.out.cell (zB w _ hw288_1)).trans hw288_1),((HB.out.cell (zB w _ hw288_2)).trans hw288_2),((HB.out.cell (zB w _ hw288_3)).trans hw288_3)⟩ (fun hHeld=>?_);refine with_tabW laws_eqItemS.tab6 laws_eqItemS.bits6 (fun HT_ HW_=>?_)
   generalize wr.drew=w9 at HB hx287_0 hx287_1 hx287_2 hx287_3 hx288_0 hx288_1 hx288_2 hx288_3 hHeld ⊢
   refine pure_ (i:=0) (N:=some 17) (v:=?_) (a':=?_) (b_ 1 9) rfl rfl (anO HT_.out (by kernel_rfl)) (fun _ _ _ h=>h) (Or.inl ⟨by rfl,?_⟩) ?_ ?_
   rotate_left
   · intro w'
     go_simp
     with_reducible rfl
   rotate_left
   · simp only [Act.put,zS,zT,zU,i64_w,i32_w]
     rfl
   refine pure_ (i:=1) (N:=some 18) (v:=?_) (a':=?_) (b_ 2 8) rfl rfl (anO HT_.out (by kernel_rfl)) (fun _ _ _ h=>h) (Or.inl ⟨by rfl,?_⟩) ?_ ?_
   rotate_left
   · intro w'
     go_simp
     with_reducible rfl
   rotate_left
   · simp only [Act.put,zS,zT,zU,i64_w,i32_w]
     rfl
   refine pure_ (i:=2) (N:=some 19) (v:=?_) (a':=?_) (b_ 3 7) rfl rfl (anO HT_.out (by kernel_rfl)) (fun _ _ _ h=>h) (Or.inl ⟨by rfl,?_⟩) ?_ ?_
   rotate_left
   · intro w'
     go_simp
     with_reducible rfl
   rotate_left
   · simp only [Act.put,zS,zT,zU,i64_w,i32_w]
     rfl
   refine pure_ (i:=4) (N:=some 21) (v:=?_) (a':=?_) #[true,true,true,false,true,false,false,false,false,false] rfl rfl (anO HT_.out (by kernel_rfl)) (fun _ _ _ h=>h) (Or.inl ⟨by rfl,?_⟩) ?_ ?_
   rotate_left
   · intro w'
     go_simp
     with_reducible rfl
   rotate_left
   · simp only [Act.put,zS,zT,zU,i64_w,i32_w]
     rfl
   refine pure_ (i:=5) (N:=some 22) (v:=?_) (a':=?_) #[true,true,true,false,true,true,false,false,false,false] rfl rfl (anO HT_.out (by kernel_rfl)) (fun _ _ _ h=>h) (Or.inl ⟨by rfl,?_⟩) ?_ ?_
   rotate_left
   · intro w'
     go_simp
     with_reducible rfl
   rotate_left
   · simp only [Act.put,zS,zT,zU,i64_w,i32_w]
     rfl
   refine pure_ (i:=6) (N:=some 23) (v:=?_) (a':=?_) #[true,true,true,false,true,true,true,false,false,false] rfl rfl (anO HT_.out (by kernel_rfl)) (fun _ _ _ h=>h) (Or.inl ⟨by rfl,?_⟩) ?_ ?_
   rotate_left
   · intro w'
     go_simp
     with_reducible rfl
   rotate_left
   · simp only [Act.put,zS,zT,zU,i64_w,i32_w]
     rfl
   refine take_ (i:=3) (N:=some 20) (v:=?_) (a':=?_) (b_ 7 3) rfl rfl (tkO HT_.out HW_.out (by kernel_rfl)) (fun _ _ _ h=>h) (Or.inl ⟨by rfl,?_⟩) hHeld ?_ ?_
   rotate_left
   · rintro w' ⟨s0,s1,s2,s3,s4,s5,s6,s7⟩
     go_simp
     with_reducible rfl
   rotate_left
   · simp only [Act.put,zS,zT,zU,i64_w,i32_w]
     rfl
   refine take_ (i:=7) (N:=some 24) (v:=?_) (a':=?_) (b_ 8 2) rfl rfl (tkO HT_.out HW_.out (by kernel_rfl)) (fun _ _ _ h=>h) (Or.inl ⟨by rfl,?_⟩) hHeld ?_ ?_
   rotate_left
   · rintro w' ⟨s0,s1,s2,s3,s4,s5,s6,s7⟩
     go_simp
     with_reducible rfl
   rotate_left
   · simp only [Act.put,zS,zT,zU,i64_w,i32_w]
     rfl
   refine one_ (i:=8) (N:=some 25) (b_ 9 1) rfl rfl (one_of HT_.out (by kernel_rfl)) (by decide) (fun K hK=>?_)
   refine goes_ Tryd.func33 (by kernel_rfl) rfl #[.agg #[.string ((rd_T28 l0 x5_1).f0),.int .i64 ((rd_T28 l0 x5_1).f1),.int .i64 ((rd_T28 l0 x5_1).f2),.string ((rd_T28 l0 x5_1).f3)],.agg #[.string ((rd_T28 l1 x5_1).f0),.int .i64 ((rd_T28 l1 x5_1).f1),.int .i64 ((rd_T28 l1 x5_1).f2),.string ((rd_T28 l1 x5_1).f3)]] (by rfl) rfl rfl (by (try simp only [zA,zC,zN]);first|done|rfl|(simp only [zM,zL];rfl)) ?_
   with_reducible refine (laws_eqItem.calls ((rd_T28 l0 x5_1).f0) ((rd_T28 l0 x5_1).f1) ((rd_T28 l0 x5_1).f2) ((rd_T28 l0 x5_1).f3) ((rd_T28 l1 x5_1).f0) ((rd_T28 l1 x5_1).f1) ((rd_T28 l1 x5_1).f2) ((rd_T28 l1 x5_1).f3) true _ A7.out).mono ?_
   rintro e w10 ⟨rfl,hb⟩
   refine ⟨_,rfl,?_⟩
   have n0_:=AsZ.mk (bwp (by repeat (first|(with_reducible first|exact HB.out|apply bwa|apply pbN|apply bw1)|exact HB.out)) hb)
   clear HB
   have HB:=n0_
   clear n0_
   (try clear hb)
   (try clear hb2)
   (try clear hk)
   (try clear hi)
   refine hK.out _ _ ⟨((HB.out.cell (zB w _ hw287_0)).trans hw287_0),((HB.out.cell (zB w _ hw287_1)).trans hw287_1),((HB.out.cell (zB w _ hw287_2)).trans hw287_2),((HB.out.cell (zB w _ hw287_3)).trans hw287_3),((HB.out.cell (zB w _ hw288_0)).trans hw288_0),((HB.out.cell (zB w _ hw288_1)).trans hw288_1),((HB.out.cell (zB w _ hw288_2)).trans hw288_2),((HB.out.cell (zB w _ hw288_3)).trans hw288_3)⟩ (fun hHeld=>?_)
   clear hK K
   refine norm_ (a':=?_) ?_ ?_
   rotate_left
   · show Act.put _ (some 25) _=_
     simp only [Act.put,zS,zT,zU,i64_w,i32_w]
     rfl
   refine pure_ (i:=9) (N:=some 26) (v:=?_) (a':=?_) (b_ 10 0) rfl rfl (anO HT_.out (by kernel_rfl)) (fun _ _ _ h=>h) (Or.inl ⟨by rfl,?_⟩) ?_ ?_
   rotate_left
   · intro w'
     go_simp
     with_reducible rfl
   rotate_left
   · simp only [Act.put,zS,zT,zU,i64_w,i32_w]
     rfl
   refine dn_ (dnO HT_.out (by kernel_rfl)) ?_
   try go_wp2
   go_roundg k1
   case measure=>have:=HK1.out;omega
   case rel=>exact ⟨(wrap64 (x5_1 + 1)),(by first|rfl|(simp;done)|(simp [*];done)),H',⟨by have:=HK1.out;omega⟩,⟨by repeat (first|(with_reducible first|exact HB.out|apply bwa|apply pbN|apply bw1)|exact HB.out)⟩⟩
/-! ### laws_eqIntS: function 63 -/
def laws_eqIntS.l0:Nat→List Int→List Int→Int→Option (Bool)
  |0,_,_,_=>none
  |k + 1,x0,x1,x5=>if x5 < (x0.length:Int) then (if 0≤x5 then (if x5 < (x1.length:Int) then (if (rd x0 x5)=(rd x1 x5) then (laws_eqIntS.l0 k x0 x1 (wrap64 (x5 + 1))) else (some false)) else (none)) else (none)) else (some true)
def laws_eqIntS.f (k:Nat) (l0:List Int) (l1:List Int):Option (Bool):=if (l0.length:Int)=(l1.length:Int) then (laws_eqIntS.l0 k l0 l1 0) else (some false)
theorem laws_eqIntS.mono_l:∀ k,(∀ y0 y1 y2,LeO (laws_eqIntS.l0 k y0 y1 y2) (laws_eqIntS.l0 (k + 1) y0 y1 y2))
  |0=>fun _ _ _ r h=>by simp [laws_eqIntS.l0] at h
  |k + 1=>by
    have ih0:=laws_eqIntS.mono_l k
    · intro y0 y1 y2
      unfold laws_eqIntS.l0
      repeat' first
      |(with_reducible exact ih0 _ _ _)
      |(with_reducible exact LeO.refl _)
      |(with_reducible exact LeO.none _)
      |(with_reducible refine LeO.ite ?_ ?_)
      |(with_reducible refine LeO.bind ?_ (fun _=>?_))
      |exact ih0 _ _ _
      |exact LeO.none _
      |refine LeO.ite ?_ ?_
      |refine LeO.bind ?_ (fun _=>?_)
theorem laws_eqIntS.mono:∀ a0 a1 k,LeO (laws_eqIntS.f k a0 a1) (laws_eqIntS.f (k + 1) a0 a1):=by
  intro a0 a1 k
  have ih0:=laws_eqIntS.mono_l k
  unfold laws_eqIntS.f
  repeat' first
      |(with_reducible exact ih0 _ _ _)
      |(with_reducible exact LeO.refl _)
      |(with_reducible exact LeO.none _)
      |(with_reducible refine LeO.ite ?_ ?_)
      |(with_reducible refine LeO.bind ?_ (fun _=>?_))
      |exact ih0 _ _ _
      |exact LeO.none _
      |refine LeO.ite ?_ ?_
      |refine LeO.bind ?_ (fun _=>?_)
set_option maxHeartbeats 8000000 in
set_option maxRecDepth 100000 in
theorem laws_eqIntS.calls (k:Nat) (A0:Option Addr) (c0:Nat) (l0:List Int) (A1:Option Addr) (c1:Nat) (l1:List Int) (r:Bool) (w:World) (hr0:Kd.C (Kd.int .i64) w A0 l0.length l0) (hc0:l0.length≤c0) (hr1:Kd.C (Kd.int .i64) w A1 l1.length l1) (hc1:l1.length≤c1) (h:laws_eqIntS.f k l0 l1=some r) :
    Calls Tryd.prog 63 #[.slice A0 l0.length c0,.slice A1 l1.length c1] w fun e w'=>e = .returned (.bool r)∧Drawn0 w w':=by
 have HR0:=AsZ.mk hr0
 have HC0:=AsZ.mk hc0
 clear hr0 hc0
 have HR1:=AsZ.mk hr1
 have HC1:=AsZ.mk hc1
 clear hr1 hc1
 have H:(if (l0.length:Int)=(l1.length:Int) then (laws_eqIntS.l0 k l0 l1 0) else (some false))=some r:=h
 clear h
 by_cases c3:(l0.length:Int)=(l1.length:Int)
 rotate_left
 · rw [if_neg c3] at H
   have c3b0:((l0.length:Int) == (l1.length:Int))=false:=beq_eq_false_iff_ne.mpr c3
   have c3b1:((l0.length:Int) != (l1.length:Int))=true:=bne_iff_ne.mpr c3
   have c3b2:(l0.length == l1.length)=false:=by first|simpa using c3|(simp at c3 ⊢;omega)
   obtain rfl:=zI H
   go_enter Tryd.func63,Tryd.ntmps63
   go_wp2
   repeat (go_quiet (fail);try go_wp2)
   go_ret
   exact ⟨by first|rfl|(simp;done)|(simp [*];done),by repeat (first|exact Drawn0.refl _|apply Drawn0.step)⟩
 rw [if_pos c3] at H
 have c3b0:((l0.length:Int) == (l1.length:Int))=true:=beq_iff_eq.mpr c3
 have c3b1:((l0.length:Int) != (l1.length:Int))=false:=bne_eq_false_iff_eq.mpr c3
 have c3b2:(l0.length == l1.length)=true:=by first|simpa using c3|(simp at c3 ⊢;omega)
 clear c3
 have H':=AsZ.mk H
 clear H
 go_enter Tryd.func63,Tryd.ntmps63
 go_wp2
 repeat (go_quiet (fail);try go_wp2)
 go_loopg [5] k (fun kq v5 w' => ∃ (x5_1:Int),v5 = .int .i64 x5_1∧AsZ (laws_eqIntS.l0 kq l0 l1 x5_1=some r)∧AsZ (kq≤k)∧Drawn0 w w')
 case atStart=>exact ⟨(0),(by first|rfl|(simp;done)|(simp [*];done)),H',⟨Nat.le_refl _⟩,by repeat (first|exact Drawn0.refl _|apply Drawn0.step)⟩
 case round =>
  clear H'
  try clear c1
  try clear p2
  try clear c3
  try clear c3b0
  try clear c3b1
  try clear c3b2
  obtain ⟨x5_1,rfl,HA,HK1,⟨m1,rfl⟩⟩:=hrel
  cases gk with
  |zero=>exact absurd HA.out (by simp [laws_eqIntS.l0])
  |succ k1 =>
   have H:=HA.out
   clear HA
   simp only [laws_eqIntS.l0] at H
   by_cases c4:x5_1 < (l0.length:Int)
   rotate_left
   · rw [if_neg c4] at H
     have c4b0:decide (x5_1 < (l0.length:Int))=false:=decide_eq_false c4
     clear c4
     obtain rfl:=zI H
     go_wp2
     repeat (go_quiet (fail);try go_wp2)
     go_ret
     exact ⟨by first|rfl|(simp;done)|(simp [*];done),by repeat (first|exact Drawn0.refl _|apply Drawn0.step)⟩
   rw [if_pos c4] at H
   have c4b0:decide (x5_1 < (l0.length:Int))=true:=zE c4
   clear c4
   by_cases c5:0≤x5_1
   rotate_left
   · rw [if_neg c5] at H
     exact absurd H (by simp)
   rw [if_pos c5] at H
   have c5b0:decide (0≤x5_1)=true:=zE c5
   clear c5
   by_cases c6:x5_1 < (l1.length:Int)
   rotate_left
   · rw [if_neg c6] at H
     exact absurd H (by simp)
   rw [if_pos c6] at H
   have c6b0:decide (x5_1 < (l1.length:Int))=true:=zE c6
   clear c6
   by_cases c7:(rd l0 x5_1)=(rd l1 x5_1)
   rotate_left
   · rw [if_neg c7] at H
     have c7b0:((rd l0 x5_1) == (rd l1 x5_1))=false:=beq_eq_false_iff_ne.mpr c7
     have c7b1:((rd l0 x5_1) != (rd l1 x5_1))=true:=bne_iff_ne.mpr c7
     obtain rfl:=zI H
     have p290:0≤(x5_1:Int):=zD (by first|(with_reducible assumption)|assumption)
     have q290:x5_1 < (l0.length:Int):=zD (by first|(with_reducible assumption)|assumption)
     obtain ⟨ad290,e290,hx290_0⟩:=Kd.at_int HR0.out x5_1 p290 q290
     cases e290
     replace p290:=eq_true p290
     replace q290:=eq_true q290
     have p291:0≤(x5_1:Int):=zD (by first|(with_reducible assumption)|assumption)
     have q291:x5_1 < (l1.length:Int):=zD (by first|(with_reducible assumption)|assumption)
     obtain ⟨ad291,e291,hx291_0⟩:=Kd.at_int HR1.out x5_1 p291 q291
     cases e291
     replace p291:=eq_true p291
     replace q291:=eq_true q291
     go_wp2
     repeat (go_quiet (fail);try go_wp2)
     go_ret
     exact ⟨by first|rfl|(simp;done)|(simp [*];done),by repeat (first|exact Drawn0.refl _|apply Drawn0.step)⟩
   rw [if_pos c7] at H
   have c7b0:((rd l0 x5_1) == (rd l1 x5_1))=true:=beq_iff_eq.mpr c7
   have c7b1:((rd l0 x5_1) != (rd l1 x5_1))=false:=bne_eq_false_iff_eq.mpr c7
   clear c7
   have H':=AsZ.mk H
   clear H
   have p290:0≤(x5_1:Int):=zD (by first|(with_reducible assumption)|assumption)
   have q290:x5_1 < (l0.length:Int):=zD (by first|(with_reducible assumption)|assumption)
   obtain ⟨ad290,e290,hx290_0⟩:=Kd.at_int HR0.out x5_1 p290 q290
   cases e290
   replace p290:=eq_true p290
   replace q290:=eq_true q290
   have p291:0≤(x5_1:Int):=zD (by first|(with_reducible assumption)|assumption)
   have q291:x5_1 < (l1.length:Int):=zD (by first|(with_reducible assumption)|assumption)
   obtain ⟨ad291,e291,hx291_0⟩:=Kd.at_int HR1.out x5_1 p291 q291
   cases e291
   replace p291:=eq_true p291
   replace q291:=eq_true q291
   go_wp2
   repeat (go_quiet (fail);try go_wp2)
   go_roundg k1
   case measure=>have:=HK1.out;omega
   case rel=>exact ⟨(wrap64 (x5_1 + 1)),(by first|rfl|(simp;done)|(simp [*];done)),H',⟨by have:=HK1.out;omega⟩,by repeat (first|exact Drawn0.refl _|apply Drawn0.step)⟩
/-! ### laws_eqTower: function 92 -/
def laws_eqTower.f (k:Nat) (a0_0:ByteArray) (a0_1:Int) (a0_2:Int) (a0_3:ByteArray) (l0_4:List Int) (a1_0:ByteArray) (a1_1:Int) (a1_2:Int) (a1_3:ByteArray) (l1_4:List Int):Option (Bool):=(laws_eqItem.f a0_0 a0_1 a0_2 a0_3 a1_0 a1_1 a1_2 a1_3).bind fun t294=>(if t294=true then ((laws_eqIntS.f k l0_4 l1_4).bind fun t295=>(if t295=true then (some true) else (some false))) else (some false))
theorem laws_eqTower.mono:∀ a0 a1 a2 a3 a4 a5 a6 a7 a8 a9 k,LeO (laws_eqTower.f k a0 a1 a2 a3 a4 a5 a6 a7 a8 a9) (laws_eqTower.f (k + 1) a0 a1 a2 a3 a4 a5 a6 a7 a8 a9):=by
  intro a0 a1 a2 a3 a4 a5 a6 a7 a8 a9 k
  unfold laws_eqTower.f
  repeat' first
      |(with_reducible exact laws_eqIntS.mono _ _ _)
      |(with_reducible exact LeO.refl _)
      |(with_reducible exact LeO.none _)
      |(with_reducible refine LeO.ite ?_ ?_)
      |(with_reducible refine LeO.bind ?_ (fun _=>?_))
      |exact laws_eqIntS.mono _ _ _
      |exact LeO.none _
      |refine LeO.ite ?_ ?_
      |refine LeO.bind ?_ (fun _=>?_)
set_option maxHeartbeats 8000000 in
set_option maxRecDepth 100000 in
theorem laws_eqTower.calls (k:Nat) (a0_0:ByteArray) (a0_1:Int) (a0_2:Int) (a0_3:ByteArray) (A0_4:Option Addr) (c0_4:Nat) (l0_4:List Int) (a1_0:ByteArray) (a1_1:Int) (a1_2:Int) (a1_3:ByteArray) (A1_4:Option Addr) (c1_4:Nat) (l1_4:List Int) (r:Bool) (w:World) (hr0_4:Kd.C (Kd.int .i64) w A0_4 l0_4.length l0_4) (hc0_4:l0_4.length≤c0_4) (hr1_4:Kd.C (Kd.int .i64) w A1_4 l1_4.length l1_4) (hc1_4:l1_4.length≤c1_4) (h:laws_eqTower.f k a0_0 a0_1 a0_2 a0_3 l0_4 a1_0 a1_1 a1_2 a1_3 l1_4=some r) :
    Calls Tryd.prog 92 #[.agg #[.string a0_0,.int .i64 a0_1,.int .i64 a0_2,.string a0_3,.slice A0_4 l0_4.length c0_4],.agg #[.string a1_0,.int .i64 a1_1,.int .i64 a1_2,.string a1_3,.slice A1_4 l1_4.length c1_4]] w fun e w'=>e = .returned (.bool r)∧Below w.heap.size w w':=by
 have hu77:=Tryd.underlying77
 have hu28:=Tryd.underlying28
 have HR0_4:=AsZ.mk hr0_4
 have HC0_4:=AsZ.mk hc0_4
 clear hr0_4 hc0_4
 have HR1_4:=AsZ.mk hr1_4
 have HC1_4:=AsZ.mk hc1_4
 clear hr1_4 hc1_4
 have HB:=AsZ.mk (Below.refl w.heap.size w)
 have H:((laws_eqItem.f a0_0 a0_1 a0_2 a0_3 a1_0 a1_1 a1_2 a1_3).bind fun t294=>(if t294=true then ((laws_eqIntS.f k l0_4 l1_4).bind fun t295=>(if t295=true then (some true) else (some false))) else (some false)))=some r:=h
 clear h
 replace H:=Option.bind_eq_some_iff.mp H
 obtain ⟨t294,A30,H⟩:=H
 replace H:(if t294=true then ((laws_eqIntS.f k l0_4 l1_4).bind fun t295=>(if t295=true then (some true) else (some false))) else (some false))=some r:=H
 have A3:=AsZ.mk A30
 clear A30
 by_cases c4:t294=true
 rotate_left
 · replace c4:=Bool.eq_false_iff.mpr c4
   subst c4
   have H1:(some false)=some r:=by rw [if_neg (show ¬ (false=true) by decide)] at H;exact H
   clear H
   have H:=H1
   clear H1
   obtain rfl:=zI H
   go_enter Tryd.func92,Tryd.ntmps92
   go_wp2_with (first|((with_reducible refine gate_dst (N:=2) rfl ?_);refine box_event ?hg (N:=2) ?hd (cs:=#[.string a0_0,.int .i64 a0_1,.int .i64 a0_2,.string a0_3,.slice A0_4 l0_4.length c0_4]) (t:=77) ?hr ?_;(case hd=>rfl);(case hg=>rfl);(case hr=>first|(go_simp;done)|(go_simp;rfl));intro gb292 hg w23 hbox hb;have n0_:=AsZ.mk (bwp (by repeat (first|(with_reducible first|exact HB.out|apply bwa|apply pbN|apply bw1)|exact HB.out)) hb);have n1_:=AsZ.mk (hbox);have n2_:=AsZ.mk ((by rw [hg];exact (bwz (by repeat (first|(with_reducible first|exact HB.out|apply bwa|apply pbN|apply bw1)|exact HB.out))):w.heap.size≤gb292));have n3_:=AsZ.mk ((by rw [hg];exact (bwz (by repeat (first|(with_reducible first|exact HB.out|apply bwa|apply pbN|apply bw1)|exact HB.out))):w.heap.size≤gb292));clear HB;have HB:=n0_;have BK292:=n1_;have GW292:=n2_;have GE292:=n3_;clear n0_ n1_ n2_ n3_;clear hb hbox hg)|((with_reducible refine gate_dst (N:=3) rfl ?_);refine box_event ?hg (N:=3) ?hd (cs:=#[.string a1_0,.int .i64 a1_1,.int .i64 a1_2,.string a1_3,.slice A1_4 l1_4.length c1_4]) (t:=77) ?hr ?_;(case hd=>rfl);(case hg=>rfl);(case hr=>first|(go_simp;done)|(go_simp;rfl));intro gb293 hg w24 hbox hb;have n0_:=AsZ.mk (kb (g:=gb292) (o := .cells #[.string a0_0,.int .i64 a0_1,.int .i64 a0_2,.string a0_3,.slice A0_4 l0_4.length c0_4] 77 (0,0)) (by (with_reducible repeat (first|refine kdN ?_ _|refine kd ?_|refine ka ?_ _));exact BK292.out) hb);have n1_:=AsZ.mk (bwp (by repeat (first|(with_reducible first|exact HB.out|apply bwa|apply pbN|apply bw1|refine bws ?_ GE292.out)|exact HB.out)) hb);have n2_:=AsZ.mk (hbox);have n3_:=AsZ.mk ((by rw [hg];exact (bwz (by repeat (first|(with_reducible first|exact HB.out|apply bwa|apply pbN|apply bw1|refine bws ?_ GE292.out)|exact HB.out))):w.heap.size≤gb293));have n4_:=AsZ.mk ((by rw [hg];exact (bwz (by repeat (first|(with_reducible first|exact HB.out|apply bwa|apply pbN|apply bw1|refine bws ?_ GE292.out)|exact HB.out))):w.heap.size≤gb293));have n5_:=AsZ.mk ((by rw [hg];exact Nat.ne_of_lt (blk_lt (g:=gb292) (o := .cells #[.string a0_0,.int .i64 a0_1,.int .i64 a0_2,.string a0_3,.slice A0_4 l0_4.length c0_4] 77 (0,0)) (by (with_reducible repeat (first|refine kdN ?_ _|refine kd ?_|refine ka ?_ _));exact BK292.out)):gb292 ≠ gb293));have n6_:=AsZ.mk ((by rw [hg];exact Nat.ne_of_gt (blk_lt (g:=gb292) (o := .cells #[.string a0_0,.int .i64 a0_1,.int .i64 a0_2,.string a0_3,.slice A0_4 l0_4.length c0_4] 77 (0,0)) (by (with_reducible repeat (first|refine kdN ?_ _|refine kd ?_|refine ka ?_ _));exact BK292.out)):gb293 ≠ gb292));clear BK292;clear HB;have BK292:=n0_;have HB:=n1_;have BK293:=n2_;have GW293:=n3_;have GE293:=n4_;have NB292_293:=n5_;have NB293_292:=n6_;clear n0_ n1_ n2_ n3_ n4_ n5_ n6_;clear hb hbox hg;have hnb25:=NB292_293.out;have hnc25:=NB293_292.out;have hcz26_0:w24.cell? ⟨gb292,0,none⟩=some (.string a0_0):=(kc BK292.out 0).trans rfl;have hcz26_1:w24.cell? ⟨gb292,1,none⟩=some (.int .i64 a0_1):=(kc BK292.out 1).trans rfl;have hcz26_2:w24.cell? ⟨gb292,2,none⟩=some (.int .i64 a0_2):=(kc BK292.out 2).trans rfl;have hcz26_3:w24.cell? ⟨gb292,3,none⟩=some (.string a0_3):=(kc BK292.out 3).trans rfl;have hcz26_4:w24.cell? ⟨gb292,4,none⟩=some (.slice A0_4 l0_4.length c0_4):=(kc BK292.out 4).trans rfl;have hfz26_0:=kf BK292.out 0;have hfz26_1:=kf BK292.out 1;have hfz26_2:=kf BK292.out 2;have hfz26_3:=kf BK292.out 3;have hfz26_4:=kf BK292.out 4;have hcz27_0:w24.cell? ⟨gb293,0,none⟩=some (.string a1_0):=(kc BK293.out 0).trans rfl;have hcz27_1:w24.cell? ⟨gb293,1,none⟩=some (.int .i64 a1_1):=(kc BK293.out 1).trans rfl;have hcz27_2:w24.cell? ⟨gb293,2,none⟩=some (.int .i64 a1_2):=(kc BK293.out 2).trans rfl;have hcz27_3:w24.cell? ⟨gb293,3,none⟩=some (.string a1_3):=(kc BK293.out 3).trans rfl;have hcz27_4:w24.cell? ⟨gb293,4,none⟩=some (.slice A1_4 l1_4.length c1_4):=(kc BK293.out 4).trans rfl;have hfz27_0:=kf BK293.out 0;have hfz27_1:=kf BK293.out 1;have hfz27_2:=kf BK293.out 2;have hfz27_3:=kf BK293.out 3;have hfz27_4:=kf BK293.out 4)|((with_reducible refine gcl (f:=33) rfl ?_);refine goesL_ (some 9) rfl rfl Tryd.func33 (by kernel_rfl) rfl #[.agg #[.string a0_0,.int .i64 a0_1,.int .i64 a0_2,.string a0_3],.agg #[.string a1_0,.int .i64 a1_1,.int .i64 a1_2,.string a1_3]] rfl (by (try simp only [zA,zC,zN]);first|done|rfl|(simp only [zM,zL];rfl)) ?_;(with_reducible refine (laws_eqItem.calls a0_0 a0_1 a0_2 a0_3 a1_0 a1_1 a1_2 a1_3 false _ A3.out).mono ?_);rintro e w28 ⟨rfl,hb⟩;refine ⟨_,rfl,?_⟩;have n0_:=AsZ.mk (kb (g:=gb292) (o := .cells #[.string a0_0,.int .i64 a0_1,.int .i64 a0_2,.string a0_3,.slice A0_4 l0_4.length c0_4] 77 (0,0)) (by (with_reducible repeat (first|refine kdN ?_ _|refine kd ?_|refine ka ?_ _));exact BK292.out) hb);have n1_:=AsZ.mk (kb (g:=gb293) (o := .cells #[.string a1_0,.int .i64 a1_1,.int .i64 a1_2,.string a1_3,.slice A1_4 l1_4.length c1_4] 77 (0,0)) (by (with_reducible repeat (first|refine kdN ?_ _|refine kd ?_|refine ka ?_ _));exact BK293.out) hb);have n2_:=AsZ.mk (bwp (by repeat (first|(with_reducible first|exact HB.out|apply bwa|apply pbN|apply bw1|refine bws ?_ GE292.out|refine bws ?_ GE293.out)|exact HB.out)) hb);clear BK292;clear BK293;clear HB;have BK292:=n0_;have BK293:=n1_;have HB:=n2_;clear n0_ n1_ n2_;(try clear hb);(try clear hb2);(try clear hk);(try clear hi)))
   go_ret
   exact ⟨by first|rfl|(simp [errW_none,errW_some]<;>rfl)|(simp [*,errW_none,errW_some]<;>rfl),by repeat (first|(with_reducible first|exact HB.out|apply bwa|apply pbN|apply bw1|refine bws ?_ GE292.out|refine bws ?_ GE293.out)|exact HB.out)⟩
 subst c4
 have H1:((laws_eqIntS.f k l0_4 l1_4).bind fun t295=>(if t295=true then (some true) else (some false)))=some r:=by rw [if_pos rfl] at H;exact H
 clear H
 have H:=H1
 clear H1
 replace H:=Option.bind_eq_some_iff.mp H
 obtain ⟨t295,A50,H⟩:=H
 replace H:(if t295=true then (some true) else (some false))=some r:=H
 have A5:=AsZ.mk A50
 clear A50
 by_cases c6:t295=true
 · subst c6
   have H1:(some true)=some r:=by rw [if_pos rfl] at H;exact H
   clear H
   have H:=H1
   clear H1
   obtain rfl:=zI H
   go_enter Tryd.func92,Tryd.ntmps92
   go_wp2_with (first|((with_reducible refine gate_dst (N:=2) rfl ?_);refine box_event ?hg (N:=2) ?hd (cs:=#[.string a0_0,.int .i64 a0_1,.int .i64 a0_2,.string a0_3,.slice A0_4 l0_4.length c0_4]) (t:=77) ?hr ?_;(case hd=>rfl);(case hg=>rfl);(case hr=>first|(go_simp;done)|(go_simp;rfl));intro gb292 hg w7 hbox hb;have n0_:=AsZ.mk (bwp (by repeat (first|(with_reducible first|exact HB.out|apply bwa|apply pbN|apply bw1)|exact HB.out)) hb);have n1_:=AsZ.mk (hbox);have n2_:=AsZ.mk ((by rw [hg];exact (bwz (by repeat (first|(with_reducible first|exact HB.out|apply bwa|apply pbN|apply bw1)|exact HB.out))):w.heap.size≤gb292));have n3_:=AsZ.mk ((by rw [hg];exact (bwz (by repeat (first|(with_reducible first|exact HB.out|apply bwa|apply pbN|apply bw1)|exact HB.out))):w.heap.size≤gb292));clear HB;have HB:=n0_;have BK292:=n1_;have GW292:=n2_;have GE292:=n3_;clear n0_ n1_ n2_ n3_;clear hb hbox hg)|((with_reducible refine gate_dst (N:=3) rfl ?_);refine box_event ?hg (N:=3) ?hd (cs:=#[.string a1_0,.int .i64 a1_1,.int .i64 a1_2,.string a1_3,.slice A1_4 l1_4.length c1_4]) (t:=77) ?hr ?_;(case hd=>rfl);(case hg=>rfl);(case hr=>first|(go_simp;done)|(go_simp;rfl));intro gb293 hg w8 hbox hb;have n0_:=AsZ.mk (kb (g:=gb292) (o := .cells #[.string a0_0,.int .i64 a0_1,.int .i64 a0_2,.string a0_3,.slice A0_4 l0_4.length c0_4] 77 (0,0)) (by (with_reducible repeat (first|refine kdN ?_ _|refine kd ?_|refine ka ?_ _));exact BK292.out) hb);have n1_:=AsZ.mk (bwp (by repeat (first|(with_reducible first|exact HB.out|apply bwa|apply pbN|apply bw1|refine bws ?_ GE292.out)|exact HB.out)) hb);have n2_:=AsZ.mk (hbox);have n3_:=AsZ.mk ((by rw [hg];exact (bwz (by repeat (first|(with_reducible first|exact HB.out|apply bwa|apply pbN|apply bw1|refine bws ?_ GE292.out)|exact HB.out))):w.heap.size≤gb293));have n4_:=AsZ.mk ((by rw [hg];exact (bwz (by repeat (first|(with_reducible first|exact HB.out|apply bwa|apply pbN|apply bw1|refine bws ?_ GE292.out)|exact HB.out))):w.heap.size≤gb293));have n5_:=AsZ.mk ((by rw [hg];exact Nat.ne_of_lt (blk_lt (g:=gb292) (o := .cells #[.string a0_0,.int .i64 a0_1,.int .i64 a0_2,.string a0_3,.slice A0_4 l0_4.length c0_4] 77 (0,0)) (by (with_reducible repeat (first|refine kdN ?_ _|refine kd ?_|refine ka ?_ _));exact BK292.out)):gb292 ≠ gb293));have n6_:=AsZ.mk ((by rw [hg];exact Nat.ne_of_gt (blk_lt (g:=gb292) (o := .cells #[.string a0_0,.int .i64 a0_1,.int .i64 a0_2,.string a0_3,.slice A0_4 l0_4.length c0_4] 77 (0,0)) (by (with_reducible repeat (first|refine kdN ?_ _|refine kd ?_|refine ka ?_ _));exact BK292.out)):gb293 ≠ gb292));clear BK292;clear HB;have BK292:=n0_;have HB:=n1_;have BK293:=n2_;have GW293:=n3_;have GE293:=n4_;have NB292_293:=n5_;have NB293_292:=n6_;clear n0_ n1_ n2_ n3_ n4_ n5_ n6_;clear hb hbox hg;have hnb9:=NB292_293.out;have hnc9:=NB293_292.out;have hcz10_0:w8.cell? ⟨gb292,0,none⟩=some (.string a0_0):=(kc BK292.out 0).trans rfl;have hcz10_1:w8.cell? ⟨gb292,1,none⟩=some (.int .i64 a0_1):=(kc BK292.out 1).trans rfl;have hcz10_2:w8.cell? ⟨gb292,2,none⟩=some (.int .i64 a0_2):=(kc BK292.out 2).trans rfl;have hcz10_3:w8.cell? ⟨gb292,3,none⟩=some (.string a0_3):=(kc BK292.out 3).trans rfl;have hcz10_4:w8.cell? ⟨gb292,4,none⟩=some (.slice A0_4 l0_4.length c0_4):=(kc BK292.out 4).trans rfl;have hfz10_0:=kf BK292.out 0;have hfz10_1:=kf BK292.out 1;have hfz10_2:=kf BK292.out 2;have hfz10_3:=kf BK292.out 3;have hfz10_4:=kf BK292.out 4;have hcz11_0:w8.cell? ⟨gb293,0,none⟩=some (.string a1_0):=(kc BK293.out 0).trans rfl;have hcz11_1:w8.cell? ⟨gb293,1,none⟩=some (.int .i64 a1_1):=(kc BK293.out 1).trans rfl;have hcz11_2:w8.cell? ⟨gb293,2,none⟩=some (.int .i64 a1_2):=(kc BK293.out 2).trans rfl;have hcz11_3:w8.cell? ⟨gb293,3,none⟩=some (.string a1_3):=(kc BK293.out 3).trans rfl;have hcz11_4:w8.cell? ⟨gb293,4,none⟩=some (.slice A1_4 l1_4.length c1_4):=(kc BK293.out 4).trans rfl;have hfz11_0:=kf BK293.out 0;have hfz11_1:=kf BK293.out 1;have hfz11_2:=kf BK293.out 2;have hfz11_3:=kf BK293.out 3;have hfz11_4:=kf BK293.out 4)|((with_reducible refine gcl (f:=33) rfl ?_);refine goesL_ (some 9) rfl rfl Tryd.func33 (by kernel_rfl) rfl #[.agg #[.string a0_0,.int .i64 a0_1,.int .i64 a0_2,.string a0_3],.agg #[.string a1_0,.int .i64 a1_1,.int .i64 a1_2,.string a1_3]] rfl (by (try simp only [zA,zC,zN]);first|done|rfl|(simp only [zM,zL];rfl)) ?_;(with_reducible refine (laws_eqItem.calls a0_0 a0_1 a0_2 a0_3 a1_0 a1_1 a1_2 a1_3 true _ A3.out).mono ?_);rintro e w12 ⟨rfl,hb⟩;refine ⟨_,rfl,?_⟩;have n0_:=AsZ.mk (kb (g:=gb292) (o := .cells #[.string a0_0,.int .i64 a0_1,.int .i64 a0_2,.string a0_3,.slice A0_4 l0_4.length c0_4] 77 (0,0)) (by (with_reducible repeat (first|refine kdN ?_ _|refine kd ?_|refine ka ?_ _));exact BK292.out) hb);have n1_:=AsZ.mk (kb (g:=gb293) (o := .cells #[.string a1_0,.int .i64 a1_1,.int .i64 a1_2,.string a1_3,.slice A1_4 l1_4.length c1_4] 77 (0,0)) (by (with_reducible repeat (first|refine kdN ?_ _|refine kd ?_|refine ka ?_ _));exact BK293.out) hb);have n2_:=AsZ.mk (bwp (by repeat (first|(with_reducible first|exact HB.out|apply bwa|apply pbN|apply bw1|refine bws ?_ GE292.out|refine bws ?_ GE293.out)|exact HB.out)) hb);clear BK292;clear BK293;clear HB;have BK292:=n0_;have BK293:=n1_;have HB:=n2_;clear n0_ n1_ n2_;(try clear hb);(try clear hb2);(try clear hk);(try clear hi);have hcz13_0:w12.cell? ⟨gb292,0,none⟩=some (.string a0_0):=(kc BK292.out 0).trans rfl;have hcz13_1:w12.cell? ⟨gb292,1,none⟩=some (.int .i64 a0_1):=(kc BK292.out 1).trans rfl;have hcz13_2:w12.cell? ⟨gb292,2,none⟩=some (.int .i64 a0_2):=(kc BK292.out 2).trans rfl;have hcz13_3:w12.cell? ⟨gb292,3,none⟩=some (.string a0_3):=(kc BK292.out 3).trans rfl;have hcz13_4:w12.cell? ⟨gb292,4,none⟩=some (.slice A0_4 l0_4.length c0_4):=(kc BK292.out 4).trans rfl;have hfz13_0:=kf BK292.out 0;have hfz13_1:=kf BK292.out 1;have hfz13_2:=kf BK292.out 2;have hfz13_3:=kf BK292.out 3;have hfz13_4:=kf BK292.out 4;have hcz14_0:w12.cell? ⟨gb293,0,none⟩=some (.string a1_0):=(kc BK293.out 0).trans rfl;have hcz14_1:w12.cell? ⟨gb293,1,none⟩=some (.int .i64 a1_1):=(kc BK293.out 1).trans rfl;have hcz14_2:w12.cell? ⟨gb293,2,none⟩=some (.int .i64 a1_2):=(kc BK293.out 2).trans rfl;have hcz14_3:w12.cell? ⟨gb293,3,none⟩=some (.string a1_3):=(kc BK293.out 3).trans rfl;have hcz14_4:w12.cell? ⟨gb293,4,none⟩=some (.slice A1_4 l1_4.length c1_4):=(kc BK293.out 4).trans rfl;have hfz14_0:=kf BK293.out 0;have hfz14_1:=kf BK293.out 1;have hfz14_2:=kf BK293.out 2;have hfz14_3:=kf BK293.out 3;have hfz14_4:=kf BK293.out 4)|((with_reducible refine gcl (f:=63) rfl ?_);refine goesL_ (some 15) rfl rfl Tryd.func63 (by kernel_rfl) rfl #[.slice A0_4 l0_4.length c0_4,.slice A1_4 l1_4.length c1_4] rfl (by (try simp only [zA,zC,zN]);first|done|rfl|(simp only [zM,zL];rfl)) ?_;(with_reducible refine (laws_eqIntS.calls k _ _ l0_4 _ _ l1_4 true _ ?side1 ?side2 ?side3 ?side4 A5.out).mono ?_);(case side1=>repeat (first|exact (Kd.C_below HR0_4.out HB.out)|(with_reducible refine Kd.C_alloc ?_ _)|(with_reducible refine Kd.C_drewN ?_ _)|(with_reducible refine Kd.C_drew ?_)));(case side2=>exact HC0_4.out);(case side3=>repeat (first|exact (Kd.C_below HR1_4.out HB.out)|(with_reducible refine Kd.C_alloc ?_ _)|(with_reducible refine Kd.C_drewN ?_ _)|(with_reducible refine Kd.C_drew ?_)));(case side4=>exact HC1_4.out);rintro e w' ⟨rfl,⟨nd,rfl⟩⟩;refine ⟨_,rfl,?_⟩))
   go_ret
   exact ⟨by first|rfl|(simp [errW_none,errW_some]<;>rfl)|(simp [*,errW_none,errW_some]<;>rfl),by repeat (first|(with_reducible first|exact HB.out|apply bwa|apply pbN|apply bw1|refine bws ?_ GE292.out|refine bws ?_ GE293.out)|exact HB.out)⟩
 replace c6:=Bool.eq_false_iff.mpr c6
 subst c6
 have H1:(some false)=some r:=by rw [if_neg (show ¬ (false=true) by decide)] at H;exact H
 clear H
 have H:=H1
 clear H1
 obtain rfl:=zI H
 go_enter Tryd.func92,Tryd.ntmps92
 go_wp2_with (first|((with_reducible refine gate_dst (N:=2) rfl ?_);refine box_event ?hg (N:=2) ?hd (cs:=#[.string a0_0,.int .i64 a0_1,.int .i64 a0_2,.string a0_3,.slice A0_4 l0_4.length c0_4]) (t:=77) ?hr ?_;(case hd=>rfl);(case hg=>rfl);(case hr=>first|(go_simp;done)|(go_simp;rfl));intro gb292 hg w15 hbox hb;have n0_:=AsZ.mk (bwp (by repeat (first|(with_reducible first|exact HB.out|apply bwa|apply pbN|apply bw1)|exact HB.out)) hb);have n1_:=AsZ.mk (hbox);have n2_:=AsZ.mk ((by rw [hg];exact (bwz (by repeat (first|(with_reducible first|exact HB.out|apply bwa|apply pbN|apply bw1)|exact HB.out))):w.heap.size≤gb292));have n3_:=AsZ.mk ((by rw [hg];exact (bwz (by repeat (first|(with_reducible first|exact HB.out|apply bwa|apply pbN|apply bw1)|exact HB.out))):w.heap.size≤gb292));clear HB;have HB:=n0_;have BK292:=n1_;have GW292:=n2_;have GE292:=n3_;clear n0_ n1_ n2_ n3_;clear hb hbox hg)|((with_reducible refine gate_dst (N:=3) rfl ?_);refine box_event ?hg (N:=3) ?hd (cs:=#[.string a1_0,.int .i64 a1_1,.int .i64 a1_2,.string a1_3,.slice A1_4 l1_4.length c1_4]) (t:=77) ?hr ?_;(case hd=>rfl);(case hg=>rfl);(case hr=>first|(go_simp;done)|(go_simp;rfl));intro gb293 hg w16 hbox hb;have n0_:=AsZ.mk (kb (g:=gb292) (o := .cells #[.string a0_0,.int .i64 a0_1,.int .i64 a0_2,.string a0_3,.slice A0_4 l0_4.length c0_4] 77 (0,0)) (by (with_reducible repeat (first|refine kdN ?_ _|refine kd ?_|refine ka ?_ _));exact BK292.out) hb);have n1_:=AsZ.mk (bwp (by repeat (first|(with_reducible first|exact HB.out|apply bwa|apply pbN|apply bw1|refine bws ?_ GE292.out)|exact HB.out)) hb);have n2_:=AsZ.mk (hbox);have n3_:=AsZ.mk ((by rw [hg];exact (bwz (by repeat (first|(with_reducible first|exact HB.out|apply bwa|apply pbN|apply bw1|refine bws ?_ GE292.out)|exact HB.out))):w.heap.size≤gb293));have n4_:=AsZ.mk ((by rw [hg];exact (bwz (by repeat (first|(with_reducible first|exact HB.out|apply bwa|apply pbN|apply bw1|refine bws ?_ GE292.out)|exact HB.out))):w.heap.size≤gb293));have n5_:=AsZ.mk ((by rw [hg];exact Nat.ne_of_lt (blk_lt (g:=gb292) (o := .cells #[.string a0_0,.int .i64 a0_1,.int .i64 a0_2,.string a0_3,.slice A0_4 l0_4.length c0_4] 77 (0,0)) (by (with_reducible repeat (first|refine kdN ?_ _|refine kd ?_|refine ka ?_ _));exact BK292.out)):gb292 ≠ gb293));have n6_:=AsZ.mk ((by rw [hg];exact Nat.ne_of_gt (blk_lt (g:=gb292) (o := .cells #[.string a0_0,.int .i64 a0_1,.int .i64 a0_2,.string a0_3,.slice A0_4 l0_4.length c0_4] 77 (0,0)) (by (with_reducible repeat (first|refine kdN ?_ _|refine kd ?_|refine ka ?_ _));exact BK292.out)):gb293 ≠ gb292));clear BK292;clear HB;have BK292:=n0_;have HB:=n1_;have BK293:=n2_;have GW293:=n3_;have GE293:=n4_;have NB292_293:=n5_;have NB293_292:=n6_;clear n0_ n1_ n2_ n3_ n4_ n5_ n6_;clear hb hbox hg;have hnb17:=NB292_293.out;have hnc17:=NB293_292.out;have hcz18_0:w16.cell? ⟨gb292,0,none⟩=some (.string a0_0):=(kc BK292.out 0).trans rfl;have hcz18_1:w16.cell? ⟨gb292,1,none⟩=some (.int .i64 a0_1):=(kc BK292.out 1).trans rfl;have hcz18_2:w16.cell? ⟨gb292,2,none⟩=some (.int .i64 a0_2):=(kc BK292.out 2).trans rfl;have hcz18_3:w16.cell? ⟨gb292,3,none⟩=some (.string a0_3):=(kc BK292.out 3).trans rfl;have hcz18_4:w16.cell? ⟨gb292,4,none⟩=some (.slice A0_4 l0_4.length c0_4):=(kc BK292.out 4).trans rfl;have hfz18_0:=kf BK292.out 0;have hfz18_1:=kf BK292.out 1;have hfz18_2:=kf BK292.out 2;have hfz18_3:=kf BK292.out 3;have hfz18_4:=kf BK292.out 4;have hcz19_0:w16.cell? ⟨gb293,0,none⟩=some (.string a1_0):=(kc BK293.out 0).trans rfl;have hcz19_1:w16.cell? ⟨gb293,1,none⟩=some (.int .i64 a1_1):=(kc BK293.out 1).trans rfl;have hcz19_2:w16.cell? ⟨gb293,2,none⟩=some (.int .i64 a1_2):=(kc BK293.out 2).trans rfl;have hcz19_3:w16.cell? ⟨gb293,3,none⟩=some (.string a1_3):=(kc BK293.out 3).trans rfl;have hcz19_4:w16.cell? ⟨gb293,4,none⟩=some (.slice A1_4 l1_4.length c1_4):=(kc BK293.out 4).trans rfl;have hfz19_0:=kf BK293.out 0;have hfz19_1:=kf BK293.out 1;have hfz19_2:=kf BK293.out 2;have hfz19_3:=kf BK293.out 3;have hfz19_4:=kf BK293.out 4)|((with_reducible refine gcl (f:=33) rfl ?_);refine goesL_ (some 9) rfl rfl Tryd.func33 (by kernel_rfl) rfl #[.agg #[.string a0_0,.int .i64 a0_1,.int .i64 a0_2,.string a0_3],.agg #[.string a1_0,.int .i64 a1_1,.int .i64 a1_2,.string a1_3]] rfl (by (try simp only [zA,zC,zN]);first|done|rfl|(simp only [zM,zL];rfl)) ?_;(with_reducible refine (laws_eqItem.calls a0_0 a0_1 a0_2 a0_3 a1_0 a1_1 a1_2 a1_3 true _ A3.out).mono ?_);rintro e w20 ⟨rfl,hb⟩;refine ⟨_,rfl,?_⟩;have n0_:=AsZ.mk (kb (g:=gb292) (o := .cells #[.string a0_0,.int .i64 a0_1,.int .i64 a0_2,.string a0_3,.slice A0_4 l0_4.length c0_4] 77 (0,0)) (by (with_reducible repeat (first|refine kdN ?_ _|refine kd ?_|refine ka ?_ _));exact BK292.out) hb);have n1_:=AsZ.mk (kb (g:=gb293) (o := .cells #[.string a1_0,.int .i64 a1_1,.int .i64 a1_2,.string a1_3,.slice A1_4 l1_4.length c1_4] 77 (0,0)) (by (with_reducible repeat (first|refine kdN ?_ _|refine kd ?_|refine ka ?_ _));exact BK293.out) hb);have n2_:=AsZ.mk (bwp (by repeat (first|(with_reducible first|exact HB.out|apply bwa|apply pbN|apply bw1|refine bws ?_ GE292.out|refine bws ?_ GE293.out)|exact HB.out)) hb);clear BK292;clear BK293;clear HB;have BK292:=n0_;have BK293:=n1_;have HB:=n2_;clear n0_ n1_ n2_;(try clear hb);(try clear hb2);(try clear hk);(try clear hi);have hcz21_0:w20.cell? ⟨gb292,0,none⟩=some (.string a0_0):=(kc BK292.out 0).trans rfl;have hcz21_1:w20.cell? ⟨gb292,1,none⟩=some (.int .i64 a0_1):=(kc BK292.out 1).trans rfl;have hcz21_2:w20.cell? ⟨gb292,2,none⟩=some (.int .i64 a0_2):=(kc BK292.out 2).trans rfl;have hcz21_3:w20.cell? ⟨gb292,3,none⟩=some (.string a0_3):=(kc BK292.out 3).trans rfl;have hcz21_4:w20.cell? ⟨gb292,4,none⟩=some (.slice A0_4 l0_4.length c0_4):=(kc BK292.out 4).trans rfl;have hfz21_0:=kf BK292.out 0;have hfz21_1:=kf BK292.out 1;have hfz21_2:=kf BK292.out 2;have hfz21_3:=kf BK292.out 3;have hfz21_4:=kf BK292.out 4;have hcz22_0:w20.cell? ⟨gb293,0,none⟩=some (.string a1_0):=(kc BK293.out 0).trans rfl;have hcz22_1:w20.cell? ⟨gb293,1,none⟩=some (.int .i64 a1_1):=(kc BK293.out 1).trans rfl;have hcz22_2:w20.cell? ⟨gb293,2,none⟩=some (.int .i64 a1_2):=(kc BK293.out 2).trans rfl;have hcz22_3:w20.cell? ⟨gb293,3,none⟩=some (.string a1_3):=(kc BK293.out 3).trans rfl;have hcz22_4:w20.cell? ⟨gb293,4,none⟩=some (.slice A1_4 l1_4.length c1_4):=(kc BK293.out 4).trans rfl;have hfz22_0:=kf BK293.out 0;have hfz22_1:=kf BK293.out 1;have hfz22_2:=kf BK293.out 2;have hfz22_3:=kf BK293.out 3;have hfz22_4:=kf BK293.out 4)|((with_reducible refine gcl (f:=63) rfl ?_);refine goesL_ (some 15) rfl rfl Tryd.func63 (by kernel_rfl) rfl #[.slice A0_4 l0_4.length c0_4,.slice A1_4 l1_4.length c1_4] rfl (by (try simp only [zA,zC,zN]);first|done|rfl|(simp only [zM,zL];rfl)) ?_;(with_reducible refine (laws_eqIntS.calls k _ _ l0_4 _ _ l1_4 false _ ?side1 ?side2 ?side3 ?side4 A5.out).mono ?_);(case side1=>repeat (first|exact (Kd.C_below HR0_4.out HB.out)|(with_reducible refine Kd.C_alloc ?_ _)|(with_reducible refine Kd.C_drewN ?_ _)|(with_reducible refine Kd.C_drew ?_)));(case side2=>exact HC0_4.out);(case side3=>repeat (first|exact (Kd.C_below HR1_4.out HB.out)|(with_reducible refine Kd.C_alloc ?_ _)|(with_reducible refine Kd.C_drewN ?_ _)|(with_reducible refine Kd.C_drew ?_)));(case side4=>exact HC1_4.out);rintro e w' ⟨rfl,⟨nd,rfl⟩⟩;refine ⟨_,rfl,?_⟩))
 go_ret
 exact ⟨by first|rfl|(simp [errW_none,errW_some]<;>rfl)|(simp [*,errW_none,errW_some]<;>rfl),by repeat (first|(with_reducible first|exact HB.out|apply bwa|apply pbN|apply bw1|refine bws ?_ GE292.out|refine bws ?_ GE293.out)|exact HB.out)⟩
end Go.Proofs.YtffjlpphcjfdgaaDoor.MFnExactListSkip
