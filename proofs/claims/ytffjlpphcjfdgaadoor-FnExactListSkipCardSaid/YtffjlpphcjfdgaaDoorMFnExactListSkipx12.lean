-- Written by a program of this session out of the translation. Not trusted: Lean checks it.
import Derived.Test.YtffjlpphcjfdgaaDoorMFnExactListSkipx0
import Derived.Test.YtffjlpphcjfdgaaDoorMFnExactListSkipx11
namespace Go.Proofs.YtffjlpphcjfdgaaDoor.MFnExactListSkip
-- short
-- shrunk
-- TAB
-- RD
open Go.Proofs.YtffjlpphcjfdgaaDoor Go.RowKit Go.Proofs.YtffjlpphcjfdgaaDoorW.PrintWords Go.Proofs.YtffjlpphcjfdgaaDoorW.PrintLast Go.Proofs.YtffjlpphcjfdgaaDoorW.PrintMore Go.Proofs.YtffjlpphcjfdgaaDoorX
attribute [local go_sem] max2_int min2_int max_two min_two max_three min_three max_four min_four str_gtr str_leq str_geq cell_twice
set_option linter.unusedVariables false
set_option linter.unusedSimpArgs false
/-! ### laws_markSkip: function 23 -/
def laws_markSkip.f (k:Nat) (l0:List Int) (l1:List S77) (a1:Int):Option Int:=(laws_markIntS.f k l0 a1).bind fun b=>((laws_markTowerS.f k l1 b.1).bind fun c=>some c.1)
theorem laws_markSkip.mono:∀ a0 a1 a2 k,LeO (laws_markSkip.f k a0 a1 a2) (laws_markSkip.f (k + 1) a0 a1 a2):=by
  intro a0 a1 a2 k
  unfold laws_markSkip.f
  repeat' first
      |(with_reducible exact laws_markIntS.mono _ _ _)
      |(with_reducible exact laws_markTowerS.mono _ _ _)
      |(with_reducible exact LeO.refl _)
      |(with_reducible refine LeO.bind ?_ (fun _=>?_))
theorem laws_markSkip.other {W W2:World} {base:Nat} {ok:Nat→Prop} {v:Value} {xs:List S28} (h:Kd.R k28 28 W base ok v xs) (hk:∀ (k_:Nat) (cells:Array Value) (q:Nat),W.heap[k_]? = some (.cells cells q (0,0))→q ≠ 3→q ≠ 77→W2.heap[k_]? = W.heap[k_]?):Kd.R k28 28 W2 base ok v xs:=by
  refine Kd.R_mono (Kd.R_step (Kd.R_bound h) (fun k_ ho _=>?_)) (fun _ hk=>hk.1)
  obtain ⟨_,_,_,q,hq,c,hc⟩:=ho
  have e:q=28:=by
    rcases List.mem_cons.1 hq with e|e
    · exact e
    · exact absurd e (by simp [k28,Kd.iso,Kd.pair,Kd.string,Kd.int,Kd.scalar])
  subst e
  exact hk k_ c 28 hc (by decide) (by decide)
theorem laws_markSkip.blk {W W2:World} {g q:Nat} {cs:Array Value} (h:W.heap[g]? = some (.cells cs q (0,0))) (hk:∀ (k_:Nat) (cells:Array Value) (q:Nat),W.heap[k_]? = some (.cells cells q (0,0))→q ≠ 3→q ≠ 77→W2.heap[k_]? = W.heap[k_]?) (h3:q ≠ 3) (h77:q ≠ 77):W2.heap[g]? = some (.cells cs q (0,0)):=(hk g cs q h h3 h77).trans h
set_option maxHeartbeats 4000000 in
set_option maxRecDepth 100000 in
theorem laws_markSkip.calls (k:Nat) (P0 P1:Nat→Prop) (u0 u1:Value) (l0:List Int) (l1:List S77) (a1 r:Int) (w0 w:World) (hB:Below w0.heap.size w0 w) (ho0:Kd.R (Kd.int .i64) 3 w w0.heap.size P0 u0 l0) (ho1:Kd.S k77 77 w w0.heap.size P1 u1 l1) (hp:∀ k_,P1 k_ → ¬ P0 k_) (h:laws_markSkip.f k l0 l1 a1=some r) :
    Calls Tryd.prog 23 #[.agg #[u0,u1],.int .i64 a1] w fun e w' => ∃ b2 c2,e = .returned (.int .i64 r)∧Kd.R (Kd.int .i64) 3 w' w0.heap.size (fun k_=>P0 k_∨w.heap.size≤k_) u0 b2∧Kd.S k77 77 w' w0.heap.size (fun k_=>P1 k_∨w.heap.size≤k_) u1 c2∧Below w0.heap.size w0 w'∧(∀ (k_:Nat) (cells:Array Value) (q:Nat),w.heap[k_]? = some (.cells cells q (0,0))→q ≠ 3→q ≠ 77→w'.heap[k_]? = w.heap[k_]?):=by
 unfold laws_markSkip.f at h
 obtain ⟨⟨b1,b2⟩,A1,h⟩:=Option.bind_eq_some_iff.mp h
 obtain ⟨⟨c1,c2⟩,A2,h⟩:=Option.bind_eq_some_iff.mp h
 obtain rfl:=zI h
 clear h
 have HA1:=AsZ.mk A1
 have HA2:=AsZ.mk A2
 have HB:=AsZ.mk hB
 have HP:=AsZ.mk hp
 obtain ⟨T,hT⟩:∃ T:Nat→Prop,T=fun k_=>k_ < w.heap.size ∧ ∃ q,(q=3∨q=77) ∧ ∃ cells,w.heap[k_]? = some (.cells cells q (0,0)):=⟨_,rfl⟩
 have HT:=AsZ.mk hT
 have HO0:=AsZ.mk (Kd.R_mono (Kd.R_bound ho0) (fun k_ hk=>(⟨hk.1,by
  rw [hT]
  obtain ⟨_,_,h3,q,hq,c,hc⟩:=hk
  refine ⟨h3,q,?_,c,hc⟩
  rcases List.mem_cons.1 hq with e|e
  · exact .inl e
  exact absurd e (by simp [Kd.int,Kd.scalar])⟩:P0 k_∧T k_)))
 have HO1:=AsZ.mk (Kd.S_mono (Kd.S_bound ho1) (fun k_ hk=>(⟨hk.1,by
  rw [hT]
  obtain ⟨_,_,h3,q,hq,c,hc⟩:=hk
  refine ⟨h3,q,?_,c,hc⟩
  rcases List.mem_cons.1 hq with e|e
  · exact .inr e
  refine .inl ?_
  simpa [k77,k28,Kd.iso,Kd.pair,Kd.slice,Kd.string,Kd.int,Kd.scalar] using e⟩:P1 k_∧T k_)))
 clear A1 A2 hB ho0 ho1 hp hT
 obtain ⟨R0,n0,e0⟩:=Kd.R_slice HO0.out
 subst e0
 obtain ⟨R1,n1,e1⟩:=Kd.S_slice HO1.out
 subst e1
 have HLT:=AsZ.mk (show ∀ k_,T k_→k_ < w.heap.size from fun k_ h_=>by have:=HT.out ▸ h_;exact this.1)
 go_enter Tryd.func23,Tryd.ntmps23
 go_wp2_with (first|((with_reducible refine gate_dst (N:=2) rfl ?_);refine box_event ?hg (N:=2) ?hd (cs:=#[.slice R0 l0.length n0,.slice R1 l1.length n1]) (t:=26) ?hr ?_;(case hd=>rfl);(case hg=>rfl);(case hr=>first|(go_simp;done)|(go_simp;rfl));intro gb hg w9 hbox hb;have HX:=AsZ.mk hbox;have HG:=AsZ.mk hg;have HY:=AsZ.mk hb;have hx0:w9.cell? ⟨gb,0,none⟩=some (.slice R0 l0.length n0):=(kc hbox 0).trans rfl;clear hbox hg hb)|(go_at_call 65;(refine (laws_markIntS.calls k (fun k_=>P0 k_∧T k_) _ l0 a1 b1 b2 w0 w9 (bwp HB.out HY.out) (Kd.R_below HO0.out HY.out) HA1.out).mono ?_);rintro e w10 ⟨rfl,hr1,hb1,hk1⟩;have HR1:=AsZ.mk hr1;have HB1:=AsZ.mk hb1;have HK1:=AsZ.mk hk1;have hx1:w10.cell? ⟨gb,1,none⟩=some (.slice R1 l1.length n1):=(kc ((hk1.2 gb (blk_lt HX.out) (fun h_=>by have:=HLT.out gb h_.2;have:=HG.out;omega)).trans HX.out) 1).trans rfl;clear hr1 hb1 hk1 hx0)|(go_at_call 66;(refine (laws_markTowerS.calls k (fun k_=>P1 k_∧T k_) _ l1 b1 c1 c2 w0 w10 HB1.out (Kd.S_kept (Kd.S_below HO1.out HY.out) HK1.out (fun k_ h1_ h0_=>HP.out k_ h1_.1 h0_.1)) HA2.out).mono ?_);rintro e w11 ⟨rfl,hs2,hb2,hk2⟩;have HS2:=AsZ.mk hs2;have HB2:=AsZ.mk hb2;have HK2:=AsZ.mk hk2;clear hs2 hb2 hk2 hx1))
 go_ret
 have hy:=HY.out.size
 have h10:=HK1.out.1
 refine ⟨b2,c2,rfl,Kd.R_mono (Kd.R_kept HR1.out HK2.out (fun k_ ho hs=>ho.elim (fun p=>HP.out k_ hs.1 p.1) (fun h_=>by have:=HLT.out k_ hs.2;omega))) (fun k_ h_=>h_.elim (fun p => .inl p.1) (fun h2 => .inr (by omega))),Kd.S_mono HS2.out (fun k_ h_=>h_.elim (fun p => .inl p.1) (fun h2 => .inr (by omega))),HB2.out,fun k_ cells q hc h3 h77=>?_⟩
 have hlt:k_ < w.heap.size:=blk_lt hc
 have hn:¬ T k_:=by
  rw [HT.out]
  rintro ⟨_,q',hq',c',hc'⟩
  have e:=hc.symm.trans hc'
  injection e with e
  injection e with _ e2 _
  subst e2
  rcases hq' with e|e
  · exact h3 e
  exact h77 e
 exact (HK2.out.2 k_ (by omega) (fun h_=>hn h_.2)).trans ((HK1.out.2 k_ (by omega) (fun h_=>hn h_.2)).trans (HY.out.block k_ hlt))
/-! ### laws_markItemS: function 24 -/
def laws_markItemS.l0:Nat→List (S28)→Int→Int→Option (Int × (List (S28)))
  |0,_,_,_=>none
  |k + 1,x0,x1,x5=>if x5 < (x0.length:Int) then ((laws_markText.f k x1).bind fun t307=>(if 0≤x5 then ((some (x0.set (x5:Int).toNat (⟨t307,(rd_T28 x0 x5).f1,(rd_T28 x0 x5).f2,(rd_T28 x0 x5).f3⟩:S28):List (S28))).bind fun y308=>((some (y308.set (x5:Int).toNat (⟨(rd_T28 y308 x5).f0,wrap64 (x1 + 1),(rd_T28 y308 x5).f2,(rd_T28 y308 x5).f3⟩:S28):List (S28))).bind fun y309=>((some (y309.set (x5:Int).toNat (⟨(rd_T28 y309 x5).f0,(rd_T28 y309 x5).f1,wrap64 ((wrap64 (x1 + 1)) + 1),(rd_T28 y309 x5).f3⟩:S28):List (S28))).bind fun y310=>((laws_markText.f k (wrap64 ((wrap64 ((wrap64 (x1 + 1)) + 1)) + 1))).bind fun t311=>(laws_markItemS.l0 k (y310.set (x5:Int).toNat (⟨(rd_T28 y310 x5).f0,(rd_T28 y310 x5).f1,(rd_T28 y310 x5).f2,t311⟩:S28)) (wrap64 ((wrap64 ((wrap64 ((wrap64 (x1 + 1)) + 1)) + 1)) + 1)) (wrap64 (x5 + 1))))))) else (none))) else (some (x1,x0))
def laws_markItemS.f (k:Nat) (l0:List (S28)) (a1:Int):Option (Int × (List (S28))):=laws_markItemS.l0 k l0 a1 0
theorem laws_markItemS.mono_l:∀ k,(∀ y0 y1 y2,LeO (laws_markItemS.l0 k y0 y1 y2) (laws_markItemS.l0 (k + 1) y0 y1 y2))
  |0=>fun _ _ _ r h=>by simp [laws_markItemS.l0] at h
  |k + 1=>by
    have ih0:=laws_markItemS.mono_l k
    · intro y0 y1 y2
      unfold laws_markItemS.l0
      repeat' first
      |(with_reducible exact ih0 _ _ _)
      |(with_reducible exact laws_markText.mono _ _)
      |(with_reducible exact LeO.refl _)
      |(with_reducible exact LeO.none _)
      |(with_reducible refine LeO.ite ?_ ?_)
      |(with_reducible refine LeO.bind ?_ (fun _=>?_))
      |exact ih0 _ _ _
      |exact laws_markText.mono _ _
      |exact LeO.none _
      |refine LeO.ite ?_ ?_
      |refine LeO.bind ?_ (fun _=>?_)
theorem laws_markItemS.mono:∀ a0 a1 k,LeO (laws_markItemS.f k a0 a1) (laws_markItemS.f (k + 1) a0 a1):=by
  intro a0 a1 k
  have ih0:=laws_markItemS.mono_l k
  unfold laws_markItemS.f
  repeat' first
      |(with_reducible exact ih0 _ _ _)
      |(with_reducible exact laws_markText.mono _ _)
      |(with_reducible exact LeO.refl _)
      |(with_reducible exact LeO.none _)
      |(with_reducible refine LeO.ite ?_ ?_)
      |(with_reducible refine LeO.bind ?_ (fun _=>?_))
      |exact ih0 _ _ _
      |exact laws_markText.mono _ _
      |exact LeO.none _
      |refine LeO.ite ?_ ?_
      |refine LeO.bind ?_ (fun _=>?_)
set_option maxHeartbeats 8000000 in
set_option maxRecDepth 100000 in
theorem laws_markItemS.calls (k:Nat) (P0_:Nat→Prop) (u9000_:Value) (l0:List (S28)) (a1:Int) (r1:Int) (r2:List (S28)) (w0 w:World) (hB:Below w0.heap.size w0 w) (ho0:Kd.R k28 28 w w0.heap.size P0_ u9000_ l0) (h:laws_markItemS.f k l0 a1=some (r1,r2)) :
    Calls Tryd.prog 24 #[u9000_,.int .i64 a1] w fun e w'=>e = .returned (.int .i64 r1)∧Kd.R k28 28 w' w0.heap.size (fun k_=>(P0_ k_∨w.heap.size≤k_)) u9000_ r2∧Below w0.heap.size w0 w'∧Kept w w' (fun k_=>P0_ k_):=by
 have HO0:=AsZ.mk (show Kd.R k28 28 w w0.heap.size (fun k_=>(P0_ k_∨w.heap.size≤k_)) u9000_ l0 from Kd.R_mono ho0 (fun k_ hk=>(.inl hk)))
 have HK:=AsZ.mk (Kept.refl w (fun k_=>P0_ k_))
 have HW0:=AsZ.mk hB.size
 have HB:=AsZ.mk hB
 clear hB
 have H:(laws_markItemS.l0 k l0 a1 0)=some (r1,r2):=h
 clear h
 have H':=AsZ.mk H
 clear H
 go_enter Tryd.func24,Tryd.ntmps24
 go_wp2
 go_loopg [1,5] k (fun kq v1 v5 w' => ∃ (x0_1:List (S28)) (x1_1:Int) (x5_1:Int),v1 = .int .i64 x1_1∧v5 = .int .i64 x5_1∧AsZ (laws_markItemS.l0 kq x0_1 x1_1 x5_1=some (r1,r2))∧AsZ (kq≤k)∧AsZ (Kd.R k28 28 w' w0.heap.size (fun k_=>(P0_ k_∨w.heap.size≤k_)) u9000_ x0_1)∧AsZ (Kept w w' (fun k_=>P0_ k_))∧AsZ (Below w0.heap.size w0 w'))
 case atStart=>exact ⟨(l0),(a1),(0),(by first|rfl|(simp;done)|(simp [*];done)),(by first|rfl|(simp;done)|(simp [*];done)),H',⟨Nat.le_refl _⟩,⟨by (with_reducible repeat (first|apply Kd.R_alloc|apply Kd.R_drewN|apply Kd.R_drew));exact HO0.out⟩,⟨by repeat (first|(with_reducible first|exact HK.out|apply Kept.alloc|apply Kept.drewN|apply Kept.drew)|exact HK.out)⟩,⟨by repeat (first|(with_reducible first|exact HB.out|apply bwa|apply pbN|apply bw1)|exact HB.out)⟩⟩
 case round =>
  clear H'
  try clear c2
  try clear p2
  obtain ⟨x0_1,x1_1,x5_1,rfl,rfl,HA,HK1,HO_0,HK,HB⟩:=hrel
  cases gk with
  |zero=>exact absurd HA.out (by simp [laws_markItemS.l0])
  |succ k1 =>
   have H:=HA.out
   clear HA
   simp only [laws_markItemS.l0] at H
   by_cases c3:x5_1 < (x0_1.length:Int)
   rotate_left
   · rw [if_neg c3] at H
     have c3b0:decide (x5_1 < (x0_1.length:Int))=false:=decide_eq_false c3
     clear c3
     simp only [Option.some.injEq,Prod.mk.injEq] at H
     obtain ⟨rfl,rfl⟩:=H
     obtain ⟨Ao22,co22,eo22⟩:=Kd.R_slice HO_0.out
     subst eo22
     go_wp2
     go_ret
     exact ⟨by first|rfl|(simp [errW_none,errW_some]<;>rfl)|(simp [*,errW_none,errW_some]<;>rfl),by (with_reducible repeat (first|apply Kd.R_alloc|apply Kd.R_drewN|apply Kd.R_drew));exact HO_0.out,by repeat (first|(with_reducible first|exact HB.out|apply bwa|apply pbN|apply bw1)|exact HB.out),by repeat (first|(with_reducible first|exact HK.out|apply Kept.alloc|apply Kept.drewN|apply Kept.drew)|exact HK.out)⟩
   rw [if_pos c3] at H
   have c3b0:decide (x5_1 < (x0_1.length:Int))=true:=zE c3
   clear c3
   replace H:=Option.bind_eq_some_iff.mp H
   obtain ⟨t307,A40,H⟩:=H
   replace H:(if 0≤x5_1 then ((some (x0_1.set (x5_1:Int).toNat (⟨t307,(rd_T28 x0_1 x5_1).f1,(rd_T28 x0_1 x5_1).f2,(rd_T28 x0_1 x5_1).f3⟩:S28):List (S28))).bind fun y308=>((some (y308.set (x5_1:Int).toNat (⟨(rd_T28 y308 x5_1).f0,wrap64 (x1_1 + 1),(rd_T28 y308 x5_1).f2,(rd_T28 y308 x5_1).f3⟩:S28):List (S28))).bind fun y309=>((some (y309.set (x5_1:Int).toNat (⟨(rd_T28 y309 x5_1).f0,(rd_T28 y309 x5_1).f1,wrap64 ((wrap64 (x1_1 + 1)) + 1),(rd_T28 y309 x5_1).f3⟩:S28):List (S28))).bind fun y310=>((laws_markText.f k1 (wrap64 ((wrap64 ((wrap64 (x1_1 + 1)) + 1)) + 1))).bind fun t311=>(laws_markItemS.l0 k1 (y310.set (x5_1:Int).toNat (⟨(rd_T28 y310 x5_1).f0,(rd_T28 y310 x5_1).f1,(rd_T28 y310 x5_1).f2,t311⟩:S28)) (wrap64 ((wrap64 ((wrap64 ((wrap64 (x1_1 + 1)) + 1)) + 1)) + 1)) (wrap64 (x5_1 + 1))))))) else (none))=some (r1,r2):=H
   have A4:=AsZ.mk A40
   clear A40
   by_cases c5:0≤x5_1
   rotate_left
   · rw [if_neg c5] at H
     exact absurd H (by simp)
   rw [if_pos c5] at H
   have c5b0:decide (0≤x5_1)=true:=zE c5
   clear c5
   obtain ⟨y308,hy308⟩:∃ y_:List (S28),y_=(x0_1.set (x5_1:Int).toNat (⟨t307,(rd_T28 x0_1 x5_1).f1,(rd_T28 x0_1 x5_1).f2,(rd_T28 x0_1 x5_1).f3⟩:S28)):=⟨_,rfl⟩
   replace H:((some (y308.set (x5_1:Int).toNat (⟨(rd_T28 y308 x5_1).f0,wrap64 (x1_1 + 1),(rd_T28 y308 x5_1).f2,(rd_T28 y308 x5_1).f3⟩:S28):List (S28))).bind fun y309=>((some (y309.set (x5_1:Int).toNat (⟨(rd_T28 y309 x5_1).f0,(rd_T28 y309 x5_1).f1,wrap64 ((wrap64 (x1_1 + 1)) + 1),(rd_T28 y309 x5_1).f3⟩:S28):List (S28))).bind fun y310=>((laws_markText.f k1 (wrap64 ((wrap64 ((wrap64 (x1_1 + 1)) + 1)) + 1))).bind fun t311=>(laws_markItemS.l0 k1 (y310.set (x5_1:Int).toNat (⟨(rd_T28 y310 x5_1).f0,(rd_T28 y310 x5_1).f1,(rd_T28 y310 x5_1).f2,t311⟩:S28)) (wrap64 ((wrap64 ((wrap64 ((wrap64 (x1_1 + 1)) + 1)) + 1)) + 1)) (wrap64 (x5_1 + 1))))))=some (r1,r2):=by first|(rw [hy308];with_reducible exact H)|(have H2_:=(Option.bind_some _ _).symm.trans H;rw [hy308];with_reducible exact H2_)|(have H2_:=(Option.bind_some _ _).symm.trans H;with_reducible exact H2_)|with_reducible exact H|(rw [hy308];exact H)|exact H
   have Ny308:=AsZ.mk hy308
   clear hy308
   obtain ⟨y309,hy309⟩:∃ y_:List (S28),y_=(y308.set (x5_1:Int).toNat (⟨(rd_T28 y308 x5_1).f0,wrap64 (x1_1 + 1),(rd_T28 y308 x5_1).f2,(rd_T28 y308 x5_1).f3⟩:S28)):=⟨_,rfl⟩
   replace H:((some (y309.set (x5_1:Int).toNat (⟨(rd_T28 y309 x5_1).f0,(rd_T28 y309 x5_1).f1,wrap64 ((wrap64 (x1_1 + 1)) + 1),(rd_T28 y309 x5_1).f3⟩:S28):List (S28))).bind fun y310=>((laws_markText.f k1 (wrap64 ((wrap64 ((wrap64 (x1_1 + 1)) + 1)) + 1))).bind fun t311=>(laws_markItemS.l0 k1 (y310.set (x5_1:Int).toNat (⟨(rd_T28 y310 x5_1).f0,(rd_T28 y310 x5_1).f1,(rd_T28 y310 x5_1).f2,t311⟩:S28)) (wrap64 ((wrap64 ((wrap64 ((wrap64 (x1_1 + 1)) + 1)) + 1)) + 1)) (wrap64 (x5_1 + 1)))))=some (r1,r2):=by first|(rw [hy309];with_reducible exact H)|(have H2_:=(Option.bind_some _ _).symm.trans H;rw [hy309];with_reducible exact H2_)|(have H2_:=(Option.bind_some _ _).symm.trans H;with_reducible exact H2_)|with_reducible exact H|(rw [hy309];exact H)|exact H
   have Ny309:=AsZ.mk hy309
   clear hy309
   obtain ⟨y310,hy310⟩:∃ y_:List (S28),y_=(y309.set (x5_1:Int).toNat (⟨(rd_T28 y309 x5_1).f0,(rd_T28 y309 x5_1).f1,wrap64 ((wrap64 (x1_1 + 1)) + 1),(rd_T28 y309 x5_1).f3⟩:S28)):=⟨_,rfl⟩
   replace H:((laws_markText.f k1 (wrap64 ((wrap64 ((wrap64 (x1_1 + 1)) + 1)) + 1))).bind fun t311=>(laws_markItemS.l0 k1 (y310.set (x5_1:Int).toNat (⟨(rd_T28 y310 x5_1).f0,(rd_T28 y310 x5_1).f1,(rd_T28 y310 x5_1).f2,t311⟩:S28)) (wrap64 ((wrap64 ((wrap64 ((wrap64 (x1_1 + 1)) + 1)) + 1)) + 1)) (wrap64 (x5_1 + 1))))=some (r1,r2):=by first|(rw [hy310];with_reducible exact H)|(have H2_:=(Option.bind_some _ _).symm.trans H;rw [hy310];with_reducible exact H2_)|(have H2_:=(Option.bind_some _ _).symm.trans H;with_reducible exact H2_)|with_reducible exact H|(rw [hy310];exact H)|exact H
   have Ny310:=AsZ.mk hy310
   clear hy310
   replace H:=Option.bind_eq_some_iff.mp H
   obtain ⟨t311,A90,H⟩:=H
   replace H:(laws_markItemS.l0 k1 (y310.set (x5_1:Int).toNat (⟨(rd_T28 y310 x5_1).f0,(rd_T28 y310 x5_1).f1,(rd_T28 y310 x5_1).f2,t311⟩:S28)) (wrap64 ((wrap64 ((wrap64 ((wrap64 (x1_1 + 1)) + 1)) + 1)) + 1)) (wrap64 (x5_1 + 1)))=some (r1,r2):=H
   have A9:=AsZ.mk A90
   clear A90
   obtain ⟨y312,hy312⟩:∃ y_:List (S28),y_=(y310.set (x5_1:Int).toNat (⟨(rd_T28 y310 x5_1).f0,(rd_T28 y310 x5_1).f1,(rd_T28 y310 x5_1).f2,t311⟩:S28)):=⟨_,rfl⟩
   replace H:(laws_markItemS.l0 k1 y312 (wrap64 ((wrap64 ((wrap64 ((wrap64 (x1_1 + 1)) + 1)) + 1)) + 1)) (wrap64 (x5_1 + 1)))=some (r1,r2):=by first|(rw [hy312];with_reducible exact H)|(have H2_:=(Option.bind_some _ _).symm.trans H;rw [hy312];with_reducible exact H2_)|(have H2_:=(Option.bind_some _ _).symm.trans H;with_reducible exact H2_)|with_reducible exact H|(rw [hy312];exact H)|exact H
   have Ny312:=AsZ.mk hy312
   clear hy312
   have H':=AsZ.mk H
   clear H
   obtain ⟨Ao11,co11,eo11⟩:=Kd.R_slice HO_0.out
   subst eo11
   go_wp2_with (first|((with_reducible refine gcl (f:=67) rfl ?_);refine goesL_ (some 15) rfl rfl Tryd.func67 (by kernel_rfl) rfl #[.int .i64 x1_1] rfl (by (try simp only [zA,zC,zN]);first|done|rfl|(simp only [zM,zL];rfl)) ?_;(with_reducible refine (laws_markText.calls k1 x1_1 t307 _ A4.out).mono ?_);rintro e w12 ⟨rfl,hb⟩;refine ⟨_,rfl,?_⟩;have n0_:=AsZ.mk (Kd.R_below (by (with_reducible repeat (first|apply Kd.R_alloc|apply Kd.R_drewN|apply Kd.R_drew));exact HO_0.out) hb);have n1_:=AsZ.mk (Kept.below (S:=(fun k_=>P0_ k_)) (by repeat (first|(with_reducible first|exact HK.out|apply Kept.alloc|apply Kept.drewN|apply Kept.drew)|exact HK.out)) hb);have n2_:=AsZ.mk (bwp (by repeat (first|(with_reducible first|exact HB.out|apply bwa|apply pbN|apply bw1)|exact HB.out)) hb);clear HO_0;clear HK;clear HB;have HO_0:=n0_;have HK:=n1_;have HB:=n2_;clear n0_ n1_ n2_;(try clear hb);(try clear hb2);(try clear hk);(try clear hi);have p6:0≤(x5_1:Int):=zD (by first|(with_reducible assumption)|assumption);have q6:(x5_1:Int) < ((x0_1.length:Int):Int):=zD (by first|(with_reducible assumption)|assumption);obtain ⟨go6,co6,eo6,gb6,gl6,cl6,HG6⟩:=Kd.R_form HO_0.out (by omega);(first|cases eo6|(injection eo6 with ea_ en_ ec_;(first|subst ea_|(injection ea_ with ea_;subst ea_));subst ec_;clear en_));have GB6:=AsZ.mk gb6;have GG6:=AsZ.mk HG6;clear gb6 gl6 HG6;have HMgo6:=AsZ.mk (show (P0_ go6∨w.heap.size≤go6) from (HO_0.out.1 _ rfl));obtain ⟨ce6,hcl6,hM6,hcc6,hfr6⟩:=Kd.R_elem HO_0.out z28 (x5_1:Int) p6 q6;obtain rfl:=k28_openM hM6;have hx6_0:w12.cell? ⟨go6,(x5_1:Int).toNat * 4,none⟩=some (.string ((rd_T28 x0_1 x5_1).f0)):=hcc6 0 _ rfl;have hx6_1:w12.cell? ⟨go6,(x5_1:Int).toNat * 4 + 1,none⟩=some (.int .i64 ((rd_T28 x0_1 x5_1).f1)):=hcc6 1 _ rfl;have hx6_2:w12.cell? ⟨go6,(x5_1:Int).toNat * 4 + 2,none⟩=some (.int .i64 ((rd_T28 x0_1 x5_1).f2)):=hcc6 2 _ rfl;have hx6_3:w12.cell? ⟨go6,(x5_1:Int).toNat * 4 + 3,none⟩=some (.string ((rd_T28 x0_1 x5_1).f3)):=hcc6 3 _ rfl;have hf6_0:w12.frozen? ⟨go6,(x5_1:Int).toNat * 4,none⟩=false:=hfr6 0;have hf6_1:w12.frozen? ⟨go6,(x5_1:Int).toNat * 4 + 1,none⟩=false:=hfr6 1;have hf6_2:w12.frozen? ⟨go6,(x5_1:Int).toNat * 4 + 2,none⟩=false:=hfr6 2;have hf6_3:w12.frozen? ⟨go6,(x5_1:Int).toNat * 4 + 3,none⟩=false:=hfr6 3;clear hcl6 hcc6 hfr6 hM6;replace p6:=eq_true p6;replace q6:=eq_true q6;have HX13:=AsZ.mk (show Kd.R k28 28 w12 w0.heap.size (fun k_=>(P0_ k_∨w.heap.size≤k_)) (.slice (some ⟨go6,0,none⟩) x0_1.length co11) x0_1 from (by (with_reducible repeat (first|apply Kd.R_alloc|apply Kd.R_drewN|apply Kd.R_drew));exact HO_0.out));obtain ⟨ce13,hcl13,hM13,hcc13,hfr13⟩:=Kd.R_elem HX13.out z28 (x5_1:Int) (zD (by first|(with_reducible assumption)|assumption)) (by have h_:(x5_1:Int) < ((x0_1.length:Int):Int):=zD (by first|(with_reducible assumption)|assumption);first|exact h_|(have e_:=(Kd.R_reads' HO_0.out).1;omega)|simpa using h_);obtain rfl:=k28_openM hM13;have HP13:=Kd.R_seg HX13.out (x5_1:Int) (zD (by first|(with_reducible assumption)|assumption)) (by have h_:(x5_1:Int) < ((x0_1.length:Int):Int):=zD (by first|(with_reducible assumption)|assumption);first|exact h_|(have e_:=(Kd.R_reads' HO_0.out).1;omega)|simpa using h_) (seg:=[.string t307]) (j:=0) hcl13 hcc13 (show 1≤4 from by decide) (x':=(⟨t307,(rd_T28 x0_1 x5_1).f1,(rd_T28 x0_1 x5_1).f2,(rd_T28 x0_1 x5_1).f3⟩:S28)) (k28_mkM _ _ _ (⟨t307,(rd_T28 x0_1 x5_1).f1,(rd_T28 x0_1 x5_1).f2,(rd_T28 x0_1 x5_1).f3⟩:S28) ) (fun _ hk=>hk);have hx13_0:=hcc13 0 _ rfl;(try simp only [show (k28).sz=4 from rfl,Nat.mul_one,Nat.add_zero] at hx13_0);have hf13_0:=hfr13 0;(try simp only [show (k28).sz=4 from rfl,Nat.mul_one,Nat.add_zero] at hf13_0);clear hcl13 hcc13 hfr13 hM13)|((with_reducible refine gate_store (t:=9) (p:=17) rfl ?_);refine store_event (t:=9) (p:=17) (v:=?vo_w14) (w1:=(w12.setCell ⟨go6,(x5_1:Int).toNat * 4,none⟩ (.string t307))) ?hg ?ho ?hn ?hr ?_;(case ho=>rfl);(case hg=>rfl);(case hn=>rfl);(case hr=>first|(go_simp;done)|(go_simp;rfl));intro w14 hw;have hg:w12.grownBy w14 (some go6):=(by rw [hw];exact HP13.2);have hp_:Kd.R k28 28 w14 w0.heap.size (fun k_=>(P0_ k_∨w.heap.size≤k_)) (.slice (some ⟨go6,0,none⟩) x0_1.length co11) y308:=(by rw [hw,Ny308.out];exact HP13.1);clear HP13;have n0_:=AsZ.mk (hp_);have n1_:=AsZ.mk ((by rw [hw];exact bws (HB.out) GB6.out:Below w0.heap.size w0 w14));have n2_:=AsZ.mk (Kept.of_grown (S:=(fun k_=>P0_ k_)) hg (by repeat (first|(with_reducible first|exact HK.out|apply Kept.alloc|apply Kept.drewN|apply Kept.drew)|exact HK.out)) (fun k_ e_=>(HO_0.out.1 k_ e_)));clear HO_0;clear HB;clear HK;have HO_0:=n0_;have HB:=n1_;have HK:=n2_;clear n0_ n1_ n2_;clear hg hw hp_;have p7:0≤(x5_1:Int):=zD (by first|(with_reducible assumption)|assumption);have q7:(x5_1:Int) < ((x0_1.length:Int):Int):=zD (by first|(with_reducible assumption)|assumption);obtain ⟨ce7,hcl7,hM7,hcc7,hfr7⟩:=Kd.R_elem HO_0.out z28 (x5_1:Int) p7 q7;obtain rfl:=k28_openM hM7;have hx7_0:w14.cell? ⟨go6,(x5_1:Int).toNat * 4,none⟩=some (.string ((rd_T28 y308 x5_1).f0)):=hcc7 0 _ rfl;have hx7_1:w14.cell? ⟨go6,(x5_1:Int).toNat * 4 + 1,none⟩=some (.int .i64 ((rd_T28 y308 x5_1).f1)):=hcc7 1 _ rfl;have hx7_2:w14.cell? ⟨go6,(x5_1:Int).toNat * 4 + 2,none⟩=some (.int .i64 ((rd_T28 y308 x5_1).f2)):=hcc7 2 _ rfl;have hx7_3:w14.cell? ⟨go6,(x5_1:Int).toNat * 4 + 3,none⟩=some (.string ((rd_T28 y308 x5_1).f3)):=hcc7 3 _ rfl;have hf7_0:w14.frozen? ⟨go6,(x5_1:Int).toNat * 4,none⟩=false:=hfr7 0;have hf7_1:w14.frozen? ⟨go6,(x5_1:Int).toNat * 4 + 1,none⟩=false:=hfr7 1;have hf7_2:w14.frozen? ⟨go6,(x5_1:Int).toNat * 4 + 2,none⟩=false:=hfr7 2;have hf7_3:w14.frozen? ⟨go6,(x5_1:Int).toNat * 4 + 3,none⟩=false:=hfr7 3;clear hcl7 hcc7 hfr7 hM7;replace p7:=eq_true p7;replace q7:=eq_true q7;have HX15:=AsZ.mk (show Kd.R k28 28 w14 w0.heap.size (fun k_=>(P0_ k_∨w.heap.size≤k_)) (.slice (some ⟨go6,0,none⟩) x0_1.length co11) y308 from (by (with_reducible repeat (first|apply Kd.R_alloc|apply Kd.R_drewN|apply Kd.R_drew));exact HO_0.out));obtain ⟨ce15,hcl15,hM15,hcc15,hfr15⟩:=Kd.R_elem HX15.out z28 (x5_1:Int) (zD (by first|(with_reducible assumption)|assumption)) (by have h_:(x5_1:Int) < ((x0_1.length:Int):Int):=zD (by first|(with_reducible assumption)|assumption);first|exact h_|(have e_:=(Kd.R_reads' HO_0.out).1;omega)|simpa using h_);obtain rfl:=k28_openM hM15;have HP15:=Kd.R_seg HX15.out (x5_1:Int) (zD (by first|(with_reducible assumption)|assumption)) (by have h_:(x5_1:Int) < ((x0_1.length:Int):Int):=zD (by first|(with_reducible assumption)|assumption);first|exact h_|(have e_:=(Kd.R_reads' HO_0.out).1;omega)|simpa using h_) (seg:=[.int .i64 (wrap64 (x1_1 + 1))]) (j:=1) hcl15 hcc15 (show 2≤4 from by decide) (x':=(⟨(rd_T28 y308 x5_1).f0,wrap64 (x1_1 + 1),(rd_T28 y308 x5_1).f2,(rd_T28 y308 x5_1).f3⟩:S28)) (k28_mkM _ _ _ (⟨(rd_T28 y308 x5_1).f0,wrap64 (x1_1 + 1),(rd_T28 y308 x5_1).f2,(rd_T28 y308 x5_1).f3⟩:S28) ) (fun _ hk=>hk);have hx15_1:=hcc15 1 _ rfl;(try simp only [show (k28).sz=4 from rfl,Nat.mul_one,Nat.add_zero] at hx15_1);have hf15_1:=hfr15 1;(try simp only [show (k28).sz=4 from rfl,Nat.mul_one,Nat.add_zero] at hf15_1);clear hcl15 hcc15 hfr15 hM15)|((with_reducible refine gate_store (t:=3) (p:=24) rfl ?_);refine store_event (t:=3) (p:=24) (v:=?vo_w16) (w1:=(w14.setCell ⟨go6,(x5_1:Int).toNat * 4 + 1,none⟩ (.int .i64 (wrap64 (x1_1 + 1))))) ?hg ?ho ?hn ?hr ?_;(case ho=>rfl);(case hg=>rfl);(case hn=>rfl);(case hr=>first|(go_simp;done)|(go_simp;rfl));intro w16 hw;have hg:w14.grownBy w16 (some go6):=(by rw [hw];exact HP15.2);have hp_:Kd.R k28 28 w16 w0.heap.size (fun k_=>(P0_ k_∨w.heap.size≤k_)) (.slice (some ⟨go6,0,none⟩) x0_1.length co11) y309:=(by rw [hw,Ny309.out];exact HP15.1);clear HP15;have n0_:=AsZ.mk (hp_);have n1_:=AsZ.mk ((by rw [hw];exact bws (HB.out) GB6.out:Below w0.heap.size w0 w16));have n2_:=AsZ.mk (Kept.of_grown (S:=(fun k_=>P0_ k_)) hg (by repeat (first|(with_reducible first|exact HK.out|apply Kept.alloc|apply Kept.drewN|apply Kept.drew)|exact HK.out)) (fun k_ e_=>(HO_0.out.1 k_ e_)));clear HO_0;clear HB;clear HK;have HO_0:=n0_;have HB:=n1_;have HK:=n2_;clear n0_ n1_ n2_;clear hg hw hp_;have p8:0≤(x5_1:Int):=zD (by first|(with_reducible assumption)|assumption);have q8:(x5_1:Int) < ((x0_1.length:Int):Int):=zD (by first|(with_reducible assumption)|assumption);obtain ⟨ce8,hcl8,hM8,hcc8,hfr8⟩:=Kd.R_elem HO_0.out z28 (x5_1:Int) p8 q8;obtain rfl:=k28_openM hM8;have hx8_0:w16.cell? ⟨go6,(x5_1:Int).toNat * 4,none⟩=some (.string ((rd_T28 y309 x5_1).f0)):=hcc8 0 _ rfl;have hx8_1:w16.cell? ⟨go6,(x5_1:Int).toNat * 4 + 1,none⟩=some (.int .i64 ((rd_T28 y309 x5_1).f1)):=hcc8 1 _ rfl;have hx8_2:w16.cell? ⟨go6,(x5_1:Int).toNat * 4 + 2,none⟩=some (.int .i64 ((rd_T28 y309 x5_1).f2)):=hcc8 2 _ rfl;have hx8_3:w16.cell? ⟨go6,(x5_1:Int).toNat * 4 + 3,none⟩=some (.string ((rd_T28 y309 x5_1).f3)):=hcc8 3 _ rfl;have hf8_0:w16.frozen? ⟨go6,(x5_1:Int).toNat * 4,none⟩=false:=hfr8 0;have hf8_1:w16.frozen? ⟨go6,(x5_1:Int).toNat * 4 + 1,none⟩=false:=hfr8 1;have hf8_2:w16.frozen? ⟨go6,(x5_1:Int).toNat * 4 + 2,none⟩=false:=hfr8 2;have hf8_3:w16.frozen? ⟨go6,(x5_1:Int).toNat * 4 + 3,none⟩=false:=hfr8 3;clear hcl8 hcc8 hfr8 hM8;replace p8:=eq_true p8;replace q8:=eq_true q8;have HX17:=AsZ.mk (show Kd.R k28 28 w16 w0.heap.size (fun k_=>(P0_ k_∨w.heap.size≤k_)) (.slice (some ⟨go6,0,none⟩) x0_1.length co11) y309 from (by (with_reducible repeat (first|apply Kd.R_alloc|apply Kd.R_drewN|apply Kd.R_drew));exact HO_0.out));obtain ⟨ce17,hcl17,hM17,hcc17,hfr17⟩:=Kd.R_elem HX17.out z28 (x5_1:Int) (zD (by first|(with_reducible assumption)|assumption)) (by have h_:(x5_1:Int) < ((x0_1.length:Int):Int):=zD (by first|(with_reducible assumption)|assumption);first|exact h_|(have e_:=(Kd.R_reads' HO_0.out).1;omega)|simpa using h_);obtain rfl:=k28_openM hM17;have HP17:=Kd.R_seg HX17.out (x5_1:Int) (zD (by first|(with_reducible assumption)|assumption)) (by have h_:(x5_1:Int) < ((x0_1.length:Int):Int):=zD (by first|(with_reducible assumption)|assumption);first|exact h_|(have e_:=(Kd.R_reads' HO_0.out).1;omega)|simpa using h_) (seg:=[.int .i64 (wrap64 ((wrap64 (x1_1 + 1)) + 1))]) (j:=2) hcl17 hcc17 (show 3≤4 from by decide) (x':=(⟨(rd_T28 y309 x5_1).f0,(rd_T28 y309 x5_1).f1,wrap64 ((wrap64 (x1_1 + 1)) + 1),(rd_T28 y309 x5_1).f3⟩:S28)) (k28_mkM _ _ _ (⟨(rd_T28 y309 x5_1).f0,(rd_T28 y309 x5_1).f1,wrap64 ((wrap64 (x1_1 + 1)) + 1),(rd_T28 y309 x5_1).f3⟩:S28) ) (fun _ hk=>hk);have hx17_2:=hcc17 2 _ rfl;(try simp only [show (k28).sz=4 from rfl,Nat.mul_one,Nat.add_zero] at hx17_2);have hf17_2:=hfr17 2;(try simp only [show (k28).sz=4 from rfl,Nat.mul_one,Nat.add_zero] at hf17_2);clear hcl17 hcc17 hfr17 hM17)|((with_reducible refine gate_store (t:=3) (p:=31) rfl ?_);refine store_event (t:=3) (p:=31) (v:=?vo_w18) (w1:=(w16.setCell ⟨go6,(x5_1:Int).toNat * 4 + 2,none⟩ (.int .i64 (wrap64 ((wrap64 (x1_1 + 1)) + 1))))) ?hg ?ho ?hn ?hr ?_;(case ho=>rfl);(case hg=>rfl);(case hn=>rfl);(case hr=>first|(go_simp;done)|(go_simp;rfl));intro w18 hw;have hg:w16.grownBy w18 (some go6):=(by rw [hw];exact HP17.2);have hp_:Kd.R k28 28 w18 w0.heap.size (fun k_=>(P0_ k_∨w.heap.size≤k_)) (.slice (some ⟨go6,0,none⟩) x0_1.length co11) y310:=(by rw [hw,Ny310.out];exact HP17.1);clear HP17;have n0_:=AsZ.mk (hp_);have n1_:=AsZ.mk ((by rw [hw];exact bws (HB.out) GB6.out:Below w0.heap.size w0 w18));have n2_:=AsZ.mk (Kept.of_grown (S:=(fun k_=>P0_ k_)) hg (by repeat (first|(with_reducible first|exact HK.out|apply Kept.alloc|apply Kept.drewN|apply Kept.drew)|exact HK.out)) (fun k_ e_=>(HO_0.out.1 k_ e_)));clear HO_0;clear HB;clear HK;have HO_0:=n0_;have HB:=n1_;have HK:=n2_;clear n0_ n1_ n2_;clear hg hw hp_)|((with_reducible refine gcl (f:=67) rfl ?_);refine goesL_ (some 37) rfl rfl Tryd.func67 (by kernel_rfl) rfl #[.int .i64 (wrap64 ((wrap64 ((wrap64 (x1_1 + 1)) + 1)) + 1))] rfl (by (try simp only [zA,zC,zN]);first|done|rfl|(simp only [zM,zL];rfl)) ?_;(with_reducible refine (laws_markText.calls k1 (wrap64 ((wrap64 ((wrap64 (x1_1 + 1)) + 1)) + 1)) t311 _ A9.out).mono ?_);rintro e w19 ⟨rfl,hb⟩;refine ⟨_,rfl,?_⟩;have n0_:=AsZ.mk (Kd.R_below (by (with_reducible repeat (first|apply Kd.R_alloc|apply Kd.R_drewN|apply Kd.R_drew));exact HO_0.out) hb);have n1_:=AsZ.mk (Kept.below (S:=(fun k_=>P0_ k_)) (by repeat (first|(with_reducible first|exact HK.out|apply Kept.alloc|apply Kept.drewN|apply Kept.drew)|exact HK.out)) hb);have n2_:=AsZ.mk (bwp (by repeat (first|(with_reducible first|exact HB.out|apply bwa|apply pbN|apply bw1)|exact HB.out)) hb);clear HO_0;clear HK;clear HB;have HO_0:=n0_;have HK:=n1_;have HB:=n2_;clear n0_ n1_ n2_;(try clear hb);(try clear hb2);(try clear hk);(try clear hi);have p10:0≤(x5_1:Int):=zD (by first|(with_reducible assumption)|assumption);have q10:(x5_1:Int) < ((x0_1.length:Int):Int):=zD (by first|(with_reducible assumption)|assumption);obtain ⟨ce10,hcl10,hM10,hcc10,hfr10⟩:=Kd.R_elem HO_0.out z28 (x5_1:Int) p10 q10;obtain rfl:=k28_openM hM10;have hx10_0:w19.cell? ⟨go6,(x5_1:Int).toNat * 4,none⟩=some (.string ((rd_T28 y310 x5_1).f0)):=hcc10 0 _ rfl;have hx10_1:w19.cell? ⟨go6,(x5_1:Int).toNat * 4 + 1,none⟩=some (.int .i64 ((rd_T28 y310 x5_1).f1)):=hcc10 1 _ rfl;have hx10_2:w19.cell? ⟨go6,(x5_1:Int).toNat * 4 + 2,none⟩=some (.int .i64 ((rd_T28 y310 x5_1).f2)):=hcc10 2 _ rfl;have hx10_3:w19.cell? ⟨go6,(x5_1:Int).toNat * 4 + 3,none⟩=some (.string ((rd_T28 y310 x5_1).f3)):=hcc10 3 _ rfl;have hf10_0:w19.frozen? ⟨go6,(x5_1:Int).toNat * 4,none⟩=false:=hfr10 0;have hf10_1:w19.frozen? ⟨go6,(x5_1:Int).toNat * 4 + 1,none⟩=false:=hfr10 1;have hf10_2:w19.frozen? ⟨go6,(x5_1:Int).toNat * 4 + 2,none⟩=false:=hfr10 2;have hf10_3:w19.frozen? ⟨go6,(x5_1:Int).toNat * 4 + 3,none⟩=false:=hfr10 3;clear hcl10 hcc10 hfr10 hM10;replace p10:=eq_true p10;replace q10:=eq_true q10;have HX20:=AsZ.mk (show Kd.R k28 28 w19 w0.heap.size (fun k_=>(P0_ k_∨w.heap.size≤k_)) (.slice (some ⟨go6,0,none⟩) x0_1.length co11) y310 from (by (with_reducible repeat (first|apply Kd.R_alloc|apply Kd.R_drewN|apply Kd.R_drew));exact HO_0.out));obtain ⟨ce20,hcl20,hM20,hcc20,hfr20⟩:=Kd.R_elem HX20.out z28 (x5_1:Int) (zD (by first|(with_reducible assumption)|assumption)) (by have h_:(x5_1:Int) < ((x0_1.length:Int):Int):=zD (by first|(with_reducible assumption)|assumption);first|exact h_|(have e_:=(Kd.R_reads' HO_0.out).1;omega)|simpa using h_);obtain rfl:=k28_openM hM20;have HP20:=Kd.R_seg HX20.out (x5_1:Int) (zD (by first|(with_reducible assumption)|assumption)) (by have h_:(x5_1:Int) < ((x0_1.length:Int):Int):=zD (by first|(with_reducible assumption)|assumption);first|exact h_|(have e_:=(Kd.R_reads' HO_0.out).1;omega)|simpa using h_) (seg:=[.string t311]) (j:=3) hcl20 hcc20 (show 4≤4 from by decide) (x':=(⟨(rd_T28 y310 x5_1).f0,(rd_T28 y310 x5_1).f1,(rd_T28 y310 x5_1).f2,t311⟩:S28)) (k28_mkM _ _ _ (⟨(rd_T28 y310 x5_1).f0,(rd_T28 y310 x5_1).f1,(rd_T28 y310 x5_1).f2,t311⟩:S28) ) (fun _ hk=>hk);have hx20_3:=hcc20 3 _ rfl;(try simp only [show (k28).sz=4 from rfl,Nat.mul_one,Nat.add_zero] at hx20_3);have hf20_3:=hfr20 3;(try simp only [show (k28).sz=4 from rfl,Nat.mul_one,Nat.add_zero] at hf20_3);clear hcl20 hcc20 hfr20 hM20)|((with_reducible refine gate_store (t:=9) (p:=39) rfl ?_);refine store_event (t:=9) (p:=39) (v:=?vo_w21) (w1:=(w19.setCell ⟨go6,(x5_1:Int).toNat * 4 + 3,none⟩ (.string t311))) ?hg ?ho ?hn ?hr ?_;(case ho=>rfl);(case hg=>rfl);(case hn=>rfl);(case hr=>first|(go_simp;done)|(go_simp;rfl));intro w21 hw;have hg:w19.grownBy w21 (some go6):=(by rw [hw];exact HP20.2);have hp_:Kd.R k28 28 w21 w0.heap.size (fun k_=>(P0_ k_∨w.heap.size≤k_)) (.slice (some ⟨go6,0,none⟩) x0_1.length co11) y312:=(by rw [hw,Ny312.out];exact HP20.1);clear HP20;have n0_:=AsZ.mk (hp_);have n1_:=AsZ.mk ((by rw [hw];exact bws (HB.out) GB6.out:Below w0.heap.size w0 w21));have n2_:=AsZ.mk (Kept.of_grown (S:=(fun k_=>P0_ k_)) hg (by repeat (first|(with_reducible first|exact HK.out|apply Kept.alloc|apply Kept.drewN|apply Kept.drew)|exact HK.out)) (fun k_ e_=>(HO_0.out.1 k_ e_)));clear HO_0;clear HB;clear HK;have HO_0:=n0_;have HB:=n1_;have HK:=n2_;clear n0_ n1_ n2_;clear hg hw hp_))
   go_roundg k1
   case measure=>have:=HK1.out;omega
   case rel=>exact ⟨(y312),(wrap64 ((wrap64 ((wrap64 ((wrap64 (x1_1 + 1)) + 1)) + 1)) + 1)),(wrap64 (x5_1 + 1)),(by first|rfl|(simp;done)|(simp [*];done)),(by first|rfl|(simp;done)|(simp [*];done)),H',⟨by have:=HK1.out;omega⟩,⟨by (with_reducible repeat (first|apply Kd.R_alloc|apply Kd.R_drewN|apply Kd.R_drew));exact HO_0.out⟩,⟨by repeat (first|(with_reducible first|exact HK.out|apply Kept.alloc|apply Kept.drewN|apply Kept.drew)|exact HK.out)⟩,⟨by repeat (first|(with_reducible first|exact HB.out|apply bwa|apply pbN|apply bw1)|exact HB.out)⟩⟩
end Go.Proofs.YtffjlpphcjfdgaaDoor.MFnExactListSkip
