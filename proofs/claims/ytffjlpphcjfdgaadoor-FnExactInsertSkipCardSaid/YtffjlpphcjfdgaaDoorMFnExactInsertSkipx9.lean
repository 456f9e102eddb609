-- Written by a program of this session out of the translation. Not trusted: Lean checks it.
import Derived.Test.YtffjlpphcjfdgaaDoorMFnExactInsertSkipx0
import Derived.Test.YtffjlpphcjfdgaaDoorMFnExactInsertSkipx8
namespace Go.Proofs.YtffjlpphcjfdgaaDoor.MFnExactInsertSkip
-- joined
-- short
-- shrunk
-- TAB
-- RD
open Go.Proofs.YtffjlpphcjfdgaaDoor Go.RowKit Go.Proofs.YtffjlpphcjfdgaaDoorW.PrintWords Go.Proofs.YtffjlpphcjfdgaaDoorW.PrintLast Go.Proofs.YtffjlpphcjfdgaaDoorW.PrintMore Go.Proofs.YtffjlpphcjfdgaaDoorX
attribute [local go_sem] max2_int min2_int max_two min_two max_three min_three max_four min_four str_gtr str_leq str_geq cell_twice
set_option linter.unusedVariables false
set_option linter.unusedSimpArgs false
-- COMPACT
/-! ### spec_l1Num: function 89 -/
def spec_l1Num.f:Nat→Int→Option (ByteArray)
  |0,_=>none
  |k + 1,a0=>if a0 < 10 then (some (strOfNums (([(wrap64 (48 + a0)) % 256]:List Int)))) else ((spec_l1Num.f k (wrap64 (Int.tdiv a0 10))).bind fun t225=>((some (([(wrap64 (48 + (Int.tmod a0 10))) % 256]:List Int):List Int)).bind fun y226=>(if t225.size + (strOfNums y226).size≤9223372036854775807 then (some (t225 ++ (strOfNums y226))) else (none))))
theorem spec_l1Num.mono_l:∀ k,(∀ y0,LeO (spec_l1Num.f k y0) (spec_l1Num.f (k + 1) y0))
  |0=>fun _ r h=>by simp [spec_l1Num.f] at h
  |k + 1=>by
    have ih0:=spec_l1Num.mono_l k
    · intro y0
      unfold spec_l1Num.f;exact mo
theorem spec_l1Num.mono:∀ a0 k,LeO (spec_l1Num.f k a0) (spec_l1Num.f (k + 1) a0):=by
  intro a0 k;have ih0:=spec_l1Num.mono_l k;exact ih0 a0
def spec_l1Num.T3:Bool × List (List Nat × List Nat):=(true,[([],[]),([0],[0]),([1],[1]),([],[]),([3],[3]),([4],[4]),([5],[5]),([6],[6]),([7],[7]),([2,8],[2,8]),([9,2,0,1,2,3,4,5,6,7,8,9],[9])])
def spec_l1Num.B3:List Nat:=[0,1,3,0,8,24,56,120,248,511,1023]
theorem spec_l1Num.tab3:rtab .any (opsOf Tryd.f89 3)=spec_l1Num.T3:=by kernel_rfl
theorem spec_l1Num.bits3:waitsOk spec_l1Num.T3.2 spec_l1Num.B3=true:=by kernel_rfl
set_option maxHeartbeats 8000000 in
set_option maxRecDepth 100000 in
theorem spec_l1Num.calls (k:Nat):∀ (a0:Int) (r:ByteArray) (w:World) (h:spec_l1Num.f k a0=some r),
    Calls Tryd.prog 89 #[.int .i64 a0] w fun e w'=>e = .returned (.string r)∧Below w.heap.size w w':=by
 induction k using Nat.strongRecOn with
 |_ k ih =>
 intro a0 r w h
 cases k with
 |zero=>exact absurd h (by simp [spec_l1Num.f])
 |succ k =>
 simp only [spec_l1Num.f] at h;have HB:=AsZ.mk (Below.refl w.heap.size w);have H:(if a0 < 10 then (some (strOfNums (([(wrap64 (48 + a0)) % 256]:List Int)))) else ((spec_l1Num.f k (wrap64 (Int.tdiv a0 10))).bind fun t225=>((some (([(wrap64 (48 + (Int.tmod a0 10))) % 256]:List Int):List Int)).bind fun y226=>(if t225.size + (strOfNums y226).size≤9223372036854775807 then (some (t225 ++ (strOfNums y226))) else (none)))))=some r:=h;clear h;by_cases c2:a0 < 10
 · rw [if_pos c2] at H
   have c2b0:=zE c2;clear c2;obtain ⟨y222,hy222⟩:∃ y_:List Int,y_=(([(wrap64 (48 + a0)) % 256]:List Int)):=⟨_,rfl⟩;replace H:(some (strOfNums y222))=some r:=ry hy222 H;have Ny222:=AsZ.mk hy222;clear hy222;obtain rfl:=zI H;go_enter Tryd.func89,Tryd.ntmps89;go_wp2_with (first|((with_reducible refine gate_dst (N:=8) rfl ?_);refine Kd.R_lit (Kd.int .u8) _ 5 ?hg (N:=8) ?hd (xs:=([(wrap64 (48 + a0)) % 256]:List Int)) (inner:=[.int .u8 ((wrap64 (48 + a0)) % 256)]) (ok:=fun _=>True) (okp:=fun _=>True) ?hr ?hp (fun _ hk=>hk) trivial (Below.refl _ _) (Nat.le_refl _) (by simp) ?_;(case hd=>rfl);(case hg=>rfl);(case hr=>first|(go_simp;done)|(go_simp;rfl));(case hp=>exact (Reps.one (show Kd.M (Kd.int .u8) _ _ _ ((wrap64 (48 + a0)) % 256) [.int .u8 ((wrap64 (48 + a0)) % 256)] from rfl) (Reps.none _ _)));intro v223 w3 ho4 hb hg_ hnew_;clear hg_ hnew_;(first|rw [← Ny222.out] at ho4|(simp only [Int.reduceToNat] at ho4;rw [← Ny222.out] at ho4));have HO224:=AsZ.mk (Kd.R_lower ho4 (bwz bel));replace HB:=bp hb;clear hb ho4;have hcv5:=own_string (P:=Tryd.prog) Tryd.underlying22 Tryd.underlying5 Tryd.underlying9 (Kd.own_of_R HO224.out)));go_ret;exact ⟨re,bel⟩
 rw [if_neg c2] at H;have c2b0:=decide_eq_false c2;clear c2;replace H:=bs H;obtain ⟨t225,A6,H⟩:=H;obtain ⟨y226,hy226⟩:∃ y_:List Int,y_=(([(wrap64 (48 + (Int.tmod a0 10))) % 256]:List Int)):=⟨_,rfl⟩;replace H:(if t225.size + (strOfNums y226).size≤9223372036854775807 then (some (t225 ++ (strOfNums y226))) else (none))=some r:=ry hy226 H;have Ny226:=AsZ.mk hy226;clear hy226;by_cases c7:t225.size + (strOfNums y226).size≤9223372036854775807;rotate_left
 · rw [if_neg c7] at H
   exact absurd H (by simp)
 rw [if_pos c7] at H;have c7b0:=eq_true c7;have c7b1:decide (t225.size + (strOfNums y226).size≤9223372036854775807)=true:=zE c7
 try have c7b2:(9223372036854775807 < t225.size + (strOfNums y226).size)=False:=eq_false (Nat.not_lt.2 c7)
 obtain rfl:=zI H;go_enter Tryd.func89,Tryd.ntmps89
 try go_wp2
 replace HB:=dB HB;refine start_ (n:=11) (S:=fun w'=>True) (ds:=[]) (b_ 0 11) (by kernel_rfl) rfl rfl trivial (fun hHeld=>?_);refine with_tabW spec_l1Num.tab3 spec_l1Num.bits3 (fun HT_ HW_=>?_);generalize w.drew=w8 at HB hHeld ⊢;refine pu 0 10 (b_ 1 10) HT_.out ?_;refine pu 1 11 (b_ 2 9) HT_.out ?_;refine pu 3 13 #[true,true,false,true,false,false,false,false,false,false,false] HT_.out ?_;refine pu 4 14 #[true,true,false,true,true,false,false,false,false,false,false] HT_.out ?_;refine pu 5 15 #[true,true,false,true,true,true,false,false,false,false,false] HT_.out ?_;refine pu 6 16 #[true,true,false,true,true,true,true,false,false,false,false] HT_.out ?_;refine join_ (σ:=Value) 2 (b_ 9 2) (fun s_=>[(12,.string t225),(17,s_),(18,.string (strOfNums y226))]) (fun s_ w'=>(Kd.R (Kd.int .u8) 5 w' w.heap.size (fun _=>True) s_ y226)∧(Below w.heap.size w w')) ?_ ?_;rotate_left
 · intro hCont
   refine two_ (i:=2) (j:=7) (Ni:=some 12) (Nj:=some 17) (b_ 7 4) #[true,true,false,true,true,true,true,true,false,false,false] rfl rfl rfl rfl (two_of HT_.out (by kernel_rfl)) (by decide) (by decide) (fun K hK=>?_) (fun K hK=>?_)
   · skip
     refine gs Tryd.func89 #[.int .i64 (wrap64 (Int.tdiv a0 10))] ?_
     with_reducible refine (ih k (by omega) (wrap64 (Int.tdiv a0 10)) t225 _ A6.out).mono ?_
     rintro e w9 ⟨rfl,hb⟩;refine ⟨_,rfl,?_⟩;replace HB:=bp hb;(try clear hb);(try clear hb2);(try clear hk);(try clear hi);refine hK.out _ _ trivial (fun hHeld=>?_);clear hK K;refine norm_ (a':=?_) ?_ ?_;rotate_left
     · show Act.put _ (some 12) _=_
       simp only [Act.put,zS,zT,zU,i64_w,i32_w]
       rfl
     refine on 7 (some 17) (b_ 8 3) HT_.out (fun K hK=>?_);refine Kd.R_lit_step (Kd.int .u8) _ 5 ?hg (N:=17) ?hd (xs:=([(wrap64 (48 + (Int.tmod a0 10))) % 256]:List Int)) (inner:=[.int .u8 ((wrap64 (48 + (Int.tmod a0 10))) % 256)]) (ok:=fun _=>True) (okp:=fun _=>True) ?hr ?hp (fun _ hk=>hk) trivial (Below.refl _ _) (Nat.le_refl _) (by simp) ?_;(case hd=>rfl);(case hg=>rfl);(case hr=>first|(go_simp;done)|(go_simp;rfl));(case hp=>exact (Reps.one (show Kd.M (Kd.int .u8) _ _ _ ((wrap64 (48 + (Int.tmod a0 10))) % 256) [.int .u8 ((wrap64 (48 + (Int.tmod a0 10))) % 256)] from rfl) (Reps.none _ _)));intro v227 w10 ho11 hb hg_ hnew_;clear hg_ hnew_;(first|rw [← Ny226.out] at ho11|(simp only [Int.reduceToNat] at ho11;rw [← Ny226.out] at ho11));have HO228:=AsZ.mk (Kd.R_lower ho11 (bwz bel));replace HB:=bp hb;clear hb ho11;refine hK.out _ _ trivial (fun hHeld=>?_);clear hK K;refine norm_ (a':=?_) ?_ ?_;rotate_left
     · show Act.put _ (some 17) _=_
       simp only [Act.put,zS,zT,zU,i64_w,i32_w]
       rfl
     refine on 8 (some 18) (b_ 9 2) HT_.out (fun K hK=>?_);have hcv12:=own_string (P:=Tryd.prog) Tryd.underlying22 Tryd.underlying5 Tryd.underlying9 (Kd.own_of_R HO228.out);refine value_ (w1:=?_) (v:=?_) (by rfl) rfl ?_ ?_;rotate_left 2
     · go_simp
       constructor
       · rfl
       rfl
     clear hcv12;refine hK.out _ _ trivial (fun hHeld=>?_);clear hK K;refine norm_ (a':=?_) ?_ ?_;rotate_left
     · show Act.put _ (some 18) _=_
       simp only [Act.put,zS,zT,zU,i64_w,i32_w]
       rfl
     exact norm_ (by simp only [putAll,Act.put,zS,zT,zU]) (hCont (v227) _ ⟨(kR HO228),bel⟩)
   skip;refine Kd.R_lit_step (Kd.int .u8) _ 5 ?hg (N:=17) ?hd (xs:=([(wrap64 (48 + (Int.tmod a0 10))) % 256]:List Int)) (inner:=[.int .u8 ((wrap64 (48 + (Int.tmod a0 10))) % 256)]) (ok:=fun _=>True) (okp:=fun _=>True) ?hr ?hp (fun _ hk=>hk) trivial (Below.refl _ _) (Nat.le_refl _) (by simp) ?_;(case hd=>rfl);(case hg=>rfl);(case hr=>first|(go_simp;done)|(go_simp;rfl));(case hp=>exact (Reps.one (show Kd.M (Kd.int .u8) _ _ _ ((wrap64 (48 + (Int.tmod a0 10))) % 256) [.int .u8 ((wrap64 (48 + (Int.tmod a0 10))) % 256)] from rfl) (Reps.none _ _)));intro v227 w9 ho10 hb hg_ hnew_;clear hg_ hnew_;(first|rw [← Ny226.out] at ho10|(simp only [Int.reduceToNat] at ho10;rw [← Ny226.out] at ho10));have HO228:=AsZ.mk (Kd.R_lower ho10 (bwz bel));replace HB:=bp hb;clear hb ho10;refine hK.out _ _ trivial (fun hHeld=>?_);clear hK K;refine norm_ (a':=?_) ?_ ?_;rotate_left
   · show Act.put _ (some 17) _=_
     simp only [Act.put,zS,zT,zU,i64_w,i32_w]
     rfl
   refine two_ (i:=2) (j:=8) (Ni:=some 12) (Nj:=some 18) (b_ 8 3) #[true,true,false,true,true,true,true,true,true,false,false] rfl rfl rfl rfl (two_of HT_.out (by kernel_rfl)) (by decide) (by decide) (fun K hK=>?_) (fun K hK=>?_)
   · skip
     refine gs Tryd.func89 #[.int .i64 (wrap64 (Int.tdiv a0 10))] ?_
     with_reducible refine (ih k (by omega) (wrap64 (Int.tdiv a0 10)) t225 _ A6.out).mono ?_
     rintro e w11 ⟨rfl,hb⟩;refine ⟨_,rfl,?_⟩;replace HO228:=rR HO228 hb;replace HB:=bp hb;(try clear hb);(try clear hb2);(try clear hk);(try clear hi);refine hK.out _ _ trivial (fun hHeld=>?_);clear hK K;refine norm_ (a':=?_) ?_ ?_;rotate_left
     · show Act.put _ (some 12) _=_
       simp only [Act.put,zS,zT,zU,i64_w,i32_w]
       rfl
     refine on 8 (some 18) (b_ 9 2) HT_.out (fun K hK=>?_);have hcv12:=own_string (P:=Tryd.prog) Tryd.underlying22 Tryd.underlying5 Tryd.underlying9 (Kd.own_of_R HO228.out);refine value_ (w1:=?_) (v:=?_) (by rfl) rfl ?_ ?_;rotate_left 2
     · go_simp
       constructor
       · rfl
       rfl
     clear hcv12;refine hK.out _ _ trivial (fun hHeld=>?_);clear hK K;refine norm_ (a':=?_) ?_ ?_;rotate_left
     · show Act.put _ (some 18) _=_
       simp only [Act.put,zS,zT,zU,i64_w,i32_w]
       rfl
     exact norm_ (by simp only [putAll,Act.put,zS,zT,zU]) (hCont (v227) _ ⟨(kR HO228),bel⟩)
   skip;have hcv11:=own_string (P:=Tryd.prog) Tryd.underlying22 Tryd.underlying5 Tryd.underlying9 (Kd.own_of_R HO228.out);refine value_ (w1:=?_) (v:=?_) (by rfl) rfl ?_ ?_;rotate_left 2
   · go_simp
     constructor
     · rfl
     rfl
   clear hcv11;refine hK.out _ _ trivial (fun hHeld=>?_);clear hK K;refine norm_ (a':=?_) ?_ ?_;rotate_left
   · show Act.put _ (some 18) _=_
     simp only [Act.put,zS,zT,zU,i64_w,i32_w]
     rfl
   refine on 2 (some 12) (b_ 9 2) HT_.out (fun K hK=>?_);refine gs Tryd.func89 #[.int .i64 (wrap64 (Int.tdiv a0 10))] ?_
   with_reducible refine (ih k (by omega) (wrap64 (Int.tdiv a0 10)) t225 _ A6.out).mono ?_
   rintro e w12 ⟨rfl,hb⟩;refine ⟨_,rfl,?_⟩;replace HO228:=rR HO228 hb;replace HB:=bp hb;(try clear hb);(try clear hb2);(try clear hk);(try clear hi);refine hK.out _ _ trivial (fun hHeld=>?_);clear hK K;refine norm_ (a':=?_) ?_ ?_;rotate_left
   · show Act.put _ (some 12) _=_
     simp only [Act.put,zS,zT,zU,i64_w,i32_w]
     rfl
   exact norm_ (by simp only [putAll,Act.put,zS,zT,zU]) (hCont (v227) _ ⟨(kR HO228),bel⟩)
 rintro v227 w13 ⟨h0_,h1_⟩;(try dsimp only at h0_ h1_);clear HB;have HO228:=AsZ.mk h0_;have HB:=AsZ.mk h1_;clear h0_ h1_;have hHeld:=trivial;refine norm_ (a':=?_) ?_ ?_;rotate_left
 · simp only [putAll,Act.put,zS,zT,zU]
   rfl
 refine pu 9 19 (b_ 10 1) HT_.out ?_;refine pu 10 2 (b_ 11 0) HT_.out ?_;refine dn_ (dnO HT_.out (by kernel_rfl)) ?_
 try go_wp2
 go_ret;exact ⟨re,bel⟩
/-! ### spec_l4Tower: function 55 -/
mutual
def spec_l4Tower.l0:Nat→Int→Int→Option (Int)
  |0,_,_=>none
  |k + 1,x7,x8=>if x8 < 5 then (spec_l4Tower.j1 k x7 x8 ((Go.bits .and .u32 x7 3) == 0)) else (spec_l4Tower.j1 k x7 x8 false)
def spec_l4Tower.j1:Nat→Int→Int→Bool→Option (Int)
  |0,_,_,_=>none
  |k + 1,x7,x8,x22=>if x22=true then (spec_l4Tower.l0 k (x7 / 4) (wrap64 (x8 + 1))) else (some x8)
end
def spec_l4Tower.f (k:Nat) (l0:List Int) (a1:ByteArray) (a2:Int):Option (Int):=(spec_l1Num.f k a2).bind fun t229=>(if a1.size + t229.size≤9223372036854775807 then ((spec_l2On.f k l0 4294967295 (a1 ++ t229)).bind fun t230=>(spec_l4Tower.l0 k (Go.bits .xor .u32 4294967295 t230) 1)) else (none))
theorem spec_l4Tower.mono_l:∀ k,(∀ y0 y1,LeO (spec_l4Tower.l0 k y0 y1) (spec_l4Tower.l0 (k + 1) y0 y1))∧(∀ y0 y1 y2,LeO (spec_l4Tower.j1 k y0 y1 y2) (spec_l4Tower.j1 (k + 1) y0 y1 y2))
  |0=>⟨fun _ _ r h=>by simp [spec_l4Tower.l0] at h,fun _ _ _ r h=>by simp [spec_l4Tower.j1] at h⟩
  |k + 1=>by
    obtain ⟨ih0,ih1⟩:=spec_l4Tower.mono_l k;refine ⟨?_,?_⟩
    · intro y0 y1
      unfold spec_l4Tower.l0;have j0:=@spec_l1Num.mono;have j1:=@spec_l2On.mono;exact mo
    · intro y0 y1 y2
      unfold spec_l4Tower.j1;have j0:=@spec_l1Num.mono;have j1:=@spec_l2On.mono;exact mo
theorem spec_l4Tower.mono:∀ a0 a1 a2 k,LeO (spec_l4Tower.f k a0 a1 a2) (spec_l4Tower.f (k + 1) a0 a1 a2):=by
  intro a0 a1 a2 k;obtain ⟨ih0,ih1⟩:=spec_l4Tower.mono_l k;unfold spec_l4Tower.f;have j0:=@spec_l1Num.mono;have j1:=@spec_l2On.mono;exact mo
set_option maxHeartbeats 8000000 in
set_option maxRecDepth 100000 in
theorem spec_l4Tower.calls (k:Nat) (A0:Option Addr) (c0:Nat) (l0:List Int) (a1:ByteArray) (a2:Int) (r:Int) (w:World) (hr0:Kd.C (Kd.int .u32) w A0 l0.length l0) (hc0:l0.length≤c0) (h:spec_l4Tower.f k l0 a1 a2=some r) :
    Calls Tryd.prog 55 #[.slice A0 l0.length c0,.string a1,.int .i64 a2] w fun e w'=>e = .returned (.int .i64 r)∧Below w.heap.size w w':=by
 have HR0:=AsZ.mk hr0;have HC0:=AsZ.mk hc0;clear hr0 hc0;have HB:=AsZ.mk (Below.refl w.heap.size w);have H:((spec_l1Num.f k a2).bind fun t229=>(if a1.size + t229.size≤9223372036854775807 then ((spec_l2On.f k l0 4294967295 (a1 ++ t229)).bind fun t230=>(spec_l4Tower.l0 k (Go.bits .xor .u32 4294967295 t230) 1)) else (none)))=some r:=h;clear h;replace H:=bs H;obtain ⟨t229,A4,H⟩:=H;by_cases c5:a1.size + t229.size≤9223372036854775807;rotate_left
 · rw [if_neg c5] at H
   exact absurd H (by simp)
 rw [if_pos c5] at H;have c5b0:=eq_true c5;have c5b1:decide (a1.size + t229.size≤9223372036854775807)=true:=zE c5
 try have c5b2:(9223372036854775807 < a1.size + t229.size)=False:=eq_false (Nat.not_lt.2 c5)
 replace H:=bs H;obtain ⟨t230,A6,H⟩:=H;have H':=AsZ.mk H;clear H;go_enter Tryd.func55,Tryd.ntmps55;go_wp2_with (first|((with_reducible refine gcl (f:=89) rfl ?_);refine gk (some 12) Tryd.func89 #[.int .i64 a2] ?_;(with_reducible refine (spec_l1Num.calls k a2 t229 _ A4.out).mono ?_);rintro e w7 ⟨rfl,hb⟩;refine ⟨_,rfl,?_⟩;replace HB:=bp hb;(try clear hb);(try clear hb2);(try clear hk);(try clear hi))|((with_reducible refine gcl (f:=88) rfl ?_);refine gk (some 14) Tryd.func88 #[.slice A0 l0.length c0,.int .u32 4294967295,.string (a1 ++ t229)] ?_;(with_reducible refine (spec_l2On.calls k _ _ l0 4294967295 (a1 ++ t229) t230 _ ?side1 ?side2 A6.out).mono ?_);(case side1=>exact cC (Kd.C_below HR0.out HB.out));(case side2=>exact HC0.out);rintro e w' ⟨rfl,⟨nd,rfl⟩⟩;refine ⟨_,rfl,?_⟩))
 go_loopg [7,8] k (fun kq v7 v8 w' => ∃ (x7_1:Int) (x8_1:Int),v7 = .int .u32 x7_1∧v8 = .int .i64 x8_1∧AsZ (spec_l4Tower.l0 kq x7_1 x8_1=some r)∧AsZ (kq≤k)∧AsZ (Below w.heap.size w w'))
 case atStart=>exact ⟨(Go.bits .xor .u32 4294967295 t230),(1),rs,rs,H',⟨Nat.le_refl _⟩,⟨bel⟩⟩
 case round =>
  clear H'
  try clear p2
  try clear c5b0
  try clear c5b1
  try clear c5b2
  obtain ⟨x7_1,x8_1,rfl,rfl,HA,HK1,HB⟩:=hrel
  cases gk with
  |zero=>exact absurd HA.out (by simp [spec_l4Tower.l0])
  |succ k1 =>
   have H:=HA.out;clear HA;simp only [spec_l4Tower.l0] at H;have HC8:=AsZ.mk H;clear H;go_upto_region 3 with (fail)
   go_cut [22] (fun v22 wc => ∃ (kq:Nat) (x22_7:Bool),v22 = .bool x22_7∧AsZ (spec_l4Tower.j1 kq x7_1 x8_1 x22_7=some r)∧AsZ (kq≤k1)∧AsZ (Below w.heap.size w wc))
   case first =>
    have H:=HC8.out;clear HC8;by_cases c9:x8_1 < 5;rotate_left
    · rw [if_neg c9] at H
      have c9b0:decide (x8_1 < 5)=false:=decide_eq_false c9;clear c9;(first|rw [c9b0]|(simp only [i64_w,i32_w];rw [c9b0])|rw [c9b1]|skip);have H':=AsZ.mk H;clear H;go_wp2;go_meet
      case rel=>exact ⟨_,(false),rs,H',⟨by have:=HK1.out;first|omega|exact Nat.le_refl _⟩,⟨bel⟩⟩
    rw [if_pos c9] at H;have c9b0:decide (x8_1 < 5)=true:=zE c9;clear c9;(first|rw [c9b0]|(simp only [i64_w,i32_w];rw [c9b0])|rw [c9b1]|skip);have H':=AsZ.mk H;clear H;go_wp2;go_meet
    case rel=>exact ⟨_,(((Go.bits .and .u32 x7_1 3) == 0)),rs,H',⟨by have:=HK1.out;first|omega|exact Nat.le_refl _⟩,⟨bel⟩⟩
   case rest =>
    clear HC8
    try clear p2
    try clear c5b0
    try clear c5b1
    try clear c5b2
    try clear c9b0
    try clear c9b1
    obtain ⟨kq,x22_7,rfl,HA,HJ7,HB⟩:=hcut
    cases kq with
    |zero=>exact absurd HA.out (by simp [spec_l4Tower.j1])
    |succ kj7 =>
     have H:=HA.out;clear HA;simp only [spec_l4Tower.j1] at H;by_cases c10:x22_7=true;rotate_left
     · replace c10:=Bool.eq_false_iff.mpr c10
       subst c10;replace H:=iN H;obtain rfl:=zI H;go_wp2;go_ret;exact ⟨re,bel⟩
     subst c10;replace H:=iP H;have H':=AsZ.mk H;clear H;go_wp2;go_roundg kj7
     case measure=>have:=HK1.out;have:=HJ7.out;omega
     case rel=>exact ⟨(x7_1 / 4),(wrap64 (x8_1 + 1)),rs,rs,H',⟨by have:=HK1.out;have:=HJ7.out;omega⟩,⟨bel⟩⟩
/-! ### spec_l2Table: function 56 -/
mutual
def spec_l2Table.l0:Nat→List Int→Int→Int→Option (List Int)
  |0,_,_,_=>none
  |k + 1,x1,x8,x9=>if x9 < x8 then (spec_l2Table.l1 k x1 x9 ((x9) % 4294967296) 0 x8 x9) else (some x1)
def spec_l2Table.l1:Nat→List Int→Int→Int→Int→Int→Int→Option (List Int)
  |0,_,_,_,_,_,_=>none
  |k + 1,x1,x2,x3,x4,x8,x9=>if x4 < 8 then (if (Go.bits .and .u32 x3 1)=1 then (spec_l2Table.l1 k x1 x2 (Go.bits .xor .u32 (x3 / 2) 2197175160) (wrap64 (x4 + 1)) x8 x9) else (spec_l2Table.l1 k x1 x2 (x3 / 2) (wrap64 (x4 + 1)) x8 x9)) else (if 0≤x2 then (if x2 < (x1.length:Int) then (spec_l2Table.l0 k (x1.set (x2:Int).toNat x3) x8 (wrap64 (x9 + 1))) else (none)) else (none))
end
def spec_l2Table.f (k:Nat)  : Option (List Int):=if 256≤70368744177664 then ((some (List.replicate 256 0:List Int)).bind fun y231=>(spec_l2Table.l0 k y231 (y231.length:Int) 0)) else (none)
theorem spec_l2Table.mono_l:∀ k,(∀ y0 y1 y2,LeO (spec_l2Table.l0 k y0 y1 y2) (spec_l2Table.l0 (k + 1) y0 y1 y2))∧(∀ y0 y1 y2 y3 y4 y5,LeO (spec_l2Table.l1 k y0 y1 y2 y3 y4 y5) (spec_l2Table.l1 (k + 1) y0 y1 y2 y3 y4 y5))
  |0=>⟨fun _ _ _ r h=>by simp [spec_l2Table.l0] at h,fun _ _ _ _ _ _ r h=>by simp [spec_l2Table.l1] at h⟩
  |k + 1=>by
    obtain ⟨ih0,ih1⟩:=spec_l2Table.mono_l k;refine ⟨?_,?_⟩
    · intro y0 y1 y2
      unfold spec_l2Table.l0;exact mo
    · intro y0 y1 y2 y3 y4 y5
      unfold spec_l2Table.l1;exact mo
theorem spec_l2Table.mono:∀ k,LeO (spec_l2Table.f k ) (spec_l2Table.f (k + 1) ):=by
  intro  k;obtain ⟨ih0,ih1⟩:=spec_l2Table.mono_l k;unfold spec_l2Table.f;exact mo
set_option maxHeartbeats 8000000 in
set_option maxRecDepth 100000 in
theorem spec_l2Table.calls (k:Nat)  (r:List Int) (w:World) (h:spec_l2Table.f k  = some r) :
    Calls Tryd.prog 56 #[] w fun e w' => ∃ v0_:Value,e = .returned (v0_)∧Kd.R (Kd.int .u32) 106 w' w.heap.size (fun _=>True) v0_ r∧Below w.heap.size w w':=by
 have HB:=AsZ.mk (Below.refl w.heap.size w);have H:(if 256≤70368744177664 then ((some (List.replicate 256 0:List Int)).bind fun y231=>(spec_l2Table.l0 k y231 (y231.length:Int) 0)) else (none))=some r:=h;clear h;by_cases c1:256≤70368744177664;rotate_left
 · rw [if_neg c1] at H
   exact absurd H (by simp)
 rw [if_pos c1] at H;have c1b0:=eq_true c1;have c1b1:=zE c1;clear c1;obtain ⟨y231,hy231⟩:∃ y_:List Int,y_=(List.replicate 256 0):=⟨_,rfl⟩;replace H:(spec_l2Table.l0 k y231 (y231.length:Int) 0)=some r:=ry hy231 H;have Ny231:=AsZ.mk hy231;clear hy231;have H':=AsZ.mk H;clear H;go_enter Tryd.func56,Tryd.ntmps56;go_wp2_with (first|((with_reducible refine gate_dst (N:=6) rfl ?_);refine Kd.R_make (Kd.int .u32) _ 106 rfl (N:=6) rfl 88 _ _ rfl 256 rfl rfl Tryd.underlying88 (.int .u32 0) 4 info106 rfl (by decide) (by omega) 0 (ok:=fun _=>True) (okp:=fun _=>True) rfl (fun _ hk=>hk) trivial (by omega) (by omega) (Below.refl _ _) (Nat.le_refl _) ?_;intro v232 w2 ho3 hb hg_ hnew_;clear hg_ hnew_;(first|rw [← Ny231.out] at ho3|(simp only [Int.reduceToNat] at ho3;rw [← Ny231.out] at ho3));have HO233:=AsZ.mk (Kd.R_lower ho3 (bwz bel));replace HB:=bp hb;clear hb ho3;obtain ⟨Ao4,co4,eo4⟩:=Kd.R_slice HO233.out;subst eo4))
 go_loopg [9] k (fun kq v9 w' => ∃ (x1_1:List Int) (x9_1:Int),v9 = .int .i64 x9_1∧AsZ (spec_l2Table.l0 kq x1_1 (y231.length:Int) x9_1=some r)∧AsZ (kq≤k)∧AsZ (Kd.R (Kd.int .u32) 106 w' w.heap.size (fun _=>True) (.slice Ao4 y231.length co4) x1_1)∧AsZ (Below w.heap.size w w'))
 case atStart=>exact ⟨(y231),(0),rs,H',⟨Nat.le_refl _⟩,⟨kR HO233⟩,⟨bel⟩⟩
 case round =>
  clear H'
  try clear c1b0
  try clear c1b1
  try clear p2
  obtain ⟨x1_1,x9_1,rfl,HA,HK1,HO_1,HB⟩:=hrel;have hl1_1:=(Kd.R_reads' HO_1.out).1;rw [hl1_1] at HO_1;(try simp only [hl1_1])
  cases gk with
  |zero=>exact absurd HA.out (by simp [spec_l2Table.l0])
  |succ k1 =>
   have H:=HA.out;clear HA;simp only [spec_l2Table.l0] at H;by_cases c5:x9_1 < (y231.length:Int);rotate_left
   · rw [if_neg c5] at H
     have c5b0:decide (x9_1 < (y231.length:Int))=false:=decide_eq_false c5;(try (have c5b0h:=c5b0;simp only [hl1_1] at c5b0h));clear c5;obtain rfl:=zI H;go_wp2;go_ret;exact ⟨_,re,kR HO_1,bel⟩
   rw [if_pos c5] at H;have c5b0:decide (x9_1 < (y231.length:Int))=true:=zE c5;(try (have c5b0h:=c5b0;simp only [hl1_1] at c5b0h));clear c5;have H':=AsZ.mk H;clear H;go_wp2
   go_loopg [3,4] k1 (fun kq v3 v4 w' => ∃ (x3_2:Int) (x4_2:Int),v3 = .int .u32 x3_2∧v4 = .int .i64 x4_2∧AsZ (spec_l2Table.l1 kq x1_1 x9_1 x3_2 x4_2 (y231.length:Int) x9_1=some r)∧AsZ (kq≤k1)∧AsZ (Kd.R (Kd.int .u32) 106 w' w.heap.size (fun _=>True) (.slice Ao4 x1_1.length co4) x1_1)∧AsZ (Below w.heap.size w w'))
   case atStart=>exact ⟨((x9_1) % 4294967296),(0),rs,rs,H',⟨Nat.le_refl _⟩,⟨by (try simp only [hl1_1]);(with_reducible repeat (first|apply Kd.R_alloc|apply Kd.R_drewN|apply Kd.R_drew));exact HO_1.out⟩,⟨bel⟩⟩
   case round =>
    clear H'
    try clear c1b0
    try clear c1b1
    try clear p2
    try clear c5b0
    obtain ⟨x3_2,x4_2,rfl,rfl,HA,HK2,HO_1,HB⟩:=hrel
    cases gk with
    |zero=>exact absurd HA.out (by simp [spec_l2Table.l1])
    |succ k2 =>
     have H:=HA.out;clear HA;simp only [spec_l2Table.l1] at H;by_cases c6:x4_2 < 8
     · rw [if_pos c6] at H
       have c6b0:decide (x4_2 < 8)=true:=zE c6;clear c6;by_cases c7:(Go.bits .and .u32 x3_2 1)=1;rotate_left
       · rw [if_neg c7] at H
         have c7b0:((Go.bits .and .u32 x3_2 1) == 1)=false:=beq_eq_false_iff_ne.mpr c7;have c7b1:((Go.bits .and .u32 x3_2 1) != 1)=true:=bne_iff_ne.mpr c7;have H':=AsZ.mk H;clear H;go_wp2;go_roundg k2
         case measure=>have:=HK1.out;have:=HK2.out;omega
         case rel=>exact ⟨(x3_2 / 2),(wrap64 (x4_2 + 1)),rs,rs,H',⟨by have:=HK1.out;have:=HK2.out;omega⟩,⟨by (try simp only [hl1_1]);(with_reducible repeat (first|apply Kd.R_alloc|apply Kd.R_drewN|apply Kd.R_drew));exact HO_1.out⟩,⟨bel⟩⟩
       rw [if_pos c7] at H;have c7b0:((Go.bits .and .u32 x3_2 1) == 1)=true:=beq_iff_eq.mpr c7;have c7b1:((Go.bits .and .u32 x3_2 1) != 1)=false:=bne_eq_false_iff_eq.mpr c7;clear c7;have H':=AsZ.mk H;clear H;go_wp2;go_roundg k2
       case measure=>have:=HK1.out;have:=HK2.out;omega
       case rel=>exact ⟨(Go.bits .xor .u32 (x3_2 / 2) 2197175160),(wrap64 (x4_2 + 1)),rs,rs,H',⟨by have:=HK1.out;have:=HK2.out;omega⟩,⟨by (try simp only [hl1_1]);(with_reducible repeat (first|apply Kd.R_alloc|apply Kd.R_drewN|apply Kd.R_drew));exact HO_1.out⟩,⟨bel⟩⟩
     rw [if_neg c6] at H;have c6b0:decide (x4_2 < 8)=false:=decide_eq_false c6;clear c6;by_cases c8:0≤x9_1;rotate_left
     · rw [if_neg c8] at H
       exact absurd H (by simp)
     rw [if_pos c8] at H;have c8b0:=zE c8;clear c8;by_cases c9:x9_1 < (x1_1.length:Int);rotate_left
     · rw [if_neg c9] at H
       exact absurd H (by simp)
     rw [if_pos c9] at H;have c9b0:decide (x9_1 < (x1_1.length:Int))=true:=zE c9;(try (have c9b0h:=c9b0;simp only [hl1_1] at c9b0h));clear c9;obtain ⟨y234,hy234⟩:∃ y_:List Int,y_=(x1_1.set (x9_1:Int).toNat x3_2):=⟨_,rfl⟩;replace H:(spec_l2Table.l0 k2 y234 (y231.length:Int) (wrap64 (x9_1 + 1)))=some r:=ry hy234 H;have Ny234:=AsZ.mk hy234;clear hy234;have H':=AsZ.mk H;clear H;have p10:0≤(x9_1:Int):=dd;have q10:(x9_1:Int) < ((x1_1.length:Int):Int):=dd;obtain ⟨go10,co10,eo10,gb10,gl10,cl10,HG10⟩:=Kd.R_form HO_1.out (by omega);(first|cases eo10|(injection eo10 with ea_ en_ ec_;(first|subst ea_|(injection ea_ with ea_;subst ea_));subst ec_;clear en_));have GB10:=AsZ.mk gb10;have GG10:=AsZ.mk HG10;clear gb10 gl10 HG10;obtain ⟨hx10_0,hf10_0⟩:=Kd.R_celln 0 HO_1.out (x9_1:Int) p10 q10;replace p10:=eq_true p10;replace q10:=eq_true q10;have HP11:=Kd.R_putg HO_1.out (x9_1:Int) x3_2;go_wp2_with (first|((with_reducible refine gate_store (t:=106) (p:=29) rfl ?_);refine store_event (t:=106) (p:=29) (v:=?vo_w12) (w1:=(wr.setCell ⟨go10,(x9_1:Int).toNat,none⟩ (.int .u32 x3_2))) ?hg ?ho ?hn ?hr ?_;(case ho=>rfl);(case hg=>rfl);(case hn=>rfl);(case hr=>first|(go_simp;done)|(go_simp;rfl));intro w12 hw;have hg:wr.grownBy w12 (some go10):=(by rw [hw];exact HP11.2);have hp_:Kd.R (Kd.int .u32) 106 w12 w.heap.size (fun _=>True) (.slice (some ⟨go10,0,none⟩) x1_1.length co4) y234:=(by rw [hw,Ny234.out];exact HP11.1);clear HP11;replace HO_1:=AsZ.mk (hp_);replace HB:=AsZ.mk ((by rw [hw];exact bws (HB.out) GB10.out:Below w.heap.size w w12));clear hg hw hp_));(try simp only [← hl1_1]);go_roundg k2
     case measure=>have:=HK1.out;have:=HK2.out;omega
     case rel=>exact ⟨(y234),(wrap64 (x9_1 + 1)),rs,H',⟨by have:=HK1.out;have:=HK2.out;omega⟩,⟨by (try simp only [hl1_1]);(with_reducible repeat (first|apply Kd.R_alloc|apply Kd.R_drewN|apply Kd.R_drew));exact HO_1.out⟩,⟨bel⟩⟩
/-! ### spec_l4Next: function 72 -/
def spec_l4Next.f (l0_0:List Int) (l0_1:List (S77)) (a1:Int) (a2:Int):Option (Int):=if a1 < 0 then (if 0≤a2 then (if a2 < (l0_0.length:Int) then (some (rd l0_0 a2)) else (none)) else (none)) else (if 0≤a1 then (if a1 < (l0_1.length:Int) then (if 0≤a2 then (if a2 < (((rd_T77 l0_1 a1).f1).length:Int) then (some (rd ((rd_T77 l0_1 a1).f1) a2)) else (none)) else (none)) else (none)) else (none))
set_option maxHeartbeats 8000000 in
set_option maxRecDepth 100000 in
theorem spec_l4Next.calls (A0_0:Option Addr) (c0_0:Nat) (l0_0:List Int) (A0_1:Option Addr) (c0_1:Nat) (l0_1:List (S77)) (a1:Int) (a2:Int) (r:Int) (w:World) (hr0_0:Kd.C (Kd.int .i64) w A0_0 l0_0.length l0_0) (hc0_0:l0_0.length≤c0_0) (hr0_1:Kd.C k77 w A0_1 l0_1.length l0_1) (hc0_1:l0_1.length≤c0_1) (h:spec_l4Next.f l0_0 l0_1 a1 a2=some r) :
    Calls Tryd.prog 72 #[.agg #[.slice A0_0 l0_0.length c0_0,.slice A0_1 l0_1.length c0_1],.int .i64 a1,.int .i64 a2] w fun e w'=>e = .returned (.int .i64 r)∧Below w.heap.size w w':=by
 have hu26:=Tryd.underlying26;have HR0_0:=AsZ.mk hr0_0;have HC0_0:=AsZ.mk hc0_0;clear hr0_0 hc0_0;have HR0_1:=AsZ.mk hr0_1;have HC0_1:=AsZ.mk hc0_1;clear hr0_1 hc0_1;have HB:=AsZ.mk (Below.refl w.heap.size w);have H:(if a1 < 0 then (if 0≤a2 then (if a2 < (l0_0.length:Int) then (some (rd l0_0 a2)) else (none)) else (none)) else (if 0≤a1 then (if a1 < (l0_1.length:Int) then (if 0≤a2 then (if a2 < (((rd_T77 l0_1 a1).f1).length:Int) then (some (rd ((rd_T77 l0_1 a1).f1) a2)) else (none)) else (none)) else (none)) else (none)))=some r:=h;clear h;by_cases c4:a1 < 0
 · rw [if_pos c4] at H
   have c4b0:=zE c4;clear c4;by_cases c5:0≤a2;rotate_left
   · rw [if_neg c5] at H
     exact absurd H (by simp)
   rw [if_pos c5] at H;have c5b0:decide (0≤a2)=true:=zE c5;clear c5;by_cases c6:a2 < (l0_0.length:Int);rotate_left
   · rw [if_neg c6] at H
     exact absurd H (by simp)
   rw [if_pos c6] at H;have c6b0:decide (a2 < (l0_0.length:Int))=true:=zE c6;clear c6;obtain rfl:=zI H;go_enter Tryd.func72,Tryd.ntmps72;go_wp2_with (first|((with_reducible refine gate_dst (N:=3) rfl ?_);refine bev 3 26 (cs:=#[.slice A0_0 l0_0.length c0_0,.slice A0_1 l0_1.length c0_1]) ?_;intro gb235 hg w7 hbox hb;have BK235:=AsZ.mk (hbox);have GW235:=gz HB hg;have GE235:=gz HB hg;replace HB:=bp hb;clear hb hbox hg;obtain ⟨hcz8_0,hcz8_1,hfz8_0,hfz8_1⟩:=bx2 BK235;have p236:0≤(a2:Int):=dd;have q236:a2 < (l0_0.length:Int):=dd;obtain ⟨ad236,e236,hx236_0⟩:=Kd.at_int HR0_0.out a2 p236 q236;cases e236;replace hx236_0:=pcb HB.out hx236_0;replace p236:=eq_true p236;replace q236:=eq_true q236));go_ret;exact ⟨re,bel⟩
 rw [if_neg c4] at H;have c4b0:=decide_eq_false c4;clear c4;by_cases c9:0≤a1;rotate_left
 · rw [if_neg c9] at H
   exact absurd H (by simp)
 rw [if_pos c9] at H;have c9b0:decide (0≤a1)=true:=zE c9;clear c9;by_cases c10:a1 < (l0_1.length:Int);rotate_left
 · rw [if_neg c10] at H
   exact absurd H (by simp)
 rw [if_pos c10] at H;have c10b0:decide (a1 < (l0_1.length:Int))=true:=zE c10;clear c10;by_cases c11:0≤a2;rotate_left
 · rw [if_neg c11] at H
   exact absurd H (by simp)
 rw [if_pos c11] at H;have c11b0:=zE c11;clear c11;by_cases c12:a2 < (((rd_T77 l0_1 a1).f1).length:Int);rotate_left
 · rw [if_neg c12] at H
   exact absurd H (by simp)
 rw [if_pos c12] at H;have c12b0:=zE c12;clear c12;obtain rfl:=zI H;go_enter Tryd.func72,Tryd.ntmps72;go_wp2_with (first|((with_reducible refine gate_dst (N:=3) rfl ?_);refine bev 3 26 (cs:=#[.slice A0_0 l0_0.length c0_0,.slice A0_1 l0_1.length c0_1]) ?_;intro gb235 hg w13 hbox hb;have BK235:=AsZ.mk (hbox);have GW235:=gz HB hg;have GE235:=gz HB hg;replace HB:=bp hb;clear hb hbox hg;obtain ⟨hcz14_0,hcz14_1,hfz14_0,hfz14_1⟩:=bx2 BK235;have p237:0≤(a1:Int):=dd;have q237:a1 < (l0_1.length:Int):=dd;obtain ⟨ad237,A237_4,c237_4,e237,hx237_0,hx237_1,hx237_2,hx237_3,hx237_4,hl237_4,hi237_4⟩:=at_T77 HR0_1.out a1 p237 q237;cases e237;replace hx237_0:=pcb HB.out hx237_0;replace hx237_1:=pcb HB.out hx237_1;replace hx237_2:=pcb HB.out hx237_2;replace hx237_3:=pcb HB.out hx237_3;replace hx237_4:=pcb HB.out hx237_4;have HR237_4:=AsZ.mk hi237_4;have HC237_4:=AsZ.mk hl237_4;clear hi237_4 hl237_4;replace p237:=eq_true p237;replace q237:=eq_true q237;have p238:0≤(a2:Int):=dd;have q238:a2 < (((rd_T77 l0_1 a1).f1).length:Int):=dd;obtain ⟨ad238,e238,hx238_0⟩:=Kd.at_int HR237_4.out a2 p238 q238;cases e238;replace hx238_0:=pcb HB.out hx238_0;replace p238:=eq_true p238;replace q238:=eq_true q238));go_ret;exact ⟨re,bel⟩
end Go.Proofs.YtffjlpphcjfdgaaDoor.MFnExactInsertSkip
