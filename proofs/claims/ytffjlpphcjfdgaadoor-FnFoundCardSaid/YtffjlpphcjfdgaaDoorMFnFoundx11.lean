-- Written by a program of this session out of the translation. Not trusted: Lean checks it.
import Derived.Test.YtffjlpphcjfdgaaDoorMFnFoundx0
import Derived.Test.YtffjlpphcjfdgaaDoorMFnFoundx2
import Derived.Test.YtffjlpphcjfdgaaDoorMFnFoundx3
import Derived.Test.YtffjlpphcjfdgaaDoorMFnFoundx5
import Derived.Test.YtffjlpphcjfdgaaDoorMFnFoundx10
namespace Go.Proofs.YtffjlpphcjfdgaaDoor.MFnFound
-- short
-- shrunk
-- TAB
-- RD
open Go.Proofs.YtffjlpphcjfdgaaDoor Go.RowKit Go.Proofs.YtffjlpphcjfdgaaDoorW.PrintWords Go.Proofs.YtffjlpphcjfdgaaDoorW.PrintLast Go.Proofs.YtffjlpphcjfdgaaDoorW.PrintMore Go.Proofs.YtffjlpphcjfdgaaDoorX
attribute [local go_sem] max2_int min2_int max_two min_two max_three min_three max_four min_four str_gtr str_leq str_geq cell_twice
set_option linter.unusedVariables false
set_option linter.unusedSimpArgs false
-- COMPACT
/-! ### impl_SeekSkip: function 32 -/
def impl_SeekSkip.j0:Nat→ByteArray→Int→Bool→List Int→List (S77)→Option (ByteArray × Int × Int × ByteArray × Int × Bool)
  |0,_,_,_,_,_=>none
  |k + 1,x1,x2,x24,x259000,x259001=>if x24=true then (some ((⟨#[]⟩:ByteArray),0,0,(⟨#[]⟩:ByteArray),0,false)) else ((impl_Skip_seek.f k x259000 x259001 x1 x2 0 (⟨#[]⟩:ByteArray)).bind fun bt263=>(if 0 < (bt263.1.length:Int) then ((impl_Skip_next.f x259000 x259001 (rd bt263.1 0) 0).bind fun t268=>(if t268=(-1) then (some ((⟨#[]⟩:ByteArray),0,0,(⟨#[]⟩:ByteArray),0,false)) else (if 0≤t268 then (if t268 < (x259001.length:Int) then (some ((rd_T77 x259001 t268).f0.f0,(rd_T77 x259001 t268).f0.f1,(rd_T77 x259001 t268).f0.f2,(rd_T77 x259001 t268).f0.f3,bt263.2,true)) else (none)) else (none)))) else (none)))
def impl_SeekSkip.f (k:Nat) (l0_0:List Int) (l0_1:List (S77)) (a1:ByteArray) (a2:Int):Option (ByteArray × Int × Int × ByteArray × Int × Bool):=(impl_GoodSkip.f k l0_0 l0_1).bind fun t260=>(if t260=true then ((impl_isKey.f a1).bind fun t261=>(if t261=true then ((impl_isSeq.f a2).bind fun t262=>(impl_SeekSkip.j0 k a1 a2 (!t262) l0_0 l0_1)) else (impl_SeekSkip.j0 k a1 a2 true l0_0 l0_1))) else (impl_SeekSkip.j0 k a1 a2 true l0_0 l0_1))
theorem impl_SeekSkip.mono_l:∀ k,(∀ y0 y1 y2 y3 y4,LeO (impl_SeekSkip.j0 k y0 y1 y2 y3 y4) (impl_SeekSkip.j0 (k + 1) y0 y1 y2 y3 y4))
  |0=>fun _ _ _ _ _ r h=>by simp [impl_SeekSkip.j0] at h
  |k + 1=>by
    have ih0:=impl_SeekSkip.mono_l k
    · intro y0 y1 y2 y3 y4
      unfold impl_SeekSkip.j0
      repeat' first|(with_reducible first|exact ih0 _ _ _ _ _|exact impl_GoodSkip.mono _ _ _|exact impl_Skip_seek.mono _ _ _ _ _ _ _|exact LeO.refl _|exact LeO.none _|refine LeO.ite ?_ ?_|refine LeO.bind ?_ (fun _=>?_))|exact ih0 _ _ _ _ _|exact impl_GoodSkip.mono _ _ _|exact impl_Skip_seek.mono _ _ _ _ _ _ _|exact LeO.none _|refine LeO.ite ?_ ?_|refine LeO.bind ?_ (fun _=>?_)
theorem impl_SeekSkip.mono:∀ a0 a1 a2 a3 k,LeO (impl_SeekSkip.f k a0 a1 a2 a3) (impl_SeekSkip.f (k + 1) a0 a1 a2 a3):=by
  intro a0 a1 a2 a3 k
  have ih0:=impl_SeekSkip.mono_l k
  unfold impl_SeekSkip.f
  repeat' first|(with_reducible first|exact ih0 _ _ _ _ _|exact impl_GoodSkip.mono _ _ _|exact impl_Skip_seek.mono _ _ _ _ _ _ _|exact LeO.refl _|exact LeO.none _|refine LeO.ite ?_ ?_|refine LeO.bind ?_ (fun _=>?_))|exact ih0 _ _ _ _ _|exact impl_GoodSkip.mono _ _ _|exact impl_Skip_seek.mono _ _ _ _ _ _ _|exact LeO.none _|refine LeO.ite ?_ ?_|refine LeO.bind ?_ (fun _=>?_)
set_option maxHeartbeats 8000000 in
set_option maxRecDepth 100000 in
theorem impl_SeekSkip.calls (k:Nat) (A0_0:Option Addr) (c0_0:Nat) (l0_0:List Int) (A0_1:Option Addr) (c0_1:Nat) (l0_1:List (S77)) (a1:ByteArray) (a2:Int) (r1:ByteArray) (r2:Int) (r3:Int) (r4:ByteArray) (r5:Int) (r6:Bool) (w:World) (hr0_0:Kd.C (Kd.int .i64) w A0_0 l0_0.length l0_0) (hc0_0:l0_0.length≤c0_0) (hr0_1:Kd.C k77 w A0_1 l0_1.length l0_1) (hc0_1:l0_1.length≤c0_1) (hT:Tab w) (h:impl_SeekSkip.f k l0_0 l0_1 a1 a2=some (r1,r2,r3,r4,r5,r6)) :
    Calls Tryd.prog 32 #[.agg #[.slice A0_0 l0_0.length c0_0,.slice A0_1 l0_1.length c0_1],.string a1,.int .i64 a2] w fun e w'=>e = .returned (.tuple #[.agg #[.string r1,.int .i64 r2,.int .i64 r3,.string r4],.int .i64 r5,.bool r6])∧Below w.heap.size w w':=by
 have HT:=AsZ.mk hT
 clear hT
 have hu26:=Tryd.underlying26
 have hu28:=Tryd.underlying28
 have HR0_0:=AsZ.mk hr0_0
 have HC0_0:=AsZ.mk hc0_0
 clear hr0_0 hc0_0
 have HR0_1:=AsZ.mk hr0_1
 have HC0_1:=AsZ.mk hc0_1
 clear hr0_1 hc0_1
 have HB:=AsZ.mk (Below.refl w.heap.size w)
 have H:((impl_GoodSkip.f k l0_0 l0_1).bind fun t260=>(if t260=true then ((impl_isKey.f a1).bind fun t261=>(if t261=true then ((impl_isSeq.f a2).bind fun t262=>(impl_SeekSkip.j0 k a1 a2 (!t262) l0_0 l0_1)) else (impl_SeekSkip.j0 k a1 a2 true l0_0 l0_1))) else (impl_SeekSkip.j0 k a1 a2 true l0_0 l0_1)))=some (r1,r2,r3,r4,r5,r6):=h
 clear h
 have HC4:=AsZ.mk H
 clear H
 go_enter Tryd.func32,Tryd.ntmps32
 go_upto_region 1 with (first|((with_reducible refine gate_dst (N:=3) rfl ?_);refine bev 3 26 (cs:=#[.slice A0_0 l0_0.length c0_0,.slice A0_1 l0_1.length c0_1]) ?_;intro gb258 hg w5 hbox hb;have GW258:=gz HB hg;have GE258:=gz HB hg;have HI258:=AsZ.mk ((show IsS26F A0_0 c0_0 A0_1 c0_1 w w5 gb258 l0_0 l0_1 from ⟨hbox,(by rw [hg];exact (bwz bel)),HR0_0.out,HC0_0.out,HR0_1.out,HC0_1.out⟩));replace HB:=bp hb;clear hb hbox hg)|((with_reducible refine gate_dst (N:=6) rfl ?_);refine bev 6 28 (cs:=#[.string (⟨#[]⟩:ByteArray),.int .i64 0,.int .i64 0,.string (⟨#[]⟩:ByteArray)]) ?_;intro gb259 hg w6 hbox hb;have BK259:=AsZ.mk (hbox);have GW259:=gz HB hg;have GE259:=gz HB hg;have NB258_259:=AsZ.mk ((by rw [hg];exact Nat.ne_of_lt (IsS26F.lt (show IsS26F A0_0 c0_0 A0_1 c0_1 w _ gb258 l0_0 l0_1 from st26F HI258)):gb258 ≠ gb259));have NB259_258:=AsZ.mk ((by rw [hg];exact Nat.ne_of_gt (IsS26F.lt (show IsS26F A0_0 c0_0 A0_1 c0_1 w _ gb258 l0_0 l0_1 from st26F HI258)):gb259 ≠ gb258));replace HI258:=AsZ.mk (IsS26F.below (st26F HI258) hb);replace HB:=bp hb;clear hb hbox hg))
 (try simp only [Act.put,zS,zT,zU])
 go_cut [24] (fun v24 wc => ∃ (kq:Nat) (x24_3:Bool),v24 = .bool x24_3∧AsZ (impl_SeekSkip.j0 kq a1 a2 x24_3 l0_0 l0_1=some (r1,r2,r3,r4,r5,r6))∧AsZ (kq≤k)∧AsZ (wc.heap[gb259]? = some (.cells #[.string (⟨#[]⟩:ByteArray),.int .i64 0,.int .i64 0,.string (⟨#[]⟩:ByteArray)] 28 (0,0)))∧AsZ (IsS26F A0_0 c0_0 A0_1 c0_1 w wc gb258 l0_0 l0_1)∧AsZ (Below w.heap.size w wc))
 case first =>
  have H:=HC4.out
  clear HC4
  replace H:=bs H
  obtain ⟨t260,A7,H⟩:=H
  by_cases c8:t260=true
  rotate_left
  · replace c8:=Bool.eq_false_iff.mpr c8
    subst c8
    replace H:=iN H
    have H':=AsZ.mk H
    clear H
    obtain ⟨ASz16_0,cSz16_0,ASz16_1,cSz16_1,⟨es0_,es1_,es2_,es3_⟩,HGz16,hgz16,HSz16_0,HSCz16_0,HSz16_1,HSCz16_1⟩:=IsS26F.ex HI258.out
    subst es0_
    subst es1_
    subst es2_
    subst es3_
    have hcz16_0:=cellS26_0 HGz16
    have hcz16_1:=cellS26_1 HGz16
    clear HGz16 hgz16
    go_wp2_with (first|((with_reducible refine gcl (f:=15) rfl ?_);refine goesL_ (some 13) rfl rfl Tryd.func15 (by kernel_rfl) rfl #[.agg #[.slice ASz16_0 l0_0.length cSz16_0,.slice ASz16_1 l0_1.length cSz16_1]] rfl gl ?_;(with_reducible refine (impl_GoodSkip.calls k _ _ l0_0 _ _ l0_1 false _ ?side1 ?side2 ?side3 ?side4 ?sideT A7.out).mono ?_);(case sideT=>exact tab_below HT.out (by repeat (first|(with_reducible first|exact HB.out|apply bwa|apply pbN|apply bw1|refine bws ?_ (AsZ.out (by assumption)))|exact HB.out)));(case side1=>exact Kd.C_below HSz16_0 bel);(case side2=>exact HSCz16_0);(case side3=>exact Kd.C_below HSz16_1 bel);(case side4=>exact HSCz16_1);rintro e w17 ⟨rfl,hb⟩;refine ⟨_,rfl,?_⟩;replace HI258:=AsZ.mk (IsS26F.below (st26F HI258) hb);replace BK259:=bb BK259 hb;replace HB:=bp hb;(try clear hb);(try clear hb2);(try clear hk);(try clear hi)))
    go_meet
    case rel=>exact ⟨_,(true),rs,H',⟨lo⟩,⟨bk BK259⟩,⟨st26F HI258⟩,⟨bel⟩⟩
  subst c8
  replace H:=iP H
  replace H:=bs H
  obtain ⟨t261,A9,H⟩:=H
  by_cases c10:t261=true
  rotate_left
  · replace c10:=Bool.eq_false_iff.mpr c10
    subst c10
    replace H:=iN H
    have H':=AsZ.mk H
    clear H
    obtain ⟨ASz14_0,cSz14_0,ASz14_1,cSz14_1,⟨es0_,es1_,es2_,es3_⟩,HGz14,hgz14,HSz14_0,HSCz14_0,HSz14_1,HSCz14_1⟩:=IsS26F.ex HI258.out
    subst es0_
    subst es1_
    subst es2_
    subst es3_
    have hcz14_0:=cellS26_0 HGz14
    have hcz14_1:=cellS26_1 HGz14
    clear HGz14 hgz14
    go_wp2_with (first|((with_reducible refine gcl (f:=15) rfl ?_);refine goesL_ (some 13) rfl rfl Tryd.func15 (by kernel_rfl) rfl #[.agg #[.slice ASz14_0 l0_0.length cSz14_0,.slice ASz14_1 l0_1.length cSz14_1]] rfl gl ?_;(with_reducible refine (impl_GoodSkip.calls k _ _ l0_0 _ _ l0_1 true _ ?side1 ?side2 ?side3 ?side4 ?sideT A7.out).mono ?_);(case sideT=>exact tab_below HT.out (by repeat (first|(with_reducible first|exact HB.out|apply bwa|apply pbN|apply bw1|refine bws ?_ (AsZ.out (by assumption)))|exact HB.out)));(case side1=>exact Kd.C_below HSz14_0 bel);(case side2=>exact HSCz14_0);(case side3=>exact Kd.C_below HSz14_1 bel);(case side4=>exact HSCz14_1);rintro e w15 ⟨rfl,hb⟩;refine ⟨_,rfl,?_⟩;replace HI258:=AsZ.mk (IsS26F.below (st26F HI258) hb);replace BK259:=bb BK259 hb;replace HB:=bp hb;(try clear hb);(try clear hb2);(try clear hk);(try clear hi))|(go_at_call 70;(with_reducible refine (impl_isKey.calls a1 false _ A9.out).mono ?_);rintro e w' ⟨rfl,⟨nd,rfl⟩⟩))
    go_meet
    case rel=>exact ⟨_,(true),rs,H',⟨lo⟩,⟨bk BK259⟩,⟨st26F HI258⟩,⟨bel⟩⟩
  subst c10
  replace H:=iP H
  replace H:=bs H
  obtain ⟨t262,A11,H⟩:=H
  have H':=AsZ.mk H
  clear H
  obtain ⟨ASz12_0,cSz12_0,ASz12_1,cSz12_1,⟨es0_,es1_,es2_,es3_⟩,HGz12,hgz12,HSz12_0,HSCz12_0,HSz12_1,HSCz12_1⟩:=IsS26F.ex HI258.out
  subst es0_
  subst es1_
  subst es2_
  subst es3_
  have hcz12_0:=cellS26_0 HGz12
  have hcz12_1:=cellS26_1 HGz12
  clear HGz12 hgz12
  go_wp2_with (first|((with_reducible refine gcl (f:=15) rfl ?_);refine goesL_ (some 13) rfl rfl Tryd.func15 (by kernel_rfl) rfl #[.agg #[.slice ASz12_0 l0_0.length cSz12_0,.slice ASz12_1 l0_1.length cSz12_1]] rfl gl ?_;(with_reducible refine (impl_GoodSkip.calls k _ _ l0_0 _ _ l0_1 true _ ?side1 ?side2 ?side3 ?side4 ?sideT A7.out).mono ?_);(case sideT=>exact tab_below HT.out (by repeat (first|(with_reducible first|exact HB.out|apply bwa|apply pbN|apply bw1|refine bws ?_ (AsZ.out (by assumption)))|exact HB.out)));(case side1=>exact Kd.C_below HSz12_0 bel);(case side2=>exact HSCz12_0);(case side3=>exact Kd.C_below HSz12_1 bel);(case side4=>exact HSCz12_1);rintro e w13 ⟨rfl,hb⟩;refine ⟨_,rfl,?_⟩;replace HI258:=AsZ.mk (IsS26F.below (st26F HI258) hb);replace BK259:=bb BK259 hb;replace HB:=bp hb;(try clear hb);(try clear hb2);(try clear hk);(try clear hi))|(go_at_call 70;(with_reducible refine (impl_isKey.calls a1 true _ A9.out).mono ?_);rintro e w' ⟨rfl,⟨nd,rfl⟩⟩)|(go_at_call 71;(with_reducible refine (impl_isSeq.calls a2 t262 _ A11.out).mono ?_);rintro e w' ⟨rfl,⟨nd,rfl⟩⟩))
  go_meet
  case rel=>exact ⟨_,(!t262),rs,H',⟨lo⟩,⟨bk BK259⟩,⟨st26F HI258⟩,⟨bel⟩⟩
 case rest =>
  clear HC4
  try clear p2
  try clear hcz12_0 hcz12_1
  try clear hcz14_0 hcz14_1
  try clear hcz16_0 hcz16_1
  obtain ⟨kq,x24_3,rfl,HA,HJ3,BK259,HI258,HB⟩:=hcut
  cases kq with
  |zero=>exact absurd HA.out (by simp [impl_SeekSkip.j0])
  |succ kj3 =>
   have H:=HA.out
   clear HA
   simp only [impl_SeekSkip.j0] at H
   by_cases c18:x24_3=true
   · subst c18
     replace H:=iP H
     simp only [Option.some.injEq,Prod.mk.injEq] at H
     obtain ⟨rfl,rfl,rfl,rfl,rfl,rfl⟩:=H
     have hnb19:=NB259_258.out
     have hnc19:=NB258_259.out
     obtain ⟨hcz20_0,hcz20_1,hcz20_2,hcz20_3,hfz20_0,hfz20_1,hfz20_2,hfz20_3⟩:=bx4 BK259
     go_wp2
     refine bodyPost_ret (results_ctt rfl _ _ gb259 28 #[.string (⟨#[]⟩:ByteArray),.int .i64 0,.int .i64 0,.string (⟨#[]⟩:ByteArray)] (0,0) _ rfl (bq BK259) Tryd.underlying28 rfl (by kernel_rfl)) rfl ?_
     exact ⟨re,bel⟩
   replace c18:=Bool.eq_false_iff.mpr c18
   subst c18
   replace H:=iN H
   replace H:=bs H
   obtain ⟨⟨t263,t266⟩,A21,H⟩:=H
   by_cases c22:0 < (t263.length:Int)
   rotate_left
   · rw [if_neg c22] at H
     exact absurd H (by simp)
   rw [if_pos c22] at H
   have c22b0:decide (0 < (t263.length:Int))=true:=zE c22
   have c22b1:decide (0 < t263.length)=true:=zE (by omega)
   clear c22
   replace H:=bs H
   obtain ⟨t268,A23,H⟩:=H
   by_cases c24:t268=(-1)
   · rw [if_pos c24] at H
     have c24b0:(t268 == (-1))=true:=beq_iff_eq.mpr c24
     have c24b1:(t268 != (-1))=false:=bne_eq_false_iff_eq.mpr c24
     clear c24
     simp only [Option.some.injEq,Prod.mk.injEq] at H
     obtain ⟨rfl,rfl,rfl,rfl,rfl,rfl⟩:=H
     go_wp2_with (first|((with_reducible refine gcl (f:=40) rfl ?_);refine goesL_ (some 30) rfl rfl Tryd.func40 (by kernel_rfl) rfl #[.pointer (some ⟨gb258,0,none⟩),.agg #[.string a1,.int .i64 a2,.int .i64 0,.string (⟨#[]⟩:ByteArray)]] rfl gl ?_;(with_reducible refine (impl_Skip_seek.calls kj3 gb258 l0_0 l0_1 a1 a2 0 (⟨#[]⟩:ByteArray) t263 t266 w _ ?side1 ?side2 A21.out).mono ?_);(case side1=>apply IsS26F.to;repeat (first|(with_reducible first|exact HI258.out|apply IsS26F.alloc|apply IsS26F.drewN|apply IsS26F.drew|refine IsS26F.far ?_ NB258_259.out _)|exact HI258.out));(case side2=>exact bel);rintro e w25 ⟨v264,rfl,ho0,hi,hb,hk⟩;replace hi:=IsS26F.below (st26F HI258) hk;replace hk:=KeepF.keep hk;refine ⟨_,rfl,?_⟩;have HO265:=AsZ.mk (Kd.R_lower ho0 (bwz bel));replace BK259:=AsZ.mk (KeepBut.blk hk (bk BK259) NB259_258.out (by simp));replace HB:=AsZ.mk (hb);replace HI258:=AsZ.mk (hi);(try clear hb);(try clear hb2);(try clear hk);(try clear hi);(try clear ho0);obtain ⟨Ao26,co26,eo26⟩:=Kd.R_slice HO265.out;subst eo26;have p267:0≤(0:Int):=(by omega);have q267:0 < (t263.length:Int):=dd;obtain ⟨ad267,e267,hx267_0⟩:=Kd.at_int (Kd.R_reads' HO265.out).2.2 0 p267 q267;cases e267;have qi267:(0 < t263.length)=True:=eq_true (by omega);(try rw [show ((0:Int)).toNat=0 from rfl] at hx267_0);(try rw [Addr.add_zero'] at hx267_0);replace p267:=eq_true p267;replace q267:=eq_true q267)|((with_reducible refine gcl (f:=41) rfl ?_);refine goesL_ (some 36) rfl rfl Tryd.func41 (by kernel_rfl) rfl #[.pointer (some ⟨gb258,0,none⟩),.int .i64 (rd t263 0),.int .i64 0] rfl gl ?_;(with_reducible refine (impl_Skip_next.calls gb258 l0_0 l0_1 (rd t263 0) 0 t268 w _ ?side1 ?side2 A23.out).mono ?_);(case side1=>apply IsS26F.to;repeat (first|(with_reducible first|exact HI258.out|apply IsS26F.alloc|apply IsS26F.drewN|apply IsS26F.drew|refine IsS26F.far ?_ NB258_259.out _)|exact HI258.out));(case side2=>exact bel);rintro e w' ⟨rfl,⟨nd,rfl⟩⟩;refine ⟨_,rfl,?_⟩;(try (rw [drewN_self w25];generalize hq_:World.drewN w25 _=w25;have n0_:AsZ (Kd.R (Kd.int .i64) 3 w25 w.heap.size (fun _=>True) (.slice (some ad267) t263.length co26) t263):=⟨by rw [← hq_];exact (kR HO265)⟩;have n1_:AsZ (w25.heap[gb259]? = some (.cells #[.string (⟨#[]⟩:ByteArray),.int .i64 0,.int .i64 0,.string (⟨#[]⟩:ByteArray)] 28 (0,0))):=⟨by rw [← hq_];exact (bk BK259)⟩;have n2_:AsZ (IsS26F A0_0 c0_0 A0_1 c0_1 w w25 gb258 l0_0 l0_1):=⟨by rw [← hq_];exact (st26F HI258)⟩;have n3_:AsZ (Below w.heap.size w w25):=⟨by rw [← hq_];exact bel⟩;clear HO265 BK259 HI258 HB hq_;have HO265:=n0_;have BK259:=n1_;have HI258:=n2_;have HB:=n3_;clear n0_ n1_ n2_ n3_));have hnb27:=NB259_258.out;have hnc27:=NB258_259.out;obtain ⟨hcz28_0,hcz28_1,hcz28_2,hcz28_3,hfz28_0,hfz28_1,hfz28_2,hfz28_3⟩:=bx4 BK259))
     refine bodyPost_ret (results_ctt rfl _ _ gb259 28 #[.string (⟨#[]⟩:ByteArray),.int .i64 0,.int .i64 0,.string (⟨#[]⟩:ByteArray)] (0,0) _ rfl (bq BK259) Tryd.underlying28 rfl (by kernel_rfl)) rfl ?_
     exact ⟨re,bel⟩
   rw [if_neg c24] at H
   have c24b0:(t268 == (-1))=false:=beq_eq_false_iff_ne.mpr c24
   have c24b1:(t268 != (-1))=true:=bne_iff_ne.mpr c24
   by_cases c29:0≤t268
   rotate_left
   · rw [if_neg c29] at H
     exact absurd H (by simp)
   rw [if_pos c29] at H
   have c29b0:decide (0≤t268)=true:=zE c29
   clear c29
   by_cases c30:t268 < (l0_1.length:Int)
   rotate_left
   · rw [if_neg c30] at H
     exact absurd H (by simp)
   rw [if_pos c30] at H
   have c30b0:decide (t268 < (l0_1.length:Int))=true:=zE c30
   clear c30
   simp only [Option.some.injEq,Prod.mk.injEq] at H
   obtain ⟨rfl,rfl,rfl,rfl,rfl,rfl⟩:=H
   go_wp2_with (first|((with_reducible refine gcl (f:=40) rfl ?_);refine goesL_ (some 30) rfl rfl Tryd.func40 (by kernel_rfl) rfl #[.pointer (some ⟨gb258,0,none⟩),.agg #[.string a1,.int .i64 a2,.int .i64 0,.string (⟨#[]⟩:ByteArray)]] rfl gl ?_;(with_reducible refine (impl_Skip_seek.calls kj3 gb258 l0_0 l0_1 a1 a2 0 (⟨#[]⟩:ByteArray) t263 t266 w _ ?side1 ?side2 A21.out).mono ?_);(case side1=>apply IsS26F.to;repeat (first|(with_reducible first|exact HI258.out|apply IsS26F.alloc|apply IsS26F.drewN|apply IsS26F.drew|refine IsS26F.far ?_ NB258_259.out _)|exact HI258.out));(case side2=>exact bel);rintro e w31 ⟨v264,rfl,ho0,hi,hb,hk⟩;replace hi:=IsS26F.below (st26F HI258) hk;replace hk:=KeepF.keep hk;refine ⟨_,rfl,?_⟩;have HO265:=AsZ.mk (Kd.R_lower ho0 (bwz bel));replace BK259:=AsZ.mk (KeepBut.blk hk (bk BK259) NB259_258.out (by simp));replace HB:=AsZ.mk (hb);replace HI258:=AsZ.mk (hi);(try clear hb);(try clear hb2);(try clear hk);(try clear hi);(try clear ho0);obtain ⟨Ao32,co32,eo32⟩:=Kd.R_slice HO265.out;subst eo32;have p267:0≤(0:Int):=(by omega);have q267:0 < (t263.length:Int):=dd;obtain ⟨ad267,e267,hx267_0⟩:=Kd.at_int (Kd.R_reads' HO265.out).2.2 0 p267 q267;cases e267;have qi267:(0 < t263.length)=True:=eq_true (by omega);(try rw [show ((0:Int)).toNat=0 from rfl] at hx267_0);(try rw [Addr.add_zero'] at hx267_0);replace p267:=eq_true p267;replace q267:=eq_true q267)|((with_reducible refine gcl (f:=41) rfl ?_);refine goesL_ (some 36) rfl rfl Tryd.func41 (by kernel_rfl) rfl #[.pointer (some ⟨gb258,0,none⟩),.int .i64 (rd t263 0),.int .i64 0] rfl gl ?_;(with_reducible refine (impl_Skip_next.calls gb258 l0_0 l0_1 (rd t263 0) 0 t268 w _ ?side1 ?side2 A23.out).mono ?_);(case side1=>apply IsS26F.to;repeat (first|(with_reducible first|exact HI258.out|apply IsS26F.alloc|apply IsS26F.drewN|apply IsS26F.drew|refine IsS26F.far ?_ NB258_259.out _)|exact HI258.out));(case side2=>exact bel);rintro e w' ⟨rfl,⟨nd,rfl⟩⟩;refine ⟨_,rfl,?_⟩;(try (rw [drewN_self w31];generalize hq_:World.drewN w31 _=w31;have n0_:AsZ (Kd.R (Kd.int .i64) 3 w31 w.heap.size (fun _=>True) (.slice (some ad267) t263.length co32) t263):=⟨by rw [← hq_];exact (kR HO265)⟩;have n1_:AsZ (w31.heap[gb259]? = some (.cells #[.string (⟨#[]⟩:ByteArray),.int .i64 0,.int .i64 0,.string (⟨#[]⟩:ByteArray)] 28 (0,0))):=⟨by rw [← hq_];exact (bk BK259)⟩;have n2_:AsZ (IsS26F A0_0 c0_0 A0_1 c0_1 w w31 gb258 l0_0 l0_1):=⟨by rw [← hq_];exact (st26F HI258)⟩;have n3_:AsZ (Below w.heap.size w w31):=⟨by rw [← hq_];exact bel⟩;clear HO265 BK259 HI258 HB hq_;have HO265:=n0_;have BK259:=n1_;have HI258:=n2_;have HB:=n3_;clear n0_ n1_ n2_ n3_));obtain ⟨ASz33_0,cSz33_0,ASz33_1,cSz33_1,⟨es0_,es1_,es2_,es3_⟩,HGz33,hgz33,HSz33_0,HSCz33_0,HSz33_1,HSCz33_1⟩:=IsS26F.ex HI258.out;subst es0_;subst es1_;subst es2_;subst es3_;have hcz33_0:=cellS26_0 HGz33;have hcz33_1:=cellS26_1 HGz33;clear HGz33 hgz33;have p269:0≤(t268:Int):=dd;have q269:t268 < (l0_1.length:Int):=dd;obtain ⟨ad269,A269_4,c269_4,e269,hx269_0,hx269_1,hx269_2,hx269_3,hx269_4,hl269_4,hi269_4⟩:=at_T77 HSz33_1 t268 p269 q269;cases e269;replace hx269_0:=pcb HB.out hx269_0;replace hx269_1:=pcb HB.out hx269_1;replace hx269_2:=pcb HB.out hx269_2;replace hx269_3:=pcb HB.out hx269_3;replace hx269_4:=pcb HB.out hx269_4;have HR269_4:=AsZ.mk hi269_4;have HC269_4:=AsZ.mk hl269_4;clear hi269_4 hl269_4;replace p269:=eq_true p269;replace q269:=eq_true q269;have hnb34:=NB259_258.out;have hnc34:=NB258_259.out;obtain ⟨hcz35_0,hcz35_1,hcz35_2,hcz35_3,hfz35_0,hfz35_1,hfz35_2,hfz35_3⟩:=bx4 BK259))
   refine bodyPost_ret (results_ctt rfl _ _ gb259 28 #[.string ((rd_T77 l0_1 t268).f0.f0),.int .i64 ((rd_T77 l0_1 t268).f0.f1),.int .i64 ((rd_T77 l0_1 t268).f0.f2),.string ((rd_T77 l0_1 t268).f0.f3)] (0,0) _ rfl (bq BK259) Tryd.underlying28 rfl (by kernel_rfl)) rfl ?_
   exact ⟨re,bel⟩
end Go.Proofs.YtffjlpphcjfdgaaDoor.MFnFound
