-- Written by a program of this session out of the translation. Not trusted: Lean checks it.
import Derived.Test.YtffjlpphcjfdgaaDoorProg
import Derived.Test.YtffjlpphcjfdgaaDoorVFnExactInsertSkip
import Derived.Test.YtffjlpphcjfdgaaDoorXTab
import Derived.Below
import Derived.Deep.Draws
import Derived.Deep.AppendLies
import Derived.Maps.AppendAt
import Derived.OwnWalk
import Derived.Laws.BytesArg
import Derived.Laws.MakeOwn
import Derived.Laws.OwnMore
import Derived.Deep.OwnRows
import Derived.Tactics
import Derived.Lib.ConvBytes
import Derived.Laws.Slices
import Derived.WalkKit
import Derived.KernelRfl
import Derived.RowKit3
import Derived.Deep.LoopGhost
import Derived.Deep.QuietTactic
import Derived.BigQuiet
import Derived.WideLaws
import Derived.Deep.DeepCutAuto
import Derived.Deep.CutBlock
import Derived.Deep.RegionHeld3
import Derived.Laws.Rows
import Derived.Lib.AppendStr
import Derived.ArgAppend
import Derived.Laws.IdiomCopy
import Derived.OrdersHeld
import Derived.Laws.BitsLemmas
import Derived.RowKit
import Derived.Lib.SliceRun
import Derived.Test.YtffjlpphcjfdgaaDoorShelf
namespace Go.Proofs.YtffjlpphcjfdgaaDoor.MFnExactInsertSkip
-- joined
-- short
-- shrunk
-- TAB
-- RD
open Go.Proofs.YtffjlpphcjfdgaaDoor Go.RowKit Go.Proofs.YtffjlpphcjfdgaaDoorW.PrintWords Go.Proofs.YtffjlpphcjfdgaaDoorW.PrintLast Go.Proofs.YtffjlpphcjfdgaaDoorW.PrintMore Go.Proofs.YtffjlpphcjfdgaaDoorX
attribute [local go_sem] max2_int min2_int max_two min_two max_three min_three max_four min_four str_gtr str_leq str_geq cell_twice
set_option linter.unusedVariables false
set_option linter.unusedSimpArgs false
def errW:Option Int→Value
 |none => .nilIface
 |some c => .iface 0 (.int .i64 c)
theorem errW_none:errW none = .nilIface:=rfl
theorem errW_some (c:Int):errW (some c) = .iface 0 (.int .i64 c):=rfl
theorem info3:(Tryd.prog.info? 3).map (fun i=>(i.zero,i.size,i.bytes))=some (some (.int .i64 0),1,8):=by kernel_rfl
theorem info5:(Tryd.prog.info? 5).map (fun i=>(i.zero,i.size,i.bytes))=some (some (.int .u8 0),1,1):=by kernel_rfl
theorem info77:(Tryd.prog.info? 77).map (fun i=>(i.zero,i.size,i.bytes))=some (some (.agg #[(.string ⟨#[]⟩),(.int .i64 0),(.int .i64 0),(.string ⟨#[]⟩),(.slice none 0 0)]),5,72):=by kernel_rfl
theorem info106:(Tryd.prog.info? 106).map (fun i=>(i.zero,i.size,i.bytes))=some (some (.int .u32 0),1,4):=by kernel_rfl
-- the values' own types
/-! #### struct type 28 -/
structure S28 where
 f0:ByteArray
 f1:Int
 f2:Int
 f3:ByteArray
def z28:S28:=⟨(⟨#[]⟩:ByteArray),(0:Int),(0:Int),(⟨#[]⟩:ByteArray)⟩
def k28:Kd S28:=Kd.iso (Kd.pair Kd.string (Kd.pair (Kd.int .i64) (Kd.pair (Kd.int .i64) Kd.string))) (fun x:S28=>(x.f0,x.f1,x.f2,x.f3))
theorem k28_open {w:World} {x:S28} {cs:List Value} (h:k28.K w x cs):cs=[.string x.f0,.int .i64 x.f1,.int .i64 x.f2,.string x.f3]:=by
 obtain ⟨_,_,rfl,rfl,⟨_,_,rfl,rfl,⟨_,_,rfl,rfl,rfl⟩⟩⟩:=h;exact rfl
theorem k28_openM {w:World} {base:Nat} {ok:Nat→Prop} {x:S28} {cs:List Value} (h:k28.M w base ok x cs):cs=[.string x.f0,.int .i64 x.f1,.int .i64 x.f2,.string x.f3]:=by
 obtain ⟨_,_,rfl,rfl,⟨_,_,rfl,rfl,⟨_,_,rfl,rfl,rfl⟩⟩⟩:=h;exact rfl
theorem k28_mk (w:World) (x:S28)  : k28.K w x [.string x.f0,.int .i64 x.f1,.int .i64 x.f2,.string x.f3]:=⟨[.string x.f0],[.int .i64 x.f1,.int .i64 x.f2,.string x.f3],rfl,rfl,⟨[.int .i64 x.f1],[.int .i64 x.f2,.string x.f3],rfl,rfl,⟨[.int .i64 x.f2],[.string x.f3],rfl,rfl,rfl⟩⟩⟩
theorem k28_mkM (w:World) (base:Nat) (ok:Nat→Prop) (x:S28)  : k28.M w base ok x [.string x.f0,.int .i64 x.f1,.int .i64 x.f2,.string x.f3]:=⟨[.string x.f0],[.int .i64 x.f1,.int .i64 x.f2,.string x.f3],rfl,rfl,⟨[.int .i64 x.f1],[.int .i64 x.f2,.string x.f3],rfl,rfl,⟨[.int .i64 x.f2],[.string x.f3],rfl,rfl,rfl⟩⟩⟩
def rd_T28 (xs:List S28) (i:Int):S28:=xs.getD i.toNat z28
theorem at_T28 {w:World} {A:Option Addr} {n:Nat} {xs:List S28} (h:Kd.C k28 w A n xs) (i:Int) (h0:0≤i) (h1:i < n):∃ ad ,A=some ad∧w.cell? (ad.add (i.toNat * 4))=some (.string (rd_T28 xs i).f0)∧w.cell? ⟨(ad.add (i.toNat * 4)).block,(ad.add (i.toNat * 4)).off + 1,none⟩=some (.int .i64 (rd_T28 xs i).f1)∧w.cell? ⟨(ad.add (i.toNat * 4)).block,(ad.add (i.toNat * 4)).off + 2,none⟩=some (.int .i64 (rd_T28 xs i).f2)∧w.cell? ⟨(ad.add (i.toNat * 4)).block,(ad.add (i.toNat * 4)).off + 3,none⟩=some (.string (rd_T28 xs i).f3):=by
 obtain ⟨ad,c,e,_,hK,hc0⟩:=Kd.C_get h z28 i h0 h1;have hc:∀ j u,c[j]? = some u→w.cell? (ad.add (i.toNat * 4 + j))=some u:=hc0;obtain rfl:=k28_open hK;exact ⟨ad,e,hc 0 _ rfl,by rw [← add_field _ _ 1 (by omega)];exact hc 1 _ rfl,by rw [← add_field _ _ 2 (by omega)];exact hc 2 _ rfl,by rw [← add_field _ _ 3 (by omega)];exact hc 3 _ rfl⟩
def rd_L4 (xs:List (List Int)) (i:Int):(List Int):=xs.getD i.toNat ([]:List Int)
theorem at_L4 {w:World} {A:Option Addr} {n:Nat} {xs:List (List Int)} (h:Kd.C (Kd.slice 3 (Kd.int .i64)) w A n xs) (i:Int) (h0:0≤i) (h1:i < n):∃ ad A0 c0,A=some ad∧w.cell? (ad.add i.toNat)=some (.slice A0 (rd_L4 xs i).length c0)∧(rd_L4 xs i).length≤c0∧(Kd.int .i64).C w A0 (rd_L4 xs i).length (rd_L4 xs i):=by
 obtain ⟨ad,c,e,_,hK,hc0⟩:=Kd.C_get h ([]:List Int) i h0 h1;have hc:∀ j u,c[j]? = some u→w.cell? (ad.add (i.toNat * 1 + j))=some u:=hc0;obtain ⟨A0,c0,rfl,l0,g0⟩:=hK;exact ⟨ad,A0,c0,e,by have hq:=hc 0 _ rfl;rwa [Nat.mul_one,Nat.add_zero] at hq,l0,g0⟩
/-! #### struct type 77 -/
structure S77 where
 f0:S28
 f1:(List Int)
def z77:S77:=⟨z28,([]:List Int)⟩
def k77:Kd S77:=Kd.iso (Kd.pair k28 (Kd.slice 3 (Kd.int .i64))) (fun x:S77=>(x.f0,x.f1))
theorem k77_open {w:World} {x:S77} {cs:List Value} (h:k77.K w x cs):∃ A4 c4,cs=[.string x.f0.f0,.int .i64 x.f0.f1,.int .i64 x.f0.f2,.string x.f0.f3,.slice A4 x.f1.length c4]∧x.f1.length≤c4∧(Kd.int .i64).C w A4 x.f1.length x.f1:=by
 obtain ⟨_,_,rfl,s0,⟨A4,c4,rfl,l4,g4⟩⟩:=h;obtain rfl:=k28_open s0;exact ⟨A4,c4,rfl,l4,g4⟩
theorem k77_openM {w:World} {base:Nat} {ok:Nat→Prop} {x:S77} {cs:List Value} (h:k77.M w base ok x cs):∃ v4,cs=[.string x.f0.f0,.int .i64 x.f0.f1,.int .i64 x.f0.f2,.string x.f0.f3,v4]∧(Kd.int .i64).R 3 w base ok v4 x.f1:=by
 obtain ⟨_,_,rfl,s0,⟨v4,rfl,g4⟩⟩:=h;obtain rfl:=k28_openM s0;exact ⟨v4,rfl,g4⟩
theorem k77_mk (w:World) (x:S77) {A4:Option Addr} {c4:Nat} (l4:x.f1.length≤c4) (g4:(Kd.int .i64).C w A4 x.f1.length x.f1):k77.K w x [.string x.f0.f0,.int .i64 x.f0.f1,.int .i64 x.f0.f2,.string x.f0.f3,.slice A4 x.f1.length c4]:=⟨[.string x.f0.f0,.int .i64 x.f0.f1,.int .i64 x.f0.f2,.string x.f0.f3],[.slice A4 x.f1.length c4],rfl,(k28_mk w x.f0 ),⟨A4,c4,rfl,l4,g4⟩⟩
theorem k77_mkM (w:World) (base:Nat) (ok:Nat→Prop) (x:S77) {v4:Value} (g4:(Kd.int .i64).R 3 w base ok v4 x.f1):k77.M w base ok x [.string x.f0.f0,.int .i64 x.f0.f1,.int .i64 x.f0.f2,.string x.f0.f3,v4]:=⟨[.string x.f0.f0,.int .i64 x.f0.f1,.int .i64 x.f0.f2,.string x.f0.f3],[v4],rfl,(k28_mkM w base ok x.f0 ),⟨v4,rfl,g4⟩⟩
def rd_T77 (xs:List S77) (i:Int):S77:=xs.getD i.toNat z77
theorem at_T77 {w:World} {A:Option Addr} {n:Nat} {xs:List S77} (h:Kd.C k77 w A n xs) (i:Int) (h0:0≤i) (h1:i < n):∃ ad A4 c4,A=some ad∧w.cell? (ad.add (i.toNat * 5))=some (.string (rd_T77 xs i).f0.f0)∧w.cell? ⟨(ad.add (i.toNat * 5)).block,(ad.add (i.toNat * 5)).off + 1,none⟩=some (.int .i64 (rd_T77 xs i).f0.f1)∧w.cell? ⟨(ad.add (i.toNat * 5)).block,(ad.add (i.toNat * 5)).off + 2,none⟩=some (.int .i64 (rd_T77 xs i).f0.f2)∧w.cell? ⟨(ad.add (i.toNat * 5)).block,(ad.add (i.toNat * 5)).off + 3,none⟩=some (.string (rd_T77 xs i).f0.f3)∧w.cell? ⟨(ad.add (i.toNat * 5)).block,(ad.add (i.toNat * 5)).off + 4,none⟩=some (.slice A4 (rd_T77 xs i).f1.length c4)∧(rd_T77 xs i).f1.length≤c4∧(Kd.int .i64).C w A4 (rd_T77 xs i).f1.length (rd_T77 xs i).f1:=by
 obtain ⟨ad,c,e,_,hK,hc0⟩:=Kd.C_get h z77 i h0 h1;have hc:∀ j u,c[j]? = some u→w.cell? (ad.add (i.toNat * 5 + j))=some u:=hc0;obtain ⟨A4,c4,rfl,l4,g4⟩:=k77_open hK;exact ⟨ad,A4,c4,e,hc 0 _ rfl,by rw [← add_field _ _ 1 (by omega)];exact hc 1 _ rfl,by rw [← add_field _ _ 2 (by omega)];exact hc 2 _ rfl,by rw [← add_field _ _ 3 (by omega)];exact hc 3 _ rfl,by rw [← add_field _ _ 4 (by omega)];exact hc 4 _ rfl,l4,g4⟩
/-! #### struct type 51 -/
structure S51 where
 f0:ByteArray
 f1:Int
 f2:Int
 f3:ByteArray
def z51:S51:=⟨(⟨#[]⟩:ByteArray),(0:Int),(0:Int),(⟨#[]⟩:ByteArray)⟩
def k51:Kd S51:=Kd.iso (Kd.pair Kd.string (Kd.pair (Kd.int .i64) (Kd.pair (Kd.int .i64) Kd.string))) (fun x:S51=>(x.f0,x.f1,x.f2,x.f3))
theorem k51_open {w:World} {x:S51} {cs:List Value} (h:k51.K w x cs):cs=[.string x.f0,.int .i64 x.f1,.int .i64 x.f2,.string x.f3]:=by
 obtain ⟨_,_,rfl,rfl,⟨_,_,rfl,rfl,⟨_,_,rfl,rfl,rfl⟩⟩⟩:=h;exact rfl
theorem k51_openM {w:World} {base:Nat} {ok:Nat→Prop} {x:S51} {cs:List Value} (h:k51.M w base ok x cs):cs=[.string x.f0,.int .i64 x.f1,.int .i64 x.f2,.string x.f3]:=by
 obtain ⟨_,_,rfl,rfl,⟨_,_,rfl,rfl,⟨_,_,rfl,rfl,rfl⟩⟩⟩:=h;exact rfl
theorem k51_mk (w:World) (x:S51)  : k51.K w x [.string x.f0,.int .i64 x.f1,.int .i64 x.f2,.string x.f3]:=⟨[.string x.f0],[.int .i64 x.f1,.int .i64 x.f2,.string x.f3],rfl,rfl,⟨[.int .i64 x.f1],[.int .i64 x.f2,.string x.f3],rfl,rfl,⟨[.int .i64 x.f2],[.string x.f3],rfl,rfl,rfl⟩⟩⟩
theorem k51_mkM (w:World) (base:Nat) (ok:Nat→Prop) (x:S51)  : k51.M w base ok x [.string x.f0,.int .i64 x.f1,.int .i64 x.f2,.string x.f3]:=⟨[.string x.f0],[.int .i64 x.f1,.int .i64 x.f2,.string x.f3],rfl,rfl,⟨[.int .i64 x.f1],[.int .i64 x.f2,.string x.f3],rfl,rfl,⟨[.int .i64 x.f2],[.string x.f3],rfl,rfl,rfl⟩⟩⟩
def rd_T51 (xs:List S51) (i:Int):S51:=xs.getD i.toNat z51
theorem at_T51 {w:World} {A:Option Addr} {n:Nat} {xs:List S51} (h:Kd.C k51 w A n xs) (i:Int) (h0:0≤i) (h1:i < n):∃ ad ,A=some ad∧w.cell? (ad.add (i.toNat * 4))=some (.string (rd_T51 xs i).f0)∧w.cell? ⟨(ad.add (i.toNat * 4)).block,(ad.add (i.toNat * 4)).off + 1,none⟩=some (.int .i64 (rd_T51 xs i).f1)∧w.cell? ⟨(ad.add (i.toNat * 4)).block,(ad.add (i.toNat * 4)).off + 2,none⟩=some (.int .i64 (rd_T51 xs i).f2)∧w.cell? ⟨(ad.add (i.toNat * 4)).block,(ad.add (i.toNat * 4)).off + 3,none⟩=some (.string (rd_T51 xs i).f3):=by
 obtain ⟨ad,c,e,_,hK,hc0⟩:=Kd.C_get h z51 i h0 h1;have hc:∀ j u,c[j]? = some u→w.cell? (ad.add (i.toNat * 4 + j))=some u:=hc0;obtain rfl:=k51_open hK;exact ⟨ad,e,hc 0 _ rfl,by rw [← add_field _ _ 1 (by omega)];exact hc 1 _ rfl,by rw [← add_field _ _ 2 (by omega)];exact hc 2 _ rfl,by rw [← add_field _ _ 3 (by omega)];exact hc 3 _ rfl⟩
/-! #### struct type 113 -/
structure S113 where
 f0:S51
 f1:(List Int)
def z113:S113:=⟨z51,([]:List Int)⟩
def k113:Kd S113:=Kd.iso (Kd.pair k51 (Kd.slice 3 (Kd.int .i64))) (fun x:S113=>(x.f0,x.f1))
theorem k113_open {w:World} {x:S113} {cs:List Value} (h:k113.K w x cs):∃ A4 c4,cs=[.string x.f0.f0,.int .i64 x.f0.f1,.int .i64 x.f0.f2,.string x.f0.f3,.slice A4 x.f1.length c4]∧x.f1.length≤c4∧(Kd.int .i64).C w A4 x.f1.length x.f1:=by
 obtain ⟨_,_,rfl,s0,⟨A4,c4,rfl,l4,g4⟩⟩:=h;obtain rfl:=k51_open s0;exact ⟨A4,c4,rfl,l4,g4⟩
theorem k113_openM {w:World} {base:Nat} {ok:Nat→Prop} {x:S113} {cs:List Value} (h:k113.M w base ok x cs):∃ v4,cs=[.string x.f0.f0,.int .i64 x.f0.f1,.int .i64 x.f0.f2,.string x.f0.f3,v4]∧(Kd.int .i64).R 3 w base ok v4 x.f1:=by
 obtain ⟨_,_,rfl,s0,⟨v4,rfl,g4⟩⟩:=h;obtain rfl:=k51_openM s0;exact ⟨v4,rfl,g4⟩
theorem k113_mk (w:World) (x:S113) {A4:Option Addr} {c4:Nat} (l4:x.f1.length≤c4) (g4:(Kd.int .i64).C w A4 x.f1.length x.f1):k113.K w x [.string x.f0.f0,.int .i64 x.f0.f1,.int .i64 x.f0.f2,.string x.f0.f3,.slice A4 x.f1.length c4]:=⟨[.string x.f0.f0,.int .i64 x.f0.f1,.int .i64 x.f0.f2,.string x.f0.f3],[.slice A4 x.f1.length c4],rfl,(k51_mk w x.f0 ),⟨A4,c4,rfl,l4,g4⟩⟩
theorem k113_mkM (w:World) (base:Nat) (ok:Nat→Prop) (x:S113) {v4:Value} (g4:(Kd.int .i64).R 3 w base ok v4 x.f1):k113.M w base ok x [.string x.f0.f0,.int .i64 x.f0.f1,.int .i64 x.f0.f2,.string x.f0.f3,v4]:=⟨[.string x.f0.f0,.int .i64 x.f0.f1,.int .i64 x.f0.f2,.string x.f0.f3],[v4],rfl,(k51_mkM w base ok x.f0 ),⟨v4,rfl,g4⟩⟩
def rd_T113 (xs:List S113) (i:Int):S113:=xs.getD i.toNat z113
theorem at_T113 {w:World} {A:Option Addr} {n:Nat} {xs:List S113} (h:Kd.C k113 w A n xs) (i:Int) (h0:0≤i) (h1:i < n):∃ ad A4 c4,A=some ad∧w.cell? (ad.add (i.toNat * 5))=some (.string (rd_T113 xs i).f0.f0)∧w.cell? ⟨(ad.add (i.toNat * 5)).block,(ad.add (i.toNat * 5)).off + 1,none⟩=some (.int .i64 (rd_T113 xs i).f0.f1)∧w.cell? ⟨(ad.add (i.toNat * 5)).block,(ad.add (i.toNat * 5)).off + 2,none⟩=some (.int .i64 (rd_T113 xs i).f0.f2)∧w.cell? ⟨(ad.add (i.toNat * 5)).block,(ad.add (i.toNat * 5)).off + 3,none⟩=some (.string (rd_T113 xs i).f0.f3)∧w.cell? ⟨(ad.add (i.toNat * 5)).block,(ad.add (i.toNat * 5)).off + 4,none⟩=some (.slice A4 (rd_T113 xs i).f1.length c4)∧(rd_T113 xs i).f1.length≤c4∧(Kd.int .i64).C w A4 (rd_T113 xs i).f1.length (rd_T113 xs i).f1:=by
 obtain ⟨ad,c,e,_,hK,hc0⟩:=Kd.C_get h z113 i h0 h1;have hc:∀ j u,c[j]? = some u→w.cell? (ad.add (i.toNat * 5 + j))=some u:=hc0;obtain ⟨A4,c4,rfl,l4,g4⟩:=k113_open hK;exact ⟨ad,A4,c4,e,hc 0 _ rfl,by rw [← add_field _ _ 1 (by omega)];exact hc 1 _ rfl,by rw [← add_field _ _ 2 (by omega)];exact hc 2 _ rfl,by rw [← add_field _ _ 3 (by omega)];exact hc 3 _ rfl,by rw [← add_field _ _ 4 (by omega)];exact hc 4 _ rfl,l4,g4⟩
theorem bk {g:Nat} {o:Obj} {w W:World} (H:AsZ (w.heap[g]? = some o)) (h:w.heap[g]? = some o→W.heap[g]? = some o:=by intro h_;(with_reducible repeat (first|refine kdN ?_ _|refine kd ?_|refine ka ?_ _));exact h_):W.heap[g]? = some o:=h H.out
theorem bb {g:Nat} {o:Obj} {w W w2:World} (H:AsZ (w.heap[g]? = some o)) (hb:Below W.heap.size W w2) (h:w.heap[g]? = some o→W.heap[g]? = some o:=by intro h_;(with_reducible repeat (first|refine kdN ?_ _|refine kd ?_|refine ka ?_ _));exact h_):AsZ (w2.heap[g]? = some o):=⟨kb (h H.out) hb⟩
theorem ab {g m:Nat} {o:Obj} {w w2 W:World} (hq:W.drewN m=w2) (H:AsZ (w.heap[g]? = some o)) (h:w.heap[g]? = some o→W.heap[g]? = some o:=by intro h_;(with_reducible repeat (first|refine kdN ?_ _|refine kd ?_|refine ka ?_ _));exact h_):AsZ (w2.heap[g]? = some o):=⟨blk_at hq (h H.out)⟩
theorem aB {u w w2:World} {b m:Nat} (hq:w.drewN m=w2) (h:Below b u w):AsZ (Below b u w2):=⟨below_at hq h⟩
theorem aK {u w w2:World} {m:Nat} {S:Nat→Prop} (hq:w.drewN m=w2) (h:Kept u w S):AsZ (Kept u w2 S):=⟨kept_at hq h⟩
theorem bs {α β:Type} {x:Option α} {f:α→Option β} {b:β} (h:x.bind f=some b):∃ a,AsZ (x=some a)∧f a=some b:=by
 obtain ⟨a,h1,h2⟩:=Option.bind_eq_some_iff.mp h;exact ⟨a,⟨h1⟩,h2⟩
theorem dd {p:Prop} [Decidable p] (h:decide p=true:=by first|(with_reducible assumption)|assumption):p:=zD h
theorem rs {p:Prop} (h:p:=by first|rfl|(simp;done)|(simp [*];done)):p:=h
theorem re {p:Prop} (h:p:=by first|rfl|(simp [errW_none,errW_some]<;>rfl)|(simp [*,errW_none,errW_some]<;>rfl)):p:=h
theorem dw {p:Prop} (h:p:=by repeat (first|exact Drawn0.refl _|apply Drawn0.step)):p:=h
theorem lo {p:Prop} (h:p:=by first|omega|exact Nat.le_refl _):p:=h
theorem gl {p:Prop} (h:p:=by (try simp only [zA,zC,zN]);first|done|rfl|(simp only [zM,zL];rfl)):p:=h
theorem bel {p:Prop} (h:p:=by repeat (first|(with_reducible first|exact HB.out|apply bwa|apply pbN|apply bw1|refine bws ?_ (AsZ.out (by assumption))|refine bws ?_ (IsS26.ge (AsZ.out (by assumption)))|refine bws ?_ (IsS26F.ge (AsZ.out (by assumption))))|exact HB.out)):p:=h
theorem bp {w V w2:World} (hb:Below V.heap.size V w2) (h:Below w.heap.size w V:=by repeat (first|(with_reducible first|exact HB.out|apply bwa|apply pbN|apply bw1|refine bws ?_ (AsZ.out (by assumption))|refine bws ?_ (IsS26.ge (AsZ.out (by assumption)))|refine bws ?_ (IsS26F.ge (AsZ.out (by assumption))))|exact HB.out)):AsZ (Below w.heap.size w w2):=⟨bwp h hb⟩
theorem db {w:World} {g:Nat} {o:Obj} (H:AsZ (w.heap[g]? = some o)):AsZ (w.drew.heap[g]? = some o):=⟨kd H.out⟩
theorem dB {b:Nat} {w W:World} (H:AsZ (Below b w W)):AsZ (Below b w W.drew):=⟨bw1 H.out⟩
theorem gz {w X V:World} {g:Nat} (H:AsZ (Below w.heap.size w X)) (hg:g=V.heap.size) (h:Below w.heap.size w X→Below w.heap.size w V:=by intro h_;repeat (first|(with_reducible first|exact h_|apply bwa|apply pbN|apply bw1|refine bws ?_ (AsZ.out (by assumption))|refine bws ?_ (IsS26.ge (AsZ.out (by assumption)))|refine bws ?_ (IsS26F.ge (AsZ.out (by assumption))))|exact h_)):AsZ (w.heap.size≤g):=⟨by rw [hg];exact bwz (h H.out)⟩
theorem nl {w V:World} {g g':Nat} {o:Obj} (H:AsZ (w.heap[g]? = some o)) (hg:g'=V.heap.size) (h:w.heap[g]? = some o→V.heap[g]? = some o:=by intro h_;(with_reducible repeat (first|refine kdN ?_ _|refine kd ?_|refine ka ?_ _));exact h_):AsZ (g ≠ g'):=⟨by rw [hg];exact Nat.ne_of_lt (blk_lt (h H.out))⟩
theorem nr {w V:World} {g g':Nat} {o:Obj} (H:AsZ (w.heap[g]? = some o)) (hg:g'=V.heap.size) (h:w.heap[g]? = some o→V.heap[g]? = some o:=by intro h_;(with_reducible repeat (first|refine kdN ?_ _|refine kd ?_|refine ka ?_ _));exact h_):AsZ (g' ≠ g):=⟨by rw [hg];exact Nat.ne_of_gt (blk_lt (h H.out))⟩
theorem kF {w U:World} {g:Nat} {r:Option Nat} (H:AsZ (KeepF w U g r)) {p:Prop} (h:KeepF w U g r→p:=by intro h_;repeat (first|(with_reducible first|exact h_|apply KeepF.keep|apply KeepF.drewN|apply KeepF.drew|apply KeepF.alloc|refine KeepF.far ?_ (AsZ.out (by assumption)) _)|exact h_)):p:=h H.out
theorem kP {w U W:World} {S:Nat→Prop} (H:AsZ (Kept w U S)) (h:Kept w U S→Kept w W S:=by intro h_;repeat (first|(with_reducible first|exact h_|apply Kept.alloc|apply Kept.drewN|apply Kept.drew|refine Kept.setCell ?_ (.inr (AsZ.out (by assumption))) _)|exact h_)):Kept w W S:=h H.out
theorem kR {α:Type} {d:Kd α} {e base:Nat} {ok:Nat→Prop} {v:Value} {xs:List α} {w V:World} (H:AsZ (d.R e w base ok v xs)) (h:d.R e w base ok v xs→d.R e V base ok v xs:=by intro h_;(with_reducible repeat (first|apply Kd.R_alloc|apply Kd.R_drewN|apply Kd.R_drew));exact h_):d.R e V base ok v xs:=h H.out
theorem rR {α:Type} {d:Kd α} {e base:Nat} {ok:Nat→Prop} {v:Value} {xs:List α} {w V w2:World} (H:AsZ (d.R e w base ok v xs)) (hb:Below V.heap.size V w2) (h:d.R e w base ok v xs→d.R e V base ok v xs:=by intro h_;(with_reducible repeat (first|apply Kd.R_alloc|apply Kd.R_drewN|apply Kd.R_drew));exact h_):AsZ (d.R e w2 base ok v xs):=⟨Kd.R_below (h H.out) hb⟩
theorem dR {α:Type} {d:Kd α} {e base:Nat} {ok:Nat→Prop} {v:Value} {xs:List α} {w:World} (H:AsZ (d.R e w base ok v xs)):AsZ (d.R e w.drew base ok v xs):=⟨Kd.R_drew H.out⟩
theorem kS {α:Type} {d:Kd α} {e base:Nat} {ok:Nat→Prop} {v:Value} {xs:List α} {w V:World} (H:AsZ (Kd.S d e w base ok v xs)) (h:Kd.S d e w base ok v xs→Kd.S d e V base ok v xs:=by intro h_;(with_reducible repeat (first|apply Kd.S_alloc|apply Kd.S_drewN|apply Kd.S_drew));exact h_):Kd.S d e V base ok v xs:=h H.out
theorem rS {α:Type} {d:Kd α} {e base:Nat} {ok:Nat→Prop} {v:Value} {xs:List α} {w V w2:World} (H:AsZ (Kd.S d e w base ok v xs)) (hb:Below V.heap.size V w2) (h:Kd.S d e w base ok v xs→Kd.S d e V base ok v xs:=by intro h_;(with_reducible repeat (first|apply Kd.S_alloc|apply Kd.S_drewN|apply Kd.S_drew));exact h_):AsZ (Kd.S d e w2 base ok v xs):=⟨Kd.S_below (h H.out) hb⟩
theorem dS {α:Type} {d:Kd α} {e base:Nat} {ok:Nat→Prop} {v:Value} {xs:List α} {w:World} (H:AsZ (Kd.S d e w base ok v xs)):AsZ (Kd.S d e w.drew base ok v xs):=⟨Kd.S_drew H.out⟩
theorem cl {p:Prop} (h:p:=by repeat' (first|(with_reducible assumption)|refine And.intro ?_ ?_|(refine (kc (AsZ.out (by assumption)) _).trans ?_;rfl)|exact pcb HB.out (by assumption))):p:=h
theorem mo {p:Prop} (h:p:=by repeat' (first|(with_reducible first|exact LeO.refl _|exact LeO.none _|apply ih0|apply ih1|apply ih2|apply ih3|apply ih4|apply ih5|apply ih6|apply ih7|apply ih8|apply ih9|apply ih10|apply ih11|apply ih12|apply ih13|apply ih14|apply j0|apply j1|apply j2|apply j3|apply j4|apply j5|apply j6|apply j7|apply j8|apply j9|apply j10|apply j11|apply j12|apply j13|refine LeO.ite ?_ ?_|refine LeO.bind ?_ (fun _=>?_))|apply ih0|apply ih1|apply ih2|apply ih3|apply ih4|apply ih5|apply ih6|apply ih7|apply ih8|apply ih9|apply ih10|apply ih11|apply ih12|apply ih13|apply ih14|apply j0|apply j1|apply j2|apply j3|apply j4|apply j5|apply j6|apply j7|apply j8|apply j9|apply j10|apply j11|apply j12|apply j13|exact LeO.none _|refine LeO.ite ?_ ?_|refine LeO.bind ?_ (fun _=>?_))):p:=h
def Hs (g t:Nat) (c':Array Value) (W:World) (f:Array Value→Array Value):Prop := ∃ c,W.heap[g]? = some (.cells c t (0,0))∧f c=c'
section
variable {g t:Nat} {c c':Array Value} {W:World} {f:Array Value→Array Value}
theorem hs0 (h:Hs g t c' W (fun c=>c)):W.heap[g]? = some (.cells c' t (0,0)):=by
 obtain ⟨c,h,rfl⟩:=h;exact h
theorem hsN (h:Hs g t c' W f) (n:Nat):Hs g t c' (W.drewN n) f:=h
theorem hsD (h:Hs g t c' W f):Hs g t c' W.drew f:=h
theorem hsA (h:Hs g t c' W f) (o:Obj):Hs g t c' (W.alloc o) f:=by
 obtain ⟨c,h,e⟩:=h;exact ⟨c,ka h o,e⟩
theorem hsF (h:Hs g t c' W f) {p:Addr} (hp:g ≠ p.block) (u:Value):Hs g t c' (W.setCell p u) f:=by
 obtain ⟨c,h,e⟩:=h;exact ⟨c,blk_far h hp u,e⟩
theorem hsS {i:Nat} {u:Value} (h:Hs g t c' W (fun c=>f (c.setIfInBounds i u))):Hs g t c' (W.setCell ⟨g,i,none⟩ u) f:=by
 obtain ⟨c,h,e⟩:=h;exact ⟨_,blk_put h i u rfl,e⟩
theorem hsE (h:W.heap[g]? = some (.cells c t (0,0))) (e:f c=c'):Hs g t c' W f:=⟨c,h,e⟩
end
theorem bq {g t:Nat} {c c':Array Value} {w W:World} (H:AsZ (w.heap[g]? = some (.cells c t (0,0)))) (h:w.heap[g]? = some (.cells c t (0,0))→Hs g t c' W (fun c=>c):=by intro h_;(repeat (with_reducible first|refine hsN ?_ _|refine hsD ?_|refine hsA ?_ _|refine hsS ?_|refine hsF ?_ (AsZ.out (by assumption)) _));exact hsE h_ rfl):W.heap[g]? = some (.cells c' t (0,0)):=hs0 (h H.out)
theorem cC {p q:Prop} (H:p) (h:p→q:=by intro h_;repeat (first|exact h_|(with_reducible refine Kd.C_alloc ?_ _)|(with_reducible refine Kd.C_drewN ?_ _)|(with_reducible refine Kd.C_drew ?_))):q:=h H
theorem ry {α:Type} {y t:α} {p q:Prop} (e:y=t) (H_:p) (h:y=t→p→q:=by intro hy_ H;first|(rw [hy_];with_reducible exact H)|(have H2_:=(Option.bind_some _ _).symm.trans H;rw [hy_];with_reducible exact H2_)|(have H2_:=(Option.bind_some _ _).symm.trans H;with_reducible exact H2_)|with_reducible exact H|(rw [hy_];exact H)|exact H):q:=h e H_
theorem iN {α:Type} {a b c:α} {i:Decidable (false=true)} (h : @ite α (false=true) i a b=c):b=c:=(if_neg (fun e=>Bool.noConfusion e)).symm.trans h
theorem iP {α:Type} {a b c:α} {i:Decidable (true=true)} (h : @ite α (true=true) i a b=c):a=c:=(if_pos rfl).symm.trans h
theorem fR {α:Type} {d:Kd α} {e base:Nat} {k_:Nat→Prop} {v:Value} {xs:List α} {w:World} {p:Addr} {u:Value} (h:d.R e w base (fun k=>k_ k∧k ≠ p.block) v xs):d.R e (w.setCell p u) base (fun k=>k_ k∧k ≠ p.block) v xs:=Kd.R_far h (fun _ hk=>hk.2) u
theorem fS {α:Type} {d:Kd α} {e base:Nat} {k_:Nat→Prop} {v:Value} {xs:List α} {w:World} {p:Addr} {u:Value} (h:Kd.S d e w base (fun k=>k_ k∧k ≠ p.block) v xs):Kd.S d e (w.setCell p u) base (fun k=>k_ k∧k ≠ p.block) v xs:=Kd.S_far h (fun _ hk=>hk.2) u
section
variable {P:Program} {ops:Array Oper} {Q:Exit→Act→World→Prop} {rest:List Oper} {o:Oper} {a:Act}
theorem bev {W:World} (N:Tmp) (t:TypeId) {cs:Array Value} (h:∀ g,g=W.heap.size → ∀ w1,w1.heap[g]? = some (.cells cs t (0,0))→Below W.heap.size W w1→wpList P ops Q rest (a.put o.dst (.pointer (some ⟨g,0,none⟩))) w1)
  (hd:o.dst=some N:=by exact rfl) (hg:o.guard=none:=by exact rfl) (hr:(execOp a.eval o).run P W = .ok (.value (.pointer (some ⟨W.heap.size,0,none⟩))) (W.alloc (.cells cs t (0,0))):=by first|(go_simp;done)|(go_simp;rfl)):wpList P ops Q (o :: rest) a W:=box_event hg hd hr h
end
theorem st26 {p q:Prop} (H:AsZ p) (h:p→q:=by intro h_;repeat (first|(with_reducible first|exact h_|apply IsS26.alloc|apply IsS26.drewN|apply IsS26.drew|refine IsS26.far ?_ (AsZ.out (by assumption)) _)|exact h_)):q:=h H.out
theorem st26F {p q:Prop} (H:AsZ p) (h:p→q:=by intro h_;repeat (first|(with_reducible first|exact h_|apply IsS26F.alloc|apply IsS26F.drewN|apply IsS26F.drew|refine IsS26F.far ?_ (AsZ.out (by assumption)) _)|exact h_)):q:=h H.out
theorem bx2 {w:World} {g t:Nat} {a0 a1:Value} (H:AsZ (w.heap[g]? = some (.cells #[a0,a1] t (0,0)))):w.cell? ⟨g,0,none⟩=some a0∧w.cell? ⟨g,1,none⟩=some a1∧w.frozen? ⟨g,0,none⟩=false∧w.frozen? ⟨g,1,none⟩=false:=⟨(kc H.out 0).trans rfl,(kc H.out 1).trans rfl,kf H.out 0,kf H.out 1⟩
theorem bx4 {w:World} {g t:Nat} {a0 a1 a2 a3:Value} (H:AsZ (w.heap[g]? = some (.cells #[a0,a1,a2,a3] t (0,0)))):w.cell? ⟨g,0,none⟩=some a0∧w.cell? ⟨g,1,none⟩=some a1∧w.cell? ⟨g,2,none⟩=some a2∧w.cell? ⟨g,3,none⟩=some a3∧w.frozen? ⟨g,0,none⟩=false∧w.frozen? ⟨g,1,none⟩=false∧w.frozen? ⟨g,2,none⟩=false∧w.frozen? ⟨g,3,none⟩=false:=⟨(kc H.out 0).trans rfl,(kc H.out 1).trans rfl,(kc H.out 2).trans rfl,(kc H.out 3).trans rfl,kf H.out 0,kf H.out 1,kf H.out 2,kf H.out 3⟩
theorem bx5 {w:World} {g t:Nat} {a0 a1 a2 a3 a4:Value} (H:AsZ (w.heap[g]? = some (.cells #[a0,a1,a2,a3,a4] t (0,0)))):w.cell? ⟨g,0,none⟩=some a0∧w.cell? ⟨g,1,none⟩=some a1∧w.cell? ⟨g,2,none⟩=some a2∧w.cell? ⟨g,3,none⟩=some a3∧w.cell? ⟨g,4,none⟩=some a4∧w.frozen? ⟨g,0,none⟩=false∧w.frozen? ⟨g,1,none⟩=false∧w.frozen? ⟨g,2,none⟩=false∧w.frozen? ⟨g,3,none⟩=false∧w.frozen? ⟨g,4,none⟩=false:=⟨(kc H.out 0).trans rfl,(kc H.out 1).trans rfl,(kc H.out 2).trans rfl,(kc H.out 3).trans rfl,(kc H.out 4).trans rfl,kf H.out 0,kf H.out 1,kf H.out 2,kf H.out 3,kf H.out 4⟩
section
variable {P:Program} {ops:Array Oper} {Q:Exit→Act→World→Prop} {md:Region.Mode} {S:World→Prop} {ds:List Nat}
theorem pu (i t:Nat) (l':Array Bool) {oi:Oper} {v:Value} {fuel:Nat} {l:Array Bool} {a a':Act} {w:World} {T:Bool × List (List Nat × List Nat)} (HT:rtab md ops=T) (h:wpAnyLast P md ops Q S ds fuel l' a' w)
  (hi:ops[i]? = some oi:=by exact rfl) (hN:oi.dst=some t:=by exact rfl) (hc:anyT T l.toList l'.toList i=true:=by kernel_rfl) (hQ:∀ c a w,Q (.panic c) (a.put oi.dst v) w→Q (.panic c) a w:=by exact fun _ _ _ h=>h) (hw:Region.wanted oi (yielded ops a.tmps)=true:=by rfl) (hv:∀ w',(execOp a.eval oi).run P w' = .ok (.value v) w':=by intro w';go_simp;with_reducible rfl) (ha:a.put (some t) v=a':=by simp only [Act.put,zS,zT,zU,i64_w,i32_w];rfl):wpAnyLast P md ops Q S ds (fuel + 1) l a w :=
 pure_ l' hi hN (anO HT hc) hQ (Or.inl ⟨hw,hv⟩) ha h
theorem pd (i t:Nat) (l':Array Bool) {oi:Oper} {fuel:Nat} {l:Array Bool} {a a':Act} {w:World} {T:Bool × List (List Nat × List Nat)} (HT:rtab md ops=T) (h:wpAnyLast P md ops Q S ds fuel l' a' w)
  (hi:ops[i]? = some oi:=by exact rfl) (hN:oi.dst=some t:=by exact rfl) (hc:anyT T l.toList l'.toList i=true:=by kernel_rfl) (hQ:∀ c a w,Q (.panic c) (a.put oi.dst undef) w→Q (.panic c) a w:=by exact fun _ _ _ h=>h) (hw:Region.wanted oi (yielded ops a.tmps)=false:=by rfl) (ha:a.put (some t) undef=a':=by simp only [Act.put,zS,zT,zU,i64_w,i32_w];rfl):wpAnyLast P md ops Q S ds (fuel + 1) l a w :=
 pure_ l' hi hN (anO HT hc) hQ (Or.inr ⟨hw,rfl⟩) ha h
theorem tk2 (i t:Nat) (l':Array Bool) {oi:Oper} {v:Value} {fuel:Nat} {l:Array Bool} {a a':Act} {w:World} {T:Bool × List (List Nat × List Nat)} {B:List Nat} (HT:rtab md ops=T) (HW:waitsOk T.2 B=true) (hS:S w) (h:wpAnyLast P md ops Q S ds fuel l' a' w)
  (hi:ops[i]? = some oi:=by exact rfl) (hN:oi.dst=some t:=by exact rfl) (hc:takeW T B ds l.toList l'.toList i=true:=by kernel_rfl) (hQ:∀ c a w,Q (.panic c) (a.put oi.dst v) w→Q (.panic c) a w:=by exact fun _ _ _ h=>h) (hw:Region.wanted oi (yielded ops a.tmps)=true:=by rfl) (hv:∀ w',S w'→(execOp a.eval oi).run P w' = .ok (.value v) w':=by rintro w' ⟨s0,s1⟩;go_simp;with_reducible rfl) (ha:a.put (some t) v=a':=by simp only [Act.put,zS,zT,zU,i64_w,i32_w];rfl):wpAnyLast P md ops Q S ds (fuel + 1) l a w :=
 take_ l' hi hN (tkO HT HW hc) hQ (Or.inl ⟨hw,hv⟩) hS ha h
theorem tk3 (i t:Nat) (l':Array Bool) {oi:Oper} {v:Value} {fuel:Nat} {l:Array Bool} {a a':Act} {w:World} {T:Bool × List (List Nat × List Nat)} {B:List Nat} (HT:rtab md ops=T) (HW:waitsOk T.2 B=true) (hS:S w) (h:wpAnyLast P md ops Q S ds fuel l' a' w)
  (hi:ops[i]? = some oi:=by exact rfl) (hN:oi.dst=some t:=by exact rfl) (hc:takeW T B ds l.toList l'.toList i=true:=by kernel_rfl) (hQ:∀ c a w,Q (.panic c) (a.put oi.dst v) w→Q (.panic c) a w:=by exact fun _ _ _ h=>h) (hw:Region.wanted oi (yielded ops a.tmps)=true:=by rfl) (hv:∀ w',S w'→(execOp a.eval oi).run P w' = .ok (.value v) w':=by rintro w' ⟨s0,s1,s2⟩;go_simp;with_reducible rfl) (ha:a.put (some t) v=a':=by simp only [Act.put,zS,zT,zU,i64_w,i32_w];rfl):wpAnyLast P md ops Q S ds (fuel + 1) l a w :=
 take_ l' hi hN (tkO HT HW hc) hQ (Or.inl ⟨hw,hv⟩) hS ha h
theorem tk4 (i t:Nat) (l':Array Bool) {oi:Oper} {v:Value} {fuel:Nat} {l:Array Bool} {a a':Act} {w:World} {T:Bool × List (List Nat × List Nat)} {B:List Nat} (HT:rtab md ops=T) (HW:waitsOk T.2 B=true) (hS:S w) (h:wpAnyLast P md ops Q S ds fuel l' a' w)
  (hi:ops[i]? = some oi:=by exact rfl) (hN:oi.dst=some t:=by exact rfl) (hc:takeW T B ds l.toList l'.toList i=true:=by kernel_rfl) (hQ:∀ c a w,Q (.panic c) (a.put oi.dst v) w→Q (.panic c) a w:=by exact fun _ _ _ h=>h) (hw:Region.wanted oi (yielded ops a.tmps)=true:=by rfl) (hv:∀ w',S w'→(execOp a.eval oi).run P w' = .ok (.value v) w':=by rintro w' ⟨s0,s1,s2,s3⟩;go_simp;with_reducible rfl) (ha:a.put (some t) v=a':=by simp only [Act.put,zS,zT,zU,i64_w,i32_w];rfl):wpAnyLast P md ops Q S ds (fuel + 1) l a w :=
 take_ l' hi hN (tkO HT HW hc) hQ (Or.inl ⟨hw,hv⟩) hS ha h
theorem tk5 (i t:Nat) (l':Array Bool) {oi:Oper} {v:Value} {fuel:Nat} {l:Array Bool} {a a':Act} {w:World} {T:Bool × List (List Nat × List Nat)} {B:List Nat} (HT:rtab md ops=T) (HW:waitsOk T.2 B=true) (hS:S w) (h:wpAnyLast P md ops Q S ds fuel l' a' w)
  (hi:ops[i]? = some oi:=by exact rfl) (hN:oi.dst=some t:=by exact rfl) (hc:takeW T B ds l.toList l'.toList i=true:=by kernel_rfl) (hQ:∀ c a w,Q (.panic c) (a.put oi.dst v) w→Q (.panic c) a w:=by exact fun _ _ _ h=>h) (hw:Region.wanted oi (yielded ops a.tmps)=true:=by rfl) (hv:∀ w',S w'→(execOp a.eval oi).run P w' = .ok (.value v) w':=by rintro w' ⟨s0,s1,s2,s3,s4⟩;go_simp;with_reducible rfl) (ha:a.put (some t) v=a':=by simp only [Act.put,zS,zT,zU,i64_w,i32_w];rfl):wpAnyLast P md ops Q S ds (fuel + 1) l a w :=
 take_ l' hi hN (tkO HT HW hc) hQ (Or.inl ⟨hw,hv⟩) hS ha h
theorem tk6 (i t:Nat) (l':Array Bool) {oi:Oper} {v:Value} {fuel:Nat} {l:Array Bool} {a a':Act} {w:World} {T:Bool × List (List Nat × List Nat)} {B:List Nat} (HT:rtab md ops=T) (HW:waitsOk T.2 B=true) (hS:S w) (h:wpAnyLast P md ops Q S ds fuel l' a' w)
  (hi:ops[i]? = some oi:=by exact rfl) (hN:oi.dst=some t:=by exact rfl) (hc:takeW T B ds l.toList l'.toList i=true:=by kernel_rfl) (hQ:∀ c a w,Q (.panic c) (a.put oi.dst v) w→Q (.panic c) a w:=by exact fun _ _ _ h=>h) (hw:Region.wanted oi (yielded ops a.tmps)=true:=by rfl) (hv:∀ w',S w'→(execOp a.eval oi).run P w' = .ok (.value v) w':=by rintro w' ⟨s0,s1,s2,s3,s4,s5⟩;go_simp;with_reducible rfl) (ha:a.put (some t) v=a':=by simp only [Act.put,zS,zT,zU,i64_w,i32_w];rfl):wpAnyLast P md ops Q S ds (fuel + 1) l a w :=
 take_ l' hi hN (tkO HT HW hc) hQ (Or.inl ⟨hw,hv⟩) hS ha h
theorem tk7 (i t:Nat) (l':Array Bool) {oi:Oper} {v:Value} {fuel:Nat} {l:Array Bool} {a a':Act} {w:World} {T:Bool × List (List Nat × List Nat)} {B:List Nat} (HT:rtab md ops=T) (HW:waitsOk T.2 B=true) (hS:S w) (h:wpAnyLast P md ops Q S ds fuel l' a' w)
  (hi:ops[i]? = some oi:=by exact rfl) (hN:oi.dst=some t:=by exact rfl) (hc:takeW T B ds l.toList l'.toList i=true:=by kernel_rfl) (hQ:∀ c a w,Q (.panic c) (a.put oi.dst v) w→Q (.panic c) a w:=by exact fun _ _ _ h=>h) (hw:Region.wanted oi (yielded ops a.tmps)=true:=by rfl) (hv:∀ w',S w'→(execOp a.eval oi).run P w' = .ok (.value v) w':=by rintro w' ⟨s0,s1,s2,s3,s4,s5,s6⟩;go_simp;with_reducible rfl) (ha:a.put (some t) v=a':=by simp only [Act.put,zS,zT,zU,i64_w,i32_w];rfl):wpAnyLast P md ops Q S ds (fuel + 1) l a w :=
 take_ l' hi hN (tkO HT HW hc) hQ (Or.inl ⟨hw,hv⟩) hS ha h
theorem tk8 (i t:Nat) (l':Array Bool) {oi:Oper} {v:Value} {fuel:Nat} {l:Array Bool} {a a':Act} {w:World} {T:Bool × List (List Nat × List Nat)} {B:List Nat} (HT:rtab md ops=T) (HW:waitsOk T.2 B=true) (hS:S w) (h:wpAnyLast P md ops Q S ds fuel l' a' w)
  (hi:ops[i]? = some oi:=by exact rfl) (hN:oi.dst=some t:=by exact rfl) (hc:takeW T B ds l.toList l'.toList i=true:=by kernel_rfl) (hQ:∀ c a w,Q (.panic c) (a.put oi.dst v) w→Q (.panic c) a w:=by exact fun _ _ _ h=>h) (hw:Region.wanted oi (yielded ops a.tmps)=true:=by rfl) (hv:∀ w',S w'→(execOp a.eval oi).run P w' = .ok (.value v) w':=by rintro w' ⟨s0,s1,s2,s3,s4,s5,s6,s7⟩;go_simp;with_reducible rfl) (ha:a.put (some t) v=a':=by simp only [Act.put,zS,zT,zU,i64_w,i32_w];rfl):wpAnyLast P md ops Q S ds (fuel + 1) l a w :=
 take_ l' hi hN (tkO HT HW hc) hQ (Or.inl ⟨hw,hv⟩) hS ha h
theorem tk10 (i t:Nat) (l':Array Bool) {oi:Oper} {v:Value} {fuel:Nat} {l:Array Bool} {a a':Act} {w:World} {T:Bool × List (List Nat × List Nat)} {B:List Nat} (HT:rtab md ops=T) (HW:waitsOk T.2 B=true) (hS:S w) (h:wpAnyLast P md ops Q S ds fuel l' a' w)
  (hi:ops[i]? = some oi:=by exact rfl) (hN:oi.dst=some t:=by exact rfl) (hc:takeW T B ds l.toList l'.toList i=true:=by kernel_rfl) (hQ:∀ c a w,Q (.panic c) (a.put oi.dst v) w→Q (.panic c) a w:=by exact fun _ _ _ h=>h) (hw:Region.wanted oi (yielded ops a.tmps)=true:=by rfl) (hv:∀ w',S w'→(execOp a.eval oi).run P w' = .ok (.value v) w':=by rintro w' ⟨s0,s1,s2,s3,s4,s5,s6,s7,s8,s9⟩;go_simp;with_reducible rfl) (ha:a.put (some t) v=a':=by simp only [Act.put,zS,zT,zU,i64_w,i32_w];rfl):wpAnyLast P md ops Q S ds (fuel + 1) l a w :=
 take_ l' hi hN (tkO HT HW hc) hQ (Or.inl ⟨hw,hv⟩) hS ha h
theorem tk11 (i t:Nat) (l':Array Bool) {oi:Oper} {v:Value} {fuel:Nat} {l:Array Bool} {a a':Act} {w:World} {T:Bool × List (List Nat × List Nat)} {B:List Nat} (HT:rtab md ops=T) (HW:waitsOk T.2 B=true) (hS:S w) (h:wpAnyLast P md ops Q S ds fuel l' a' w)
  (hi:ops[i]? = some oi:=by exact rfl) (hN:oi.dst=some t:=by exact rfl) (hc:takeW T B ds l.toList l'.toList i=true:=by kernel_rfl) (hQ:∀ c a w,Q (.panic c) (a.put oi.dst v) w→Q (.panic c) a w:=by exact fun _ _ _ h=>h) (hw:Region.wanted oi (yielded ops a.tmps)=true:=by rfl) (hv:∀ w',S w'→(execOp a.eval oi).run P w' = .ok (.value v) w':=by rintro w' ⟨s0,s1,s2,s3,s4,s5,s6,s7,s8,s9,s10⟩;go_simp;with_reducible rfl) (ha:a.put (some t) v=a':=by simp only [Act.put,zS,zT,zU,i64_w,i32_w];rfl):wpAnyLast P md ops Q S ds (fuel + 1) l a w :=
 take_ l' hi hN (tkO HT HW hc) hQ (Or.inl ⟨hw,hv⟩) hS ha h
theorem tk12 (i t:Nat) (l':Array Bool) {oi:Oper} {v:Value} {fuel:Nat} {l:Array Bool} {a a':Act} {w:World} {T:Bool × List (List Nat × List Nat)} {B:List Nat} (HT:rtab md ops=T) (HW:waitsOk T.2 B=true) (hS:S w) (h:wpAnyLast P md ops Q S ds fuel l' a' w)
  (hi:ops[i]? = some oi:=by exact rfl) (hN:oi.dst=some t:=by exact rfl) (hc:takeW T B ds l.toList l'.toList i=true:=by kernel_rfl) (hQ:∀ c a w,Q (.panic c) (a.put oi.dst v) w→Q (.panic c) a w:=by exact fun _ _ _ h=>h) (hw:Region.wanted oi (yielded ops a.tmps)=true:=by rfl) (hv:∀ w',S w'→(execOp a.eval oi).run P w' = .ok (.value v) w':=by rintro w' ⟨s0,s1,s2,s3,s4,s5,s6,s7,s8,s9,s10,s11⟩;go_simp;with_reducible rfl) (ha:a.put (some t) v=a':=by simp only [Act.put,zS,zT,zU,i64_w,i32_w];rfl):wpAnyLast P md ops Q S ds (fuel + 1) l a w :=
 take_ l' hi hN (tkO HT HW hc) hQ (Or.inl ⟨hw,hv⟩) hS ha h
theorem tk17 (i t:Nat) (l':Array Bool) {oi:Oper} {v:Value} {fuel:Nat} {l:Array Bool} {a a':Act} {w:World} {T:Bool × List (List Nat × List Nat)} {B:List Nat} (HT:rtab md ops=T) (HW:waitsOk T.2 B=true) (hS:S w) (h:wpAnyLast P md ops Q S ds fuel l' a' w)
  (hi:ops[i]? = some oi:=by exact rfl) (hN:oi.dst=some t:=by exact rfl) (hc:takeW T B ds l.toList l'.toList i=true:=by kernel_rfl) (hQ:∀ c a w,Q (.panic c) (a.put oi.dst v) w→Q (.panic c) a w:=by exact fun _ _ _ h=>h) (hw:Region.wanted oi (yielded ops a.tmps)=true:=by rfl) (hv:∀ w',S w'→(execOp a.eval oi).run P w' = .ok (.value v) w':=by rintro w' ⟨s0,s1,s2,s3,s4,s5,s6,s7,s8,s9,s10,s11,s12,s13,s14,s15,s16⟩;go_simp;with_reducible rfl) (ha:a.put (some t) v=a':=by simp only [Act.put,zS,zT,zU,i64_w,i32_w];rfl):wpAnyLast P md ops Q S ds (fuel + 1) l a w :=
 take_ l' hi hN (tkO HT HW hc) hQ (Or.inl ⟨hw,hv⟩) hS ha h
theorem on (i:Nat) (N:Option Tmp) (l':Array Bool) {oi:Oper} {fuel:Nat} {l:Array Bool} {a:Act} {w:World} {T:Bool × List (List Nat × List Nat)} (HT:rtab md ops=T)
  (h:∀ K:Act→World→Prop,Shut (∀ a' w',S w'→(S w'→wpAnyLast P md ops Q S ds fuel l' a' w')→K a' w')→if Region.wanted oi (yielded ops a.tmps)=true then Oper.wp P oi a w K Q else K (a.put N undef) w)
  (hi:ops[i]? = some oi:=by exact rfl) (hN:oi.dst=N:=by exact rfl) (hc:(readyT T.2 l.toList == [i] && l.toList.set i true == l'.toList)=true:=by kernel_rfl) (hd:i ∉ ds:=by decide):wpAnyLast P md ops Q S ds (fuel + 1) l a w:=one_ l' hi hN (one_of HT hc) hd h
theorem gk {rest:List Oper} {oi:Oper} {a:Act} {w:World} (N:Option Tmp) {f:FuncId} {fn:Func} {az:Array Operand} {ts:Array TypeId} (hf:P.funcs[f]? = some fn) (args:Array Value) (h:Calls P f args w fun e w' => ∃ v,e = .returned v∧wpList P ops Q rest (a.put N v) w')
  (hd:oi.dst=N:=by exact rfl) (hg:oi.guard=none:=by exact rfl) (hname:(fn.name == "runtime.NumGoroutine")=false:=by kernel_rfl) (hb:fn.body.isSome=true:=by exact rfl) (hop:oi.op = .call { callee := .value (.func f),args:=az,argTypes:=ts }:=by exact rfl) (hargs:az.map a.eval=args:=by (try simp only [zA,zC,zN]);first|done|rfl|(simp only [zM,zL];rfl)):wpList P ops Q (oi :: rest) a w:=goesL_ N hd hg hf hname hb args hop hargs h
theorem gs {oi:Oper} {N:Option Tmp} {a:Act} {w:World} {K:Act→World→Prop} {f:FuncId} {fn:Func} {az:Array Operand} {ts:Array TypeId} (hf:P.funcs[f]? = some fn) (args:Array Value) (h:Calls P f args w fun e w' => ∃ v,e = .returned v∧K (a.put N v) w')
  (hname:(fn.name == "runtime.NumGoroutine")=false:=by kernel_rfl) (hb:fn.body.isSome=true:=by exact rfl) (hw:Region.wanted oi (yielded ops a.tmps)=true:=by rfl) (hN:oi.dst=N:=by exact rfl) (hop:oi.op = .call { callee := .value (.func f),args:=az,argTypes:=ts }:=by exact rfl) (hargs:az.map a.eval=args:=by (try simp only [zA,zC,zN]);first|done|rfl|(simp only [zM,zL];rfl)):if Region.wanted oi (yielded ops a.tmps)=true then Oper.wp P oi a w K Q else K (a.put N undef) w:=goes_ hf hname hb args hw hN hop hargs h
end
end Go.Proofs.YtffjlpphcjfdgaaDoor.MFnExactInsertSkip
