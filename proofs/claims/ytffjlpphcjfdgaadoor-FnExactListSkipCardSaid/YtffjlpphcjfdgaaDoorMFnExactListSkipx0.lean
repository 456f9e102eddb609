-- Written by a program of this session out of the translation. Not trusted: Lean checks it.
import Derived.Test.YtffjlpphcjfdgaaDoorProg
import Derived.Test.YtffjlpphcjfdgaaDoorVFnExactListSkip
import Derived.Test.YtffjlpphcjfdgaaDoorXTab
import Derived.Below
import Derived.Deep.Draws
import Derived.Deep.AppendLies
import Derived.Maps.AppendAt
import Derived.OwnWalk
import Derived.Laws.BytesArg
import Derived.Laws.MakeOwn
import Derived.Laws.OwnMore
import Derived.Deep.OwnRows
import Derived.Tactics
import Derived.Lib.ConvBytes
import Derived.Laws.Slices
import Derived.WalkKit
import Derived.KernelRfl
import Derived.RowKit3
import Derived.Deep.LoopGhost
import Derived.Deep.QuietTactic
import Derived.BigQuiet
import Derived.WideLaws
import Derived.Deep.DeepCutAuto
import Derived.Deep.CutBlock
import Derived.Deep.RegionHeld3
import Derived.Laws.Rows
import Derived.Lib.AppendStr
import Derived.ArgAppend
import Derived.Laws.IdiomCopy
import Derived.OrdersHeld
import Derived.Laws.BitsLemmas
import Derived.RowKit
import Derived.Test.YtffjlpphcjfdgaaDoorShelf
namespace Go.Proofs.YtffjlpphcjfdgaaDoor.MFnExactListSkip
-- short
-- shrunk
-- TAB
-- RD
open Go.Proofs.YtffjlpphcjfdgaaDoor Go.RowKit Go.Proofs.YtffjlpphcjfdgaaDoorW.PrintWords Go.Proofs.YtffjlpphcjfdgaaDoorW.PrintLast Go.Proofs.YtffjlpphcjfdgaaDoorW.PrintMore Go.Proofs.YtffjlpphcjfdgaaDoorX
attribute [local go_sem] max2_int min2_int max_two min_two max_three min_three max_four min_four str_gtr str_leq str_geq cell_twice
set_option linter.unusedVariables false
set_option linter.unusedSimpArgs false
def errW:Option Int→Value
 |none => .nilIface
 |some c => .iface 0 (.int .i64 c)
theorem errW_none:errW none = .nilIface:=rfl
theorem errW_some (c:Int):errW (some c) = .iface 0 (.int .i64 c):=rfl
theorem info3:(Tryd.prog.info? 3).map (fun i=>(i.zero,i.size,i.bytes))=some (some (.int .i64 0),1,8):=by kernel_rfl
theorem info5:(Tryd.prog.info? 5).map (fun i=>(i.zero,i.size,i.bytes))=some (some (.int .u8 0),1,1):=by kernel_rfl
theorem info28:(Tryd.prog.info? 28).map (fun i=>(i.zero,i.size,i.bytes))=some (some (.agg #[(.string ⟨#[]⟩),(.int .i64 0),(.int .i64 0),(.string ⟨#[]⟩)]),4,48):=by kernel_rfl
theorem info77:(Tryd.prog.info? 77).map (fun i=>(i.zero,i.size,i.bytes))=some (some (.agg #[(.string ⟨#[]⟩),(.int .i64 0),(.int .i64 0),(.string ⟨#[]⟩),(.slice none 0 0)]),5,72):=by kernel_rfl
theorem info106:(Tryd.prog.info? 106).map (fun i=>(i.zero,i.size,i.bytes))=some (some (.int .u32 0),1,4):=by kernel_rfl
-- the values' own types
/-! #### struct type 28 -/
structure S28 where
 f0:ByteArray
 f1:Int
 f2:Int
 f3:ByteArray
def z28:S28:=⟨(⟨#[]⟩:ByteArray),(0:Int),(0:Int),(⟨#[]⟩:ByteArray)⟩
def k28:Kd S28:=Kd.iso (Kd.pair Kd.string (Kd.pair (Kd.int .i64) (Kd.pair (Kd.int .i64) Kd.string))) (fun x:S28=>(x.f0,x.f1,x.f2,x.f3))
theorem k28_open {w:World} {x:S28} {cs:List Value} (h:k28.K w x cs):cs=[.string x.f0,.int .i64 x.f1,.int .i64 x.f2,.string x.f3]:=by
 obtain ⟨_,_,rfl,rfl,⟨_,_,rfl,rfl,⟨_,_,rfl,rfl,rfl⟩⟩⟩:=h
 exact rfl
theorem k28_openM {w:World} {base:Nat} {ok:Nat→Prop} {x:S28} {cs:List Value} (h:k28.M w base ok x cs):cs=[.string x.f0,.int .i64 x.f1,.int .i64 x.f2,.string x.f3]:=by
 obtain ⟨_,_,rfl,rfl,⟨_,_,rfl,rfl,⟨_,_,rfl,rfl,rfl⟩⟩⟩:=h
 exact rfl
theorem k28_mk (w:World) (x:S28)  : k28.K w x [.string x.f0,.int .i64 x.f1,.int .i64 x.f2,.string x.f3]:=⟨[.string x.f0],[.int .i64 x.f1,.int .i64 x.f2,.string x.f3],rfl,rfl,⟨[.int .i64 x.f1],[.int .i64 x.f2,.string x.f3],rfl,rfl,⟨[.int .i64 x.f2],[.string x.f3],rfl,rfl,rfl⟩⟩⟩
theorem k28_mkM (w:World) (base:Nat) (ok:Nat→Prop) (x:S28)  : k28.M w base ok x [.string x.f0,.int .i64 x.f1,.int .i64 x.f2,.string x.f3]:=⟨[.string x.f0],[.int .i64 x.f1,.int .i64 x.f2,.string x.f3],rfl,rfl,⟨[.int .i64 x.f1],[.int .i64 x.f2,.string x.f3],rfl,rfl,⟨[.int .i64 x.f2],[.string x.f3],rfl,rfl,rfl⟩⟩⟩
def rd_T28 (xs:List S28) (i:Int):S28:=xs.getD i.toNat z28
theorem at_T28 {w:World} {A:Option Addr} {n:Nat} {xs:List S28} (h:Kd.C k28 w A n xs) (i:Int) (h0:0≤i) (h1:i < n):∃ ad ,A=some ad∧w.cell? (ad.add (i.toNat * 4))=some (.string (rd_T28 xs i).f0)∧w.cell? ⟨(ad.add (i.toNat * 4)).block,(ad.add (i.toNat * 4)).off + 1,none⟩=some (.int .i64 (rd_T28 xs i).f1)∧w.cell? ⟨(ad.add (i.toNat * 4)).block,(ad.add (i.toNat * 4)).off + 2,none⟩=some (.int .i64 (rd_T28 xs i).f2)∧w.cell? ⟨(ad.add (i.toNat * 4)).block,(ad.add (i.toNat * 4)).off + 3,none⟩=some (.string (rd_T28 xs i).f3):=by
 obtain ⟨ad,c,e,_,hK,hc0⟩:=Kd.C_get h z28 i h0 h1
 have hc:∀ j u,c[j]? = some u→w.cell? (ad.add (i.toNat * 4 + j))=some u:=hc0
 obtain rfl:=k28_open hK
 exact ⟨ad,e,hc 0 _ rfl,by rw [← add_field _ _ 1 (by omega)];exact hc 1 _ rfl,by rw [← add_field _ _ 2 (by omega)];exact hc 2 _ rfl,by rw [← add_field _ _ 3 (by omega)];exact hc 3 _ rfl⟩
def rd_L4 (xs:List (List Int)) (i:Int):(List Int):=xs.getD i.toNat ([]:List Int)
theorem at_L4 {w:World} {A:Option Addr} {n:Nat} {xs:List (List Int)} (h:Kd.C (Kd.slice 3 (Kd.int .i64)) w A n xs) (i:Int) (h0:0≤i) (h1:i < n):∃ ad A0 c0,A=some ad∧w.cell? (ad.add i.toNat)=some (.slice A0 (rd_L4 xs i).length c0)∧(rd_L4 xs i).length≤c0∧(Kd.int .i64).C w A0 (rd_L4 xs i).length (rd_L4 xs i):=by
 obtain ⟨ad,c,e,_,hK,hc0⟩:=Kd.C_get h ([]:List Int) i h0 h1
 have hc:∀ j u,c[j]? = some u→w.cell? (ad.add (i.toNat * 1 + j))=some u:=hc0
 obtain ⟨A0,c0,rfl,l0,g0⟩:=hK
 exact ⟨ad,A0,c0,e,by have hq:=hc 0 _ rfl;rwa [Nat.mul_one,Nat.add_zero] at hq,l0,g0⟩
/-! #### struct type 77 -/
structure S77 where
 f0:S28
 f1:(List Int)
def z77:S77:=⟨z28,([]:List Int)⟩
def k77:Kd S77:=Kd.iso (Kd.pair k28 (Kd.slice 3 (Kd.int .i64))) (fun x:S77=>(x.f0,x.f1))
theorem k77_open {w:World} {x:S77} {cs:List Value} (h:k77.K w x cs):∃ A4 c4,cs=[.string x.f0.f0,.int .i64 x.f0.f1,.int .i64 x.f0.f2,.string x.f0.f3,.slice A4 x.f1.length c4]∧x.f1.length≤c4∧(Kd.int .i64).C w A4 x.f1.length x.f1:=by
 obtain ⟨_,_,rfl,s0,⟨A4,c4,rfl,l4,g4⟩⟩:=h
 obtain rfl:=k28_open s0
 exact ⟨A4,c4,rfl,l4,g4⟩
theorem k77_openM {w:World} {base:Nat} {ok:Nat→Prop} {x:S77} {cs:List Value} (h:k77.M w base ok x cs):∃ v4,cs=[.string x.f0.f0,.int .i64 x.f0.f1,.int .i64 x.f0.f2,.string x.f0.f3,v4]∧(Kd.int .i64).R 3 w base ok v4 x.f1:=by
 obtain ⟨_,_,rfl,s0,⟨v4,rfl,g4⟩⟩:=h
 obtain rfl:=k28_openM s0
 exact ⟨v4,rfl,g4⟩
theorem k77_mk (w:World) (x:S77) {A4:Option Addr} {c4:Nat} (l4:x.f1.length≤c4) (g4:(Kd.int .i64).C w A4 x.f1.length x.f1):k77.K w x [.string x.f0.f0,.int .i64 x.f0.f1,.int .i64 x.f0.f2,.string x.f0.f3,.slice A4 x.f1.length c4]:=⟨[.string x.f0.f0,.int .i64 x.f0.f1,.int .i64 x.f0.f2,.string x.f0.f3],[.slice A4 x.f1.length c4],rfl,(k28_mk w x.f0 ),⟨A4,c4,rfl,l4,g4⟩⟩
theorem k77_mkM (w:World) (base:Nat) (ok:Nat→Prop) (x:S77) {v4:Value} (g4:(Kd.int .i64).R 3 w base ok v4 x.f1):k77.M w base ok x [.string x.f0.f0,.int .i64 x.f0.f1,.int .i64 x.f0.f2,.string x.f0.f3,v4]:=⟨[.string x.f0.f0,.int .i64 x.f0.f1,.int .i64 x.f0.f2,.string x.f0.f3],[v4],rfl,(k28_mkM w base ok x.f0 ),⟨v4,rfl,g4⟩⟩
def rd_T77 (xs:List S77) (i:Int):S77:=xs.getD i.toNat z77
theorem at_T77 {w:World} {A:Option Addr} {n:Nat} {xs:List S77} (h:Kd.C k77 w A n xs) (i:Int) (h0:0≤i) (h1:i < n):∃ ad A4 c4,A=some ad∧w.cell? (ad.add (i.toNat * 5))=some (.string (rd_T77 xs i).f0.f0)∧w.cell? ⟨(ad.add (i.toNat * 5)).block,(ad.add (i.toNat * 5)).off + 1,none⟩=some (.int .i64 (rd_T77 xs i).f0.f1)∧w.cell? ⟨(ad.add (i.toNat * 5)).block,(ad.add (i.toNat * 5)).off + 2,none⟩=some (.int .i64 (rd_T77 xs i).f0.f2)∧w.cell? ⟨(ad.add (i.toNat * 5)).block,(ad.add (i.toNat * 5)).off + 3,none⟩=some (.string (rd_T77 xs i).f0.f3)∧w.cell? ⟨(ad.add (i.toNat * 5)).block,(ad.add (i.toNat * 5)).off + 4,none⟩=some (.slice A4 (rd_T77 xs i).f1.length c4)∧(rd_T77 xs i).f1.length≤c4∧(Kd.int .i64).C w A4 (rd_T77 xs i).f1.length (rd_T77 xs i).f1:=by
 obtain ⟨ad,c,e,_,hK,hc0⟩:=Kd.C_get h z77 i h0 h1
 have hc:∀ j u,c[j]? = some u→w.cell? (ad.add (i.toNat * 5 + j))=some u:=hc0
 obtain ⟨A4,c4,rfl,l4,g4⟩:=k77_open hK
 exact ⟨ad,A4,c4,e,hc 0 _ rfl,by rw [← add_field _ _ 1 (by omega)];exact hc 1 _ rfl,by rw [← add_field _ _ 2 (by omega)];exact hc 2 _ rfl,by rw [← add_field _ _ 3 (by omega)];exact hc 3 _ rfl,by rw [← add_field _ _ 4 (by omega)];exact hc 4 _ rfl,l4,g4⟩
/-! #### struct type 51 -/
structure S51 where
 f0:ByteArray
 f1:Int
 f2:Int
 f3:ByteArray
def z51:S51:=⟨(⟨#[]⟩:ByteArray),(0:Int),(0:Int),(⟨#[]⟩:ByteArray)⟩
def k51:Kd S51:=Kd.iso (Kd.pair Kd.string (Kd.pair (Kd.int .i64) (Kd.pair (Kd.int .i64) Kd.string))) (fun x:S51=>(x.f0,x.f1,x.f2,x.f3))
theorem k51_open {w:World} {x:S51} {cs:List Value} (h:k51.K w x cs):cs=[.string x.f0,.int .i64 x.f1,.int .i64 x.f2,.string x.f3]:=by
 obtain ⟨_,_,rfl,rfl,⟨_,_,rfl,rfl,⟨_,_,rfl,rfl,rfl⟩⟩⟩:=h
 exact rfl
theorem k51_openM {w:World} {base:Nat} {ok:Nat→Prop} {x:S51} {cs:List Value} (h:k51.M w base ok x cs):cs=[.string x.f0,.int .i64 x.f1,.int .i64 x.f2,.string x.f3]:=by
 obtain ⟨_,_,rfl,rfl,⟨_,_,rfl,rfl,⟨_,_,rfl,rfl,rfl⟩⟩⟩:=h
 exact rfl
theorem k51_mk (w:World) (x:S51)  : k51.K w x [.string x.f0,.int .i64 x.f1,.int .i64 x.f2,.string x.f3]:=⟨[.string x.f0],[.int .i64 x.f1,.int .i64 x.f2,.string x.f3],rfl,rfl,⟨[.int .i64 x.f1],[.int .i64 x.f2,.string x.f3],rfl,rfl,⟨[.int .i64 x.f2],[.string x.f3],rfl,rfl,rfl⟩⟩⟩
theorem k51_mkM (w:World) (base:Nat) (ok:Nat→Prop) (x:S51)  : k51.M w base ok x [.string x.f0,.int .i64 x.f1,.int .i64 x.f2,.string x.f3]:=⟨[.string x.f0],[.int .i64 x.f1,.int .i64 x.f2,.string x.f3],rfl,rfl,⟨[.int .i64 x.f1],[.int .i64 x.f2,.string x.f3],rfl,rfl,⟨[.int .i64 x.f2],[.string x.f3],rfl,rfl,rfl⟩⟩⟩
def rd_T51 (xs:List S51) (i:Int):S51:=xs.getD i.toNat z51
theorem at_T51 {w:World} {A:Option Addr} {n:Nat} {xs:List S51} (h:Kd.C k51 w A n xs) (i:Int) (h0:0≤i) (h1:i < n):∃ ad ,A=some ad∧w.cell? (ad.add (i.toNat * 4))=some (.string (rd_T51 xs i).f0)∧w.cell? ⟨(ad.add (i.toNat * 4)).block,(ad.add (i.toNat * 4)).off + 1,none⟩=some (.int .i64 (rd_T51 xs i).f1)∧w.cell? ⟨(ad.add (i.toNat * 4)).block,(ad.add (i.toNat * 4)).off + 2,none⟩=some (.int .i64 (rd_T51 xs i).f2)∧w.cell? ⟨(ad.add (i.toNat * 4)).block,(ad.add (i.toNat * 4)).off + 3,none⟩=some (.string (rd_T51 xs i).f3):=by
 obtain ⟨ad,c,e,_,hK,hc0⟩:=Kd.C_get h z51 i h0 h1
 have hc:∀ j u,c[j]? = some u→w.cell? (ad.add (i.toNat * 4 + j))=some u:=hc0
 obtain rfl:=k51_open hK
 exact ⟨ad,e,hc 0 _ rfl,by rw [← add_field _ _ 1 (by omega)];exact hc 1 _ rfl,by rw [← add_field _ _ 2 (by omega)];exact hc 2 _ rfl,by rw [← add_field _ _ 3 (by omega)];exact hc 3 _ rfl⟩
/-! #### struct type 113 -/
structure S113 where
 f0:S51
 f1:(List Int)
def z113:S113:=⟨z51,([]:List Int)⟩
def k113:Kd S113:=Kd.iso (Kd.pair k51 (Kd.slice 3 (Kd.int .i64))) (fun x:S113=>(x.f0,x.f1))
theorem k113_open {w:World} {x:S113} {cs:List Value} (h:k113.K w x cs):∃ A4 c4,cs=[.string x.f0.f0,.int .i64 x.f0.f1,.int .i64 x.f0.f2,.string x.f0.f3,.slice A4 x.f1.length c4]∧x.f1.length≤c4∧(Kd.int .i64).C w A4 x.f1.length x.f1:=by
 obtain ⟨_,_,rfl,s0,⟨A4,c4,rfl,l4,g4⟩⟩:=h
 obtain rfl:=k51_open s0
 exact ⟨A4,c4,rfl,l4,g4⟩
theorem k113_openM {w:World} {base:Nat} {ok:Nat→Prop} {x:S113} {cs:List Value} (h:k113.M w base ok x cs):∃ v4,cs=[.string x.f0.f0,.int .i64 x.f0.f1,.int .i64 x.f0.f2,.string x.f0.f3,v4]∧(Kd.int .i64).R 3 w base ok v4 x.f1:=by
 obtain ⟨_,_,rfl,s0,⟨v4,rfl,g4⟩⟩:=h
 obtain rfl:=k51_openM s0
 exact ⟨v4,rfl,g4⟩
theorem k113_mk (w:World) (x:S113) {A4:Option Addr} {c4:Nat} (l4:x.f1.length≤c4) (g4:(Kd.int .i64).C w A4 x.f1.length x.f1):k113.K w x [.string x.f0.f0,.int .i64 x.f0.f1,.int .i64 x.f0.f2,.string x.f0.f3,.slice A4 x.f1.length c4]:=⟨[.string x.f0.f0,.int .i64 x.f0.f1,.int .i64 x.f0.f2,.string x.f0.f3],[.slice A4 x.f1.length c4],rfl,(k51_mk w x.f0 ),⟨A4,c4,rfl,l4,g4⟩⟩
theorem k113_mkM (w:World) (base:Nat) (ok:Nat→Prop) (x:S113) {v4:Value} (g4:(Kd.int .i64).R 3 w base ok v4 x.f1):k113.M w base ok x [.string x.f0.f0,.int .i64 x.f0.f1,.int .i64 x.f0.f2,.string x.f0.f3,v4]:=⟨[.string x.f0.f0,.int .i64 x.f0.f1,.int .i64 x.f0.f2,.string x.f0.f3],[v4],rfl,(k51_mkM w base ok x.f0 ),⟨v4,rfl,g4⟩⟩
def rd_T113 (xs:List S113) (i:Int):S113:=xs.getD i.toNat z113
theorem at_T113 {w:World} {A:Option Addr} {n:Nat} {xs:List S113} (h:Kd.C k113 w A n xs) (i:Int) (h0:0≤i) (h1:i < n):∃ ad A4 c4,A=some ad∧w.cell? (ad.add (i.toNat * 5))=some (.string (rd_T113 xs i).f0.f0)∧w.cell? ⟨(ad.add (i.toNat * 5)).block,(ad.add (i.toNat * 5)).off + 1,none⟩=some (.int .i64 (rd_T113 xs i).f0.f1)∧w.cell? ⟨(ad.add (i.toNat * 5)).block,(ad.add (i.toNat * 5)).off + 2,none⟩=some (.int .i64 (rd_T113 xs i).f0.f2)∧w.cell? ⟨(ad.add (i.toNat * 5)).block,(ad.add (i.toNat * 5)).off + 3,none⟩=some (.string (rd_T113 xs i).f0.f3)∧w.cell? ⟨(ad.add (i.toNat * 5)).block,(ad.add (i.toNat * 5)).off + 4,none⟩=some (.slice A4 (rd_T113 xs i).f1.length c4)∧(rd_T113 xs i).f1.length≤c4∧(Kd.int .i64).C w A4 (rd_T113 xs i).f1.length (rd_T113 xs i).f1:=by
 obtain ⟨ad,c,e,_,hK,hc0⟩:=Kd.C_get h z113 i h0 h1
 have hc:∀ j u,c[j]? = some u→w.cell? (ad.add (i.toNat * 5 + j))=some u:=hc0
 obtain ⟨A4,c4,rfl,l4,g4⟩:=k113_open hK
 exact ⟨ad,A4,c4,e,hc 0 _ rfl,by rw [← add_field _ _ 1 (by omega)];exact hc 1 _ rfl,by rw [← add_field _ _ 2 (by omega)];exact hc 2 _ rfl,by rw [← add_field _ _ 3 (by omega)];exact hc 3 _ rfl,by rw [← add_field _ _ 4 (by omega)];exact hc 4 _ rfl,l4,g4⟩
end Go.Proofs.YtffjlpphcjfdgaaDoor.MFnExactListSkip
