/-
  - What an insertion answers is small.
-/
import Derived.Test.YtffjlpphcjfdgaaDoorMFnExactInsertSkipx20
namespace Go.Proofs.YtffjlpphcjfdgaaDoor.Pure
-- joined
-- short
open Go Go.RowKit Go.Proofs.YtffjlpphcjfdgaaDoor.MFnExactInsertSkip Go.Proofs.YtffjlpphcjfdgaaDoorW.PrintWords Go.Proofs.YtffjlpphcjfdgaaDoorW.PrintLast Go.Proofs.YtffjlpphcjfdgaaDoorW.PrintMore
set_option linter.unusedVariables false
set_option linter.unusedSimpArgs false
-- part base: plain facts on Go's numbers and on rounds
theorem lt_mn {i a b:Int}:i < mn a b↔i < a∧i < b:=by unfold mn;split<;>omega
theorem mn_le {a b:Int}:mn a b≤a∧mn a b≤b:=by unfold mn;split<;>omega
theorem w64 {n:Int} (h0 : -9223372036854775808≤n) (h1:n≤9223372036854775807):wrap64 n=n:=by unfold wrap64;omega
theorem wrap_u64 (n:Int):IntKind.u64.wrap n=n % 18446744073709551616:=by simp [IntKind.wrap,IntKind.bits,IntKind.signed]
theorem wu64 {n:Int} (h0:0≤n) (h1:n≤18446744073709551615):IntKind.u64.wrap n=n:=by rw [wrap_u64];omega
theorem wu32 {n:Int} (h0:0≤n) (h1:n≤4294967295):IntKind.u32.wrap n=n:=by rw [IntKind.wrap_u32];omega
theorem wraps_u32 (n:Int) (h₀:0≤n) (h₁:n < 2 ^ 32):IntKind.u32.wrap n=n:=by rw [IntKind.wrap_u32];omega
theorem wraps_i64 (n:Int) (h₀:0≤n) (h₁:n < 2 ^ 63):IntKind.i64.wrap n=n:=by rw [IntKind.wrap_i64];omega
theorem and127 {b:Int} (h0:0≤b) (h1:b≤255):Go.bits .and .u8 b 127=b % 128:=bits_mask .u8 8 (by decide) wraps_u8 7 (by decide) b h0 (by omega)
theorem wf_i64 {n:Int} (h:(Lit.int .i64 n).wf=true) : -9223372036854775808≤n∧n≤9223372036854775807:=by
  simp only [Lit.wf,Bool.and_eq_true,decide_eq_true_eq] at h;exact h
theorem wf_u32 {n:Int} (h:(Lit.int .u32 n).wf=true):0≤n∧n≤4294967295:=by
  simp only [Lit.wf,Bool.and_eq_true,decide_eq_true_eq] at h;exact h
theorem bits_or_comm (k:IntKind) (x y:Int):Go.bits .or k x y=Go.bits .or k y x:=by
  simp only [Go.bits,BitVec.or_comm]
theorem and127i {b:Int} (h0:0≤b) (h1:b≤9223372036854775807):Go.bits .and .i64 b 127=b % 128:=bits_mask .i64 63 (by decide) wraps_i64 7 (by decide) b h0 (by omega)
theorem or128i {b:Int} (h0:0≤b) (h1:b < 128):Go.bits .or .i64 b 128=b + 128:=by
  rw [bits_or_comm,bits_join .i64 63 (by decide) wraps_i64 7 128 b (by omega) (by omega) (by omega) h0 (by omega) (by omega)];omega
theorem Ev.ite_ {α:Type} {c:Prop} [Decidable c] {g f:Nat→Option α} {r:α} (h:c→Ev g r) (k:¬c→Ev f r):Ev (fun n=>if c then g n else f n) r:=by
  by_cases hc:c
  · simp only [if_pos hc];exact h hc
  · simp only [if_neg hc];exact k hc
theorem Ev.pos_ {α:Type} {c:Prop} [Decidable c] {g f:Nat→Option α} {r:α} (hc:c) (h:Ev g r):Ev (fun n=>if c then g n else f n) r:=by simp only [if_pos hc];exact h
theorem Ev.neg_ {α:Type} {c:Prop} [Decidable c] {g f:Nat→Option α} {r:α} (hc:¬c) (h:Ev f r):Ev (fun n=>if c then g n else f n) r:=by simp only [if_neg hc];exact h
theorem Ev.some_ {α β:Type} {f:Nat→α→Option β} {x:α} {r:β} (h:Ev (fun n=>f n x) r):Ev (fun n=>(some x).bind (f n)) r:=by simpa only [Option.bind_some] using h
theorem bo_and (b c:Bool):(if b=true then some c else some false)=some (b && c):=by cases b<;>rfl
theorem bo_andP (p:Prop) [Decidable p] (c:Bool):(if p then some c else some false)=some (decide p && c):=by by_cases h:p<;>simp [h]
theorem bo_orP (p:Prop) [Decidable p] (c:Bool):(if p then some true else some c)=some (decide p || c):=by by_cases h:p<;>simp [h]
theorem bo_or (b c:Bool):(if b=true then some true else some c)=some (b || c):=by cases b<;>rfl
def inB (a lo hi:Int):Bool:=decide (lo≤a) && decide (a≤hi)
theorem inB_iff {a lo hi:Int}:inB a lo hi=true↔lo≤a∧a≤hi:=by simp [inB]
-- part listM: loops over lists by their index
def mkL {α:Type} (enc:Int→α) (c:Int):Nat→Int→List α
  |0,_=>[]
  |d + 1,m=>enc m :: mkL enc c d (m + c)
theorem mkL_len {α:Type} (enc:Int→α) (c:Int):∀ (d:Nat) (m:Int),(mkL enc c d m).length=d:=by
  intro d;induction d with
  |zero=>intro m;rfl
  |succ d ih=>intro m;simp [mkL,ih]
theorem mark_gen {α:Type} (L:Nat→List α→Int→Int→Option (Int × List α)) (enc:Int→α) (c B:Int) (hc:0≤c)
    (hstep:∀ (xs:List α) (m:Int) (i:Nat) (r:Int × List α),0 < m→m + c≤B→i < xs.length→xs.length≤140737488351232→Ev (fun k=>L k (xs.set i (enc m)) (m + c) ((i + 1:Nat):Int)) r→Ev (fun k=>L k xs m (i:Int)) r)
    (hend:∀ (xs:List α) (m:Int),Ev (fun k=>L k xs m (xs.length:Int)) (m,xs)) :
    ∀ (d:Nat) (xs:List α) (m:Int) (i:Nat),i + d=xs.length→0 < m→m + c * d≤B→xs.length≤140737488351232→Ev (fun k=>L k xs m (i:Int)) (m + c * d,xs.take i ++ mkL enc c d m):=by
  intro d
  induction d with
  | zero =>
    intro xs m i hi hm hB hl;have:=hend xs m;obtain rfl:i=xs.length:=by omega
    simpa [mkL] using this
  | succ d ih =>
    intro xs m i hi hm hB hl;have hcd:c * ((d + 1:Nat):Int)=c * d + c:=by rw [Int.natCast_add,Int.mul_add];simp
    have hcd0:0≤c * (d:Int):=Int.mul_nonneg hc (by omega);refine hstep xs m i _ hm (by omega) (by omega) hl ?_;have:=ih (xs.set i (enc m)) (m + c) (i + 1) (by simp;omega) (by omega) (by omega) (by simpa using hl)
    have e:(xs.set i (enc m)).take (i + 1) ++ mkL enc c d (m + c)=xs.take i ++ mkL enc c (d + 1) m:=by
      rw [List.take_set,List.take_succ_eq_append_getElem (by omega),List.set_append_right _ _ (by simp;omega)];simp [mkL,Nat.min_eq_left (show i≤xs.length by omega)]
    rw [e] at this;rw [show m + c * ((d + 1:Nat):Int)=m + c + c * d by omega];exact this
theorem held_gen {α:Type} (H:Nat→List α→Int→Int→Option Int) (enc:Int→α) (c B:Int) (hc:0≤c)
    (hstep:∀ (xs:List α) (m:Int) (i:Nat) (r:Int),0 < m→m + c≤B→i < xs.length→xs.length≤140737488351232→xs[i]? = some (enc m)→Ev (fun k=>H k xs (m + c) ((i + 1:Nat):Int)) r→Ev (fun k=>H k xs m (i:Int)) r)
    (hend:∀ (xs:List α) (m:Int),Ev (fun k=>H k xs m (xs.length:Int)) m) :
    ∀ (d:Nat) (pre:List α) (m:Int),0 < m→m + c * d≤B→pre.length + d≤140737488351232→Ev (fun k=>H k (pre ++ mkL enc c d m) m (pre.length:Int)) (m + c * d):=by
  intro d
  induction d with
  | zero =>
    intro pre m hm hB hl;have:=hend pre m
    simpa [mkL] using this
  | succ d ih =>
    intro pre m hm hB hl;have hcd:c * ((d + 1:Nat):Int)=c * d + c:=by rw [Int.natCast_add,Int.mul_add];simp
    have hcd0:0≤c * (d:Int):=Int.mul_nonneg hc (by omega);refine hstep _ m pre.length _ hm (by omega) (by simp [mkL]) (by simp [mkL_len];omega) (by simp [mkL]) ?_;have:=ih (pre ++ [enc m]) (m + c) (by omega) (by omega) (by simp;omega);rw [show m + c * ((d + 1:Nat):Int)=m + c + c * d by omega]
    simpa [mkL] using this
theorem to_gen {α β:Type} (L:Nat→List α→List β→Int→Option (List β)) (f:α→β) (z:β) (za:α)
    (hstep:∀ (xs:List α) (ys:List β) (i:Nat) (r:List β),i < xs.length→i < ys.length→xs.length≤140737488351232→Ev (fun k=>L k xs (ys.set i (f (xs.getD i za))) ((i + 1:Nat):Int)) r→Ev (fun k=>L k xs ys (i:Int)) r)
    (hend:∀ (xs:List α) (ys:List β),Ev (fun k=>L k xs ys (xs.length:Int)) ys) :
    ∀ (d:Nat) (xs:List α) (i:Nat),i + d=xs.length→xs.length≤140737488351232→Ev (fun k=>L k xs ((xs.take i).map f ++ List.replicate d z) (i:Int)) (xs.map f):=by
  intro d
  induction d with
  | zero =>
    intro xs i hi hl;obtain rfl:i=xs.length:=by omega
    have:=hend xs (xs.map f)
    simpa using this
  | succ d ih =>
    intro xs i hi hl;refine hstep xs _ i _ (by omega) (by simp;omega) hl ?_;have:=ih xs (i + 1) (by omega) hl
    have e:((xs.take i).map f ++ List.replicate (d + 1) z).set i (f (xs.getD i za))=(xs.take (i + 1)).map f ++ List.replicate d z:=by
      have h0:i - ((xs.take i).map f).length=0:=by simp;omega
      rw [List.take_succ_eq_append_getElem (show i < xs.length by omega),List.map_append,List.set_append_right _ _ (by simp;omega),List.append_assoc,h0]
      congr 1
      simp [List.replicate_succ,List.getD_eq_getElem?_getD,List.getElem?_eq_getElem (show i < xs.length by omega)]
    rw [e];exact this
theorem eq_gen {α:Type} (E:Nat→List α→List α→Int→Option Bool)
    (hstep:∀ (xs:List α) (i:Nat),i < xs.length→xs.length≤140737488351232→Ev (fun k=>E k xs xs ((i + 1:Nat):Int)) true→Ev (fun k=>E k xs xs (i:Int)) true)
    (hend:∀ (xs:List α),Ev (fun k=>E k xs xs (xs.length:Int)) true) :
    ∀ (d:Nat) (xs:List α) (i:Nat),i + d=xs.length→xs.length≤140737488351232→Ev (fun k=>E k xs xs (i:Int)) true:=by
  intro d
  induction d with
  | zero => intro xs i hi hl; obtain rfl : i = xs.length := by omega
            exact hend xs
  |succ d ih=>intro xs i hi hl;exact hstep xs i (by omega) hl (ih xs (i + 1) (by omega) hl)
theorem sz_gen {α:Type} (Z:Nat→List α→Int→Int→Option Int)
    (hstep:∀ (xs:List α) (m:Int) (i:Nat),i < xs.length→xs.length≤140737488351232→(∀ m',∃ r,Ev (fun k=>Z k xs m' ((i + 1:Nat):Int)) r) → ∃ r,Ev (fun k=>Z k xs m (i:Int)) r)
    (hend:∀ (xs:List α) (m:Int),∃ r,Ev (fun k=>Z k xs m (xs.length:Int)) r) :
    ∀ (d:Nat) (xs:List α) (m:Int) (i:Nat),i + d=xs.length→xs.length≤140737488351232 → ∃ r,Ev (fun k=>Z k xs m (i:Int)) r:=by
  intro d
  induction d with
  | zero => intro xs m i hi hl; obtain rfl : i = xs.length := by omega
            exact hend xs m
  |succ d ih=>intro xs m i hi hl;exact hstep xs m i (by omega) hl (fun m'=>ih xs m' (i + 1) (by omega) hl)
theorem wi {i n:Nat} (h:i < n) (hn:n≤140737488351232):wrap64 ((i:Int) + 1)=((i + 1:Nat):Int):=by rw [w64 (by omega) (by omega)];omega
theorem rd_nat (xs:List Int) (i:Nat):rd xs (i:Int)=xs.getD i 0:=by unfold rd;rw [Int.toNat_natCast]
theorem rdOf_nat {α:Type} (d:α) (xs:List α) (i:Nat):rdOf d xs (i:Int)=xs.getD i d:=by unfold rdOf;rw [Int.toNat_natCast]
theorem getD_of {α:Type} {xs:List α} {i:Nat} {a:α} (d:α) (h:xs[i]? = some a):xs.getD i d=a:=by rw [List.getD_eq_getElem?_getD,h];rfl
-- part eqIntS needs laws_eqIntS.f
theorem eqIntS_refl (l:List Int) (hl:l.length≤140737488351232):Ev (fun k=>laws_eqIntS.f k l l) true:=by
  unfold laws_eqIntS.f;refine Ev.pos_ rfl (eq_gen laws_eqIntS.l0 (fun xs i hi hn h=>Ev.step (fun k=>?_) h) (fun xs=>Ev.step (f:=fun _=>some true) (fun k=>?_) (Ev.now _)) l.length l 0 (by omega) hl)
  · simp only [laws_eqIntS.l0];rw [if_pos (by omega),if_pos (by omega),if_pos (by omega),if_pos trivial,wi hi hn]
  · simp only [laws_eqIntS.l0];rw [if_neg (by omega)]
-- part markIntS needs laws_markIntS.f
theorem markIntS_gen (l:List Int) (m:Int) (hm:0 < m) (hB:m + l.length≤4611686018427387904) (hl:l.length≤140737488351232):Ev (fun k=>laws_markIntS.f k l m) (m + 1 * l.length,mkL (fun m=>m) 1 l.length m):=by
  have:=mark_gen laws_markIntS.l0 (fun m=>m) 1 4611686018427387904 (by omega) (fun xs m i r hm hB hi hn h=>Ev.step (fun k=>?_) h) (fun xs m=>Ev.step (f:=fun _=>some (m,xs)) (fun k=>?_) (Ev.now _)) l.length l m 0 (by omega) hm (by omega) hl
  · unfold laws_markIntS.f;simpa using this
  · simp only [laws_markIntS.l0];rw [if_pos (by omega),if_pos (by omega),wi hi hn,Int.toNat_natCast,w64 (by omega) (by omega)]
  · simp only [laws_markIntS.l0];rw [if_neg (by omega)]
-- part heldIntS needs laws_heldIntS.f
theorem heldIntS_gen (n:Nat) (m:Int) (hm:0 < m) (hB:m + n≤4611686018427387904) (hl:n≤140737488351232):Ev (fun k=>laws_heldIntS.f k (mkL (fun m=>m) 1 n m) m) (m + 1 * n):=by
  have:=held_gen laws_heldIntS.l0 (fun m=>m) 1 4611686018427387904 (by omega) (fun xs m i r hm hB hi hn he h=>Ev.step (fun k=>?_) h) (fun xs m=>Ev.step (f:=fun _=>some m) (fun k=>?_) (Ev.now _)) n [] m hm (by omega) (by simpa using hl)
  · unfold laws_heldIntS.f;simpa using this
  · simp only [laws_heldIntS.l0];rw [if_pos (by omega),if_pos (by omega),rd_nat,getD_of 0 he,if_pos rfl,wi hi hn,w64 (by omega) (by omega)]
  · simp only [laws_heldIntS.l0];rw [if_neg (by omega)]
-- part specIn needs spec_l1In.f
theorem spec_in (a lo hi:Int):spec_l1In.f a lo hi=some (inB a lo hi):=by
  unfold spec_l1In.f inB;rw [bo_andP]
-- part implIn needs impl_in.f
theorem impl_in_ (a lo hi:Int):impl_in.f a lo hi=some (inB a lo hi):=by
  unfold impl_in.f inB;rw [bo_andP]
-- part goodItem
def keyB (k:ByteArray):Bool:=inB (k.size:Int) 1 16
def seqB (q:Int):Bool:=inB q 0 1000000000
def goodItemB (k:ByteArray) (q d:Int) (v:ByteArray):Bool:=keyB k && (seqB q && (inB d 0 1 && (decide ((v.size:Int)≤40) && (decide (d=1) || (v.toList == ([]:List UInt8))))))
-- part specGoodItem needs spec_GoodItem.f
theorem spec_goodItem (k:ByteArray) (q d:Int) (v:ByteArray):spec_GoodItem.f k q d v=some (goodItemB k q d v):=by
  unfold spec_GoodItem.f spec_l4Key.f spec_l4Seq.f goodItemB keyB seqB;simp only [spec_in,Option.bind_some,bo_andP,bo_orP,Bool.decide_eq_true]
-- part implGoodItem needs impl_GoodItem.f
theorem impl_goodItem (k:ByteArray) (q d:Int) (v:ByteArray):impl_GoodItem.f k q d v=some (goodItemB k q d v):=by
  unfold impl_GoodItem.f impl_isKey.f impl_isSeq.f impl_isValue.f goodItemB keyB seqB;simp only [impl_in_,Option.bind_some,bo_andP,bo_orP,Bool.decide_eq_true]
-- part sumM: the table of sums and the sum of a text
def crcStep (n:Int):Int:=if Go.bits .and .u32 n 1=1 then Go.bits .xor .u32 (n / 2) 2197175160 else n / 2
def crcIt:Nat→Int→Int
  |0,n=>n
  |d + 1,n=>crcIt d (crcStep n)
def crcE (i:Nat):Int:=crcIt 8 (i:Int)
def crcT:List Int:=(List.range 256).map crcE
theorem crcT_len:crcT.length=256:=by simp [crcT]
theorem xor_comm_ (k:IntKind) (x y:Int):Go.bits .xor k x y=Go.bits .xor k y x:=by simp only [Go.bits,BitVec.xor_comm]
theorem bits_u8 (op:BinOp) (x y:Int):0≤Go.bits op .u8 x y∧Go.bits op .u8 x y < 256:=by
  unfold Go.bits;rw [IntKind.wrap_u8];exact ⟨Int.emod_nonneg _ (by decide),Int.emod_lt_of_pos _ (by decide)⟩
theorem bits_u32 (op:BinOp) (x y:Int):0≤Go.bits op .u32 x y∧Go.bits op .u32 x y < 4294967296:=by
  unfold Go.bits;rw [IntKind.wrap_u32];exact ⟨Int.emod_nonneg _ (by decide),Int.emod_lt_of_pos _ (by decide)⟩
def sumR (s:ByteArray):Nat→Nat→Int→Int
  |0,_,x=>x
  |d + 1,i,x=>sumR s d (i + 1) (Go.bits .xor .u32 (x / 256) (rd crcT (Go.bits .xor .u8 (x % 256) (bt s i))))
def sumOnV (x:Int) (s:ByteArray):Int:=sumR s s.size 0 x
def sumV (s:ByteArray):Int:=Go.bits .xor .u32 4294967295 (sumOnV 4294967295 s)
theorem sumV_range (s:ByteArray):0≤sumV s∧sumV s < 4294967296:=bits_u32 _ _ _
-- part specTable needs spec_l2Table.f
theorem spec_table_in (d:Nat):∀ (T:List Int) (i x j y z:Int) (r:List Int),0≤j→j + d=8→0≤i→i < T.length →
    Ev (fun k=>spec_l2Table.l0 k (T.set i.toNat (crcIt d x)) y (wrap64 (z + 1))) r→Ev (fun k=>spec_l2Table.l1 k T i x j y z) r:=by
  induction d with
  | zero =>
    intro T i x j y z r h0 hd hi hi' h;refine Ev.step (fun k=>?_) h;simp only [spec_l2Table.l1]
    rw [if_neg (by omega),if_pos hi,if_pos hi'];rfl
  | succ d ih =>
    intro T i x j y z r h0 hd hi hi' h;refine Ev.step (fun k=>?_) (ih T i (crcStep x) (j + 1) y z r (by omega) (by omega) hi hi' h);simp only [spec_l2Table.l1];rw [if_pos (by omega),w64 (by omega) (by omega)];unfold crcStep
    split<;>rfl
theorem spec_table_l (d:Nat):∀ (i:Nat),i + d=256→Ev (fun k=>spec_l2Table.l0 k ((List.range i).map crcE ++ List.replicate d 0) 256 i) crcT:=by
  induction d with
  | zero =>
    intro i hi;obtain rfl:i=256:=by omega
    refine Ev.step (f:=fun _=>some crcT) (fun k=>?_) (Ev.now _)
    simp only [spec_l2Table.l0];rw [if_neg (by omega)];simp [crcT]
  | succ d ih =>
    intro i hi
    have e:((List.range i).map crcE ++ List.replicate (d + 1) 0).set (i:Int).toNat (crcE i)=(List.range (i + 1)).map crcE ++ List.replicate d 0:=by
      rw [Int.toNat_natCast,List.range_succ,List.map_append,List.set_append_right _ _ (by simp)];simp [List.replicate_succ]
    refine Ev.step (f:=fun k=>spec_l2Table.l1 k ((List.range i).map crcE ++ List.replicate (d + 1) 0) i i 0 256 i) (fun k=>?_) ?_
    · simp only [spec_l2Table.l0];rw [if_pos (by omega),Int.emod_eq_of_lt (by omega) (by omega)]
    · refine spec_table_in 8 _ _ _ _ _ _ _ (by omega) rfl (by omega) (by simp; omega) ?_
      have:=ih (i + 1) (by omega);rw [show crcIt 8 (i:Int)=crcE i from rfl,e,w64 (by omega) (by omega)];exact this
theorem spec_table:Ev (fun k=>spec_l2Table.f k) crcT:=by
  unfold spec_l2Table.f;refine Ev.pos_ (by decide) ?_;show Ev (fun k=>spec_l2Table.l0 k (List.replicate 256 0) ((List.replicate 256 (0:Int)).length:Int) 0) crcT;rw [List.length_replicate];exact spec_table_l 256 0 rfl
-- part implTable needs impl_SumTable.f
theorem impl_table_in (d:Nat):∀ (T:List Int) (x z j:Int) (r:List Int),0≤j→j + d=8→T.length < 35184372088832 →
    Ev (fun k=>impl_SumTable.l0 k (T ++ [crcIt d x]) ((z + 1) % 4294967296)) r→Ev (fun k=>impl_SumTable.l1 k T x z j) r:=by
  induction d with
  | zero =>
    intro T x z j r h0 hd hi h;refine Ev.step (fun k=>?_) h;simp only [impl_SumTable.l1]
    rw [if_neg (by omega),if_pos hi];rfl
  | succ d ih =>
    intro T x z j r h0 hd hi h;refine Ev.step (fun k=>?_) (ih T (crcStep x) z (j + 1) r (by omega) (by omega) hi h);simp only [impl_SumTable.l1];rw [if_pos (by omega),w64 (by omega) (by omega)];unfold crcStep
    split<;>rfl
theorem impl_table_l (d:Nat):∀ (i:Nat),i + d=256→Ev (fun k=>impl_SumTable.l0 k ((List.range i).map crcE) i) crcT:=by
  induction d with
  | zero =>
    intro i hi;obtain rfl:i=256:=by omega
    refine Ev.step (f:=fun _=>some crcT) (fun k=>?_) (Ev.now _)
    simp only [impl_SumTable.l0];rw [if_neg (by omega)];rfl
  | succ d ih =>
    intro i hi;refine Ev.step (f:=fun k=>impl_SumTable.l1 k ((List.range i).map crcE) i i 0) (fun k=>?_) ?_
    · simp only [impl_SumTable.l0];rw [if_pos (by omega)]
    · refine impl_table_in 8 _ _ _ _ _ (by omega) rfl (by simp; omega) ?_
      have:=ih (i + 1) (by omega);rw [Int.emod_eq_of_lt (by omega) (by omega)];rw [List.range_succ,List.map_append] at this;exact this
theorem impl_table:Ev (fun k=>impl_SumTable.f k) crcT:=impl_table_l 256 0 rfl
-- part specOn needs spec_l2On.f
theorem spec_on_l (s:ByteArray) (hs:s.size≤140737488351232) (d:Nat):∀ (i:Nat) (x:Int),i + d=s.size→Ev (fun k=>spec_l2On.l0 k crcT x s i) (sumR s d i x):=by
  induction d with
  | zero =>
    intro i x hi;refine Ev.step (f:=fun _=>some x) (fun k=>?_) (Ev.now _)
    simp only [spec_l2On.l0];rw [if_neg (by omega)]
  | succ d ih =>
    intro i x hi;have hr:=bits_u8 .xor (x % 256) (bt s i);refine Ev.step (fun k=>?_) (ih (i + 1) _ (by omega));simp only [spec_l2On.l0];rw [if_pos (by omega),if_pos (by omega),if_pos hr.1,if_pos (by rw [crcT_len];exact hr.2),xor_comm_ .u32,w64 (by omega) (by omega)];rfl
theorem spec_on (x:Int) (s:ByteArray) (hs:s.size≤140737488351232):Ev (fun k=>spec_l2On.f k crcT x s) (sumOnV x s):=spec_on_l s hs _ 0 x (by omega)
-- part implOn needs impl_SumOn.f
theorem impl_on_l (s:ByteArray) (hs:s.size≤140737488351232) (d:Nat):∀ (i:Nat) (x:Int),i + d=s.size→Ev (fun k=>impl_SumOn.l0 k x s crcT (s.size:Int) i) (sumR s d i x):=by
  induction d with
  | zero =>
    intro i x hi;refine Ev.step (f:=fun _=>some x) (fun k=>?_) (Ev.now _)
    simp only [impl_SumOn.l0];rw [if_neg (by omega)]
  | succ d ih =>
    intro i x hi;have hr:=bits_u8 .xor (x % 256) (bt s i);refine Ev.step (fun k=>?_) (ih (i + 1) _ (by omega));simp only [impl_SumOn.l0];rw [if_pos (by omega),if_pos (by omega),if_pos (by omega),if_pos hr.1,if_pos (by rw [crcT_len];exact hr.2),w64 (by omega) (by omega)];rfl
theorem impl_on (x:Int) (s:ByteArray) (hs:s.size≤140737488351232):Ev (fun k=>impl_SumOn.f k x s) (sumOnV x s) :=
  Ev.bind impl_table (impl_on_l s hs _ 0 x (by omega))
-- part implSum needs impl_SumOf.f
theorem impl_sum (s:ByteArray) (hs:s.size≤140737488351232):Ev (fun k=>impl_SumOf.f k s) (sumV s) :=
  Ev.bind (impl_on 4294967295 s hs) (Ev.now _)
-- part cmpM: items by their order
def cmpV (k1:ByteArray) (q1:Int) (k2:ByteArray) (q2:Int):Int :=
  if Op.bytesLess k1.toList k2.toList=true then -1 else if k1.toList=k2.toList then (if q1 > q2 then -1 else if q1=q2 then 0 else 1) else 1
theorem less_irrefl (a:List UInt8):Op.bytesLess a a=false:=by
  have:=Go.Proofs.YtffjlpphcjfdgaaDoorX.less_of a a;cases h:Op.bytesLess a a<;>simp_all
theorem less_eq {a b:List UInt8} (h1:¬ Op.bytesLess a b=true) (h2:¬ Op.bytesLess b a=true):a=b:=by
  have:=Go.Proofs.YtffjlpphcjfdgaaDoorX.less_of a b;cases h3:Op.bytesLess a b<;>simp_all
-- part specCmpJ needs spec_l4Compare.j1
theorem spec_cmp (k1:ByteArray) (q1 d1:Int) (v1 k2:ByteArray) (q2 d2:Int) (v2:ByteArray):Ev (fun k=>spec_l4Compare.f k k1 q1 d1 v1 k2 q2 d2 v2) (cmpV k1 q1 k2 q2):=by
  unfold spec_l4Compare.f cmpV;by_cases h1:Op.bytesLess k1.toList k2.toList=true
  · rw [if_pos h1]
    exact Ev.pos_ h1 (Ev.step (fun k=>by rw [spec_l4Compare.j0]) (Ev.pos_ rfl (Ev.now _)))
  · rw [if_neg h1]
    refine Ev.neg_ h1 ?_;by_cases h2:k1.toList=k2.toList
    · rw [if_pos h2]
      refine Ev.pos_ h2 (Ev.step (fun k=>by rw [spec_l4Compare.j0]) ?_);by_cases h3:q1 > q2
      · rw [if_pos h3];exact Ev.pos_ (by simpa using h3) (Ev.now _)
      · rw [if_neg h3]
        refine Ev.neg_ (by simpa using h3) (Ev.pos_ h2 ?_);refine Ev.step (fun k=>by rw [spec_l4Compare.j1]) ?_;by_cases h4:q1=q2
        · rw [if_pos h4];exact Ev.pos_ (by simpa using h4) (Ev.now _)
        · rw [if_neg h4];exact Ev.neg_ (by simpa using h4) (Ev.now _)
    · rw [if_neg h2]
      exact Ev.neg_ h2 (Ev.step (fun k=>by rw [spec_l4Compare.j0]) (Ev.neg_ (by simp) (Ev.neg_ h2 (Ev.step (fun k=>by rw [spec_l4Compare.j1]) (Ev.neg_ (by simp) (Ev.now _))))))
-- part implCmp needs impl_itemOrder.f
theorem or_two (a b:Int):Ev (fun k=>cmp_Or_int.f k [a,b]) (if a=0 then b else a):=by
  unfold cmp_Or_int.f;refine Ev.step (fun k=>by rw [cmp_Or_int.l0]) ?_;refine Ev.pos_ (by simp) (Ev.pos_ (by omega) (Ev.pos_ (by simp) ?_));have e0:rd [a,b] 0=a:=rfl;have e1:rd [a,b] 1=b:=rfl;have ew:wrap64 (0 + 1)=1:=by rw [w64 (by omega) (by omega)];rfl
  rw [e0,ew];by_cases h:a=0
  · rw [if_pos h]
    refine Ev.pos_ h ?_;refine Ev.step (fun k=>by rw [cmp_Or_int.l0]) ?_;refine Ev.pos_ (by simp) (Ev.pos_ (by omega) (Ev.pos_ (by simp) ?_));rw [e1];by_cases h':b=0
    · refine Ev.pos_ h' ?_
      have ew2:wrap64 (1 + 1)=2:=by rw [w64 (by omega) (by omega)];rfl
      rw [ew2];subst h';exact Ev.step (fun k=>by rw [cmp_Or_int.l0]) (Ev.neg_ (by simp) (Ev.now _))
    · exact Ev.neg_ h' (Ev.now _)
  · rw [if_neg h];exact Ev.neg_ h (Ev.now _)
theorem impl_cmp (k1:ByteArray) (q1 d1:Int) (v1 k2:ByteArray) (q2 d2:Int) (v2:ByteArray):Ev (fun k=>impl_itemOrder.f k k1 q1 d1 v1 k2 q2 d2 v2) (cmpV k1 q1 k2 q2):=by
  unfold impl_itemOrder.f
  have e1:cmp_Compare_string.f k1 k2=some (if Op.bytesLess k1.toList k2.toList=true then -1 else if k1.toList=k2.toList then 0 else 1):=by
    unfold cmp_Compare_string.f cmp_isNaN_string.f;simp only [Option.bind_some];by_cases h1:Op.bytesLess k1.toList k2.toList=true
    · simp [h1]
    · by_cases h2 : Op.bytesLess k2.toList k1.toList = true
      · have h3 : ¬ k1.toList = k2.toList := fun e => by rw [e, less_irrefl] at h2; cases h2
        simp [h1,h2,h3]
      · have h3 := less_eq h1 h2
        simp [h1,h2,h3,less_irrefl]
  have e2:cmp_Compare_int.f q2 q1=some (if q1 > q2 then -1 else if q1=q2 then 0 else 1):=by
    unfold cmp_Compare_int.f cmp_isNaN_int.f;simp only [Option.bind_some,bne_self_eq_false];by_cases h1:q2 < q1
    · simp [h1]
    · by_cases h2 : q2 > q1
      · have : ¬ q1 = q2 := by omega
        simp [h1,h2,this]
      · obtain rfl : q1 = q2 := by omega
        simp
  simp only [e1,e2,Option.bind_some];refine Ev.bind (or_two _ _) ?_
  have:(if (if Op.bytesLess k1.toList k2.toList=true then (-1:Int) else if k1.toList=k2.toList then 0 else 1)=0 then (if q1 > q2 then (-1:Int) else if q1=q2 then 0 else 1) else (if Op.bytesLess k1.toList k2.toList=true then -1 else if k1.toList=k2.toList then 0 else 1))=cmpV k1 q1 k2 q2:=by
    unfold cmpV;by_cases h1:Op.bytesLess k1.toList k2.toList=true
    · simp [h1]
    · by_cases h3 : k1.toList = k2.toList
      · simp [h3,less_irrefl]
      · simp [h1,h3]
  rw [this];exact Ev.now _
-- part markText needs laws_markText.f
def markR:Nat→Int→ByteArray→ByteArray
  |0,_,acc=>(⟨#[109]⟩:ByteArray) ++ acc
  |d + 1,x,acc=>if x > 0 then markR d (x / 10) (strOfNums [(48 + x % 10) % 256] ++ acc) else (⟨#[109]⟩:ByteArray) ++ acc
def markT (m:Int):ByteArray:=markR 19 m ⟨#[]⟩
theorem markText_l:∀ (d:Nat) (x:Int) (acc:ByteArray),0≤x→x < 10 ^ d→x≤9223372036854775807→acc.size + d≤100→Ev (fun k=>laws_markText.l0 k x acc) (markR d x acc):=by
  intro d
  induction d with
  | zero =>
    intro x acc h0 h1 hx hs;have hp:(10:Int) ^ 0=1:=rfl;refine Ev.step (fun k=>by rw [laws_markText.l0]) ?_
    exact Ev.neg_ (by omega) (Ev.pos_ (by omega) (Ev.now _))
  | succ d ih =>
    intro x acc h0 h1 hx hs;unfold markR;refine Ev.step (fun k=>by rw [laws_markText.l0]) ?_;by_cases hp:x > 0
    · rw [if_pos hp]
      refine Ev.pos_ hp ?_;simp only [Option.bind_some];have e1:wrap64 (48 + Int.tmod x 10) % 256=(48 + x % 10) % 256:=by rw [Int.tmod_eq_emod_of_nonneg h0,w64 (by omega) (by omega)]
      have e2:wrap64 (Int.tdiv x 10)=x / 10:=by rw [Int.tdiv_eq_ediv_of_nonneg h0,w64 (by omega) (by omega)]
      have hz:(strOfNums [(48 + x % 10) % 256]).size=1:=by rw [strOfNums_size];rfl
      rw [e1,e2];refine Ev.pos_ (by omega) (ih _ _ (by omega) (by rw [Int.pow_succ] at h1;omega) (by omega) ?_);rw [ByteArray.size_append,hz];omega
    · rw [if_neg hp]
      exact Ev.neg_ hp (Ev.pos_ (by omega) (Ev.now _))
theorem markText_ {m:Int} (h0:0 < m) (h1:m≤4611686018427387904):Ev (fun k=>laws_markText.f k m) (markT m):=by
  unfold laws_markText.f;refine Ev.neg_ (by omega) (markText_l 19 m ⟨#[]⟩ (by omega) ?_ (by omega) (by decide));have:(10:Int) ^ 19=10000000000000000000:=rfl;omega
-- part runM: runs of items
def goodI (a:S28):Bool:=goodItemB a.f0 a.f1 a.f2 a.f3
def cmpI (a b:S28):Int:=cmpV a.f0 a.f1 b.f0 b.f1
def goodRunR (l:List S28):Nat→Nat→Bool
  |0,_=>true
  |d + 1,i=>if goodI (l.getD i z28)=true then (if i > 0 then (if cmpI (l.getD (i - 1) z28) (l.getD i z28) ≥ 0 then false else goodRunR l d (i + 1)) else goodRunR l d (i + 1)) else false
def goodRunV (l:List S28):Bool:=goodRunR l l.length 0
theorem rdI_nat (xs:List S28) (i:Nat):rd_T28 xs (i:Int)=xs.getD i z28:=by unfold rd_T28;rw [Int.toNat_natCast]
theorem goodRunR_good (l:List S28):∀ (d i:Nat),i + d=l.length→goodRunR l d i=true → ∀ j,i≤j→j < l.length→goodI (l.getD j z28)=true:=by
  intro d
  induction d with
  |zero=>intro i hi h j h1 h2;omega
  | succ d ih =>
    intro i hi h j h1 h2;unfold goodRunR at h;by_cases hg:goodI (l.getD i z28)=true
    · rw [if_pos hg] at h
      by_cases hj:j=i
      · subst hj;exact hg
      · refine ih (i + 1) (by omega) ?_ j (by omega) h2
        by_cases h0:i > 0
        · rw [if_pos h0] at h
          split at h
          · cases h
          · exact h
        · rw [if_neg h0] at h;exact h
    · rw [if_neg hg] at h;cases h
theorem goodRunV_good {l:List S28} (h:goodRunV l=true) (j:Nat) (hj:j < l.length):goodI (l.getD j z28)=true:=goodRunR_good l l.length 0 (by omega) h j (by omega) hj
theorem goodI_iff {a:S28} (h:goodI a=true):1≤a.f0.size∧a.f0.size≤16∧0≤a.f1∧a.f1≤1000000000∧0≤a.f2∧a.f2≤1∧a.f3.size≤40:=by
  unfold goodI goodItemB keyB seqB at h;simp only [Bool.and_eq_true,inB_iff,decide_eq_true_eq] at h;omega
-- part orderM: the order of items
theorem less_trans:∀ a b c:List UInt8,Op.bytesLess a b=true→Op.bytesLess b c=true→Op.bytesLess a c=true:=by
  intro a
  induction a with
  | nil =>
    intro b c h1 h2
    cases c with
    |nil=>cases b<;>simp [Op.bytesLess] at h2
    |cons z c=>rfl
  | cons x a ih =>
    intro b c h1 h2
    cases b with
    |nil=>simp [Op.bytesLess] at h1
    | cons y b =>
      cases c with
      |nil=>simp [Op.bytesLess] at h2
      | cons z c =>
        simp only [Op.bytesLess,Bool.or_eq_true,Bool.and_eq_true,decide_eq_true_eq,beq_iff_eq] at h1 h2 ⊢;rcases h1 with h1 | ⟨rfl,h1⟩
        · rcases h2 with h2 | ⟨rfl, h2⟩
          · exact .inl (UInt8.lt_trans h1 h2)
          · exact .inl h1
        · rcases h2 with h2 | ⟨rfl, h2⟩
          · exact .inl h2
          · exact .inr ⟨rfl,ih b c h1 h2⟩
theorem cmpV_neg {k1 k2:ByteArray} {q1 q2:Int}:cmpV k1 q1 k2 q2 < 0↔Op.bytesLess k1.toList k2.toList=true∨(k1.toList=k2.toList∧q1 > q2):=by
  unfold cmpV;by_cases h1:Op.bytesLess k1.toList k2.toList=true
  · rw [if_pos h1];exact ⟨fun _ => .inl h1,fun _=>by omega⟩
  · rw [if_neg h1]
    by_cases h2:k1.toList=k2.toList
    · rw [if_pos h2]
      by_cases h3:q1 > q2
      · rw [if_pos h3];exact ⟨fun _ => .inr ⟨h2,h3⟩,fun _=>by omega⟩
      · rw [if_neg h3]
        refine ⟨fun h=>?_,fun h=>?_⟩
        · by_cases h4 : q1 = q2
          · rw [if_pos h4] at h;omega
          · rw [if_neg h4] at h;omega
        · rcases h with h | ⟨_, h⟩
          · exact absurd h h1
          · exact absurd h h3
    · rw [if_neg h2]
      refine ⟨fun h=>by omega,fun h=>?_⟩;rcases h with h | ⟨h,_⟩
      · exact absurd h h1
      · exact absurd h h2
theorem cmpV_trans {k1 k2 k3:ByteArray} {q1 q2 q3:Int} (h1:cmpV k1 q1 k2 q2 < 0) (h2:cmpV k2 q2 k3 q3 < 0):cmpV k1 q1 k3 q3 < 0:=by
  rw [cmpV_neg] at h1 h2 ⊢;rcases h1 with h1 | ⟨e1,h1⟩
  · rcases h2 with h2 | ⟨e2, h2⟩
    · exact .inl (less_trans _ _ _ h1 h2)
    · rw [e2] at h1;exact .inl h1
  · rcases h2 with h2 | ⟨e2, h2⟩
    · rw [e1];exact .inl h2
    · exact .inr ⟨e1.trans e2,by omega⟩
-- part towerM needs strconv_Itoa.f
def towR:Nat→Int→Int→Int
  |0,_,n=>n
  |d + 1,h,n=>if Go.bits .and .u32 h 3=0 then towR d (h / 4) (n + 1) else n
def numT (n:Int):ByteArray:=⟨(Lib.itoa n).toArray⟩
def towV (s:ByteArray) (n:Int):Int:=towR 4 (sumV (s ++ numT n)) 1
theorem decDigits_len:∀ (n u:Nat),u < n→(Lib.decDigits u).length≤u + 1:=by
  intro n
  induction n with
  |zero=>intro u h;omega
  | succ n ih =>
    intro u h;rw [Lib.decDigits]
    split
    · simp
    · have := ih (u / 10) (by omega)
      simp only [List.length_append,List.length_singleton];omega
theorem numT_dec (u:Nat):numT (u:Int)=⟨(Lib.decDigits u).toArray⟩:=by
  unfold numT Lib.itoa;rw [if_neg (by omega),Int.toNat_natCast]
theorem numT_size {n:Int} (h0:0≤n):(numT n).size≤n.toNat + 1:=by
  obtain ⟨u,rfl⟩:=Int.eq_ofNat_of_zero_le h0;have:=decDigits_len (u + 1) u (by omega);rw [numT_dec];show (Lib.decDigits u).toArray.size≤_
  simpa using this
theorem itoa_f {n:Int} (h0:0≤n) (h1:n≤1000000000):strconv_Itoa.f n=some (numT n):=by
  unfold strconv_Itoa.f;rw [if_pos (by omega)];rfl
theorem towR_range:∀ (d:Nat) (h n:Int),n≤towR d h n∧towR d h n≤n + d:=by
  intro d
  induction d with
  |zero=>intro h n;unfold towR;omega
  | succ d ih =>
    intro h n;unfold towR
    split
    · have:=ih (h / 4) (n + 1);omega
    · omega
theorem towV_range (s:ByteArray) (n:Int):1≤towV s n∧towV s n≤5:=by
  have:=towR_range 4 (sumV (s ++ numT n)) 1;unfold towV;omega
-- part specNum needs spec_l1Num.f
theorem num_one {a:Nat} (ha:a < 10):strOfNums [wrap64 (48 + (a:Int)) % 256]=⟨#[UInt8.ofNat (48 + a)]⟩:=by
  rw [w64 (by omega) (by omega),Int.emod_eq_of_lt (by omega) (by omega)];unfold strOfNums;have:(48 + (a:Int)).toNat=48 + a:=by omega
  simp [this]
theorem bytes_app (x y:List UInt8):(⟨x.toArray⟩:ByteArray) ++ ⟨y.toArray⟩=⟨(x ++ y).toArray⟩:=by
  apply ByteArray.ext;simp
theorem spec_num:∀ (m u:Nat),u < m→m≤1000000001→Ev (fun k=>spec_l1Num.f k (u:Int)) (numT (u:Int)):=by
  intro m
  induction m with
  |zero=>intro u h _;omega
  | succ m ih =>
    intro u h hm;refine Ev.step (fun k=>by rw [spec_l1Num.f]) ?_;rw [numT_dec,Lib.decDigits];by_cases h10:u < 10
    · rw [dif_pos h10]
      refine Ev.pos_ (by omega) ?_;rw [num_one h10];exact Ev.now _
    · rw [dif_neg h10]
      refine Ev.neg_ (by omega) ?_;have e1:wrap64 (Int.tdiv (u:Int) 10)=((u / 10:Nat):Int):=by rw [Int.tdiv_eq_ediv_of_nonneg (by omega),w64 (by omega) (by omega)];omega
      have e2:(Int.tmod (u:Int) 10)=((u % 10:Nat):Int):=by rw [Int.tmod_eq_emod_of_nonneg (by omega)];omega
      rw [e1];refine Ev.bind (ih (u / 10) (by omega) (by omega)) ?_;simp only [Option.bind_some];rw [e2,num_one (by omega),numT_dec];have hs:=numT_size (n:=((u / 10:Nat):Int)) (by omega);rw [numT_dec] at hs;refine Ev.pos_ ?_ ?_
      · have : (⟨#[UInt8.ofNat (48 + u % 10)]⟩ : ByteArray).size = 1 := rfl
        omega
      · have e := bytes_app (Lib.decDigits (u / 10)) [UInt8.ofNat (48 + u % 10)]
        have e3:(⟨#[UInt8.ofNat (48 + u % 10)]⟩:ByteArray)=⟨[UInt8.ofNat (48 + u % 10)].toArray⟩:=rfl;rw [e3,e];exact Ev.now _
theorem spec_num' {n:Int} (h0:0≤n) (h1:n≤1000000000):Ev (fun k=>spec_l1Num.f k n) (numT n):=by
  obtain ⟨u,rfl⟩:=Int.eq_ofNat_of_zero_le h0;exact spec_num (u + 1) u (by omega) (by omega)
-- part specTowerJ needs spec_l4Tower.j1
theorem spec_tower_l:∀ (d:Nat) (h n:Int),0≤n→n + d=5→Ev (fun k=>spec_l4Tower.l0 k h n) (towR d h n):=by
  intro d
  induction d with
  | zero =>
    intro h n h0 hn;refine Ev.step (fun k=>by rw [spec_l4Tower.l0]) ?_;refine Ev.neg_ (by omega) (Ev.step (fun k=>by rw [spec_l4Tower.j1]) ?_)
    exact Ev.neg_ (by simp) (Ev.now _)
  | succ d ih =>
    intro h n h0 hn;unfold towR;refine Ev.step (fun k=>by rw [spec_l4Tower.l0]) (Ev.pos_ (by omega) (Ev.step (fun k=>by rw [spec_l4Tower.j1]) ?_));by_cases hc:Go.bits .and .u32 h 3=0
    · rw [if_pos hc]
      refine Ev.pos_ (by simpa using hc) ?_;rw [w64 (by omega) (by omega)];exact ih _ _ (by omega) (by omega)
    · rw [if_neg hc]
      exact Ev.neg_ (by simpa using hc) (Ev.now _)
theorem spec_tower (s:ByteArray) {n:Int} (hs:s.size≤16) (h0:0≤n) (h1:n≤1000000000):Ev (fun k=>spec_l4Tower.f k crcT s n) (towV s n):=by
  unfold spec_l4Tower.f;have hz:=numT_size h0;refine Ev.bind (spec_num' h0 h1) (Ev.pos_ (by omega) (Ev.bind (spec_on _ _ (by rw [ByteArray.size_append];omega)) ?_));exact spec_tower_l 4 _ 1 (by omega) (by omega)
-- part implTowerJ needs impl_towerOf.j1
theorem impl_tower_l:∀ (d:Nat) (h n:Int),0≤n→n + d=5→Ev (fun k=>impl_towerOf.l0 k h n) (towR d h n):=by
  intro d
  induction d with
  | zero =>
    intro h n h0 hn;unfold towR;refine Ev.step (fun k=>by rw [impl_towerOf.l0]) ?_;by_cases hc:Go.bits .and .u32 h 3=0
    · exact Ev.pos_ hc (Ev.step (fun k=>by rw [impl_towerOf.j1]) (Ev.neg_ (by simp;omega) (Ev.now _)))
    · exact Ev.neg_ hc (Ev.step (fun k=>by rw [impl_towerOf.j1]) (Ev.neg_ (by simp) (Ev.now _)))
  | succ d ih =>
    intro h n h0 hn;unfold towR;refine Ev.step (fun k=>by rw [impl_towerOf.l0]) ?_;by_cases hc:Go.bits .and .u32 h 3=0
    · rw [if_pos hc]
      refine Ev.pos_ hc (Ev.step (fun k=>by rw [impl_towerOf.j1]) (Ev.pos_ (by simp;omega) ?_));rw [w64 (by omega) (by omega)];exact ih _ _ (by omega) (by omega)
    · rw [if_neg hc]
      exact Ev.neg_ hc (Ev.step (fun k=>by rw [impl_towerOf.j1]) (Ev.neg_ (by simp) (Ev.now _)))
theorem impl_tower (s:ByteArray) {n:Int} (hs:s.size≤16) (h0:0≤n) (h1:n≤1000000000):Ev (fun k=>impl_towerOf.f k s n) (towV s n):=by
  unfold impl_towerOf.f;have hz:=numT_size h0;rw [itoa_f h0 h1];refine Ev.some_ (Ev.pos_ (by omega) (Ev.bind (impl_sum _ (by rw [ByteArray.size_append];omega)) ?_));exact impl_tower_l 4 _ 1 (by omega) (by omega)
-- part skipM: lists with towers
theorem rdT_nat (xs:List S77) (i:Nat):rd_T77 xs (i:Int)=xs.getD i z77:=by unfold rd_T77;rw [Int.toNat_natCast]
def nxt (H:List Int) (T:List S77) (lv a:Int):Int:=if a < 0 then rd H lv else rd (rd_T77 T a).f1 lv
def ltT (T:List S77) (i j:Int):Prop:=cmpI (rd_T77 T i).f0 (rd_T77 T j).f0 < 0
def hghT (T:List S77) (lv j:Int):Prop:=0≤j∧j < (T.length:Int)∧lv < ((rd_T77 T j).f1.length:Int)
def okStep (T:List S77) (lv a j:Int):Prop:=hghT T lv j∧(0≤a→ltT T a j)
def Chain (H:List Int) (T:List S77) (lv:Int):Int→List Int→Prop
  |a,[]=>nxt H T lv a = -1
  |a,j :: L=>nxt H T lv a=j∧okStep T lv a j∧Chain H T lv j L
def cntHi (lv:Int) (T:List S77):Nat:=T.countP (fun t=>decide (lv < (t.f1.length:Int)))
def levelP (H:List Int) (T:List S77) (lv:Int):Prop := ∃ L,Chain H T lv (-1) L∧L.length=cntHi lv T
theorem ltT_trans {T:List S77} {a b c:Int} (h1:ltT T a b) (h2:ltT T b c):ltT T a c:=cmpV_trans h1 h2
theorem ltT_irrefl (T:List S77) (a:Int):¬ ltT T a a:=by
  unfold ltT cmpI;rw [cmpV_neg,less_irrefl];intro h;rcases h with h | ⟨_,h⟩
  · cases h
  · omega
theorem cntHi_drop (lv:Int) (T:List S77) (i:Nat) (hi:i < T.length):cntHi lv (T.drop i)=cntHi lv (T.drop (i + 1)) + (if lv < ((T.getD i z77).f1.length:Int) then 1 else 0):=by
  unfold cntHi;rw [List.drop_eq_getElem_cons hi,List.countP_cons];simp [List.getD_eq_getElem?_getD,List.getElem?_eq_getElem hi]
theorem cntHi_take (lv:Int) (T:List S77) (i:Nat) (hi:i < T.length):cntHi lv (T.take (i + 1))=cntHi lv (T.take i) + (if lv < ((T.getD i z77).f1.length:Int) then 1 else 0):=by
  unfold cntHi;rw [List.take_succ_eq_append_getElem hi,List.countP_append];simp [List.getD_eq_getElem?_getD,List.getElem?_eq_getElem hi,List.countP_cons]
theorem cntHi_le (lv:Int) (T:List S77):cntHi lv T≤T.length:=List.countP_le_length
/-- What was visited: from the last on, each behind the next in the list. -/
def Vis (T:List S77):Int→List Int→Prop
  |a,[]=>a = -1
  |a,v :: V=>a=v∧0≤v∧v < (T.length:Int)∧(v :: V).Pairwise (fun x y=>ltT T y x) ∧ ∀ y ∈ V,0≤y∧y < (T.length:Int)
theorem nodup_bound (n:Nat) (V:List Int) (hn:V.Nodup) (hb:∀ y ∈ V,0≤y∧y < (n:Int)):V.length≤n:=by
  have h:(V.map Int.toNat).Nodup:=by
    rw [List.nodup_iff_pairwise_ne] at hn ⊢;rw [List.pairwise_map];exact hn.imp_of_mem (fun {x y} hx hy h=>by have:=hb x hx;have:=hb y hy;omega)
  have hs:V.map Int.toNat ⊆ List.range n:=by
    intro x hx;obtain ⟨y,hy,rfl⟩:=List.mem_map.1 hx;have:=hb y hy;rw [List.mem_range];omega
  have:=h.length_le_of_subset hs
  simpa using this
theorem Vis.bound {T:List S77} {a:Int} {V:List Int} (h:Vis T a V):V.length≤T.length:=by
  cases V with
  |nil=>simp
  | cons v V =>
    obtain ⟨_,h0,h1,hp,hb⟩:=h;refine nodup_bound _ _ ?_ ?_
    · rw [List.nodup_iff_pairwise_ne]
      exact hp.imp (fun {x y} hl he=>by subst he;exact ltT_irrefl _ _ hl)
    · intro y hy
      rcases List.mem_cons.1 hy with rfl|hy
      · exact ⟨h0,h1⟩
      · exact hb y hy
theorem Vis.push {T:List S77} {lv a j:Int} {V:List Int} (h:Vis T a V) (hs:okStep T lv a j):Vis T j (j :: V):=by
  obtain ⟨⟨h0,h1,_⟩,hl⟩:=hs
  cases V with
  |nil=>exact ⟨rfl,h0,h1,by simp,by simp⟩
  | cons v V =>
    obtain ⟨rfl,g0,g1,hp,hb⟩:=h;refine ⟨rfl,h0,h1,List.pairwise_cons.2 ⟨fun y hy=>?_,hp⟩,fun y hy=>?_⟩
    · rcases List.mem_cons.1 hy with rfl | hy
      · exact hl g0
      · exact ltT_trans ((List.pairwise_cons.1 hp).1 y hy) (hl g0)
    · rcases List.mem_cons.1 hy with rfl | hy
      · exact ⟨g0,g1⟩
      · exact hb y hy
theorem Vis.room {T:List S77} {lv a j:Int} {V:List Int} (h:Vis T a V) (hs:okStep T lv a j):V.length + 1≤T.length:=by
  have:=(h.push hs).bound
  simpa using this
theorem Chain.fun {H:List Int} {T:List S77} {lv:Int}:∀ {a:Int} {L L':List Int},Chain H T lv a L→Chain H T lv a L'→L=L'
  |a,[],[],_,_=>rfl
  | a, [], j :: L', h, h' => by
    have h1:nxt H T lv a = -1:=h;have h2:=h'.1;have h3:=h'.2.1.1.1
    omega
  | a, j :: L, [], h, h' => by
    have h1:nxt H T lv a = -1:=h';have h2:=h.1;have h3:=h.2.1.1.1
    omega
  | a, j :: L, j' :: L', h, h' => by
    obtain rfl:j=j':=h.1.symm.trans h'.1;rw [Chain.fun h.2.2 h'.2.2]
theorem okStep_cmp {T:List S77} {lv a j:Int}:okStep T lv a j↔hghT T lv j∧(0≤a → ¬ cmpI (rd_T77 T a).f0 (rd_T77 T j).f0 ≥ 0):=by
  unfold okStep ltT
  constructor
  · rintro ⟨h1,h2⟩;exact ⟨h1,fun h=>by have:=h2 h;omega⟩
  · rintro ⟨h1,h2⟩;exact ⟨h1,fun h=>by have:=h2 h;omega⟩
def restP (H:List Int) (T:List S77) (lv a:Int) (m c:Nat):Prop := ∃ L,Chain H T lv a L∧m + L.length=c
theorem restP_end {H:List Int} {T:List S77} {lv a:Int} {m c:Nat} (h:nxt H T lv a = -1):restP H T lv a m c↔m=c:=by
  constructor
  · rintro ⟨L, hL, hc⟩
    have:=Chain.fun hL (show Chain H T lv a [] from h);subst this
    simpa using hc
  · intro hc;exact ⟨[],h,by simpa using hc⟩
theorem restP_step {H:List Int} {T:List S77} {lv a j:Int} {m c:Nat} (h:nxt H T lv a=j) (hs:okStep T lv a j):restP H T lv a m c↔restP H T lv j (m + 1) c:=by
  constructor
  · rintro ⟨L, hL, hc⟩
    cases L with
    | nil =>
      have h1:nxt H T lv a = -1:=hL;have h2:=hs.1.1
      omega
    | cons j' L =>
      obtain rfl:j=j':=h.symm.trans hL.1;exact ⟨L,hL.2.2,by simp at hc;omega⟩
  · rintro ⟨L, hL, hc⟩
    exact ⟨j :: L,⟨h,hs,hL⟩,by simp;omega⟩
theorem restP_bad {H:List Int} {T:List S77} {lv a j:Int} {m c:Nat} (h:nxt H T lv a=j) (hj:j ≠ -1) (hs:¬ okStep T lv a j):¬ restP H T lv a m c:=by
  rintro ⟨L,hL,hc⟩
  cases L with
  | nil =>
    have h1:nxt H T lv a = -1:=hL
    omega
  | cons j' L =>
    obtain rfl:j=j':=h.symm.trans hL.1;exact hs hL.2.1
def towI (t:S77):Prop:=goodI t.f0=true∧(t.f1.length:Int)=towV t.f0.f0 t.f0.f1
def allTow (T:List S77):Prop := ∀ j:Nat,j < T.length→towI (T.getD j z77)
def goodSkipP (H:List Int) (T:List S77):Prop:=H.length=5∧T.length≤60∧allTow T ∧ ∀ lv:Nat,lv < 5→levelP H T lv
open Classical in
noncomputable def goodSkipV (H:List Int) (T:List S77):Bool:=decide (goodSkipP H T)
open Classical in
theorem goodSkipV_iff {H:List Int} {T:List S77}:goodSkipV H T=true↔goodSkipP H T:=by unfold goodSkipV;rw [decide_eq_true_eq]
-- part specSkip needs spec_GoodSkip.f spec_GoodSkip.j7
theorem spec_next {H:List Int} {T:List S77} {lv a:Int} (h0:0≤lv) (hH:lv < (H.length:Int)) (ha:a = -1∨hghT T lv a):spec_l4Next.f H T a lv=some (nxt H T lv a):=by
  unfold spec_l4Next.f nxt;rcases ha with rfl | ⟨g0,g1,g2⟩
  · rw [if_pos (by omega),if_pos h0,if_pos hH,if_pos (by omega)]
  · rw [if_neg (by omega),if_pos g0,if_pos g1,if_pos h0,if_pos g2,if_neg (by omega)]
/-- All that the towers and the heads name is a tower's number or none. -/
def inT (T:List S77) (x:Int):Prop := -1≤x∧x≤(T.length:Int) - 1
def rangeT (T:List S77) (t:S77):Prop := ∀ j:Nat,j < t.f1.length→inT T (t.f1.getD j 0)
def apartT (T:List S77) (i:Nat):Prop := ∀ q:Nat,q < i→cmpI (T.getD q z77).f0 (T.getD i z77).f0 ≠ 0
def condT (T:List S77) (i:Nat):Prop:=towI (T.getD i z77)∧apartT T i∧rangeT T (T.getD i z77)
theorem nxt_in {H:List Int} {T:List S77} {lv a:Int} (h0:0≤lv) (hr:∀ j:Nat,j < T.length→rangeT T (T.getD j z77)) (hh:inT T (rd H lv)) (ha:a = -1∨hghT T lv a):inT T (nxt H T lv a):=by
  unfold nxt;rcases ha with rfl | ⟨g0,g1,g2⟩
  · rw [if_pos (by omega)];exact hh
  · rw [if_neg (by omega)]
    obtain ⟨n,rfl⟩:=Int.eq_ofNat_of_zero_le g0;obtain ⟨l,rfl⟩:=Int.eq_ofNat_of_zero_le h0;rw [rdT_nat] at g2 ⊢;rw [rd_nat];exact hr n (by omega) l (by omega)
open Classical in
theorem spec_skip_l4 (H:List Int) (T M:List Int) (TT:List S77) (n:Int) (lv:Nat) (rst:Bool) (hlv:lv < 5) (hH:H.length=5) (hl:TT.length≤140737488351232)
    (hr:∀ j:Nat,j < TT.length→rangeT TT (TT.getD j z77)) (hh:inT TT (rd H lv)) (hn:Ev (fun k=>spec_GoodSkip.l3 k M n (wrap64 ((lv:Int) + 1)) H TT) rst) :
    ∀ (m:Nat) (a:Int),m≤140737488351232→(a = -1∨hghT TT lv a)→Ev (fun k=>spec_GoodSkip.l4 k (lv:Int) (m:Int) a M n (lv:Int) H TT) (decide (restP H TT lv a 0 m) && rst):=by
  intro m
  induction m with
  | zero =>
    intro a _ ha;refine Ev.step (fun k=>by rw [spec_GoodSkip.l4]) ?_;refine Ev.neg_ (by omega) ?_;rw [spec_next (by omega) (by omega) ha];refine Ev.some_ ?_;by_cases h1:nxt H TT lv a = -1
    · rw [decide_eq_true ((restP_end h1).2 rfl), Bool.true_and]
      exact Ev.pos_ h1 hn
    · rw [decide_eq_false (fun g : restP H TT lv a 0 0 => ?_), Bool.false_and]
      · exact Ev.neg_ h1 (Ev.now _)
      · obtain ⟨L, hL, hc⟩ := g
        have:L=[]:=List.eq_nil_of_length_eq_zero (by omega);subst this
        exact h1 hL
  | succ m ih =>
    intro a hm ha;refine Ev.step (fun k=>by rw [spec_GoodSkip.l4]) ?_;refine Ev.pos_ (by omega) ?_;rw [spec_next (by omega) (by omega) ha];refine Ev.some_ ?_;have hin:=nxt_in (H:=H) (T:=TT) (lv:=lv) (by omega) hr hh ha
    have ht:Ev (fun k:Nat=>some false) (decide (restP H TT lv a 0 (m + 1)) && rst)∨okStep TT lv a (nxt H TT lv a):=by
      by_cases hs:okStep TT lv a (nxt H TT lv a)
      · exact .inr hs
      · left
        rw [decide_eq_false (fun g:restP H TT lv a 0 (m + 1)=>?_),Bool.false_and]
        · exact Ev.now _
        · obtain ⟨L, hL, hc⟩ := g
          cases L with
          |nil=>simp at hc
          | cons j L =>
            obtain rfl:nxt H TT lv a=j:=hL.1;exact hs hL.2.1
    have hgo:∀ x:Bool,(x=true ↔ ¬ okStep TT lv a (nxt H TT lv a))→Ev (fun k=>spec_GoodSkip.j7 k (lv:Int) ((m + 1:Nat):Int) (nxt H TT lv a) M n (lv:Int) x H TT) (decide (restP H TT lv a 0 (m + 1)) && rst):=by
      intro x hx;refine Ev.step (fun k=>by rw [spec_GoodSkip.j7]) ?_;by_cases hs:okStep TT lv a (nxt H TT lv a)
      · have hx' : ¬ x = true := fun h => (hx.1 h) hs
        refine Ev.neg_ hx' ?_;have:=ih (nxt H TT lv a) (by omega) (.inr hs.1);rw [w64 (by omega) (by omega),show ((m + 1:Nat):Int) - 1=(m:Int) by omega]
        have e:decide (restP H TT lv a 0 (m + 1))=decide (restP H TT lv (nxt H TT lv a) 0 m):=by
          rw [Bool.eq_iff_iff,decide_eq_true_eq,decide_eq_true_eq,restP_step rfl hs];unfold restP;exact ⟨fun ⟨L,h1,h2⟩=>⟨L,h1,by omega⟩,fun ⟨L,h1,h2⟩=>⟨L,h1,by omega⟩⟩
        rw [e];exact this
      · refine Ev.pos_ (hx.2 hs) ?_
        rcases ht with ht|ht
        · exact ht
        · exact absurd ht hs
    by_cases h1:nxt H TT lv a < 0
    · refine Ev.pos_ h1 (hgo true ?_)
      simp only [true_iff];rintro ⟨⟨g,_⟩,_⟩;omega
    · refine Ev.neg_ h1 (Ev.pos_ (by omega) (Ev.pos_ (by unfold inT at hin; omega) ?_))
      by_cases h2:((rd_T77 TT (nxt H TT lv a)).f1.length:Int)≤lv
      · refine Ev.pos_ h2 (hgo true ?_)
        simp only [true_iff];rintro ⟨⟨_,_,g⟩,_⟩;omega
      · refine Ev.neg_ h2 ?_
        have hhi:hghT TT lv (nxt H TT lv a):=⟨by omega,by unfold inT at hin;omega,by omega⟩;rcases ha with rfl|ha
        · refine Ev.neg_ (by omega) (hgo false ?_)
          simp only [Bool.false_eq_true,false_iff,Classical.not_not];exact ⟨hhi,fun h=>by omega⟩
        · refine Ev.pos_ ha.1 (Ev.pos_ ha.1 (Ev.pos_ ha.2.1 (Ev.bind (spec_cmp _ _ _ _ _ _ _ _) (hgo _ ?_))))
          rw [okStep_cmp,decide_eq_true_eq]
          constructor
          · intro h hs;exact hs.2 ha.1 h
          · intro h
            exact Classical.byContradiction fun hc=>h ⟨hhi,fun _=>hc⟩
theorem spec_range_in (T:List S77) (hl:T.length≤140737488351232) (x:Int):spec_l1In.f x (-1) (wrap64 ((T.length:Int) - 1))=some (inB x (-1) ((T.length:Int) - 1)):=by
  rw [spec_in,w64 (by omega) (by omega)]
theorem inB_inT (T:List S77) (x:Int):inB x (-1) ((T.length:Int) - 1)=true↔inT T x:=inB_iff
def manyL (f:Nat→Nat):List Int:=[(f 0:Int),f 1,f 2,f 3,f 4]
theorem manyL_len (f:Nat→Nat):(manyL f).length=5:=rfl
theorem rd_many (f:Nat→Nat) {j:Nat} (hj:j < 5):rd (manyL f) (j:Int)=f j:=by
  rw [rd_nat]
  match j,hj with
  |0,_=>rfl
  |1,_=>rfl
  |2,_=>rfl
  |3,_=>rfl
  |4,_=>rfl
theorem set_many (f:Nat→Nat) {j v:Nat} (hj:j < 5):(manyL f).set j (v:Int)=manyL (fun l=>if l=j then v else f l):=by
  match j,hj with
  |0,_=>rfl
  |1,_=>rfl
  |2,_=>rfl
  |3,_=>rfl
  |4,_=>rfl
theorem manyL_congr {f g:Nat→Nat} (h:∀ l,l < 5→f l=g l):manyL f=manyL g:=by
  unfold manyL;rw [h 0 (by omega),h 1 (by omega),h 2 (by omega),h 3 (by omega),h 4 (by omega)]
open Classical in
theorem spec_skip_l3 (H:List Int) (T:List S77) (hl:T.length≤140737488351232) (hH:H.length=5) (hr:∀ j:Nat,j < T.length→rangeT T (T.getD j z77)) :
    ∀ (d i:Nat),i + d=5→Ev (fun k=>spec_GoodSkip.l3 k (manyL fun l=>cntHi l T) ((manyL fun l=>cntHi l T).length:Int) (i:Int) H T) (decide (∀ lv:Nat,i≤lv→lv < 5→inT T (rd H lv)∧levelP H T lv)):=by
  intro d
  induction d with
  | zero =>
    intro i hi;refine Ev.step (fun k=>by rw [spec_GoodSkip.l3]) ?_;rw [zE (show ∀ lv:Nat,i≤lv→lv < 5→inT T (rd H lv)∧levelP H T lv from fun lv h1 h2=>by omega)]
    exact Ev.neg_ (by rw [manyL_len];omega) (Ev.now _)
  | succ d ih =>
    intro i hi;refine Ev.step (fun k=>by rw [spec_GoodSkip.l3]) ?_;refine Ev.pos_ (by rw [manyL_len];omega) (Ev.pos_ (by omega) (Ev.pos_ (by rw [manyL_len];omega) (Ev.pos_ (by omega) ?_)));rw [spec_range_in T hl];refine Ev.some_ ?_;by_cases hh:inT T (rd H i)
    · refine Ev.pos_ ((inB_inT T _).2 hh) ?_
      rw [rd_many _ (show i < 5 by omega)];have hn:=ih (i + 1) (by omega);rw [← wi (show i < 5 by omega) (by omega)] at hn;have:=spec_skip_l4 H [] (manyL fun l=>cntHi l T) T ((manyL fun l=>cntHi l T).length:Int) i _ (by omega) hH hl hr hh hn (cntHi i T) (-1) (by have:=cntHi_le i T;omega) (.inl rfl)
      have e:decide (∀ lv:Nat,i≤lv→lv < 5→inT T (rd H lv)∧levelP H T lv)=(decide (restP H T i (-1) 0 (cntHi i T)) && decide (∀ lv:Nat,i + 1≤lv→lv < 5→inT T (rd H lv)∧levelP H T lv)):=by
        rw [Bool.eq_iff_iff,Bool.and_eq_true,decide_eq_true_eq,decide_eq_true_eq,decide_eq_true_eq]
        constructor
        · intro g
          obtain ⟨L,g1,g2⟩:=(g i (Nat.le_refl _) (by omega)).2;exact ⟨⟨L,g1,by omega⟩,fun lv h1 h2=>g lv (by omega) h2⟩
        · rintro ⟨⟨L, g1, g2⟩, g⟩ lv h1 h2
          by_cases e:lv=i
          · subst e;exact ⟨hh,L,g1,by omega⟩
          · exact g lv (by omega) h2
      rw [e];exact this
    · refine Ev.neg_ (fun h => hh ((inB_inT T _).1 h)) ?_
      rw [decide_eq_false (fun g=>hh (g i (Nat.le_refl _) (by omega)).1)];exact Ev.now _
open Classical in
theorem spec_skip_l2 (C H:List Int) (T:List S77) (t:S77) (i:Nat) (rst:Bool) (hl:T.length≤140737488351232) (ht:t.f1.length≤5) (f:Nat→Nat) (hf:∀ l,f l≤140737488351232)
    (hn:rangeT T t→Ev (fun k=>spec_GoodSkip.l0 k C (manyL fun l=>f l + if (l:Int) < (t.f1.length:Int) then 1 else 0) T (T.length:Int) (wrap64 ((i:Int) + 1)) H T) rst) :
    ∀ (d x:Nat),x + d=t.f1.length→(∀ j:Nat,j < x→inT T (t.f1.getD j 0))→Ev (fun k=>spec_GoodSkip.l2 k C (manyL fun l=>f l + if l < x then 1 else 0) T (T.length:Int) (i:Int) (t.f1.length:Int) (x:Int) H T t.f0.f0 t.f0.f1 t.f0.f2 t.f0.f3 t.f1) (decide (∀ j:Nat,x≤j→j < t.f1.length→inT T (t.f1.getD j 0)) && rst):=by
  intro d
  induction d with
  | zero =>
    intro x hx hp;refine Ev.step (fun k=>by rw [spec_GoodSkip.l2]) ?_;rw [zE (show ∀ j:Nat,x≤j→j < t.f1.length→inT T (t.f1.getD j 0) from fun j h1 h2=>by omega),Bool.true_and];refine Ev.neg_ (by omega) ?_
    have e:(manyL fun l=>f l + if l < x then 1 else 0)=(manyL fun l=>f l + if (l:Int) < (t.f1.length:Int) then 1 else 0):=by
      refine manyL_congr fun l _=>?_;by_cases h:l < x
      · rw [if_pos h,if_pos (by omega)]
      · rw [if_neg h,if_neg (by omega)]
    rw [e];exact hn (fun j hj=>hp j (by omega))
  | succ d ih =>
    intro x hx hp;refine Ev.step (fun k=>by rw [spec_GoodSkip.l2]) ?_;refine Ev.pos_ (by omega) (Ev.pos_ (by omega) (Ev.pos_ (by rw [manyL_len];omega) (Ev.pos_ (by omega) ?_)));rw [spec_range_in T hl,rd_nat];refine Ev.some_ ?_;by_cases hh:inT T (t.f1.getD x 0)
    · refine Ev.pos_ ((inB_inT T _).2 hh) ?_
      have hfx:=hf x
      rw [rd_many _ (show x < 5 by omega),if_neg (by omega),w64 (by omega) (by omega),Int.toNat_natCast,wi (show x < 5 by omega) (by omega),
        show (((f x + 0:Nat):Int) + 1)=((f x + 1:Nat):Int) by omega,set_many _ (show x < 5 by omega)]
      have e:(manyL fun l=>if l=x then f x + 1 else f l + if l < x then 1 else 0)=(manyL fun l=>f l + if l < x + 1 then 1 else 0):=by
        refine manyL_congr fun l _=>?_;by_cases h:l=x
        · subst h;rw [if_pos rfl,if_pos (by omega)]
        · rw [if_neg h]
          by_cases h2:l < x
          · rw [if_pos h2,if_pos (by omega)]
          · rw [if_neg h2,if_neg (by omega)]
      rw [e]
      have e2:decide (∀ j:Nat,x≤j→j < t.f1.length→inT T (t.f1.getD j 0))=decide (∀ j:Nat,x + 1≤j→j < t.f1.length→inT T (t.f1.getD j 0)):=by
        rw [Bool.eq_iff_iff,decide_eq_true_eq,decide_eq_true_eq];refine ⟨fun g j h1 h2=>g j (by omega) h2,fun g j h1 h2=>?_⟩;by_cases e:j=x
        · subst e;exact hh
        · exact g j (by omega) h2
      rw [e2];refine ih (x + 1) (by omega) (fun j hj=>?_);by_cases e:j=x
      · subst e;exact hh
      · exact hp j (by omega)
    · refine Ev.neg_ (fun h => hh ((inB_inT T _).1 h)) ?_
      rw [decide_eq_false (fun g=>hh (g x (Nat.le_refl _) (by omega))),Bool.false_and];exact Ev.now _
theorem take_getD {T:List S77} {q i:Nat} (h:q < i):(T.take i).getD q z77=T.getD q z77:=by
  rw [List.getD_eq_getElem?_getD,List.getD_eq_getElem?_getD,List.getElem?_take_of_lt h]
open Classical in
theorem spec_skip_l1 (C M H:List Int) (T:List S77) (t:S77) (i:Nat) (rst:Bool) (hl:T.length≤140737488351232) (hi:i≤T.length)
    (hn:(∀ j:Nat,j < i→cmpI (T.getD j z77).f0 t.f0 ≠ 0)→Ev (fun k=>spec_GoodSkip.l2 k C M T (T.length:Int) (i:Int) (t.f1.length:Int) 0 H T t.f0.f0 t.f0.f1 t.f0.f2 t.f0.f3 t.f1) rst) :
    ∀ (d q:Nat),q + d=i→(∀ j:Nat,j < q→cmpI (T.getD j z77).f0 t.f0 ≠ 0)→Ev (fun k=>spec_GoodSkip.l1 k C M T (T.length:Int) (i:Int) (T.take i) ((T.take i).length:Int) (q:Int) H T t.f0.f0 t.f0.f1 t.f0.f2 t.f0.f3 t.f1) (decide (∀ j:Nat,q≤j→j < i→cmpI (T.getD j z77).f0 t.f0 ≠ 0) && rst):=by
  have hlen:(T.take i).length=i:=by simp;omega
  intro d
  induction d with
  | zero =>
    intro q hq hp;refine Ev.step (fun k=>by rw [spec_GoodSkip.l1]) ?_;rw [zE (show ∀ j:Nat,q≤j→j < i→cmpI (T.getD j z77).f0 t.f0 ≠ 0 from fun j h1 h2=>by omega),Bool.true_and]
    exact Ev.neg_ (by omega) (hn (fun j hj=>hp j (by omega)))
  | succ d ih =>
    intro q hq hp;refine Ev.step (fun k=>by rw [spec_GoodSkip.l1]) ?_;refine Ev.pos_ (by omega) (Ev.pos_ (by omega) (Ev.pos_ (by omega) ?_));refine Ev.bind (spec_cmp _ _ _ _ _ _ _ _) ?_;rw [rdT_nat,take_getD (show q < i by omega)];refine Ev.ite_ (fun h=>?_) (fun h=>?_)
    · rw [decide_eq_false (fun g => g q (Nat.le_refl _) (by omega) h), Bool.false_and]
      exact Ev.now _
    · rw [wi (show q < i by omega) (by omega)]
      have e2:decide (∀ j:Nat,q≤j→j < i→cmpI (T.getD j z77).f0 t.f0 ≠ 0)=decide (∀ j:Nat,q + 1≤j→j < i→cmpI (T.getD j z77).f0 t.f0 ≠ 0):=by
        rw [Bool.eq_iff_iff,decide_eq_true_eq,decide_eq_true_eq];refine ⟨fun g j h1 h2=>g j (by omega) h2,fun g j h1 h2=>?_⟩;by_cases e:j=q
        · subst e;exact h
        · exact g j (by omega) h2
      rw [e2];refine ih (q + 1) (by omega) (fun j hj=>?_);by_cases e:j=q
      · subst e;exact h
      · exact hp j (by omega)
open Classical in
theorem spec_skip_l0 (H:List Int) (T:List S77) (hl:T.length≤140737488351232) (hH:H.length=5) :
    ∀ (d i:Nat),i + d=T.length→(∀ j:Nat,j < i→condT T j)→Ev (fun k=>spec_GoodSkip.l0 k crcT (manyL fun l=>cntHi l (T.take i)) T (T.length:Int) (i:Int) H T) (decide ((∀ j:Nat,i≤j→j < T.length→condT T j) ∧ ∀ lv:Nat,lv < 5→inT T (rd H lv)∧levelP H T lv)):=by
  intro d
  induction d with
  | zero =>
    intro i hi hp;refine Ev.step (fun k=>by rw [spec_GoodSkip.l0]) ?_;refine Ev.neg_ (by omega) ?_;rw [List.take_of_length_le (by omega)];have:=spec_skip_l3 H T hl hH (fun j hj=>(hp j (by omega)).2.2) 5 0 (by omega)
    have e:decide ((∀ j:Nat,i≤j→j < T.length→condT T j) ∧ ∀ lv:Nat,lv < 5→inT T (rd H lv)∧levelP H T lv)=decide (∀ lv:Nat,0≤lv→lv < 5→inT T (rd H lv)∧levelP H T lv):=by
      rw [Bool.eq_iff_iff,decide_eq_true_eq,decide_eq_true_eq];exact ⟨fun g lv _ h2=>g.2 lv h2,fun g=>⟨fun j h1 h2=>by omega,fun lv h2=>g lv (Nat.zero_le _) h2⟩⟩
    rw [e];exact this
  | succ d ih =>
    intro i hi hp;refine Ev.step (fun k=>by rw [spec_GoodSkip.l0]) ?_;refine Ev.pos_ (by omega) (Ev.pos_ (by omega) (Ev.pos_ (by omega) ?_));simp only [rdT_nat,spec_goodItem,Option.bind_some]
    have hno:¬ condT T i→Ev (fun k:Nat=>some false) (decide ((∀ j:Nat,i≤j→j < T.length→condT T j) ∧ ∀ lv:Nat,lv < 5→inT T (rd H lv)∧levelP H T lv)):=by
      intro ht;rw [decide_eq_false (fun g=>ht (g.1 i (Nat.le_refl _) (by omega)))];exact Ev.now _
    by_cases h:goodI (T.getD i z77).f0=true
    · have hb := goodI_iff h
      refine Ev.pos_ h (Ev.bind (spec_tower _ hb.2.1 hb.2.2.1 hb.2.2.2.1) ?_);refine Ev.step (fun k=>by rw [spec_GoodSkip.j2]) ?_;refine Ev.ite_ (fun h2=>hno ?_) (fun h2=>?_)
      · rintro ⟨⟨_, g⟩, _⟩
        rw [g] at h2;simp at h2
      · have hw : towI (T.getD i z77) := ⟨h, by simpa using h2⟩
        have hw5:(T.getD i z77).f1.length≤5:=by have:=towV_range (T.getD i z77).f0.f0 (T.getD i z77).f0.f1;have:=hw.2;omega
        refine Ev.pos_ (by omega) (Ev.pos_ (by omega) (Ev.some_ ?_));rw [Int.toNat_natCast];have hle:∀ l:Nat,cntHi l (T.take i)≤140737488351232:=fun l=>by have:=cntHi_le l (T.take i);simp at this;omega
        have e0:(manyL fun l=>cntHi l (T.take (i + 1)))=(manyL fun l=>cntHi l (T.take i) + if (l:Int) < ((T.getD i z77).f1.length:Int) then 1 else 0):=manyL_congr fun l _=>cntHi_take l T i (by omega);have e1:(manyL fun l=>cntHi l (T.take i) + if l < 0 then 1 else 0)=(manyL fun l=>cntHi l (T.take i)):=manyL_congr fun l _=>by simp
        have key:=fun ha:apartT T i=>spec_skip_l2 crcT H T (T.getD i z77) i (decide ((∀ j:Nat,i + 1≤j→j < T.length→condT T j) ∧ ∀ lv:Nat,lv < 5→inT T (rd H lv)∧levelP H T lv)) hl hw5 (fun l=>cntHi l (T.take i)) hle (fun hrg=>by
          have hnx:=ih (i + 1) (by omega) (fun j hj=>by
            by_cases e:j=i
            · subst e;exact ⟨hw,ha,hrg⟩
            · exact hp j (by omega))
          rw [← wi (show i < T.length by omega) hl,e0] at hnx
          exact hnx) (T.getD i z77).f1.length 0 (by omega) (fun j hj=>by omega)
        rw [e1] at key;have:=spec_skip_l1 crcT _ H T (T.getD i z77) i _ hl (by omega) key i 0 (by omega) (fun j hj=>by omega)
        have e2:decide ((∀ j:Nat,i≤j→j < T.length→condT T j) ∧ ∀ lv:Nat,lv < 5→inT T (rd H lv)∧levelP H T lv)=(decide (∀ j:Nat,0≤j→j < i→cmpI (T.getD j z77).f0 (T.getD i z77).f0 ≠ 0) && (decide (∀ j:Nat,0≤j→j < (T.getD i z77).f1.length→inT T ((T.getD i z77).f1.getD j 0)) && decide ((∀ j:Nat,i + 1≤j→j < T.length→condT T j) ∧ ∀ lv:Nat,lv < 5→inT T (rd H lv)∧levelP H T lv))):=by
          rw [Bool.eq_iff_iff,Bool.and_eq_true,Bool.and_eq_true,decide_eq_true_eq,decide_eq_true_eq,decide_eq_true_eq,decide_eq_true_eq]
          constructor
          · rintro ⟨g1, g2⟩
            have hc:=g1 i (Nat.le_refl _) (by omega);exact ⟨fun j _ h=>hc.2.1 j h,fun j _ h=>hc.2.2 j h,fun j h1 h2=>g1 j (by omega) h2,g2⟩
          · rintro ⟨g1, g2, g3, g4⟩
            refine ⟨fun j h1 h2=>?_,g4⟩;by_cases e:j=i
            · subst e;exact ⟨hw,fun q hq=>g1 q (Nat.zero_le _) hq,fun q hq=>g2 q (Nat.zero_le _) hq⟩
            · exact g3 j (by omega) h2
        rw [e2];exact this
    · refine Ev.neg_ h ?_
      refine Ev.step (fun k=>by rw [spec_GoodSkip.j2]) ?_;exact Ev.pos_ rfl (hno (fun g=>h g.1.1))
/-- The chain of a level names each tower that is so high, once. -/
theorem Chain.facts {H:List Int} {T:List S77} {lv:Int}:∀ {a:Int} {L V:List Int},Chain H T lv a L→Vis T a V→(L.reverse ++ V).Pairwise (fun x y=>ltT T y x)∧(∀ y ∈ L,hghT T lv y)
  | a, [], V, _, hv => by
    refine ⟨?_,by simp⟩
    cases V with
    |nil=>simp
    |cons v V=>simpa using hv.2.2.2.1
  | a, j :: L, V, h, hv => by
    have:=Chain.facts h.2.2 (hv.push h.2.1);refine ⟨by simpa using this.1,fun y hy=>?_⟩;rcases List.mem_cons.1 hy with rfl|hy
    · exact h.2.1.1
    · exact this.2 y hy
theorem Chain.nexts {H:List Int} {T:List S77} {lv:Int}:∀ {a:Int} {L:List Int},Chain H T lv a L → ∀ x,x=a∨x ∈ L→nxt H T lv x = -1∨nxt H T lv x ∈ L
  | a, [], h, x, hx => by
    rcases hx with rfl|hx
    · exact .inl h
    · cases hx
  | a, j :: L, h, x, hx => by
    rcases hx with rfl|hx
    · right;rw [h.1];simp
    · rcases Chain.nexts h.2.2 x (List.mem_cons.1 hx) with h' | h'
      · exact .inl h'
      · exact .inr (List.mem_cons_of_mem _ h')
def hiL (T:List S77) (lv:Int):List Nat:=(List.range T.length).filter (fun j=>decide (lv < ((T.getD j z77).f1.length:Int)))
theorem hiL_length (T:List S77) (lv:Int):(hiL T lv).length=cntHi lv T:=by
  unfold hiL cntHi;rw [← List.countP_eq_length_filter]
  have:∀ (n:Nat),n≤T.length→(List.range n).countP (fun j=>decide (lv < ((T.getD j z77).f1.length:Int)))=cntHi lv (T.take n):=by
    intro n
    induction n with
    |zero=>intro _;simp [cntHi]
    | succ n ih =>
      intro h;rw [List.range_succ,List.countP_append,ih (by omega),cntHi_take lv T n (by omega)];simp [List.countP_cons]
  have h:=this T.length (Nat.le_refl _);rw [List.take_length] at h;exact h
theorem mem_hiL {T:List S77} {lv:Int} {j:Nat}:j ∈ hiL T lv↔hghT T lv j:=by
  unfold hiL hghT;rw [List.mem_filter,List.mem_range,rdT_nat,decide_eq_true_eq];omega
theorem level_all {H:List Int} {T:List S77} {lv:Int} {L:List Int} (h:Chain H T lv (-1) L) (hc:L.length=cntHi lv T) {j:Int} (hj:hghT T lv j):j ∈ L:=by
  have hf:=h.facts (V:=[]) rfl
  have hp:(L.map Int.toNat).Nodup:=by
    rw [List.nodup_iff_pairwise_ne,List.pairwise_map];have h1:=hf.1;rw [List.append_nil,List.pairwise_reverse] at h1;refine h1.imp_of_mem (fun {x y} hx hy hl he=>?_);have:=(hf.2 x hx).1;have:=(hf.2 y hy).1;have e:x=y:=by omega
    subst e;exact ltT_irrefl _ _ hl
  have hs:L.map Int.toNat ⊆ hiL T lv:=by
    intro x hx;obtain ⟨y,hy,rfl⟩:=List.mem_map.1 hx;rw [mem_hiL,Int.toNat_of_nonneg (hf.2 y hy).1];exact hf.2 y hy
  refine Classical.byContradiction fun hno=>?_
  have hp2:(j.toNat :: L.map Int.toNat).Nodup:=by
    refine List.nodup_cons.2 ⟨fun hm=>?_,hp⟩;obtain ⟨y,hy,e⟩:=List.mem_map.1 hm;have:=(hf.2 y hy).1;have:=hj.1;have:y=j:=by omega
    subst this;exact hno hy
  have hs2:(j.toNat :: L.map Int.toNat) ⊆ hiL T lv:=by
    intro x hx;rcases List.mem_cons.1 hx with rfl|hx
    · rw [mem_hiL,Int.toNat_of_nonneg hj.1];exact hj
    · exact hs hx
  have:=hp2.length_le_of_subset hs2;rw [hiL_length,List.length_cons,List.length_map,hc] at this;omega
theorem good_range {H:List Int} {T:List S77} (h:goodSkipP H T):(∀ j:Nat,j < T.length→rangeT T (T.getD j z77)) ∧ ∀ lv:Nat,lv < 5→inT T (rd H lv):=by
  obtain ⟨hH,hn,ht,hl⟩:=h
  have key:∀ lv:Nat,lv < 5 → ∀ x,x = -1∨hghT T lv x→inT T (nxt H T lv x):=by
    intro lv hlv x hx;obtain ⟨L,h1,h2⟩:=hl lv hlv;have hf:=h1.facts (V:=[]) rfl
    have:nxt H T lv x = -1∨nxt H T lv x ∈ L:=by
      refine h1.nexts x ?_;rcases hx with rfl|hx
      · exact .inl rfl
      · exact .inr (level_all h1 h2 hx)
    unfold inT;rcases this with h|h
    · omega
    · have := hf.2 _ h
      have:=this.1;have:=(hf.2 _ h).2.1;omega
  refine ⟨fun j hj q hq=>?_,fun lv hlv=>?_⟩
  · have hw := ht j hj
    have:=towV_range (T.getD j z77).f0.f0 (T.getD j z77).f0.f1;have:=hw.2;have h:=key q (by omega) j (.inr ⟨by omega,by omega,by rw [rdT_nat];omega⟩);unfold nxt at h;rw [if_neg (by omega),rdT_nat,rd_nat] at h;exact h
  · have h := key lv hlv (-1) (.inl rfl)
    unfold nxt at h;rw [if_pos (by omega)] at h;exact h
theorem cmpV_anti {k1 k2:ByteArray} {q1 q2:Int} (h:cmpV k1 q1 k2 q2=0):k1.toList=k2.toList∧q1=q2:=by
  unfold cmpV at h;by_cases h1:Op.bytesLess k1.toList k2.toList=true
  · rw [if_pos h1] at h;omega
  · rw [if_neg h1] at h
    by_cases h2:k1.toList=k2.toList
    · rw [if_pos h2] at h
      by_cases h3:q1 > q2
      · rw [if_pos h3] at h;omega
      · rw [if_neg h3] at h
        by_cases h4:q1=q2
        · exact ⟨h2,h4⟩
        · rw [if_neg h4] at h;omega
    · rw [if_neg h2] at h;omega
theorem good_apart {H:List Int} {T:List S77} (h:goodSkipP H T) (i:Nat) (hi:i < T.length):apartT T i:=by
  obtain ⟨hH,hn,ht,hl⟩:=h;obtain ⟨L,h1,h2⟩:=hl 0 (by omega);have hf:=h1.facts (V:=[]) rfl
  have hall:∀ j:Nat,j < T.length→(j:Int) ∈ L:=by
    intro j hj;have:=towV_range (T.getD j z77).f0.f0 (T.getD j z77).f0.f1;have:=(ht j hj).2;exact level_all h1 h2 ⟨by omega,by omega,by rw [rdT_nat];omega⟩
  intro q hq he;have hp:=hf.1;rw [List.append_nil,List.pairwise_reverse] at hp
  have hrel:∀ {x y:Int},x ∈ L→y ∈ L→x ≠ y→ltT T x y∨ltT T y x:=by
    intro x y hx hy hne;obtain ⟨a,ha,rfl⟩:=List.mem_iff_getElem.1 hx;obtain ⟨b,hb,rfl⟩:=List.mem_iff_getElem.1 hy;rcases Nat.lt_trichotomy a b with h|h|h
    · exact .inl (List.pairwise_iff_getElem.1 hp a b ha hb h)
    · subst h;exact absurd rfl hne
    · exact .inr (List.pairwise_iff_getElem.1 hp b a hb ha h)
  have e:=cmpV_anti he;rcases hrel (hall q (by omega)) (hall i hi) (by omega) with h|h
  · unfold ltT cmpI at h
    rw [rdT_nat,rdT_nat,cmpV_neg,e.1,less_irrefl] at h;rcases h with h | ⟨_,h⟩
    · cases h
    · omega
  · unfold ltT cmpI at h
    rw [rdT_nat,rdT_nat,cmpV_neg,e.1,less_irrefl] at h;rcases h with h | ⟨_,h⟩
    · cases h
    · omega
open Classical in
theorem spec_goodSkip (H:List Int) (T:List S77) (hl:T.length≤140737488351232):Ev (fun k=>spec_GoodSkip.f k H T) (goodSkipV H T):=by
  have hj:∀ x:Bool,(x=false→H.length=5)→Ev (fun k=>spec_GoodSkip.j0 k x H T) (!x && decide ((∀ j:Nat,0≤j→j < T.length→condT T j) ∧ ∀ lv:Nat,lv < 5→inT T (rd H lv)∧levelP H T lv)):=by
    intro x hx;refine Ev.step (fun k=>by rw [spec_GoodSkip.j0]) ?_
    cases x with
    |true=>exact Ev.pos_ rfl (Ev.now _)
    | false =>
      refine Ev.neg_ (by simp) (Ev.bind spec_table (Ev.pos_ (by omega) ?_));have:=spec_skip_l0 H T hl (hx rfl) T.length 0 (by omega) (fun j hj=>by omega);exact this
  unfold spec_GoodSkip.f goodSkipV;by_cases h5:(H.length:Int)=5
  · have h5' : H.length = 5 := by omega
    refine Ev.pos_ h5 ?_;have:=hj (decide ((T.length:Int) > 60)) (fun _=>h5')
    have e:decide (goodSkipP H T)=(!decide ((T.length:Int) > 60) && decide ((∀ j:Nat,0≤j→j < T.length→condT T j) ∧ ∀ lv:Nat,lv < 5→inT T (rd H lv)∧levelP H T lv)):=by
      rw [Bool.eq_iff_iff,Bool.and_eq_true,decide_eq_true_eq,decide_eq_true_eq];simp only [Bool.not_eq_true',decide_eq_false_iff_not]
      constructor
      · intro g
        have g':=g;obtain ⟨_,g2,g3,g4⟩:=g;have gr:=good_range g';exact ⟨by omega,fun j _ h=>⟨g3 j h,good_apart g' j h,gr.1 j h⟩,fun lv h=>⟨gr.2 lv h,g4 lv h⟩⟩
      · rintro ⟨g2, g3, g4⟩
        exact ⟨h5',by omega,fun j h=>(g3 j (Nat.zero_le _) h).1,fun lv h=>(g4 lv h).2⟩
    rw [e];exact this
  · refine Ev.neg_ h5 ?_
    have:=hj true (fun h=>by cases h);rw [decide_eq_false (fun g:goodSkipP H T=>h5 (by have:=g.1;omega))];exact this
-- part implSkip needs impl_GoodSkip.f impl_Skip_levelOk.j2
theorem impl_next {H:List Int} {T:List S77} {lv a:Int} (h0:0≤lv) (hH:lv < (H.length:Int)) (ha:a = -1∨hghT T lv a):impl_Skip_next.f H T a lv=some (nxt H T lv a):=by
  unfold impl_Skip_next.f nxt;rcases ha with rfl | ⟨g0,g1,g2⟩
  · rw [if_pos rfl,if_pos h0,if_pos hH,if_pos (by omega)]
  · rw [if_neg (by omega),if_pos g0,if_pos g1,if_pos h0,if_pos g2,if_neg (by omega)]
theorem impl_level_l1 (T:List S77) (lv:Int) (hl:T.length≤140737488351232):∀ (d i:Nat) (m:Int),i + d=T.length → -140737488351232≤m - d→m≤140737488351232→Ev (fun k=>impl_Skip_levelOk.l1 k lv m T (T.length:Int) i) (m - cntHi lv (T.drop i) == 0):=by
  intro d
  induction d with
  | zero =>
    intro i m hi h0 h1;refine Ev.step (fun k=>by rw [impl_Skip_levelOk.l1]) ?_;refine Ev.neg_ (by omega) ?_;rw [List.drop_of_length_le (by omega)];simp only [cntHi,List.countP_nil];rw [show m - ((0:Nat):Int)=m by omega]
    exact Ev.now _
  | succ d ih =>
    intro i m hi h0 h1;refine Ev.step (fun k=>by rw [impl_Skip_levelOk.l1]) ?_;refine Ev.pos_ (by omega) (Ev.pos_ (by omega) (Ev.pos_ (by omega) ?_));have hc:=cntHi_drop lv T i (by omega);simp only [rdT_nat,wi (show i < T.length by omega) hl];by_cases h:lv < ((T.getD i z77).f1.length:Int)
    · rw [if_pos h] at hc
      refine Ev.pos_ h ?_;rw [w64 (by omega) (by omega)];have:=ih (i + 1) (m - 1) (by omega) (by omega) (by omega);rw [hc,show m - ((cntHi lv (T.drop (i + 1)) + 1:Nat):Int)=m - 1 - (cntHi lv (T.drop (i + 1)):Int) by omega];exact this
    · rw [if_neg h] at hc
      refine Ev.neg_ h ?_;have:=ih (i + 1) m (by omega) (by omega) (by omega);rw [hc];exact this
open Classical in
theorem impl_level_l0 (H:List Int) (T:List S77) (lv:Int) (hl:T.length≤140737488351232) (h0:0≤lv) (hH:lv < (H.length:Int)) :
    ∀ (d:Nat) (a:Int) (V:List Int),V.length + d=T.length→Vis T a V→(a = -1∨hghT T lv a)→Ev (fun k=>impl_Skip_levelOk.l0 k lv (V.length:Int) a H T) (decide (restP H T lv a V.length (cntHi lv T))):=by
  intro d
  induction d with
  | zero =>
    intro a V hd hv ha;refine Ev.step (fun k=>by rw [impl_Skip_levelOk.l0]) ?_;rw [impl_next h0 hH ha];refine Ev.some_ ?_;by_cases h1:nxt H T lv a = -1
    · refine Ev.pos_ h1 ?_
      have:=impl_level_l1 T lv hl T.length 0 (V.length:Int) (by omega) (by omega) (by omega);rw [List.drop_zero] at this
      have e:((V.length:Int) - cntHi lv T == 0)=decide (restP H T lv a V.length (cntHi lv T)):=by
        rw [Bool.eq_iff_iff,beq_iff_eq,decide_eq_true_eq,restP_end h1];omega
      rw [← e];exact this
    · refine Ev.neg_ h1 ?_
      have hbad:¬ okStep T lv a (nxt H T lv a):=fun hs=>by have:=hv.room hs;omega
      rw [decide_eq_false (restP_bad rfl h1 hbad)];rw [impl_in_];refine Ev.some_ ?_;by_cases h2:inB (nxt H T lv a) 0 (wrap64 ((T.length:Int) - 1))=true
      · refine Ev.pos_ h2 ?_
        rw [inB_iff,w64 (by omega) (by omega)] at h2;refine Ev.pos_ (by omega) (Ev.pos_ (by omega) ?_);refine Ev.step (fun k=>by rw [impl_Skip_levelOk.j1]) ?_;refine Ev.ite_ (fun _=>Ev.now _) (fun h3=>?_)
        have h3':lv < ((rd_T77 T (nxt H T lv a)).f1.length:Int):=by
          have:¬ ((rd_T77 T (nxt H T lv a)).f1.length:Int)≤lv:=by simpa using h3
          omega
        rcases ha with rfl|ha
        · exact absurd ⟨⟨by omega,by omega,h3'⟩,fun h=>by omega⟩ hbad
        · refine Ev.neg_ (by have := ha.1; omega) (Ev.pos_ ha.1 (Ev.pos_ ha.2.1 (Ev.pos_ (by omega) (Ev.pos_ (by omega) (Ev.bind (impl_cmp _ _ _ _ _ _ _ _) ?_)))))
          refine Ev.step (fun k=>by rw [impl_Skip_levelOk.j2]) ?_;refine Ev.ite_ (fun _=>Ev.now _) (fun h4=>?_);exact absurd (okStep_cmp.2 ⟨⟨by omega,by omega,h3'⟩,fun _=>by simpa [cmpI] using h4⟩) hbad
      · refine Ev.neg_ h2 ?_
        refine Ev.step (fun k=>by rw [impl_Skip_levelOk.j1]) ?_
        exact Ev.pos_ rfl (Ev.now _)
  | succ d ih =>
    intro a V hd hv ha;refine Ev.step (fun k=>by rw [impl_Skip_levelOk.l0]) ?_;rw [impl_next h0 hH ha];refine Ev.some_ ?_;by_cases h1:nxt H T lv a = -1
    · refine Ev.pos_ h1 ?_
      have:=impl_level_l1 T lv hl T.length 0 (V.length:Int) (by omega) (by omega) (by omega);rw [List.drop_zero] at this
      have e:((V.length:Int) - cntHi lv T == 0)=decide (restP H T lv a V.length (cntHi lv T)):=by
        rw [Bool.eq_iff_iff,beq_iff_eq,decide_eq_true_eq,restP_end h1];omega
      rw [← e];exact this
    · refine Ev.neg_ h1 ?_
      have hgo:okStep T lv a (nxt H T lv a)→Ev (fun k=>impl_Skip_levelOk.l0 k lv (wrap64 ((V.length:Int) + 1)) (nxt H T lv a) H T) (decide (restP H T lv a V.length (cntHi lv T))):=by
        intro hs;have:=ih (nxt H T lv a) (nxt H T lv a :: V) (by simp;omega) (hv.push hs) (.inr hs.1);rw [List.length_cons] at this;rw [wi (show V.length < V.length + 1 by omega) (by omega)]
        have e:decide (restP H T lv a V.length (cntHi lv T))=decide (restP H T lv (nxt H T lv a) (V.length + 1) (cntHi lv T)):=by
          rw [Bool.eq_iff_iff,decide_eq_true_eq,decide_eq_true_eq];exact restP_step rfl hs
        rw [e];exact this
      have hno:¬ okStep T lv a (nxt H T lv a)→Ev (fun k:Nat=>some false) (decide (restP H T lv a V.length (cntHi lv T))):=by
        intro hb;rw [decide_eq_false (restP_bad rfl h1 hb)];exact Ev.now _
      rw [impl_in_];refine Ev.some_ ?_;by_cases h2:inB (nxt H T lv a) 0 (wrap64 ((T.length:Int) - 1))=true
      · refine Ev.pos_ h2 ?_
        rw [inB_iff,w64 (by omega) (by omega)] at h2;refine Ev.pos_ (by omega) (Ev.pos_ (by omega) ?_);refine Ev.step (fun k=>by rw [impl_Skip_levelOk.j1]) ?_;refine Ev.ite_ (fun h3=>hno ?_) (fun h3=>?_)
        · have h3' : ((rd_T77 T (nxt H T lv a)).f1.length : Int) ≤ lv := by simpa using h3
          rintro ⟨⟨_,_,hh⟩,_⟩;omega
        · have h3' : lv < ((rd_T77 T (nxt H T lv a)).f1.length : Int) := by
            have:¬ ((rd_T77 T (nxt H T lv a)).f1.length:Int)≤lv:=by simpa using h3
            omega
          rcases ha with rfl|ha
          · refine Ev.pos_ rfl ?_
            refine Ev.step (fun k=>by rw [impl_Skip_levelOk.j2]) ?_;exact Ev.neg_ (by simp) (hgo ⟨⟨by omega,by omega,h3'⟩,fun h=>by omega⟩)
          · refine Ev.neg_ (by have := ha.1; omega) (Ev.pos_ ha.1 (Ev.pos_ ha.2.1 (Ev.pos_ (by omega) (Ev.pos_ (by omega) (Ev.bind (impl_cmp _ _ _ _ _ _ _ _) ?_)))))
            refine Ev.step (fun k=>by rw [impl_Skip_levelOk.j2]) ?_;refine Ev.ite_ (fun h4=>hno ?_) (fun h4=>hgo ?_)
            · intro hs
              exact absurd (by simpa [cmpI] using h4) ((okStep_cmp.1 hs).2 ha.1)
            · exact okStep_cmp.2 ⟨⟨by omega,by omega,h3'⟩,fun _=>by simpa [cmpI] using h4⟩
      · refine Ev.neg_ h2 ?_
        refine Ev.step (fun k=>by rw [impl_Skip_levelOk.j1]) ?_;refine Ev.pos_ rfl (hno ?_);rintro ⟨⟨g0,g1,_⟩,_⟩;apply h2;rw [inB_iff,w64 (by omega) (by omega)];omega
open Classical in
theorem impl_level (H:List Int) (T:List S77) (lv:Int) (hl:T.length≤140737488351232) (h0:0≤lv) (hH:lv < (H.length:Int)) :
    Ev (fun k=>impl_Skip_levelOk.f k H T lv) (decide (levelP H T lv)):=by
  have:=impl_level_l0 H T lv hl h0 hH T.length (-1) [] (by simp) rfl (.inl rfl)
  have e:decide (levelP H T lv)=decide (restP H T lv (-1) 0 (cntHi lv T)):=by
    rw [Bool.eq_iff_iff,decide_eq_true_eq,decide_eq_true_eq];unfold levelP restP;simp
  rw [e];exact this
open Classical in
theorem impl_skip_l1 (H:List Int) (T:List S77) (hl:T.length≤140737488351232) (hH:H.length=5):∀ (d i:Nat),i + d=5→Ev (fun k=>impl_GoodSkip.l1 k (i:Int) H T) (decide (∀ lv:Nat,i≤lv→lv < 5→levelP H T lv)):=by
  intro d
  induction d with
  | zero =>
    intro i hi;refine Ev.step (fun k=>by rw [impl_GoodSkip.l1]) ?_;rw [zE (show ∀ lv:Nat,i≤lv→lv < 5→levelP H T lv from fun lv h1 h2=>by omega)]
    exact Ev.neg_ (by omega) (Ev.now _)
  | succ d ih =>
    intro i hi;refine Ev.step (fun k=>by rw [impl_GoodSkip.l1]) ?_;refine Ev.pos_ (by omega) (Ev.bind (impl_level H T i hl (by omega) (by omega)) ?_);by_cases h:levelP H T i
    · refine Ev.pos_ (decide_eq_true h) ?_
      rw [wi (show i < 5 by omega) (by omega)]
      have e:decide (∀ lv:Nat,i≤lv→lv < 5→levelP H T lv)=decide (∀ lv:Nat,i + 1≤lv→lv < 5→levelP H T lv):=by
        rw [Bool.eq_iff_iff,decide_eq_true_eq,decide_eq_true_eq];refine ⟨fun g lv h1 h2=>g lv (by omega) h2,fun g lv h1 h2=>?_⟩;by_cases e:lv=i
        · subst e;exact h
        · exact g lv (by omega) h2
      rw [e];exact ih (i + 1) (by omega)
    · refine Ev.neg_ (by simpa using h) ?_
      rw [decide_eq_false (fun g=>h (g i (Nat.le_refl _) (by omega)))];exact Ev.now _
open Classical in
theorem impl_skip_l0 (H:List Int) (T:List S77) (hl:T.length≤140737488351232) (hH:H.length=5):∀ (d i:Nat),i + d=T.length→Ev (fun k=>impl_GoodSkip.l0 k T (T.length:Int) (i:Int) H T) (decide ((∀ j:Nat,i≤j→j < T.length→towI (T.getD j z77)) ∧ ∀ lv:Nat,lv < 5→levelP H T lv)):=by
  intro d
  induction d with
  | zero =>
    intro i hi;refine Ev.step (fun k=>by rw [impl_GoodSkip.l0]) ?_;refine Ev.neg_ (by omega) ?_;have:=impl_skip_l1 H T hl hH 5 0 (by omega)
    have e:decide ((∀ j:Nat,i≤j→j < T.length→towI (T.getD j z77)) ∧ ∀ lv:Nat,lv < 5→levelP H T lv)=decide (∀ lv:Nat,0≤lv→lv < 5→levelP H T lv):=by
      rw [Bool.eq_iff_iff,decide_eq_true_eq,decide_eq_true_eq];exact ⟨fun g lv _ h2=>g.2 lv h2,fun g=>⟨fun j h1 h2=>by omega,fun lv h2=>g lv (Nat.zero_le _) h2⟩⟩
    rw [e];exact this
  | succ d ih =>
    intro i hi;refine Ev.step (fun k=>by rw [impl_GoodSkip.l0]) ?_;refine Ev.pos_ (by omega) (Ev.pos_ (by omega) (Ev.pos_ (by omega) ?_));simp only [rdT_nat,impl_goodItem,Option.bind_some,wi (show i < T.length by omega) hl]
    have hgo:towI (T.getD i z77)→Ev (fun k=>impl_GoodSkip.l0 k T (T.length:Int) ((i + 1:Nat):Int) H T) (decide ((∀ j:Nat,i≤j→j < T.length→towI (T.getD j z77)) ∧ ∀ lv:Nat,lv < 5→levelP H T lv)):=by
      intro ht
      have e:decide ((∀ j:Nat,i≤j→j < T.length→towI (T.getD j z77)) ∧ ∀ lv:Nat,lv < 5→levelP H T lv)=decide ((∀ j:Nat,i + 1≤j→j < T.length→towI (T.getD j z77)) ∧ ∀ lv:Nat,lv < 5→levelP H T lv):=by
        rw [Bool.eq_iff_iff,decide_eq_true_eq,decide_eq_true_eq];refine ⟨fun g=>⟨fun j h1 h2=>g.1 j (by omega) h2,g.2⟩,fun g=>⟨fun j h1 h2=>?_,g.2⟩⟩;by_cases e:j=i
        · subst e;exact ht
        · exact g.1 j (by omega) h2
      rw [e];exact ih (i + 1) (by omega)
    have hno:¬ towI (T.getD i z77)→Ev (fun k:Nat=>some false) (decide ((∀ j:Nat,i≤j→j < T.length→towI (T.getD j z77)) ∧ ∀ lv:Nat,lv < 5→levelP H T lv)):=by
      intro ht;rw [decide_eq_false (fun g=>ht (g.1 i (Nat.le_refl _) (by omega)))];exact Ev.now _
    by_cases h:goodI (T.getD i z77).f0=true
    · have hb := goodI_iff h
      refine Ev.pos_ h (Ev.bind (impl_tower _ hb.2.1 hb.2.2.1 hb.2.2.2.1) ?_);refine Ev.step (fun k=>by rw [impl_GoodSkip.j2]) ?_;simp only [wi (show i < T.length by omega) hl];refine Ev.ite_ (fun h2=>hno ?_) (fun h2=>hgo ?_)
      · rintro ⟨_, g⟩
        rw [g] at h2;simp at h2
      · exact ⟨h,by simpa using h2⟩
    · refine Ev.neg_ h ?_
      refine Ev.step (fun k=>by rw [impl_GoodSkip.j2]) ?_;exact Ev.pos_ rfl (hno (fun g=>h g.1))
open Classical in
theorem impl_goodSkip (H:List Int) (T:List S77) (hl:T.length≤140737488351232):Ev (fun k=>impl_GoodSkip.f k H T) (goodSkipV H T):=by
  have hj:∀ x:Bool,(x=false→H.length=5)→Ev (fun k=>impl_GoodSkip.j0 k x H T) (!x && decide ((∀ j:Nat,0≤j→j < T.length→towI (T.getD j z77)) ∧ ∀ lv:Nat,lv < 5→levelP H T lv)):=by
    intro x hx;refine Ev.step (fun k=>by rw [impl_GoodSkip.j0]) ?_
    cases x with
    |true=>exact Ev.pos_ rfl (Ev.now _)
    |false=>exact Ev.neg_ (by simp) (impl_skip_l0 H T hl (hx rfl) T.length 0 (by omega))
  unfold impl_GoodSkip.f goodSkipV;by_cases h5:(H.length:Int)=5
  · have h5' : H.length = 5 := by omega
    refine Ev.pos_ h5 ?_;have:=hj (decide ((T.length:Int) > 60)) (fun _=>h5')
    have e:decide (goodSkipP H T)=(!decide ((T.length:Int) > 60) && decide ((∀ j:Nat,0≤j→j < T.length→towI (T.getD j z77)) ∧ ∀ lv:Nat,lv < 5→levelP H T lv)):=by
      rw [Bool.eq_iff_iff,Bool.and_eq_true,decide_eq_true_eq,decide_eq_true_eq];unfold goodSkipP allTow;simp only [Bool.not_eq_true',decide_eq_false_iff_not]
      constructor
      · rintro ⟨_,g2,g3,g4⟩;exact ⟨by omega,fun j _ h=>g3 j h,g4⟩
      · rintro ⟨g2,g3,g4⟩;exact ⟨h5',by omega,fun j h=>g3 j (Nat.zero_le _) h,g4⟩
    rw [e];exact this
  · refine Ev.neg_ h5 ?_
    have:=hj true (fun h=>by cases h);rw [decide_eq_false (fun g:goodSkipP H T=>h5 (by have:=g.1;omega))];exact this
-- part szSkip needs laws_szSkip.f
theorem szItem1_some (f0 f1 f2 f3) (m:Int):∃ r,laws_szItem.f f0 f1 f2 f3 m=some r:=by
  unfold laws_szItem.f
  repeat' first|exact ⟨_,rfl⟩|split
theorem szIntS_some (l:List Int) (m:Int):∃ r,laws_szIntS.f l m=some r:=by
  unfold laws_szIntS.f;split<;>exact ⟨_,rfl⟩
theorem szTower_some (f0 f1 f2 f3 f4) (m:Int):∃ r,laws_szTower.f f0 f1 f2 f3 f4 m=some r:=by
  unfold laws_szTower.f;obtain ⟨r,hr⟩:=szItem1_some f0 f1 f2 f3 m;rw [hr,Option.bind_some]
  split
  · exact ⟨_,rfl⟩
  · obtain ⟨q, hq⟩ := szIntS_some f4 r
    rw [hq,Option.bind_some]
    split<;>exact ⟨_,rfl⟩
theorem szTowerS_some (l:List S113) (m:Int) (hl:l.length≤140737488351232):∃ r,Ev (fun k=>laws_szTowerS.f k l m) r:=by
  unfold laws_szTowerS.f;by_cases h:wrap64 (m - (l.length:Int)) < 0
  · exact ⟨-1,Ev.pos_ h (Ev.now _)⟩
  · have := sz_gen laws_szTowerS.l0 (fun xs m i hi hn h => ?_) (fun xs m => ⟨m, Ev.step (f := fun _ => some m) (fun k => ?_) (Ev.now _)⟩) l.length l (wrap64 (m - (l.length : Int))) 0 (by omega) hl
    · obtain ⟨r, hr⟩ := this
      exact ⟨r,Ev.neg_ h (by simpa using hr)⟩
    · obtain ⟨r, e⟩ := szTower_some (rd_T113 xs i).f0.f0 (rd_T113 xs i).f0.f1 (rd_T113 xs i).f0.f2 (rd_T113 xs i).f0.f3 (rd_T113 xs i).f1 m
      by_cases hr:r < 0
      · refine ⟨-1, ?_⟩
        refine Ev.step (fun k=>by rw [laws_szTowerS.l0]) ?_;refine Ev.pos_ (by omega) (Ev.pos_ (by omega) ?_);simp only [e,Option.bind_some];exact Ev.pos_ hr (Ev.now _)
      · obtain ⟨q, hq⟩ := h r
        refine ⟨q,?_⟩;refine Ev.step (fun k=>by rw [laws_szTowerS.l0]) ?_;refine Ev.pos_ (by omega) (Ev.pos_ (by omega) ?_);simp only [e,Option.bind_some];refine Ev.neg_ hr ?_;simp only [wi hi hn];exact hq
    · simp only [laws_szTowerS.l0];rw [if_neg (by omega)]
theorem szSkip_some (H:List Int) (T:List S113) (m:Int) (hl:T.length≤140737488351232):∃ r,Ev (fun k=>laws_szSkip.f k H T m) r:=by
  unfold laws_szSkip.f;obtain ⟨r,hr⟩:=szIntS_some H m;by_cases h:r < 0
  · exact ⟨-1,by rw [hr];exact Ev.some_ (Ev.pos_ h (Ev.now _))⟩
  · obtain ⟨q, hq⟩ := szTowerS_some T r hl
    by_cases h2:q < 0
    · exact ⟨-1,by rw [hr];exact Ev.some_ (Ev.neg_ h (Ev.bind hq (Ev.pos_ h2 (Ev.now _))))⟩
    · exact ⟨q,by rw [hr];exact Ev.some_ (Ev.neg_ h (Ev.bind hq (Ev.neg_ h2 (Ev.now _))))⟩
-- part toSkip needs laws_toSkip.f
theorem toIntS_ (l:List Int) (hl:l.length≤35184372088832):Ev (fun k=>laws_toIntS.f k l) l:=by
  unfold laws_toIntS.f;refine Ev.pos_ (by omega) (Ev.pos_ (by omega) ?_);have:=to_gen laws_toIntS.l0 (fun x:Int=>x) 0 0 (fun xs ys i r hi hy hn h=>?_) (fun xs ys=>Ev.step (f:=fun _=>some ys) (fun k=>?_) (Ev.now _)) l.length l 0 (by omega) (by omega)
  · simpa using this
  · refine Ev.step (fun k => by rw [laws_toIntS.l0]) ?_
    refine Ev.pos_ (by omega) (Ev.pos_ (by omega) ?_);refine Ev.pos_ (by omega) ?_;simp only [wi hi hn,Int.toNat_natCast,rd_nat];exact h
  · simp only [laws_toIntS.l0];rw [if_neg (by omega)]
def convItem (a:S51):S28:=⟨a.f0,a.f1,a.f2,a.f3⟩
def convTower (a:S113):S77:=⟨convItem a.f0,a.f1⟩
theorem rd_T113_nat (xs:List S113) (i:Nat):rd_T113 xs (i:Int)=xs.getD i z113:=by unfold rd_T113;rw [Int.toNat_natCast]
theorem toTower_ (f0 f1 f2 f3) (l:List Int) (hl:l.length≤35184372088832):Ev (fun k=>laws_toTower.f k f0 f1 f2 f3 l) (f0,f1,f2,f3,l):=by
  unfold laws_toTower.f laws_toItem.f;exact Ev.some_ (Ev.bind (toIntS_ l hl) (Ev.now _))
def smallT (T:List S113):Prop:=T.length≤3909374676536 ∧ ∀ t ∈ T,t.f1.length≤35184372088832
theorem to_genQ {α β:Type} (Q:α→Prop) (L:Nat→List α→List β→Int→Option (List β)) (f:α→β) (z:β) (za:α)
    (hstep:∀ (xs:List α) (ys:List β) (i:Nat) (r:List β),i < xs.length→i < ys.length→xs.length≤140737488351232→Q (xs.getD i za)→Ev (fun k=>L k xs (ys.set i (f (xs.getD i za))) ((i + 1:Nat):Int)) r→Ev (fun k=>L k xs ys (i:Int)) r)
    (hend:∀ (xs:List α) (ys:List β),Ev (fun k=>L k xs ys (xs.length:Int)) ys) :
    ∀ (d:Nat) (xs:List α) (i:Nat),i + d=xs.length→xs.length≤140737488351232→(∀ x ∈ xs,Q x)→Ev (fun k=>L k xs ((xs.take i).map f ++ List.replicate d z) (i:Int)) (xs.map f):=by
  intro d
  induction d with
  | zero =>
    intro xs i hi hl hq;obtain rfl:i=xs.length:=by omega
    have:=hend xs (xs.map f)
    simpa using this
  | succ d ih =>
    intro xs i hi hl hq;refine hstep xs _ i _ (by omega) (by simp;omega) hl ?_ ?_
    · rw [List.getD_eq_getElem?_getD, List.getElem?_eq_getElem (show i < xs.length by omega)]
      exact hq _ (List.getElem_mem _)
    have:=ih xs (i + 1) (by omega) hl hq
    have e:((xs.take i).map f ++ List.replicate (d + 1) z).set i (f (xs.getD i za))=(xs.take (i + 1)).map f ++ List.replicate d z:=by
      have h0:i - ((xs.take i).map f).length=0:=by simp;omega
      rw [List.take_succ_eq_append_getElem (show i < xs.length by omega),List.map_append,List.set_append_right _ _ (by simp;omega),List.append_assoc,h0]
      congr 1
      simp [List.replicate_succ,List.getD_eq_getElem?_getD,List.getElem?_eq_getElem (show i < xs.length by omega)]
    rw [e];exact this
theorem toTowerS_ (l:List S113) (hl:smallT l):Ev (fun k=>laws_toTowerS.f k l) (l.map convTower):=by
  unfold laws_toTowerS.f;have h1:=hl.1;refine Ev.pos_ (by omega) (Ev.pos_ (by omega) ?_);have:=to_genQ (fun t:S113=>t.f1.length≤35184372088832) laws_toTowerS.l0 convTower z77 z113 (fun xs ys i r hi hy hn hq h=>?_) (fun xs ys=>Ev.step (f:=fun _=>some ys) (fun k=>?_) (Ev.now _)) l.length l 0 (by omega) (by omega) hl.2
  · simpa using this
  · refine Ev.step (fun k => by rw [laws_toTowerS.l0]) ?_
    refine Ev.pos_ (by omega) (Ev.pos_ (by omega) ?_);rw [rd_T113_nat];refine Ev.bind (toTower_ _ _ _ _ _ hq) ?_;refine Ev.pos_ (by omega) ?_;simp only [wi hi hn,Int.toNat_natCast];exact h
  · simp only [laws_toTowerS.l0];rw [if_neg (by omega)]
theorem toSkip_ (H:List Int) (T:List S113) (hH:H.length≤35184372088832) (hT:smallT T):Ev (fun k=>laws_toSkip.f k H T) (H,T.map convTower):=by
  unfold laws_toSkip.f;exact Ev.bind (toIntS_ H hH) (Ev.bind (toTowerS_ T hT) (Ev.now _))
def skipB (H:List Int) (T:List S113):Prop:=(H.length * 8≤140737488351232 ∧ ∀ x ∈ H,(Lit.int .i64 x).wf=true)∧(T.length * 72≤140737488351232 ∧ ∀ t ∈ T,(t.f0.f0.size≤140737488351232∧(Lit.int .i64 t.f0.f1).wf=true∧(Lit.int .i64 t.f0.f2).wf=true∧t.f0.f3.size≤140737488351232)∧(t.f1.length * 8≤140737488351232 ∧ ∀ x ∈ t.f1,(Lit.int .i64 x).wf=true))
theorem skipB_small {H:List Int} {T:List S113} (h:skipB H T):H.length≤35184372088832∧smallT T:=by
  obtain ⟨⟨h1,_⟩,h2,h3⟩:=h;refine ⟨by omega,by omega,fun t ht=>?_⟩;have:=(h3 t ht).2.1;omega
-- part eqSkip needs laws_eqSkip.f
theorem eqTower_refl (f0 f1 f2 f3) (l:List Int) (hl:l.length≤140737488351232):Ev (fun k=>laws_eqTower.f k f0 f1 f2 f3 l f0 f1 f2 f3 l) true:=by
  unfold laws_eqTower.f;have e:laws_eqItem.f f0 f1 f2 f3 f0 f1 f2 f3=some true:=by simp [laws_eqItem.f]
  rw [e];exact Ev.some_ (Ev.pos_ rfl (Ev.bind (eqIntS_refl l hl) (Ev.pos_ rfl (Ev.now _))))
def smallI (T:List S77):Prop:=T.length≤140737488351232 ∧ ∀ t ∈ T,t.f1.length≤140737488351232
theorem eq_genQ {α:Type} (Q:α→Prop) (za:α) (E:Nat→List α→List α→Int→Option Bool)
    (hstep:∀ (xs:List α) (i:Nat),i < xs.length→xs.length≤140737488351232→Q (xs.getD i za)→Ev (fun k=>E k xs xs ((i + 1:Nat):Int)) true→Ev (fun k=>E k xs xs (i:Int)) true)
    (hend:∀ (xs:List α),Ev (fun k=>E k xs xs (xs.length:Int)) true) :
    ∀ (d:Nat) (xs:List α) (i:Nat),i + d=xs.length→xs.length≤140737488351232→(∀ x ∈ xs,Q x)→Ev (fun k=>E k xs xs (i:Int)) true:=by
  intro d
  induction d with
  | zero => intro xs i hi hl hq; obtain rfl : i = xs.length := by omega
            exact hend xs
  | succ d ih =>
    intro xs i hi hl hq;refine hstep xs i (by omega) hl ?_ (ih xs (i + 1) (by omega) hl hq);rw [List.getD_eq_getElem?_getD,List.getElem?_eq_getElem (show i < xs.length by omega)];exact hq _ (List.getElem_mem _)
theorem eqTowerS_refl (l:List S77) (hl:smallI l):Ev (fun k=>laws_eqTowerS.f k l l) true:=by
  unfold laws_eqTowerS.f;refine Ev.pos_ rfl (eq_genQ (fun t:S77=>t.f1.length≤140737488351232) z77 laws_eqTowerS.l0 (fun xs i hi hn hq h=>?_) (fun xs=>Ev.step (f:=fun _=>some true) (fun k=>?_) (Ev.now _)) l.length l 0 (by omega) hl.1 hl.2)
  · refine Ev.step (fun k => by rw [laws_eqTowerS.l0]) ?_
    refine Ev.pos_ (by omega) (Ev.pos_ (by omega) (Ev.pos_ (by omega) ?_));rw [rdT_nat,wi hi hn];exact Ev.bind (eqTower_refl _ _ _ _ _ hq) (Ev.pos_ rfl h)
  · simp only [laws_eqTowerS.l0];rw [if_neg (by omega)]
theorem eqSkip_refl (H:List Int) (T:List S77) (hH:H.length≤140737488351232) (hT:smallI T):Ev (fun k=>laws_eqSkip.f k H T H T) true:=by
  unfold laws_eqSkip.f;exact Ev.bind (eqIntS_refl H hH) (Ev.pos_ rfl (Ev.bind (eqTowerS_refl T hT) (Ev.pos_ rfl (Ev.now _))))
-- part smallMap needs laws_toSkip.f, laws_eqSkip.f
theorem smallT_map {T:List S113} (hT:smallT T):smallI (T.map convTower):=by
  refine ⟨by rw [List.length_map];have:=hT.1;omega,fun t ht=>?_⟩;obtain ⟨x,hx,rfl⟩:=List.mem_map.1 ht;have:=hT.2 x hx;show x.f1.length≤_;omega
-- part skipSeekA needs impl_Skip_seek.f, spec_l4Before.f
theorem Chain.steps {H:List Int} {T:List S77} {lv:Int}:∀ {a:Int} {L:List Int},Chain H T lv a L → ∀ x,x=a∨x ∈ L→nxt H T lv x = -1∨okStep T lv x (nxt H T lv x)
  | a, [], h, x, hx => by
    rcases hx with rfl|hx
    · exact .inl h
    · cases hx
  | a, j :: L, h, x, hx => by
    rcases hx with rfl|hx
    · right;rw [h.1];exact h.2.1
    · exact Chain.steps h.2.2 x (List.mem_cons.1 hx)
theorem good_step {H:List Int} {T:List S77} (h:goodSkipP H T) {lv:Nat} (hl:lv < 5) {a:Int} (ha:a = -1∨hghT T lv a):nxt H T lv a = -1∨okStep T lv a (nxt H T lv a):=by
  obtain ⟨L,h1,h2⟩:=h.2.2.2 lv hl;refine h1.steps a ?_;rcases ha with rfl|ha
  · exact .inl rfl
  · exact .inr (level_all h1 h2 ha)
def lessX (T:List S77) (key:ByteArray) (q:Int) (j:Int):Prop:=cmpV (rd_T77 T j).f0.f0 (rd_T77 T j).f0.f1 key q < 0
/-- What is told of the tower that a level's search comes to: it is less, and the next is not. -/
def lastP (H:List Int) (T:List S77) (key:ByteArray) (q:Int) (l:Nat) (a:Int):Prop:=(a = -1∨(hghT T l a∧lessX T key q a))∧(nxt H T l a = -1 ∨ ¬ lessX T key q (nxt H T l a))
def lastsP (H:List Int) (T:List S77) (key:ByteArray) (q:Int) (e:Nat) (out:List Int):Prop:=out.length=5 ∧ ∀ l:Nat,e≤l→l < 5→lastP H T key q l (rd out l)
def sSeekR (H:List Int) (T:List S77) (key:ByteArray) (q d:Int) (v:ByteArray) (fi fs:Nat→Option (List Int × Int)):Prop :=
  ∃ out looked,Ev fi (out,looked)∧Ev fs (out,looked)∧lastsP H T key q 0 out∧0≤looked∧looked≤(T.length:Int) + 5
theorem sSeekR.step {H:List Int} {T:List S77} {key:ByteArray} {q d:Int} {v:ByteArray} {fi fs gi gs:Nat→Option (List Int × Int)} (h:sSeekR H T key q d v fi fs) (hi:∀ r,Ev fi r→Ev gi r) (hs:∀ r,Ev fs r→Ev gs r):sSeekR H T key q d v gi gs:=by
  obtain ⟨o,l,h1,h2,h3⟩:=h;exact ⟨o,l,hi _ h1,hs _ h2,h3⟩
theorem lastsP.put {H:List Int} {T:List S77} {key:ByteArray} {q:Int} {lv:Nat} {out:List Int} {a:Int} (h:lastsP H T key q (lv + 1) out) (hl:lv < 5) (ha:lastP H T key q lv a):lastsP H T key q lv (out.set lv a):=by
  refine ⟨by rw [List.length_set];exact h.1,fun l h1 h2=>?_⟩;rw [rd_nat,List.getD_eq_getElem?_getD,List.getElem?_set];have hlen:=h.1;by_cases e:lv=l
  · subst e
    rw [if_pos rfl,if_pos (by omega)];exact ha
  · rw [if_neg e]
    have:=h.2 l (by omega) h2;rw [rd_nat,List.getD_eq_getElem?_getD] at this;exact this
theorem sSeek_in (H:List Int) (T:List S77) (key:ByteArray) (q d:Int) (v:ByteArray) (hg:goodSkipP H T) (lv:Nat) (hlv:lv < 5)
    (hn:∀ (a:Int) (V out:List Int) (looked:Int),Vis T a V→(a = -1∨(hghT T lv a∧lessX T key q a))→lastsP H T key q lv out→0≤looked→looked≤(V.length:Int) + (5 - lv) →
      sSeekR H T key q d v (fun k=>impl_Skip_seek.l0 k out a looked ((lv:Int) - 1) H T key q d v) (fun k=>spec_l4Before.l0 k out a looked ((lv:Int) - 1) H T key q d v)) :
    ∀ (m:Nat) (a:Int) (V out:List Int) (looked:Int),V.length + m=T.length→Vis T a V→(a = -1∨(hghT T lv a∧lessX T key q a))→lastsP H T key q (lv + 1) out→0≤looked→looked≤(V.length:Int) + (4 - lv) →
      sSeekR H T key q d v (fun k=>impl_Skip_seek.l1 k out a looked (lv:Int) H T key q d v) (fun k=>spec_l4Before.l1 k out a looked (lv:Int) H T key q d v):=by
  have hT:T.length≤60:=hg.2.1;have hH:H.length=5:=hg.1;intro m
  induction m with
  | zero =>
    intro a V out looked hm hv ha ho h0 h1;have ha':a = -1∨hghT T lv a:=ha.imp id (fun h=>h.1)
    have hx:nxt H T lv a = -1:=by
      rcases good_step hg hlv ha' with h|h
      · exact h
      · have:=hv.room h;omega
    have hw:wrap64 ((lv:Int) - 1)=(lv:Int) - 1:=w64 (by omega) (by omega);refine (hn a V (out.set lv a) looked hv ha (ho.put hlv ⟨ha,.inl hx⟩) h0 (by omega)).step (fun r hr=>?_) (fun r hr=>?_)
    · refine Ev.step (fun k => by rw [impl_Skip_seek.l1]) ?_
      rw [impl_next (by omega) (by omega) ha',hx];refine Ev.some_ (Ev.pos_ rfl (Ev.pos_ (by omega) (Ev.pos_ (by have:=ho.1;omega) ?_)));rw [hw,Int.toNat_natCast];exact hr
    · refine Ev.step (fun k => by rw [spec_l4Before.l1]) ?_
      rw [spec_next (by omega) (by omega) ha',hx];refine Ev.some_ (Ev.pos_ (by omega) (Ev.pos_ (by omega) (Ev.pos_ (by have:=ho.1;omega) ?_)))
      rw [hw,Int.toNat_natCast];exact hr
  | succ m ih =>
    intro a V out looked hm hv ha ho h0 h1;have ha':a = -1∨hghT T lv a:=ha.imp id (fun h=>h.1);have hw:wrap64 ((lv:Int) - 1)=(lv:Int) - 1:=w64 (by omega) (by omega);rcases good_step hg hlv ha' with hx|hs
    · refine (hn a V (out.set lv a) looked hv ha (ho.put hlv ⟨ha, .inl hx⟩) h0 (by omega)).step (fun r hr => ?_) (fun r hr => ?_)
      · refine Ev.step (fun k => by rw [impl_Skip_seek.l1]) ?_
        rw [impl_next (by omega) (by omega) ha',hx];refine Ev.some_ (Ev.pos_ rfl (Ev.pos_ (by omega) (Ev.pos_ (by have:=ho.1;omega) ?_)));rw [hw,Int.toNat_natCast];exact hr
      · refine Ev.step (fun k => by rw [spec_l4Before.l1]) ?_
        rw [spec_next (by omega) (by omega) ha',hx];refine Ev.some_ (Ev.pos_ (by omega) (Ev.pos_ (by omega) (Ev.pos_ (by have:=ho.1;omega) ?_)));rw [hw,Int.toNat_natCast];exact hr
    · have hj := hs.1
      have hwl:wrap64 (looked + 1)=looked + 1:=by
        have:=hv.bound;exact w64 (by omega) (by omega)
      by_cases hc:cmpV (rd_T77 T (nxt H T lv a)).f0.f0 (rd_T77 T (nxt H T lv a)).f0.f1 key q ≥ 0
      · refine (hn a V (out.set lv a) (looked + 1) hv ha (ho.put hlv ⟨ha, .inr (by unfold lessX; omega)⟩) (by omega) (by omega)).step (fun r hr => ?_) (fun r hr => ?_)
        · refine Ev.step (fun k => by rw [impl_Skip_seek.l1]) ?_
          rw [impl_next (by omega) (by omega) ha'];refine Ev.some_ (Ev.neg_ (by have:=hj.1;omega) (Ev.pos_ hj.1 (Ev.pos_ hj.2.1 (Ev.bind (impl_cmp _ _ _ _ _ _ _ _) (Ev.pos_ hc (Ev.pos_ (by omega) (Ev.pos_ (by have:=ho.1;omega) ?_)))))));rw [hw,hwl,Int.toNat_natCast];exact hr
        · refine Ev.step (fun k => by rw [spec_l4Before.l1]) ?_
          rw [spec_next (by omega) (by omega) ha'];refine Ev.some_ (Ev.neg_ (by have:=hj.1;omega) (Ev.pos_ hj.1 (Ev.pos_ hj.2.1 (Ev.bind (spec_cmp _ _ _ _ _ _ _ _) (Ev.pos_ hc (Ev.pos_ (by omega) (Ev.pos_ (by have:=ho.1;omega) ?_)))))));rw [hw,hwl,Int.toNat_natCast];exact hr
      · have hr0 := hv.room hs
        refine (ih (nxt H T lv a) (nxt H T lv a :: V) out (looked + 1) (by simp;omega) (hv.push hs) (.inr ⟨hj,by unfold lessX;omega⟩) ho (by omega) (by simp;omega)).step (fun r hr=>?_) (fun r hr=>?_)
        · refine Ev.step (fun k => by rw [impl_Skip_seek.l1]) ?_
          rw [impl_next (by omega) (by omega) ha'];refine Ev.some_ (Ev.neg_ (by have:=hj.1;omega) (Ev.pos_ hj.1 (Ev.pos_ hj.2.1 (Ev.bind (impl_cmp _ _ _ _ _ _ _ _) (Ev.neg_ hc ?_)))));rw [hwl];exact hr
        · refine Ev.step (fun k => by rw [spec_l4Before.l1]) ?_
          rw [spec_next (by omega) (by omega) ha'];refine Ev.some_ (Ev.neg_ (by have:=hj.1;omega) (Ev.pos_ hj.1 (Ev.pos_ hj.2.1 (Ev.bind (spec_cmp _ _ _ _ _ _ _ _) (Ev.neg_ hc ?_)))));rw [hwl];exact hr
theorem sSeek_go (H:List Int) (T:List S77) (key:ByteArray) (q d:Int) (v:ByteArray) (hg:goodSkipP H T) :
    ∀ (e:Nat),e≤5 → ∀ (a:Int) (V out:List Int) (looked:Int),Vis T a V→(a = -1∨(hghT T e a∧lessX T key q a))→lastsP H T key q e out→0≤looked→looked≤(V.length:Int) + (5 - e) →
      sSeekR H T key q d v (fun k=>impl_Skip_seek.l0 k out a looked ((e:Int) - 1) H T key q d v) (fun k=>spec_l4Before.l0 k out a looked ((e:Int) - 1) H T key q d v):=by
  intro e
  induction e with
  | zero =>
    intro _ a V out looked hv ha ho h0 h1;have:=hv.bound;refine ⟨out,looked,?_,?_,ho,h0,by omega⟩
    · exact Ev.step (fun k=>by rw [impl_Skip_seek.l0]) (Ev.neg_ (by omega) (Ev.now _))
    · exact Ev.step (fun k=>by rw [spec_l4Before.l0]) (Ev.neg_ (by omega) (Ev.now _))
  | succ e ih =>
    intro he a V out looked hv ha ho h0 h1
    have hlow:a = -1∨(hghT T e a∧lessX T key q a):=by
      rcases ha with h | ⟨h,h'⟩
      · exact .inl h
      · exact .inr ⟨⟨h.1,h.2.1,by have:=h.2.2;omega⟩,h'⟩
    have hb:=hv.bound;have:=sSeek_in H T key q d v hg e (by omega) (fun a V out looked hv ha ho h0 h1=>ih (by omega) a V out looked hv ha ho h0 h1) (T.length - V.length) a V out looked (by omega) hv hlow ho h0 (by omega);rw [show ((e + 1:Nat):Int) - 1=(e:Int) by omega];refine this.step (fun r hr=>?_) (fun r hr=>?_)
    · exact Ev.step (fun k=>by rw [impl_Skip_seek.l0]) (Ev.pos_ (by omega) hr)
    · exact Ev.step (fun k=>by rw [spec_l4Before.l0]) (Ev.pos_ (by omega) hr)
theorem sSeek_both (H:List Int) (T:List S77) (key:ByteArray) (q d:Int) (v:ByteArray) (hg:goodSkipP H T) :
    sSeekR H T key q d v (fun k=>impl_Skip_seek.f k H T key q d v) (fun k=>spec_l4Before.f k H T key q d v):=by
  have:=sSeek_go H T key q d v hg 5 (by omega) (-1) [] (List.replicate 5 0) 0 rfl (.inl rfl) ⟨by simp,fun l h1 h2=>by omega⟩ (by omega) (by simp);refine this.step (fun r hr=>?_) (fun r hr=>?_)
  · unfold impl_Skip_seek.f;exact Ev.pos_ (by omega) hr
  · unfold spec_l4Before.f;exact Ev.pos_ (by omega) hr
-- part szSkipB needs laws_szSkip.f laws_markSkip.f
def lenL (T:List S113):Nat:=(T.map (fun t=>t.f1.length)).sum
def lenI (T:List S77):Nat:=(T.map (fun t=>t.f1.length)).sum
theorem lenI_conv (T:List S113):lenI (T.map convTower)=lenL T:=by unfold lenI lenL;rw [List.map_map];rfl
theorem szItem_b (f0 f1 f2 f3) (m:Int) (h0:0≤m) (hm:m≤1048576) (s0:f0.size≤140737488351232) (s3:f3.size≤140737488351232):∃ r,laws_szItem.f f0 f1 f2 f3 m=some r∧r≤m:=by
  unfold laws_szItem.f;rw [w64 (n:=m - (f0.size:Int)) (by omega) (by omega)];by_cases h:m - (f0.size:Int) < 0
  · exact ⟨-1,by rw [if_pos h],by omega⟩
  · rw [if_neg h, w64 (n := m - (f0.size : Int) - (f3.size : Int)) (by omega) (by omega)]
    by_cases h2:m - (f0.size:Int) - (f3.size:Int) < 0
    · exact ⟨-1,by rw [if_pos h2],by omega⟩
    · exact ⟨_,by rw [if_neg h2],by omega⟩
theorem szIntS_b (l:List Int) (m:Int) (h0:0≤m) (hm:m≤1048576) (hl:l.length≤140737488351232):∃ r,laws_szIntS.f l m=some r∧(0≤r→r + l.length≤m)∧r≤m:=by
  unfold laws_szIntS.f;rw [w64 (n:=m - (l.length:Int)) (by omega) (by omega)];by_cases h:m - (l.length:Int) < 0
  · exact ⟨-1,by rw [if_pos h],by omega,by omega⟩
  · exact ⟨_,by rw [if_neg h],by omega,by omega⟩
theorem szTower_b (f0 f1 f2 f3) (l:List Int) (m:Int) (h0:0≤m) (hm:m≤1048576) (s0:f0.size≤140737488351232) (s3:f3.size≤140737488351232) (hl:l.length≤140737488351232):∃ r,laws_szTower.f f0 f1 f2 f3 l m=some r∧(0≤r→r + l.length≤m):=by
  unfold laws_szTower.f;obtain ⟨r,hr,hrm⟩:=szItem_b f0 f1 f2 f3 m h0 hm s0 s3;rw [hr,Option.bind_some];by_cases h:r < 0
  · exact ⟨-1,by rw [if_pos h],by omega⟩
  · obtain ⟨q, hq, hq1, _⟩ := szIntS_b l r (by omega) (by omega) hl
    rw [if_neg h,hq,Option.bind_some];by_cases h2:q < 0
    · exact ⟨-1,by rw [if_pos h2],by omega⟩
    · exact ⟨q,by rw [if_neg h2],fun h3=>by have:=hq1 h3;omega⟩
def smallS (t:S113):Prop:=t.f0.f0.size≤140737488351232∧t.f0.f3.size≤140737488351232∧t.f1.length≤140737488351232
theorem lenL_drop (T:List S113) (i:Nat) (hi:i < T.length):lenL (T.drop i)=(T.getD i z113).f1.length + lenL (T.drop (i + 1)):=by
  unfold lenL;rw [List.drop_eq_getElem_cons hi,zC,List.sum_cons,List.getD_eq_getElem?_getD,List.getElem?_eq_getElem hi];rfl
theorem lenI_drop (T:List S77) (i:Nat) (hi:i < T.length):lenI (T.drop i)=(T.getD i z77).f1.length + lenI (T.drop (i + 1)):=by
  unfold lenI;rw [List.drop_eq_getElem_cons hi,zC,List.sum_cons,List.getD_eq_getElem?_getD,List.getElem?_eq_getElem hi];rfl
theorem szTowerS_b (T:List S113) (hn:T.length≤140737488351232) (hT:∀ t ∈ T,smallS t):∀ (d i:Nat) (m:Int),i + d=T.length→0≤m→m≤1048576 → ∃ r,Ev (fun k=>laws_szTowerS.l0 k T m (i:Int)) r∧(0≤r→r + lenL (T.drop i)≤m):=by
  intro d
  induction d with
  | zero =>
    intro i m hi h0 hm;refine ⟨m,Ev.step (fun k=>by rw [laws_szTowerS.l0]) (Ev.neg_ (by omega) (Ev.now _)),fun _=>?_⟩
    rw [List.drop_eq_nil_of_le (by omega)];simp [lenL]
  | succ d ih =>
    intro i m hi h0 hm
    have hs:smallS (T.getD i z113):=by
      rw [List.getD_eq_getElem?_getD,List.getElem?_eq_getElem (show i < T.length by omega)];exact hT _ (List.getElem_mem _)
    obtain ⟨r,hr,hb⟩:=szTower_b (T.getD i z113).f0.f0 (T.getD i z113).f0.f1 (T.getD i z113).f0.f2 (T.getD i z113).f0.f3 (T.getD i z113).f1 m h0 hm hs.1 hs.2.1 hs.2.2;have hd:=lenL_drop T i (by omega);by_cases h:r < 0
    · refine ⟨-1, Ev.step (fun k => by rw [laws_szTowerS.l0]) (Ev.pos_ (by omega) (Ev.pos_ (by omega) ?_)), by omega⟩
      rw [rd_T113_nat,hr];exact Ev.some_ (Ev.pos_ h (Ev.now _))
    · have hb' := hb (by omega)
      obtain ⟨q,hq,hq1⟩:=ih (i + 1) r (by omega) (by omega) (by omega);refine ⟨q,Ev.step (fun k=>by rw [laws_szTowerS.l0]) (Ev.pos_ (by omega) (Ev.pos_ (by omega) ?_)),fun h2=>by have:=hq1 h2;omega⟩;rw [rd_T113_nat,hr];refine Ev.some_ (Ev.neg_ h ?_);rw [wi (show i < T.length by omega) hn];exact hq
theorem szSkip_b (H:List Int) (T:List S113) (hH:H.length≤140737488351232) (hn:T.length≤140737488351232) (hT:∀ t ∈ T,smallS t):∃ r,Ev (fun k=>laws_szSkip.f k H T 1048576) r∧(0≤r→H.length + T.length + lenL T≤1048576):=by
  unfold laws_szSkip.f;obtain ⟨r,hr,hr1,hr2⟩:=szIntS_b H 1048576 (by omega) (by omega) hH;rw [hr];by_cases h:r < 0
  · exact ⟨-1,Ev.some_ (Ev.pos_ h (Ev.now _)),by omega⟩
  · have hr1' := hr1 (by omega)
    have hS:∃ q,Ev (fun k=>laws_szTowerS.f k T r) q∧(0≤q→H.length + T.length + lenL T≤1048576):=by
      unfold laws_szTowerS.f;rw [w64 (n:=r - (T.length:Int)) (by omega) (by omega)];by_cases h2:r - (T.length:Int) < 0
      · exact ⟨-1,Ev.pos_ h2 (Ev.now _),by omega⟩
      · obtain ⟨q, hq, hq1⟩ := szTowerS_b T hn hT T.length 0 (r - (T.length : Int)) (by omega) (by omega) (by omega)
        refine ⟨q,Ev.neg_ h2 (by simpa using hq),fun h3=>?_⟩;have:=hq1 h3;rw [List.drop_zero] at this;omega
    obtain ⟨q,hq,hq1⟩:=hS;by_cases h3:q < 0
    · exact ⟨-1,Ev.some_ (Ev.neg_ h (Ev.bind hq (Ev.pos_ h3 (Ev.now _)))),by omega⟩
    · exact ⟨q,Ev.some_ (Ev.neg_ h (Ev.bind hq (Ev.neg_ h3 (Ev.now _)))),hq1⟩
theorem rd_setT (xs:List S77) (i:Nat) (x:S77) (h:i < xs.length):rd_T77 (xs.set i x) (i:Int)=x:=by
  rw [rdT_nat,List.getD_eq_getElem?_getD,List.getElem?_set_self h];rfl
theorem markTowerS_ex:∀ (d:Nat) (xs:List S77) (m:Int) (i:Nat),i + d=xs.length→xs.length≤1048576→0 < m→m + 4 * (d:Int) + lenI (xs.drop i)≤1000000000 → ∃ r,Ev (fun k=>laws_markTowerS.l0 k xs m (i:Int)) r∧m≤r.1:=by
  intro d
  induction d with
  | zero =>
    intro xs m i hi hn hm hB
    exact ⟨(m,xs),Ev.step (fun k=>by rw [laws_markTowerS.l0]) (Ev.neg_ (by omega) (Ev.now _)),Int.le_refl _⟩
  | succ d ih =>
    intro xs m i hi hn hm hB;have hd:=lenI_drop xs i (by omega);have e3:wrap64 (wrap64 (wrap64 (m + 1) + 1) + 1)=m + 3:=by rw [w64 (n:=m + 1) (by omega) (by omega),w64 (n:=m + 1 + 1) (by omega) (by omega),w64 (by omega) (by omega)];omega
    have e4:wrap64 (wrap64 (wrap64 (wrap64 (m + 1) + 1) + 1) + 1)=m + 4:=by rw [e3,w64 (by omega) (by omega)];omega
    have hg:=markIntS_gen (xs.getD i z77).f1 (m + 4) (by omega) (by omega) (by omega);obtain ⟨r,hr,hrm⟩:=ih (xs.set i ⟨⟨markT m,wrap64 (m + 1),wrap64 (wrap64 (m + 1) + 1),markT (m + 3)⟩,mkL (fun m=>m) 1 (xs.getD i z77).f1.length (m + 4)⟩) (m + 4 + 1 * (xs.getD i z77).f1.length) (i + 1) (by simp;omega) (by simpa using hn) (by omega) (by rw [List.drop_set_of_lt (by omega)];omega);refine ⟨r,Ev.step (fun k=>by rw [laws_markTowerS.l0]) (Ev.pos_ (by omega) (Ev.bind (markText_ hm (by omega)) ?_)),by omega⟩;refine Ev.pos_ (by omega) ?_;simp only [Option.bind_some,Int.toNat_natCast,List.set_set,e4,e3];refine Ev.bind (markText_ (by omega) (by omega)) ?_;have e5:wrap64 (m + 3 + 1)=m + 4:=by rw [w64 (by omega) (by omega)];omega
    simp only [rd_setT xs i _ (show i < xs.length by omega),List.set_set,e5];rw [rdT_nat];refine Ev.bind hg ?_;rw [wi (show i < xs.length by omega) (by omega)];exact hr
theorem markSkip_ (H:List Int) (T:List S77) (hb:H.length + T.length + lenI T≤1048576):∃ r,Ev (fun k=>laws_markSkip.f k H T 1) r∧0≤r:=by
  unfold laws_markSkip.f;have h1:=markIntS_gen H 1 (by omega) (by omega) (by omega);obtain ⟨r,hr,hm⟩:=markTowerS_ex T.length T (1 + 1 * H.length) 0 (by omega) (by omega) (by omega) (by rw [List.drop_zero];omega);have hr':Ev (fun k=>laws_markTowerS.f k T (1 + 1 * H.length)) r:=by unfold laws_markTowerS.f;simpa using hr
  exact ⟨r.1,Ev.bind h1 (Ev.bind hr' (Ev.now _)),by omega⟩
-- part insM: what an insertion leaves
def putT (T:List S77) (a:Int) (l:Nat) (n:Int):List S77:=T.set a.toNat ⟨(rd_T77 T a).f0,(rd_T77 T a).f1.set l n⟩
theorem rdT_set {T:List S77} {i:Nat} {y:S77} {j:Int} (hj:0≤j) (hi:i < T.length):rd_T77 (T.set i y) j=if j=(i:Int) then y else rd_T77 T j:=by
  unfold rd_T77;rw [List.getD_eq_getElem?_getD,List.getD_eq_getElem?_getD,List.getElem?_set];by_cases e:i=j.toNat
  · rw [if_pos e,if_pos (by omega),if_pos (by omega)];rfl
  · rw [if_neg e,if_neg (by omega)]
theorem rd_putT {T:List S77} {a j n:Int} {l:Nat} (h0:0≤a) (h1:a < (T.length:Int)) (hj:0≤j):rd_T77 (putT T a l n) j=if j=a then ⟨(rd_T77 T a).f0,(rd_T77 T a).f1.set l n⟩ else rd_T77 T j:=by
  unfold putT;rw [rdT_set hj (by omega)];by_cases e:j=a
  · rw [if_pos e,if_pos (by omega)]
  · rw [if_neg e,if_neg (by omega)]
theorem putT_len {T:List S77} {a n:Int} {l:Nat}:(putT T a l n).length=T.length:=by unfold putT;exact List.length_set
theorem putT_f1 {T:List S77} {a j n:Int} {l:Nat} (h0:0≤a) (h1:a < (T.length:Int)) (hj:0≤j):(rd_T77 (putT T a l n) j).f1.length=(rd_T77 T j).f1.length:=by
  rw [rd_putT h0 h1 hj];by_cases e:j=a
  · rw [if_pos e,e];exact List.length_set
  · rw [if_neg e]
theorem putT_f0 {T:List S77} {a j n:Int} {l:Nat} (h0:0≤a) (h1:a < (T.length:Int)) (hj:0≤j):(rd_T77 (putT T a l n) j).f0=(rd_T77 T j).f0:=by
  rw [rd_putT h0 h1 hj];by_cases e:j=a
  · rw [if_pos e,e]
  · rw [if_neg e]
theorem hgh_put {T:List S77} {a j n lv:Int} {l:Nat} (h0:0≤a) (h1:a < (T.length:Int)):hghT (putT T a l n) lv j↔hghT T lv j:=by
  unfold hghT;rw [putT_len]
  constructor
  · rintro ⟨g0,g1,g2⟩;rw [putT_f1 h0 h1 g0] at g2;exact ⟨g0,g1,g2⟩
  · rintro ⟨g0,g1,g2⟩;rw [← putT_f1 (l:=l) (n:=n) h0 h1 g0] at g2;exact ⟨g0,g1,g2⟩
def insSt (H:List Int) (T:List S77) (a:Int) (l:Nat) (n:Int):List Int × List S77:=if a < 0 then (H.set l n,T) else (H,putT T a l n)
def insGo (out:List Int) (n:Int) (x:S28):Nat→Nat→List Int→List Int→List S77→List Int × List S77
  |0,_,own,H,T=>(H,T ++ [⟨x,own⟩])
  |d + 1,l,own,H,T=>insGo out n x d (l + 1) (own ++ [nxt H T l (rd out l)]) (insSt H T (rd out l) l n).1 (insSt H T (rd out l) l n).2
def insOk (out H:List Int) (T:List S77) (l:Nat):Prop:=H.length=5∧T.length≤60∧out.length=5 ∧ ∀ lv:Nat,l≤lv→lv < 5→(rd out lv = -1∨hghT T lv (rd out lv))
theorem insOk.step {out H:List Int} {T:List S77} {l:Nat} (n:Int) (h:insOk out H T l) (hl:l < 5):insOk out (insSt H T (rd out l) l n).1 (insSt H T (rd out l) l n).2 (l + 1):=by
  obtain ⟨h1,h2,h3,h4⟩:=h;have hc:=h4 l (Nat.le_refl _) hl;unfold insSt;by_cases e:rd out l < 0
  · rw [if_pos e]
    exact ⟨by rw [List.length_set];exact h1,h2,h3,fun lv a b=>h4 lv (by omega) b⟩
  · rw [if_neg e]
    have hh:=hc.resolve_left (by omega);refine ⟨h1,by rw [putT_len];exact h2,h3,fun lv a b=>?_⟩;exact (h4 lv (by omega) b).imp id (fun g=>(hgh_put hh.1 hh.2.1).2 g)
/-- The item may be put in: it is none of the list's. -/
def insIn (H:List Int) (T:List S77) (x:S28) (out:List Int):Prop :=
  goodSkipP H T∧goodI x=true∧T.length < 60∧lastsP H T x.f0 x.f1 0 out∧(nxt H T 0 (rd out 0) = -1∨cmpV (rd_T77 T (nxt H T 0 (rd out 0))).f0.f0 (rd_T77 T (nxt H T 0 (rd out 0))).f0.f1 x.f0 x.f1 ≠ 0)
/-- What an insertion answers. -/
def insR (H:List Int) (T:List S77) (x:S28) (r:List Int × List S77 × Bool):Prop :=
  (∃ out,insIn H T x out∧r=((insGo out T.length x (towV x.f0 x.f1).toNat 0 [] H T).1,(insGo out T.length x (towV x.f0 x.f1).toNat 0 [] H T).2,true))∨r=([],[],false)
theorem lastsP.insOk {H:List Int} {T:List S77} {k:ByteArray} {q:Int} {out:List Int} (hg:goodSkipP H T) (h:lastsP H T k q 0 out):insOk out H T 0 :=
  ⟨hg.1,hg.2.1,h.1,fun lv a b=>(h.2 lv a b).1.imp id (fun g=>g.1)⟩
-- part specIns needs spec_InsertSkip.f
theorem goodI_facts {x:S28} (h:goodI x=true):x.f0.size≤16∧0≤x.f1∧x.f1≤1000000000:=by
  unfold goodI goodItemB keyB seqB at h;simp only [Bool.and_eq_true,inB_iff] at h;omega
theorem spec_ins_l0 (x:S28) (hx:goodI x=true) (out:List Int) (n:Int):∀ (d l:Nat) (own H:List Int) (T:List S77),(l:Int) + d=towV x.f0 x.f1→insOk out H T l→own.length=l →
    Ev (fun k=>spec_l4Insert.l0 k out n l H T x.f0 x.f1 x.f2 x.f3 x.f0 x.f1 x.f2 x.f3 own) (insGo out n x d l own H T):=by
  obtain ⟨hs,hq0,hq1⟩:=goodI_facts hx;have htr:=towV_range x.f0 x.f1;intro d
  induction d with
  | zero =>
    intro l own H T hl ho hn;refine Ev.step (fun k=>by rw [spec_l4Insert.l0]) ?_
    refine Ev.bind spec_table (Ev.bind (spec_tower x.f0 hs hq0 hq1) (Ev.neg_ (by omega) (Ev.pos_ (by have:=ho.2.1;omega) (Ev.now _))))
  | succ d ih =>
    intro l own H T hl ho hn;have hc:=ho.2.2.2 l (Nat.le_refl _) (by omega);have hH:=ho.1;have hO:=ho.2.2.1;have hst:=ho.step n (by omega);have hr:=ih (l + 1) (own ++ [nxt H T l (rd out l)]) _ _ (by omega) hst (by simp;omega);refine Ev.step (fun k=>by rw [spec_l4Insert.l0]) ?_;refine Ev.bind spec_table (Ev.bind (spec_tower x.f0 hs hq0 hq1) (Ev.pos_ (by omega) (Ev.pos_ (by omega) (Ev.pos_ (by omega) ?_))));rw [spec_next (by omega) (by omega) hc];refine Ev.some_ (Ev.pos_ (by omega) (Ev.some_ ?_));rw [show wrap64 ((l:Int) + 1)=((l + 1:Nat):Int) from by rw [w64 (by omega) (by omega)];omega];unfold insGo;unfold insSt at hr ⊢;by_cases e:rd out l < 0
    · rw [if_pos e] at hr ⊢
      refine Ev.pos_ e (Ev.pos_ (by omega) ?_);rw [Int.toNat_natCast];exact hr
    · rw [if_neg e] at hr ⊢
      have hh:=hc.resolve_left (by omega);refine Ev.neg_ e (Ev.pos_ hh.1 (Ev.pos_ hh.2.1 (Ev.pos_ hh.2.2 ?_)));rw [Int.toNat_natCast];exact hr
theorem spec_own_l0 (H:List Int) (T:List S77) (hT:T.length≤60) (h5:∀ j:Nat,j < T.length→(T.getD j z77).f1.length≤5):∀ (d i:Nat),i + d=T.length→Ev (fun k=>spec_l4Own.l0 k (T.take i) T (T.length:Int) (i:Int) H T) (H,T):=by
  intro d
  induction d with
  | zero =>
    intro i hi;refine Ev.step (fun k=>by rw [spec_l4Own.l0]) ?_;refine Ev.neg_ (by omega) ?_
    rw [List.take_of_length_le (by omega)];exact Ev.now _
  | succ d ih =>
    intro i hi;have h:=h5 i (by omega);refine Ev.step (fun k=>by rw [spec_l4Own.l0]) ?_;refine Ev.pos_ (by omega) (Ev.pos_ (by omega) (Ev.pos_ (by omega) (Ev.some_ (Ev.pos_ ?_ (Ev.pos_ ?_ ?_)))))
    · rw [rdT_nat];simp only [List.length_nil];omega
    · rw [zL];omega
    · rw [w64 (by omega) (by omega), show (i : Int) + 1 = ((i + 1 : Nat) : Int) by omega]
      have e:T.take i ++ [T.getD i z77]=T.take (i + 1):=by
        rw [List.take_succ_eq_append_getElem (by omega),List.getD_eq_getElem?_getD,List.getElem?_eq_getElem (by omega)];rfl
      have:=ih (i + 1) (by omega);rw [← e,← rdT_nat] at this;exact this
theorem tow_len {H:List Int} {T:List S77} (hg:goodSkipP H T):∀ j:Nat,j < T.length→(T.getD j z77).f1.length≤5:=fun j hj=>by
  have h:=(hg.2.2.1 j hj).2;have:=towV_range (T.getD j z77).f0.f0 (T.getD j z77).f0.f1;omega
theorem spec_own (H:List Int) (T:List S77) (hg:goodSkipP H T):Ev (fun k=>spec_l4Own.f k H T) (H,T):=by
  unfold spec_l4Own.f;refine Ev.some_ (Ev.pos_ (by have:=hg.1;simp;omega) ?_);have:=spec_own_l0 H T hg.2.1 (tow_len hg) T.length 0 (by omega)
  simpa using this
theorem spec_insert {H:List Int} {T:List S77} {x:S28} {out:List Int} {looked:Int} (hg:goodSkipP H T) (hx:goodI x=true) (ho:lastsP H T x.f0 x.f1 0 out) (hs:Ev (fun k=>spec_l4Before.f k H T x.f0 x.f1 x.f2 x.f3) (out,looked)) :
    Ev (fun k=>spec_l4Insert.f k H T x.f0 x.f1 x.f2 x.f3) (insGo out T.length x (towV x.f0 x.f1).toNat 0 [] H T):=by
  unfold spec_l4Insert.f;have htr:=towV_range x.f0 x.f1;exact Ev.bind hs (spec_ins_l0 x hx out T.length (towV x.f0 x.f1).toNat 0 [] H T (by omega) (ho.insOk hg) rfl)
theorem spec_InsJ {H:List Int} {T:List S77} {x:S28} {out:List Int} {looked:Int} (hi:insIn H T x out) (hs:Ev (fun k=>spec_l4Before.f k H T x.f0 x.f1 x.f2 x.f3) (out,looked)) :
    Ev (fun k=>spec_InsertSkip.j1 k false H T x.f0 x.f1 x.f2 x.f3) ((insGo out T.length x (towV x.f0 x.f1).toNat 0 [] H T).1,(insGo out T.length x (towV x.f0 x.f1).toNat 0 [] H T).2,true):=by
  refine Ev.step (fun k=>by rw [spec_InsertSkip.j1]) ?_;refine Ev.neg_ (by simp) (Ev.bind (a:=(H,T)) (spec_own H T hi.1) ?_);refine Ev.bind (a:=insGo out T.length x (towV x.f0 x.f1).toNat 0 [] H T) (spec_insert hi.1 hi.2.1 hi.2.2.2.1 hs) ?_;exact Ev.now _
theorem spec_Ins0 (H:List Int) (T:List S77) (k q d v):Ev (fun n=>spec_InsertSkip.j0 n true H T k q d v) ([],[],false) :=
  Ev.step (fun k=>by rw [spec_InsertSkip.j0]) (Ev.pos_ rfl (Ev.now _))
theorem spec_Ins1 (H:List Int) (T:List S77) (k q d v):Ev (fun n=>spec_InsertSkip.j1 n true H T k q d v) ([],[],false) :=
  Ev.step (fun k=>by rw [spec_InsertSkip.j1]) (Ev.pos_ rfl (Ev.now _))
theorem spec_InsN (H:List Int) (T:List S77) (x:S28) (hg:goodSkipP H T) (hx:goodI x=true) (hl:T.length < 60) :
    ∃ out looked,lastsP H T x.f0 x.f1 0 out∧Ev (fun k=>impl_Skip_seek.f k H T x.f0 x.f1 x.f2 x.f3) (out,looked) ∧ ∀ r,((∃ _:insIn H T x out,r=((insGo out T.length x (towV x.f0 x.f1).toNat 0 [] H T).1,(insGo out T.length x (towV x.f0 x.f1).toNat 0 [] H T).2,true))∨(¬ insIn H T x out∧r=([],[],false)))→Ev (fun k=>spec_InsertSkip.j0 k false H T x.f0 x.f1 x.f2 x.f3) r:=by
  obtain ⟨out,looked,hi,hs,ho,h0,h1⟩:=sSeek_both H T x.f0 x.f1 x.f2 x.f3 hg;refine ⟨out,looked,ho,hi,fun r hr=>?_⟩;have hl0:=ho.2 0 (by omega) (by omega);have hH:=hg.1;have ha:rd out ((0:Nat):Int) = -1∨hghT T ((0:Nat):Int) (rd out ((0:Nat):Int)):=hl0.1.imp id (fun h=>h.1);have hst:=good_step hg (lv:=0) (by omega) ha;simp only [Int.natCast_zero] at hl0 ha hst;have hlen:=ho.1
  have hf:Ev (fun k=>spec_l4First.f k H T x.f0 x.f1 x.f2 x.f3) (nxt H T 0 (rd out 0),looked):=by
    unfold spec_l4First.f;refine Ev.bind hs (Ev.pos_ (by show 0 < (out.length:Int);omega) ?_);show Ev (fun k=>(spec_l4Next.f H T (rd out 0) 0).bind _) _;rw [spec_next (by omega) (by omega) ha];exact Ev.some_ (Ev.now _)
  refine Ev.step (fun k=>by rw [spec_InsertSkip.j0]) ?_;refine Ev.neg_ (by simp) (Ev.bind hf ?_);by_cases hx1:nxt H T 0 (rd out 0) = -1
  · refine Ev.neg_ (by show ¬ nxt H T 0 (rd out 0) ≥ 0; omega) ?_
    have hin:insIn H T x out:=⟨hg,hx,hl,ho,.inl hx1⟩;rcases hr with ⟨_,rfl⟩ | ⟨hn,_⟩
    · exact spec_InsJ hin hs
    · exact absurd hin hn
  · have hj := (hst.resolve_left hx1).1
    refine Ev.pos_ (by show nxt H T 0 (rd out 0) ≥ 0;exact hj.1) (Ev.pos_ hj.1 (Ev.pos_ hj.2.1 (Ev.bind (spec_cmp _ _ _ _ _ _ _ _) ?_)));by_cases hc:cmpV (rd_T77 T (nxt H T 0 (rd out 0))).f0.f0 (rd_T77 T (nxt H T 0 (rd out 0))).f0.f1 x.f0 x.f1=0
    · have hn : ¬ insIn H T x out := fun g => g.2.2.2.2.elim (fun e => hx1 e) (fun e => e hc)
      rcases hr with ⟨h,_⟩ | ⟨_,rfl⟩
      · exact absurd h hn
      · rw [hc];exact spec_Ins1 H T _ _ _ _
    · have hin : insIn H T x out := ⟨hg, hx, hl, ho, .inr hc⟩
      have e:(cmpV (rd_T77 T (nxt H T 0 (rd out 0))).f0.f0 (rd_T77 T (nxt H T 0 (rd out 0))).f0.f1 x.f0 x.f1 == 0)=false:=by simpa using hc
      rcases hr with ⟨_,rfl⟩ | ⟨hn,_⟩
      · rw [e];exact spec_InsJ hin hs
      · exact absurd hin hn
theorem spec_InsertSkip_ (H:List Int) (T:List S77) (x:S28) (hl:T.length≤140737488351232):∃ r,Ev (fun k=>spec_InsertSkip.f k H T x.f0 x.f1 x.f2 x.f3) r∧insR H T x r:=by
  unfold spec_InsertSkip.f;rw [spec_goodItem];by_cases hg:goodSkipP H T
  · have hgv : goodSkipV H T = true := goodSkipV_iff.2 hg
    by_cases hx:goodI x=true
    · by_cases h60 : T.length < 60
      · obtain ⟨out, looked, ho, _, h⟩ := spec_InsN H T x hg hx h60
        have hb:((T.length:Int) == 60)=false:=by simp;omega
        by_cases hin:insIn H T x out
        · exact ⟨_,Ev.bind (spec_goodSkip H T hl) (Ev.pos_ hgv (Ev.some_ (Ev.pos_ hx (by rw [hb];exact h _ (.inl ⟨hin,rfl⟩))))),.inl ⟨out,hin,rfl⟩⟩
        · exact ⟨_,Ev.bind (spec_goodSkip H T hl) (Ev.pos_ hgv (Ev.some_ (Ev.pos_ hx (by rw [hb];exact h _ (.inr ⟨hin,rfl⟩))))),.inr rfl⟩
      · have hb : ((T.length : Int) == 60) = true := by have := hg.2.1; simp; omega
        exact ⟨_,Ev.bind (spec_goodSkip H T hl) (Ev.pos_ hgv (Ev.some_ (Ev.pos_ hx (by rw [hb];exact spec_Ins0 H T _ _ _ _)))),.inr rfl⟩
    · exact ⟨_,Ev.bind (spec_goodSkip H T hl) (Ev.pos_ hgv (Ev.some_ (Ev.neg_ hx (spec_Ins0 H T _ _ _ _)))),.inr rfl⟩
  · have hgv : ¬ goodSkipV H T = true := fun g => hg (goodSkipV_iff.1 g)
    exact ⟨_,Ev.bind (spec_goodSkip H T hl) (Ev.neg_ hgv (spec_Ins0 H T _ _ _ _)),.inr rfl⟩
-- part implIns needs impl_InsertSkip.f
theorem impl_ins_l0 (x:S28) (out:List Int) (n:Int):∀ (d l:Nat) (own H:List Int) (T:List S77),(l:Int) + d=towV x.f0 x.f1→insOk out H T l→own.length=l →
    Ev (fun k=>impl_InsertSkip.l0 k out own n (towV x.f0 x.f1) l x.f0 x.f1 x.f2 x.f3 H T) ((insGo out n x d l own H T).1,(insGo out n x d l own H T).2,true):=by
  have htr:=towV_range x.f0 x.f1;intro d
  induction d with
  | zero =>
    intro l own H T hl ho hn;refine Ev.step (fun k=>by rw [impl_InsertSkip.l0]) ?_
    exact Ev.neg_ (by omega) (Ev.pos_ (by have:=ho.2.1;omega) (Ev.now _))
  | succ d ih =>
    intro l own H T hl ho hn;have hc:=ho.2.2.2 l (Nat.le_refl _) (by omega);have hH:=ho.1;have hO:=ho.2.2.1;have hst:=ho.step n (by omega);have hr:=ih (l + 1) (own ++ [nxt H T l (rd out l)]) _ _ (by omega) hst (by simp;omega);refine Ev.step (fun k=>by rw [impl_InsertSkip.l0]) ?_;refine Ev.pos_ (by omega) (Ev.pos_ (by omega) (Ev.pos_ (by omega) ?_));unfold impl_Skip_next2.f;rw [impl_next (by omega) (by omega) hc];refine Ev.some_ (Ev.pos_ (by omega) (Ev.some_ ?_));rw [show wrap64 ((l:Int) + 1)=((l + 1:Nat):Int) from by rw [w64 (by omega) (by omega)];omega];unfold insGo;unfold insSt at hr ⊢;by_cases e:rd out l < 0
    · rw [if_pos e] at hr ⊢
      refine Ev.pos_ (by rcases hc with h|h;exact h;have:=h.1;omega) (Ev.pos_ (by omega) ?_);rw [Int.toNat_natCast];exact hr
    · rw [if_neg e] at hr ⊢
      have hh:=hc.resolve_left (by omega);refine Ev.neg_ (by omega) (Ev.pos_ hh.1 (Ev.pos_ hh.2.1 (Ev.pos_ hh.2.2 ?_)));rw [Int.toNat_natCast];exact hr
theorem impl_clone_l0 (H:List Int) (T:List S77) (hT:T.length≤60) (h5:∀ j:Nat,j < T.length→(T.getD j z77).f1.length≤5):∀ (d i:Nat),i + d=T.length→Ev (fun k=>impl_cloneSkip.l0 k T (T.length:Int) (i:Int) H (T.take i)) (H,T):=by
  intro d
  induction d with
  | zero =>
    intro i hi;refine Ev.step (fun k=>by rw [impl_cloneSkip.l0]) ?_;refine Ev.neg_ (by omega) ?_
    rw [List.take_of_length_le (by omega)];exact Ev.now _
  | succ d ih =>
    intro i hi;have h:=h5 i (by omega);refine Ev.step (fun k=>by rw [impl_cloneSkip.l0]) ?_;refine Ev.pos_ (by omega) (Ev.pos_ (by omega) (Ev.pos_ (by omega) ?_));unfold slices_Clone_int_int.f;rw [rdT_nat,if_pos (by omega)];refine Ev.some_ (Ev.pos_ (by rw [zL];omega) ?_);rw [w64 (by omega) (by omega),show (i:Int) + 1=((i + 1:Nat):Int) by omega]
    have e:T.take i ++ [T.getD i z77]=T.take (i + 1):=by
      rw [List.take_succ_eq_append_getElem (by omega),List.getD_eq_getElem?_getD,List.getElem?_eq_getElem (by omega)];rfl
    have:=ih (i + 1) (by omega);rw [← e] at this;exact this
theorem impl_clone (H:List Int) (T:List S77) (hg:goodSkipP H T):Ev (fun k=>impl_cloneSkip.f k H T) (H,T):=by
  unfold impl_cloneSkip.f slices_Clone_int_int.f;rw [if_pos (by have:=hg.1;omega)];refine Ev.some_ ?_;have:=impl_clone_l0 H T hg.2.1 (tow_len hg) T.length 0 (by omega)
  simpa using this
theorem impl_InsJ {H:List Int} {T:List S77} {x:S28} {out:List Int} (hi:insIn H T x out) :
    Ev (fun k=>impl_InsertSkip.j1 k out false H T x.f0 x.f1 x.f2 x.f3) ((insGo out T.length x (towV x.f0 x.f1).toNat 0 [] H T).1,(insGo out T.length x (towV x.f0 x.f1).toNat 0 [] H T).2,true):=by
  obtain ⟨hs,hq0,hq1⟩:=goodI_facts hi.2.1;have htr:=towV_range x.f0 x.f1;refine Ev.step (fun k=>by rw [impl_InsertSkip.j1]) ?_;refine Ev.neg_ (by simp) (Ev.bind (a:=(H,T)) (impl_clone H T hi.1) ?_);refine Ev.bind (impl_tower x.f0 hs hq0 hq1) ?_;exact impl_ins_l0 x out T.length (towV x.f0 x.f1).toNat 0 [] H T (by omega) (hi.2.2.2.1.insOk hi.1) rfl
theorem impl_Ins0 (H:List Int) (T:List S77) (k q d v):Ev (fun n=>impl_InsertSkip.j0 n true H T k q d v) ([],[],false) :=
  Ev.step (fun k=>by rw [impl_InsertSkip.j0]) (Ev.pos_ rfl (Ev.now _))
theorem impl_Ins1 (out H:List Int) (T:List S77) (k q d v):Ev (fun n=>impl_InsertSkip.j1 n out true H T k q d v) ([],[],false) :=
  Ev.step (fun k=>by rw [impl_InsertSkip.j1]) (Ev.pos_ rfl (Ev.now _))
theorem impl_InsN {H:List Int} {T:List S77} {x:S28} {out:List Int} {looked:Int} (hg:goodSkipP H T) (hx:goodI x=true) (hl:T.length < 60) (ho:lastsP H T x.f0 x.f1 0 out) (hi:Ev (fun k=>impl_Skip_seek.f k H T x.f0 x.f1 x.f2 x.f3) (out,looked))
    (r) (hr:(∃ _:insIn H T x out,r=((insGo out T.length x (towV x.f0 x.f1).toNat 0 [] H T).1,(insGo out T.length x (towV x.f0 x.f1).toNat 0 [] H T).2,true))∨(¬ insIn H T x out∧r=([],[],false))):Ev (fun k=>impl_InsertSkip.j0 k false H T x.f0 x.f1 x.f2 x.f3) r:=by
  have hl0:=ho.2 0 (by omega) (by omega);have hH:=hg.1;have ha:rd out ((0:Nat):Int) = -1∨hghT T ((0:Nat):Int) (rd out ((0:Nat):Int)):=hl0.1.imp id (fun h=>h.1);have hst:=good_step hg (lv:=0) (by omega) ha;simp only [Int.natCast_zero] at hl0 ha hst;have hlen:=ho.1;refine Ev.step (fun k=>by rw [impl_InsertSkip.j0]) ?_;refine Ev.neg_ (by simp) (Ev.bind hi (Ev.pos_ (by show 0 < (out.length:Int);omega) ?_));show Ev (fun k=>(impl_Skip_next.f H T (rd out 0) 0).bind _) _;rw [impl_next (by omega) (by omega) ha];refine Ev.some_ ?_;by_cases hx1:nxt H T 0 (rd out 0) = -1
  · refine Ev.pos_ hx1 ?_
    have hin:insIn H T x out:=⟨hg,hx,hl,ho,.inl hx1⟩;rcases hr with ⟨_,rfl⟩ | ⟨hn,_⟩
    · exact impl_InsJ hin
    · exact absurd hin hn
  · have hj := (hst.resolve_left hx1).1
    refine Ev.neg_ hx1 (Ev.pos_ hj.1 (Ev.pos_ hj.2.1 (Ev.bind (impl_cmp _ _ _ _ _ _ _ _) ?_)));by_cases hc:cmpV (rd_T77 T (nxt H T 0 (rd out 0))).f0.f0 (rd_T77 T (nxt H T 0 (rd out 0))).f0.f1 x.f0 x.f1=0
    · have hn : ¬ insIn H T x out := fun g => g.2.2.2.2.elim (fun e => hx1 e) (fun e => e hc)
      rcases hr with ⟨h,_⟩ | ⟨_,rfl⟩
      · exact absurd h hn
      · rw [hc];exact impl_Ins1 out H T _ _ _ _
    · have hin : insIn H T x out := ⟨hg, hx, hl, ho, .inr hc⟩
      have e:(cmpV (rd_T77 T (nxt H T 0 (rd out 0))).f0.f0 (rd_T77 T (nxt H T 0 (rd out 0))).f0.f1 x.f0 x.f1 == 0)=false:=by simpa using hc
      rcases hr with ⟨_,rfl⟩ | ⟨hn,_⟩
      · rw [e];exact impl_InsJ hin
      · exact absurd hin hn
theorem ins_both (H:List Int) (T:List S77) (x:S28) (hl:T.length≤140737488351232):∃ r,Ev (fun k=>spec_InsertSkip.f k H T x.f0 x.f1 x.f2 x.f3) r∧Ev (fun k=>impl_InsertSkip.f k H T x.f0 x.f1 x.f2 x.f3) r∧insR H T x r:=by
  unfold spec_InsertSkip.f impl_InsertSkip.f;rw [spec_goodItem,impl_goodItem];by_cases hg:goodSkipP H T
  · have hgv : goodSkipV H T = true := goodSkipV_iff.2 hg
    by_cases hx:goodI x=true
    · by_cases h60 : T.length < 60
      · obtain ⟨out, looked, ho, hi, h⟩ := spec_InsN H T x hg hx h60
        have hb:((T.length:Int) == 60)=false:=by simp;omega
        by_cases hin:insIn H T x out
        · exact ⟨_,Ev.bind (spec_goodSkip H T hl) (Ev.pos_ hgv (Ev.some_ (Ev.pos_ hx (by rw [hb];exact h _ (.inl ⟨hin,rfl⟩))))),Ev.bind (impl_goodSkip H T hl) (Ev.pos_ hgv (Ev.some_ (Ev.pos_ hx (by rw [hb];exact impl_InsN hg hx h60 ho hi _ (.inl ⟨hin,rfl⟩))))),.inl ⟨out,hin,rfl⟩⟩
        · exact ⟨_,Ev.bind (spec_goodSkip H T hl) (Ev.pos_ hgv (Ev.some_ (Ev.pos_ hx (by rw [hb];exact h _ (.inr ⟨hin,rfl⟩))))),Ev.bind (impl_goodSkip H T hl) (Ev.pos_ hgv (Ev.some_ (Ev.pos_ hx (by rw [hb];exact impl_InsN hg hx h60 ho hi _ (.inr ⟨hin,rfl⟩))))),.inr rfl⟩
      · have hb : ((T.length : Int) == 60) = true := by have := hg.2.1; simp; omega
        exact ⟨_,Ev.bind (spec_goodSkip H T hl) (Ev.pos_ hgv (Ev.some_ (Ev.pos_ hx (by rw [hb];exact spec_Ins0 H T _ _ _ _)))),Ev.bind (impl_goodSkip H T hl) (Ev.pos_ hgv (Ev.some_ (Ev.pos_ hx (by rw [hb];exact impl_Ins0 H T _ _ _ _)))),.inr rfl⟩
    · exact ⟨_,Ev.bind (spec_goodSkip H T hl) (Ev.pos_ hgv (Ev.some_ (Ev.neg_ hx (spec_Ins0 H T _ _ _ _)))),Ev.bind (impl_goodSkip H T hl) (Ev.pos_ hgv (Ev.some_ (Ev.neg_ hx (impl_Ins0 H T _ _ _ _)))),.inr rfl⟩
  · have hgv : ¬ goodSkipV H T = true := fun g => hg (goodSkipV_iff.1 g)
    exact ⟨_,Ev.bind (spec_goodSkip H T hl) (Ev.neg_ hgv (spec_Ins0 H T _ _ _ _)),Ev.bind (impl_goodSkip H T hl) (Ev.neg_ hgv (impl_Ins0 H T _ _ _ _)),.inr rfl⟩
-- part chainM needs spec_GoodSkip.f
theorem Chain.lt {H:List Int} {T:List S77} {lv:Int}:∀ {L:List Int} {a:Int},Chain H T lv a L→0≤a → ∀ y ∈ L,ltT T a y
  | [],_,_,_,y,hy=>by cases hy
  | j :: L, a, h, h0, y, hy => by
    obtain ⟨_,hs,hc⟩:=h;rcases List.mem_cons.1 hy with rfl|hy
    · exact hs.2 h0
    · exact ltT_trans (hs.2 h0) (Chain.lt hc hs.1.1 y hy)
theorem Chain.split {H:List Int} {T:List S77} {lv:Int}:∀ {L:List Int} {a a0:Int},Chain H T lv a0 L→a=a0∨a ∈ L → ∃ L1 L2,L=L1 ++ L2∧Chain H T lv a L2 ∧ ∀ y ∈ L1,y=a∨ltT T y a
  | L, a, a0, h, ha => by
    by_cases e:a=a0
    · subst e;exact ⟨[],L,rfl,h,fun y hy=>by cases hy⟩
    · cases L with
      |nil=>rcases ha with h|h;exact absurd h e;cases h
      | cons j L =>
        obtain ⟨_,hs,hc⟩:=h;have ha':a=j∨a ∈ L:=List.mem_cons.1 (ha.resolve_left e);obtain ⟨L1,L2,rfl,h1,h2⟩:=Chain.split hc ha';refine ⟨j :: L1,L2,rfl,h1,fun y hy=>?_⟩;rcases List.mem_cons.1 hy with rfl|hy
        · rcases ha' with h | h
          · exact .inl h.symm
          · exact .inr (hc.lt hs.1.1 _ h)
        · exact h2 y hy
theorem cntHi_all {T:List S77} (h:allTow T):cntHi 0 T=T.length:=by
  unfold cntHi;rw [List.countP_eq_length];intro t ht;obtain ⟨i,hi,rfl⟩:=List.getElem_of_mem ht;have:=h i hi;rw [List.getD_eq_getElem?_getD,List.getElem?_eq_getElem hi] at this;have h2:=this.2;have:=towV_range T[i].f0.f0 T[i].f0.f1;simp only [Option.getD_some] at h2;rw [decide_eq_true_eq];omega
theorem Chain.facts' {H:List Int} {T:List S77} {lv:Int}:∀ {L:List Int} {a:Int},Chain H T lv a L → ∀ y ∈ L,hghT T lv y
  | [],_,_,y,hy=>by cases hy
  | j :: L, a, h, y, hy => by
    rcases List.mem_cons.1 hy with rfl|hy
    · exact h.2.1.1
    · exact Chain.facts' h.2.2 y hy
-- part insGood needs spec_InsertSkip.f, impl_InsertSkip.f
def insS (H:List Int) (T:List S77) (out:List Int) (n:Int) (l:Nat) (own Hl:List Int) (Tl:List S77):Prop :=
  Hl.length=5∧Tl.length=T.length∧(∀ j:Int,0≤j→(rd_T77 Tl j).f0=(rd_T77 T j).f0∧(rd_T77 Tl j).f1.length=(rd_T77 T j).f1.length) ∧
  (∀ (lv:Nat) (a:Int),lv < 5→(a = -1∨hghT T lv a)→nxt Hl Tl lv a=if lv < l∧a=rd out lv then n else nxt H T lv a)∧own.length=l∧(∀ lv:Nat,lv < l→rd own lv=nxt H T lv (rd out lv))
theorem rd_setI_ {l:List Int} {i j:Nat} {v:Int} (h:i < l.length):rd (l.set i v) (j:Int)=if j=i then v else rd l j:=by
  rw [rd_nat,rd_nat,List.getD_eq_getElem?_getD,List.getD_eq_getElem?_getD,List.getElem?_set];by_cases e:i=j
  · subst e;rw [if_pos rfl,if_pos h,if_pos rfl];rfl
  · rw [if_neg e,if_neg (fun h=>e h.symm)]
theorem rd_app {l:List Int} {j:Nat} {v:Int}:rd (l ++ [v]) (j:Int)=if j=l.length then v else rd l j:=by
  rw [rd_nat,rd_nat,List.getD_eq_getElem?_getD,List.getD_eq_getElem?_getD];by_cases e:j=l.length
  · subst e;rw [if_pos rfl,List.getElem?_append_right (Nat.le_refl _)];simp
  · rw [if_neg e]
    by_cases g:j < l.length
    · rw [List.getElem?_append_left g]
    · rw [List.getElem?_append_right (by omega),List.getElem?_eq_none (by simp;omega),List.getElem?_eq_none (by omega)]
theorem insS_step {H:List Int} {T:List S77} {out:List Int} {n:Int} {l:Nat} {own Hl:List Int} {Tl:List S77} (hl:l < 5) (ho:∀ lv:Nat,lv < 5→(rd out lv = -1∨hghT T lv (rd out lv))) (h:insS H T out n l own Hl Tl) :
    insS H T out n (l + 1) (own ++ [nxt Hl Tl l (rd out l)]) (insSt Hl Tl (rd out l) l n).1 (insSt Hl Tl (rd out l) l n).2:=by
  obtain ⟨h1,h2,h3,h4,h5,h6⟩:=h;have hc:=ho l hl
  have hown:∀ lv:Nat,lv < l + 1→rd (own ++ [nxt Hl Tl l (rd out l)]) lv=nxt H T lv (rd out lv):=by
    intro lv hlv;rw [rd_app];by_cases e:lv=own.length
    · rw [if_pos e]
      have e2:lv=l:=by omega
      subst e2;rw [h4 lv _ hl hc,if_neg (fun g=>by omega)]
    · rw [if_neg e];exact h6 lv (by omega)
  unfold insSt;by_cases e:rd out l < 0
  · rw [if_pos e]
    have e1:rd out l = -1:=by rcases hc with h|h;exact h;have:=h.1;omega
    refine ⟨by rw [List.length_set];exact h1,h2,h3,fun lv a hlv ha=>?_,by simp;omega,hown⟩
    have k:nxt (Hl.set l n) Tl lv a=if lv=l∧a < 0 then n else nxt Hl Tl lv a:=by
      unfold nxt;by_cases ea:a < 0
      · rw [if_pos ea, if_pos ea, rd_setI_ (by omega)]
        by_cases el:lv=l
        · rw [if_pos el,if_pos ⟨el,ea⟩]
        · rw [if_neg el,if_neg (fun g=>el g.1)]
      · rw [if_neg ea,if_neg ea,if_neg (fun g=>ea g.2)]
    show nxt (Hl.set l n) Tl lv a=_;rw [k,h4 lv a hlv ha];by_cases c1:lv=l∧a < 0
    · have ea1 : a = -1 := by rcases ha with h | h; exact h; have := h.1; omega
      rw [if_pos c1,if_pos ⟨by omega,by rw [c1.1,e1,ea1]⟩]
    · rw [if_neg c1]
      by_cases c:lv < l∧a=rd out lv
      · rw [if_pos c,if_pos ⟨by omega,c.2⟩]
      · rw [if_neg c,if_neg (fun g=>by
          by_cases el:lv=l
          · have g2 := g.2
            rw [el,e1] at g2;exact c1 ⟨el,by omega⟩
          · exact c ⟨by omega,g.2⟩)]
  · rw [if_neg e]
    have hh:=hc.resolve_left (by omega);have hb0:0≤rd out l:=hh.1;have hb1:rd out l < (Tl.length:Int):=by rw [h2];exact hh.2.1
    refine ⟨h1,by rw [putT_len];exact h2,fun j hj=>?_,fun lv a hlv ha=>?_,by simp;omega,hown⟩
    · rw [putT_f0 hb0 hb1 hj,putT_f1 hb0 hb1 hj];exact h3 j hj
    · have hlen : l < (rd_T77 Tl (rd out l)).f1.length := by
        rw [(h3 _ hb0).2];have:=hh.2.2;omega
      have k:nxt Hl (putT Tl (rd out l) l n) lv a=if lv=l∧a=rd out l then n else nxt Hl Tl lv a:=by
        unfold nxt;by_cases ea:a < 0
        · rw [if_pos ea,if_pos ea,if_neg (fun g=>by have:=g.2;omega)]
        · rw [if_neg ea, if_neg ea, rd_putT hb0 hb1 (by omega)]
          by_cases eb:a=rd out l
          · rw [if_pos eb]
            show rd ((rd_T77 Tl (rd out l)).f1.set l n) lv=_;rw [rd_setI_ hlen];by_cases el:lv=l
            · rw [if_pos el,if_pos ⟨el,eb⟩]
            · rw [if_neg el,if_neg (fun g=>el g.1),← eb]
          · rw [if_neg eb,if_neg (fun g=>eb g.2)]
      show nxt Hl (putT Tl (rd out l) l n) lv a=_;rw [k,h4 lv a hlv ha];by_cases c1:lv=l∧a=rd out l
      · rw [if_pos c1,if_pos ⟨by omega,by rw [c1.1];exact c1.2⟩]
      · rw [if_neg c1]
        by_cases c:lv < l∧a=rd out lv
        · rw [if_pos c,if_pos ⟨by omega,c.2⟩]
        · rw [if_neg c,if_neg (fun g=>by
            by_cases el:lv=l
            · have g2 := g.2
              rw [el] at g2;exact c1 ⟨el,g2⟩
            · exact c ⟨by omega,g.2⟩)]
theorem insS_go {H:List Int} {T:List S77} {out:List Int} {n:Int} {x:S28} (ho:∀ lv:Nat,lv < 5→(rd out lv = -1∨hghT T lv (rd out lv))):∀ (d l:Nat) (own Hl:List Int) (Tl:List S77),l + d≤5→insS H T out n l own Hl Tl →
    ∃ own' H' Tm,insGo out n x d l own Hl Tl=(H',Tm ++ [⟨x,own'⟩])∧insS H T out n (l + d) own' H' Tm:=by
  intro d
  induction d with
  |zero=>intro l own Hl Tl _ h;exact ⟨own,Hl,Tl,rfl,h⟩
  | succ d ih =>
    intro l own Hl Tl hl h;obtain ⟨o,H',Tm,e,h'⟩:=ih (l + 1) _ _ _ (by omega) (insS_step (by omega) ho h);refine ⟨o,H',Tm,?_,by rw [show l + (d + 1)=l + 1 + d by omega];exact h'⟩;unfold insGo;exact e
/-- An insertion's answer, told by what follows what. -/
structure insF (H:List Int) (T:List S77) (x:S28) (out H':List Int) (T':List S77):Prop where
  hlen:H'.length=5
  tlen:T'.length=T.length + 1
  old:∀ j:Int,0≤j→j < (T.length:Int)→(rd_T77 T' j).f0=(rd_T77 T j).f0∧(rd_T77 T' j).f1.length=(rd_T77 T j).f1.length
  new:(rd_T77 T' T.length).f0=x∧((rd_T77 T' T.length).f1.length:Int)=towV x.f0 x.f1
  nx:∀ (lv:Nat) (a:Int),lv < 5→(a = -1∨hghT T lv a)→nxt H' T' lv a=if (lv:Int) < towV x.f0 x.f1∧a=rd out lv then (T.length:Int) else nxt H T lv a
  nn:∀ lv:Nat,(lv:Int) < towV x.f0 x.f1→nxt H' T' lv T.length=nxt H T lv (rd out lv)
  cnt:∀ lv:Int,cntHi lv T'=cntHi lv T + if lv < towV x.f0 x.f1 then 1 else 0
theorem rd_appT {T:List S77} {t:S77} {j:Int} (h0:0≤j) (h1:j < (T.length:Int)):rd_T77 (T ++ [t]) j=rd_T77 T j:=by
  unfold rd_T77;rw [List.getD_eq_getElem?_getD,List.getD_eq_getElem?_getD,List.getElem?_append_left (by omega)]
theorem rd_appN {T:List S77} {t:S77}:rd_T77 (T ++ [t]) (T.length:Int)=t:=by
  unfold rd_T77;rw [List.getD_eq_getElem?_getD,Int.toNat_natCast,List.getElem?_append_right (Nat.le_refl _)];simp
theorem insF_of {H:List Int} {T:List S77} {x:S28} {out:List Int} (hi:insIn H T x out):insF H T x out (insGo out T.length x (towV x.f0 x.f1).toNat 0 [] H T).1 (insGo out T.length x (towV x.f0 x.f1).toNat 0 [] H T).2:=by
  have htr:=towV_range x.f0 x.f1;have hok:=hi.2.2.2.1.insOk hi.1;obtain ⟨own,H',Tm,e,h1,h2,h3,h4,h5,h6⟩:=insS_go (H:=H) (T:=T) (n:=T.length) (x:=x) (fun lv hlv=>hok.2.2.2 lv (Nat.zero_le _) hlv) (towV x.f0 x.f1).toNat 0 [] H T (by omega) ⟨hok.1,rfl,fun _ _=>⟨rfl,rfl⟩,fun lv a _ _=>by rw [if_neg (fun g=>by omega)],rfl,fun lv h=>by omega⟩;rw [e];have hT:∀ j:Int,0≤j→j < (T.length:Int)→rd_T77 (Tm ++ [⟨x,own⟩]) j=rd_T77 Tm j:=fun j g0 g1=>rd_appT g0 (by omega);have hN:rd_T77 (Tm ++ [⟨x,own⟩]) (T.length:Int)=⟨x,own⟩:=by rw [← h2];exact rd_appN
  refine ⟨h1,by simp;omega,fun j g0 g1=>by rw [hT j g0 g1];exact h3 j g0,by rw [hN];exact ⟨rfl,by show (own.length:Int)=_;omega⟩,fun lv a hlv ha=>?_,fun lv hlv=>?_,fun lv=>?_⟩
  · have := h4 lv a hlv ha
    have e1:nxt H' (Tm ++ [⟨x,own⟩]) lv a=nxt H' Tm lv a:=by
      unfold nxt;by_cases ea:a < 0
      · rw [if_pos ea,if_pos ea]
      · rw [if_neg ea, if_neg ea]
        have:=ha.resolve_left (by omega);rw [hT a this.1 this.2.1]
    show nxt H' (Tm ++ [⟨x,own⟩]) lv a=_;rw [e1,this];by_cases c:(lv:Int) < towV x.f0 x.f1∧a=rd out lv
    · rw [if_pos c,if_pos ⟨by omega,c.2⟩]
    · rw [if_neg c,if_neg (fun g=>c ⟨by omega,g.2⟩)]
  · show nxt H' (Tm ++ [⟨x, own⟩]) lv (T.length : Int) = _
    unfold nxt;rw [if_neg (by omega),hN];exact h6 lv (by omega)
  · show cntHi lv (Tm ++ [⟨x, own⟩]) = _
    have em:Tm.map (fun t=>t.f1.length)=T.map (fun t=>t.f1.length):=by
      apply List.ext_getElem
      · simp [h2]
      · intro i g1 g2
        simp at g1 g2;have:=(h3 (i:Int) (by omega)).2;rw [rdT_nat,rdT_nat,List.getD_eq_getElem?_getD,List.getD_eq_getElem?_getD,List.getElem?_eq_getElem (by omega),List.getElem?_eq_getElem (by omega)] at this
        simpa using this
    have ec:cntHi lv Tm=cntHi lv T:=by
      have g:∀ L:List S77,cntHi lv L=(L.map (fun t=>t.f1.length)).countP (fun (m:Nat)=>decide (lv < (m:Int))):=fun L=>by
        unfold cntHi;rw [List.countP_map];rfl
      rw [g,g,em]
    have ea:cntHi lv (Tm ++ [⟨x,own⟩])=cntHi lv Tm + if lv < (own.length:Int) then 1 else 0:=by
      unfold cntHi;rw [List.countP_append];simp [List.countP_cons]
    rw [ea,ec];have:(own.length:Int)=towV x.f0 x.f1:=by omega
    rw [this]
theorem cmpV_zero {k1 k2:ByteArray} {q1 q2:Int} (h:¬ cmpV k1 q1 k2 q2 < 0) (h0:cmpV k1 q1 k2 q2 ≠ 0):cmpV k2 q2 k1 q1 < 0:=by
  rw [cmpV_neg] at h ⊢;by_cases c:Op.bytesLess k2.toList k1.toList=true
  · exact .inl c
  · have e := less_eq (fun g => h (.inl g)) c
    refine .inr ⟨e.symm,?_⟩;by_cases g:q1 > q2
    · exact absurd (.inr ⟨e,g⟩) h
    · by_cases g2 : q1 = q2
      · exact absurd (by unfold cmpV;rw [if_neg (fun g3=>h (.inl g3)),if_pos e,if_neg g,if_pos g2]) h0
      · omega
theorem ins_ne {H:List Int} {T:List S77} {x:S28} {out:List Int} (hi:insIn H T x out) {j:Int} (hj:hghT T 0 j):cmpV (rd_T77 T j).f0.f0 (rd_T77 T j).f0.f1 x.f0 x.f1 ≠ 0:=by
  obtain ⟨hg,_,_,ho,hn⟩:=hi;intro h0;have hl:=ho.2 0 (by omega) (by omega);simp only [Int.natCast_zero] at hl;obtain ⟨L,hc,hcn⟩:=hg.2.2.2 0 (by omega);simp only [Int.natCast_zero] at hc hcn;have hall:∀ i,hghT T 0 i→i ∈ L:=fun i g=>level_all hc hcn g;have hnl:¬ lessX T x.f0 x.f1 j:=by unfold lessX;omega
  obtain ⟨L1,L2,rfl,h2,h1⟩:∃ L1 L2,L=L1 ++ L2∧Chain H T 0 (rd out 0) L2 ∧ ∀ y ∈ L1,lessX T x.f0 x.f1 y:=by
    rcases hl.1 with h | ⟨g,h⟩
    · rw [h];exact ⟨[],L,rfl,hc,fun y hy=>by cases hy⟩
    · obtain ⟨L1, L2, e, h2, h1⟩ := hc.split (.inr (hall _ g))
      refine ⟨L1,L2,e,h2,fun y hy=>?_⟩;rcases h1 y hy with g|g
      · subst g;exact h
      · exact cmpV_trans g h
  rcases List.mem_append.1 (hall j hj) with hm|hm
  · exact hnl (h1 j hm)
  · cases L2 with
    |nil=>cases hm
    | cons y L2 =>
      obtain ⟨e,hs,hc2⟩:=h2;have hy:=hs.1.1;have hl2:nxt H T 0 (rd out 0) = -1 ∨ ¬ lessX T x.f0 x.f1 (nxt H T 0 (rd out 0)):=hl.2;rw [e] at hl2 hn;have hny:=hl2.resolve_left (by omega);have hny0:=hn.resolve_left (by omega);rcases List.mem_cons.1 hm with rfl|hm
      · exact hny0 h0
      · have h3 := hc2.lt hy j hm
        unfold ltT cmpI at h3;obtain ⟨ek,eq⟩:=cmpV_anti h0;refine hny ?_;unfold lessX;rw [cmpV_neg] at h3 ⊢;rw [ek,eq] at h3;exact h3
section
variable {H:List Int} {T:List S77} {x:S28} {out H':List Int} {T':List S77}
theorem insF.hgh (f:insF H T x out H' T') {lv j:Int} (h:hghT T lv j):hghT T' lv j:=⟨h.1,by rw [f.tlen];have:=h.2.1;omega,by rw [(f.old j h.1 h.2.1).2];exact h.2.2⟩
theorem insF.lt_ (f:insF H T x out H' T') {lv lw i j:Int} (hi:hghT T lv i) (hj:hghT T lw j) (h:ltT T i j):ltT T' i j:=by
  unfold ltT;rw [(f.old i hi.1 hi.2.1).1,(f.old j hj.1 hj.2.1).1];exact h
theorem insF.lev {lv:Nat} (f:insF H T x out H' T') (hlv:lv < 5):∀ (L:List Int) (a:Int),Chain H T lv a L→(a = -1∨hghT T lv a)→(∀ y,y=a∨y ∈ L → ¬ ((lv:Int) < towV x.f0 x.f1∧y=rd out lv))→Chain H' T' lv a L:=by
  intro L
  induction L with
  | nil =>
    intro a h ha hn;show nxt H' T' lv a = -1
    rw [f.nx lv a hlv ha,if_neg (hn a (.inl rfl))];exact h
  | cons j L ih =>
    intro a h ha hn;obtain ⟨e,hs,hc⟩:=h;refine ⟨?_,⟨f.hgh hs.1,fun h0=>f.lt_ (ha.resolve_left (by omega)) hs.1 (hs.2 h0)⟩,ih j hc (.inr hs.1) (fun y hy=>hn y (.inr (List.mem_cons.2 hy)))⟩;rw [f.nx lv a hlv ha,if_neg (hn a (.inl rfl))];exact e
theorem insF.thru {lv:Nat} (f:insF H T x out H' T') (hi:insIn H T x out) (hlv:lv < 5) (hd:(lv:Int) < towV x.f0 x.f1):∀ (L:List Int) (a:Int),Chain H T lv a L→(a = -1∨hghT T lv a)→(rd out lv=a∨rd out lv ∈ L) →
    ∃ L1 L2,L=L1 ++ L2∧Chain H' T' lv a (L1 ++ (T.length:Int) :: L2):=by
  have hl:=hi.2.2.2.1.2 lv (Nat.zero_le _) hlv;have hne:∀ j,hghT T lv j→cmpV (rd_T77 T j).f0.f0 (rd_T77 T j).f0.f1 x.f0 x.f1 ≠ 0:=fun j hj=>ins_ne hi ⟨hj.1,hj.2.1,by have:=hj.2.2;omega⟩;have hnn:hghT T' lv (T.length:Int):=⟨by omega,by rw [f.tlen];omega,by rw [f.new.2];exact hd⟩;intro L
  induction L with
  | nil =>
    intro a h ha hb;have hb:rd out lv=a:=hb.resolve_right (by simp);have e:nxt H T lv a = -1:=h;refine ⟨[],[],rfl,?_,⟨hnn,fun h0=>?_⟩,?_⟩
    · rw [f.nx lv a hlv ha,if_pos ⟨hd,hb.symm⟩]
    · have g := ha.resolve_left (by omega)
      unfold ltT;rw [(f.old a g.1 g.2.1).1,f.new.1];exact (hb ▸ hl.1.resolve_left (by omega)).2
    · show nxt H' T' lv (T.length : Int) = -1
      rw [f.nn lv hd,hb];exact e
  | cons j L ih =>
    intro a h ha hb;have h':=h;obtain ⟨e,hs,hc⟩:=h;by_cases hb1:rd out lv=a
    · refine ⟨[], j :: L, rfl, ?_, ⟨hnn, fun h0 => ?_⟩, ?_, ⟨f.hgh hs.1, fun _ => ?_⟩, ?_⟩
      · rw [f.nx lv a hlv ha,if_pos ⟨hd,hb1.symm⟩]
      · have g := ha.resolve_left (by omega)
        unfold ltT;rw [(f.old a g.1 g.2.1).1,f.new.1];exact (hb1 ▸ hl.1.resolve_left (by omega)).2
      · rw [f.nn lv hd,hb1];exact e
      · unfold ltT; rw [(f.old j hs.1.1 hs.1.2.1).1, f.new.1]
        have hnl:¬ lessX T x.f0 x.f1 j:=by
          have:=hl.2.resolve_left (by rw [hb1,e];have:=hs.1.1;omega);rw [hb1,e] at this;exact this
        exact cmpV_zero hnl (hne j hs.1)
      · refine f.lev hlv L j hc (.inr hs.1) (fun y hy g => ?_)
        have ey:y=a:=g.2.trans hb1;rcases ha with ha|ha
        · have hy0 : 0 ≤ y := by
            rcases hy with rfl|hy
            · exact hs.1.1
            · exact ((Chain.facts' hc y hy)).1
          omega
        · have hlt := h'.lt ha.1 y (List.mem_cons.2 hy)
          rw [ey] at hlt;exact ltT_irrefl _ _ hlt
    · have hb2 : rd out lv = j ∨ rd out lv ∈ L := List.mem_cons.1 (hb.resolve_left hb1)
      obtain ⟨L1,L2,rfl,hcc⟩:=ih j hc (.inr hs.1) hb2;refine ⟨j :: L1,L2,rfl,?_,⟨f.hgh hs.1,fun h0=>f.lt_ (ha.resolve_left (by omega)) hs.1 (hs.2 h0)⟩,hcc⟩;rw [f.nx lv a hlv ha,if_neg (fun g=>hb1 g.2.symm)];exact e
end
theorem ins_level {H:List Int} {T:List S77} {x:S28} {out H':List Int} {T':List S77} (f:insF H T x out H' T') (hi:insIn H T x out) {lv:Nat} (hlv:lv < 5) {L:List Int} (hc:Chain H T lv (-1) L) (hn:L.length=cntHi lv T) :
    ((lv:Int) < towV x.f0 x.f1 ∧ ∃ L1 L2,L=L1 ++ L2∧Chain H' T' lv (-1) (L1 ++ (T.length:Int) :: L2))∨(¬ (lv:Int) < towV x.f0 x.f1∧Chain H' T' lv (-1) L):=by
  by_cases hd:(lv:Int) < towV x.f0 x.f1
  · have hl := (hi.2.2.2.1.2 lv (Nat.zero_le _) hlv).1
    exact .inl ⟨hd,f.thru hi hlv hd L (-1) hc (.inl rfl) (hl.imp id (fun g=>level_all hc hn g.1))⟩
  · exact .inr ⟨hd,f.lev hlv L (-1) hc (.inl rfl) (fun y _ g=>hd g.1)⟩
theorem ins_good {H:List Int} {T:List S77} {x:S28} {out H':List Int} {T':List S77} (f:insF H T x out H' T') (hi:insIn H T x out):goodSkipP H' T':=by
  have hg:=hi.1;refine ⟨f.hlen,by rw [f.tlen];have:=hi.2.2.1;omega,fun j hj=>?_,fun lv hlv=>?_⟩
  · rw [f.tlen] at hj
    rw [← rdT_nat];unfold towI;by_cases e:j=T.length
    · subst e;rw [f.new.1,f.new.2];exact ⟨hi.2.1,rfl⟩
    · have o := f.old (j : Int) (by omega) (by omega)
      have:=hg.2.2.1 j (by omega);rw [← rdT_nat] at this;rw [o.1,o.2];exact this
  · obtain ⟨L, hc, hn⟩ := hg.2.2.2 lv hlv
    rcases ins_level f hi hlv hc hn with ⟨hd,L1,L2,rfl,h⟩ | ⟨hd,h⟩
    · refine ⟨_, h, ?_⟩
      rw [f.cnt,if_pos hd,← hn];simp;omega
    · refine ⟨_, h, ?_⟩
      rw [f.cnt,if_neg hd];exact hn
-- part markheldSkip needs laws_markSkip.f2 laws_heldSkip.f laws_markIntS.f laws_heldIntS.f
theorem markheldTowerS:∀ (d:Nat) (xs:List S77) (m:Int) (i:Nat),i + d=xs.length→xs.length≤1048576→0 < m→m + 4 * (d:Int) + lenI (xs.drop i)≤1000000000 →
    ∃ m' xs',Ev (fun k=>laws_markTowerS.l0 k xs m (i:Int)) (m',xs')∧Ev (fun k=>laws_heldTowerS.l0 k xs' m (i:Int)) m'∧m≤m'∧xs'.length=xs.length ∧ ∀ j:Nat,j < i→xs'.getD j z77=xs.getD j z77:=by
  intro d
  induction d with
  | zero =>
    intro xs m i hi hn hm hB;refine ⟨m,xs,Ev.step (fun k=>by rw [laws_markTowerS.l0]) (Ev.neg_ (by omega) (Ev.now _)),?_,Int.le_refl _,rfl,fun _ _=>rfl⟩
    exact Ev.step (fun k=>by rw [laws_heldTowerS.l0]) (Ev.neg_ (by omega) (Ev.now _))
  | succ d ih =>
    intro xs m i hi hn hm hB;have hd:=lenI_drop xs i (by omega);have e3:wrap64 (wrap64 (wrap64 (m + 1) + 1) + 1)=m + 3:=by rw [w64 (n:=m + 1) (by omega) (by omega),w64 (n:=m + 1 + 1) (by omega) (by omega),w64 (by omega) (by omega)];omega
    have e4:wrap64 (wrap64 (wrap64 (wrap64 (m + 1) + 1) + 1) + 1)=m + 4:=by rw [e3,w64 (by omega) (by omega)];omega
    have hg:=markIntS_gen (xs.getD i z77).f1 (m + 4) (by omega) (by omega) (by omega);have hh:=heldIntS_gen (xs.getD i z77).f1.length (m + 4) (by omega) (by omega) (by omega);obtain ⟨m',xs',hr,hq,hrm,hl,hj⟩:=ih (xs.set i ⟨⟨markT m,wrap64 (m + 1),wrap64 (wrap64 (m + 1) + 1),markT (m + 3)⟩,mkL (fun m=>m) 1 (xs.getD i z77).f1.length (m + 4)⟩) (m + 4 + 1 * (xs.getD i z77).f1.length) (i + 1) (by simp;omega) (by simpa using hn) (by omega) (by rw [List.drop_set_of_lt (by omega)];omega);have hli:xs'.length=xs.length:=by rw [hl,List.length_set]
    have e5:wrap64 (m + 3 + 1)=m + 4:=by rw [w64 (by omega) (by omega)];omega
    refine ⟨m',xs',?_,?_,by omega,hli,fun j h=>?_⟩
    · refine Ev.step (fun k => by rw [laws_markTowerS.l0]) (Ev.pos_ (by omega) (Ev.bind (markText_ hm (by omega)) ?_))
      refine Ev.pos_ (by omega) ?_;simp only [Option.bind_some,Int.toNat_natCast,List.set_set,e4,e3];refine Ev.bind (markText_ (by omega) (by omega)) ?_;simp only [rd_setT xs i _ (show i < xs.length by omega),List.set_set,e5];rw [rdT_nat];refine Ev.bind hg ?_;rw [wi (show i < xs.length by omega) (by omega)];exact hr
    · have er : rd_T77 xs' (i : Int) = ⟨⟨markT m, wrap64 (m + 1), wrap64 (wrap64 (m + 1) + 1), markT (m + 3)⟩, mkL (fun m => m) 1 (xs.getD i z77).f1.length (m + 4)⟩ := by
        rw [rdT_nat,hj i (by omega),List.getD_eq_getElem?_getD,List.getElem?_set_self (by omega)];rfl
      refine Ev.step (fun k=>by rw [laws_heldTowerS.l0]) (Ev.pos_ (by omega) (Ev.pos_ (by omega) (Ev.bind (markText_ hm (by omega)) ?_)));rw [er,e4,e3];refine Ev.pos_ rfl (Ev.pos_ rfl (Ev.pos_ rfl (Ev.bind (markText_ (by omega) (by omega)) (Ev.pos_ rfl ?_))));refine Ev.bind hh (Ev.neg_ (by omega) ?_);rw [wi (show i < xs'.length by omega) (by omega)];exact hq
    · rw [hj j (by omega)]
      simp only [List.getD_eq_getElem?_getD];rw [List.getElem?_set_ne (by omega)]
theorem markheldSkip (H:List Int) (T:List S77) (hb:H.length + T.length + lenI T≤1048576):∃ m H' T',Ev (fun k=>laws_markSkip.f2 k H T 1) (m,H',T')∧Ev (fun k=>laws_heldSkip.f k H' T' 1) m∧0≤m:=by
  have h1:=markIntS_gen H 1 (by omega) (by omega) (by omega);have h2:=heldIntS_gen H.length 1 (by omega) (by omega) (by omega);obtain ⟨m,T',hr,hq,hm,_,_⟩:=markheldTowerS T.length T (1 + 1 * H.length) 0 (by omega) (by omega) (by omega) (by rw [List.drop_zero];omega);have hr':Ev (fun k=>laws_markTowerS.f k T (1 + 1 * H.length)) (m,T'):=by unfold laws_markTowerS.f;simpa using hr
  have hq':Ev (fun k=>laws_heldTowerS.f k T' (1 + 1 * H.length)) m:=by unfold laws_heldTowerS.f;simpa using hq
  refine ⟨m,mkL (fun m=>m) 1 H.length 1,T',?_,?_,by omega⟩
  · unfold laws_markSkip.f2
    exact Ev.bind h1 (Ev.bind hr' (Ev.now _))
  · unfold laws_heldSkip.f
    exact Ev.bind h2 (Ev.neg_ (by omega) (Ev.bind hq' (Ev.neg_ (by omega) (Ev.now _))))
theorem lenI_le:∀ (T:List S77),(∀ t ∈ T,t.f1.length≤5)→lenI T≤5 * T.length
  | [],_=>by simp [lenI]
  | t :: T, h => by
    have h1:=lenI_le T (fun x hx=>h x (List.mem_cons_of_mem _ hx));have h2:=h t List.mem_cons_self;unfold lenI at h1 ⊢;simp only [zC,List.sum_cons,List.length_cons];omega
theorem insR_small {H:List Int} {T:List S77} {x:S28} {r:List Int × List S77 × Bool} (h:insR H T x r):r.1.length≤5∧r.2.1.length≤60 ∧ ∀ t ∈ r.2.1,t.f1.length≤5:=by
  rcases h with ⟨out,hin,rfl⟩|rfl
  · have hg := ins_good (insF_of hin) hin
    refine ⟨Nat.le_of_eq hg.1,hg.2.1,fun t ht=>?_⟩;obtain ⟨i,hi,rfl⟩:=List.getElem_of_mem ht;have:=tow_len hg i hi;rw [List.getD_eq_getElem?_getD,List.getElem?_eq_getElem hi] at this;exact this
  · exact ⟨by simp,by simp,by simp⟩
theorem FnExactInsertSkip (H:List Int) (T:List S113) (k:ByteArray) (q d:Int) (v:ByteArray) (hb:skipB H T) (_:k.size≤140737488351232∧(Lit.int .i64 q).wf=true∧(Lit.int .i64 d).wf=true∧v.size≤140737488351232):∃ n,laws_FnExactInsertSkip.f n H T k q d v=some true:=by
  obtain ⟨hH,hT⟩:=skipB_small hb;have hT1:=hT.1;apply Ev.rounds (r:=true);have hm:=smallT_map hT;have ht:=toSkip_ H T hH hT;obtain ⟨r,hr,hr1⟩:=szSkip_b H T (by omega) (by omega) (fun t h=>⟨(hb.2.2 t h).1.1,(hb.2.2 t h).1.2.2.2,by have:=(hb.2.2 t h).2.1;omega⟩);obtain ⟨z,hz⟩:=szItem1_some k q d v r;obtain ⟨a,hs,hi,hR⟩:=ins_both H (T.map convTower) (⟨k,q,d,v⟩:S28) hm.1;obtain ⟨hs1,hs2,hs3⟩:=insR_small hR;have hsm:smallI a.2.1:=⟨by omega,fun t ht=>by have:=hs3 t ht;omega⟩;have heq:=eqSkip_refl a.1 a.2.1 (by omega) hsm;obtain ⟨m2,H2,T2,hm2,hh2,hm20⟩:=markheldSkip a.1 a.2.1 (by have:=lenI_le _ hs3;omega);unfold laws_FnExactInsertSkip.f;refine Ev.bind hr (Ev.ite_ (fun _=>Ev.now _) (fun hneg=>?_));rw [hz];refine Ev.some_ (Ev.ite_ (fun _=>Ev.now _) (fun _=>?_));obtain ⟨m,hm1,hm0⟩:=markSkip_ H (T.map convTower) (by rw [lenI_conv,List.length_map];exact hr1 (by omega));unfold laws_toItem.f;refine Ev.bind ht (Ev.some_ (Ev.bind hs (Ev.bind ht (Ev.some_ (Ev.bind hi (Ev.bind heq (Ev.pos_ rfl ?_)))))));simp only [bne_self_eq_false];refine Ev.step (fun k=>by rw [laws_FnExactInsertSkip.j0]) ?_;refine Ev.neg_ (by decide) (Ev.bind ht (Ev.bind (eqSkip_refl H _ (by omega) hm) (Ev.pos_ rfl (Ev.bind hm1 (Ev.neg_ (by omega) (Ev.bind heq (Ev.pos_ rfl ?_)))))));simp only [bne_self_eq_false];refine Ev.step (fun k=>by rw [laws_FnExactInsertSkip.j1]) ?_;unfold laws_toItem.f;refine Ev.neg_ (by decide) (Ev.bind hm2 (Ev.bind hh2 (Ev.neg_ (by omega) (Ev.pos_ rfl (Ev.bind ht (Ev.some_ (Ev.bind hi (Ev.bind heq (Ev.pos_ rfl ?_)))))))));simp only [bne_self_eq_false];refine Ev.step (fun k=>by rw [laws_FnExactInsertSkip.j2]) ?_;exact Ev.neg_ (by decide) (Ev.bind hh2 (Ev.neg_ (by omega) (Ev.pos_ rfl (Ev.now _))))
end Go.Proofs.YtffjlpphcjfdgaaDoor.Pure
