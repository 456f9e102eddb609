/-
  The plain statement of the law FnExactListSkip,proved: over numbers and lists alone. No condition beyond the given ones.
-/
import Derived.Test.YtffjlpphcjfdgaaDoorMFnExactListSkipx14
namespace Go.Proofs.YtffjlpphcjfdgaaDoor.Pure
-- short
open Go Go.RowKit Go.Proofs.YtffjlpphcjfdgaaDoor.MFnExactListSkip Go.Proofs.YtffjlpphcjfdgaaDoorW.PrintWords Go.Proofs.YtffjlpphcjfdgaaDoorW.PrintLast Go.Proofs.YtffjlpphcjfdgaaDoorW.PrintMore
set_option linter.unusedVariables false
set_option linter.unusedSimpArgs false
-- part base: plain facts on Go's numbers and on rounds
theorem lt_mn {i a b:Int}:i < mn a b↔i < a∧i < b:=by unfold mn;split<;>omega
theorem mn_le {a b:Int}:mn a b≤a∧mn a b≤b:=by unfold mn;split<;>omega
theorem w64 {n:Int} (h0 : -9223372036854775808≤n) (h1:n≤9223372036854775807):wrap64 n=n:=by unfold wrap64;omega
theorem wrap_u64 (n:Int):IntKind.u64.wrap n=n % 18446744073709551616:=by simp [IntKind.wrap,IntKind.bits,IntKind.signed]
theorem wu64 {n:Int} (h0:0≤n) (h1:n≤18446744073709551615):IntKind.u64.wrap n=n:=by rw [wrap_u64];omega
theorem wu32 {n:Int} (h0:0≤n) (h1:n≤4294967295):IntKind.u32.wrap n=n:=by rw [IntKind.wrap_u32];omega
theorem wraps_u32 (n:Int) (h₀:0≤n) (h₁:n < 2 ^ 32):IntKind.u32.wrap n=n:=by rw [IntKind.wrap_u32];omega
theorem wraps_i64 (n:Int) (h₀:0≤n) (h₁:n < 2 ^ 63):IntKind.i64.wrap n=n:=by rw [IntKind.wrap_i64];omega
theorem and127 {b:Int} (h0:0≤b) (h1:b≤255):Go.bits .and .u8 b 127=b % 128:=bits_mask .u8 8 (by decide) wraps_u8 7 (by decide) b h0 (by omega)
theorem wf_i64 {n:Int} (h:(Lit.int .i64 n).wf=true) : -9223372036854775808≤n∧n≤9223372036854775807:=by
  simp only [Lit.wf,Bool.and_eq_true,decide_eq_true_eq] at h
  exact h
theorem wf_u32 {n:Int} (h:(Lit.int .u32 n).wf=true):0≤n∧n≤4294967295:=by
  simp only [Lit.wf,Bool.and_eq_true,decide_eq_true_eq] at h
  exact h
theorem bits_or_comm (k:IntKind) (x y:Int):Go.bits .or k x y=Go.bits .or k y x:=by
  simp only [Go.bits,BitVec.or_comm]
theorem and127i {b:Int} (h0:0≤b) (h1:b≤9223372036854775807):Go.bits .and .i64 b 127=b % 128:=bits_mask .i64 63 (by decide) wraps_i64 7 (by decide) b h0 (by omega)
theorem or128i {b:Int} (h0:0≤b) (h1:b < 128):Go.bits .or .i64 b 128=b + 128:=by
  rw [bits_or_comm,bits_join .i64 63 (by decide) wraps_i64 7 128 b (by omega) (by omega) (by omega) h0 (by omega) (by omega)];omega
theorem Ev.ite_ {α:Type} {c:Prop} [Decidable c] {g f:Nat→Option α} {r:α} (h:c→Ev g r) (k:¬c→Ev f r):Ev (fun n=>if c then g n else f n) r:=by
  by_cases hc:c
  · simp only [if_pos hc];exact h hc
  · simp only [if_neg hc];exact k hc
theorem Ev.pos_ {α:Type} {c:Prop} [Decidable c] {g f:Nat→Option α} {r:α} (hc:c) (h:Ev g r):Ev (fun n=>if c then g n else f n) r:=by simp only [if_pos hc];exact h
theorem Ev.neg_ {α:Type} {c:Prop} [Decidable c] {g f:Nat→Option α} {r:α} (hc:¬c) (h:Ev f r):Ev (fun n=>if c then g n else f n) r:=by simp only [if_neg hc];exact h
theorem Ev.some_ {α β:Type} {f:Nat→α→Option β} {x:α} {r:β} (h:Ev (fun n=>f n x) r):Ev (fun n=>(some x).bind (f n)) r:=by simpa only [Option.bind_some] using h
theorem bo_and (b c:Bool):(if b=true then some c else some false)=some (b && c):=by cases b<;>rfl
theorem bo_andP (p:Prop) [Decidable p] (c:Bool):(if p then some c else some false)=some (decide p && c):=by by_cases h:p<;>simp [h]
theorem bo_orP (p:Prop) [Decidable p] (c:Bool):(if p then some true else some c)=some (decide p || c):=by by_cases h:p<;>simp [h]
theorem bo_or (b c:Bool):(if b=true then some true else some c)=some (b || c):=by cases b<;>rfl
def inB (a lo hi:Int):Bool:=decide (lo≤a) && decide (a≤hi)
theorem inB_iff {a lo hi:Int}:inB a lo hi=true↔lo≤a∧a≤hi:=by simp [inB]
-- part listM: loops over lists by their index
def mkL {α:Type} (enc:Int→α) (c:Int):Nat→Int→List α
  |0,_=>[]
  |d + 1,m=>enc m :: mkL enc c d (m + c)
theorem mkL_len {α:Type} (enc:Int→α) (c:Int):∀ (d:Nat) (m:Int),(mkL enc c d m).length=d:=by
  intro d;induction d with
  |zero=>intro m;rfl
  |succ d ih=>intro m;simp [mkL,ih]
theorem mark_gen {α:Type} (L:Nat→List α→Int→Int→Option (Int × List α)) (enc:Int→α) (c B:Int) (hc:0≤c)
    (hstep:∀ (xs:List α) (m:Int) (i:Nat) (r:Int × List α),0 < m→m + c≤B→i < xs.length→xs.length≤140737488351232→Ev (fun k=>L k (xs.set i (enc m)) (m + c) ((i + 1:Nat):Int)) r→Ev (fun k=>L k xs m (i:Int)) r)
    (hend:∀ (xs:List α) (m:Int),Ev (fun k=>L k xs m (xs.length:Int)) (m,xs)) :
    ∀ (d:Nat) (xs:List α) (m:Int) (i:Nat),i + d=xs.length→0 < m→m + c * d≤B→xs.length≤140737488351232→Ev (fun k=>L k xs m (i:Int)) (m + c * d,xs.take i ++ mkL enc c d m):=by
  intro d
  induction d with
  | zero =>
    intro xs m i hi hm hB hl
    have:=hend xs m
    obtain rfl:i=xs.length:=by omega
    simpa [mkL] using this
  | succ d ih =>
    intro xs m i hi hm hB hl
    have hcd:c * ((d + 1:Nat):Int)=c * d + c:=by rw [Int.natCast_add,Int.mul_add];simp
    have hcd0:0≤c * (d:Int):=Int.mul_nonneg hc (by omega)
    refine hstep xs m i _ hm (by omega) (by omega) hl ?_
    have:=ih (xs.set i (enc m)) (m + c) (i + 1) (by simp;omega) (by omega) (by omega) (by simpa using hl)
    have e:(xs.set i (enc m)).take (i + 1) ++ mkL enc c d (m + c)=xs.take i ++ mkL enc c (d + 1) m:=by
      rw [List.take_set,List.take_succ_eq_append_getElem (by omega),List.set_append_right _ _ (by simp;omega)]
      simp [mkL,Nat.min_eq_left (show i≤xs.length by omega)]
    rw [e] at this
    rw [show m + c * ((d + 1:Nat):Int)=m + c + c * d by omega]
    exact this
theorem held_gen {α:Type} (H:Nat→List α→Int→Int→Option Int) (enc:Int→α) (c B:Int) (hc:0≤c)
    (hstep:∀ (xs:List α) (m:Int) (i:Nat) (r:Int),0 < m→m + c≤B→i < xs.length→xs.length≤140737488351232→xs[i]? = some (enc m)→Ev (fun k=>H k xs (m + c) ((i + 1:Nat):Int)) r→Ev (fun k=>H k xs m (i:Int)) r)
    (hend:∀ (xs:List α) (m:Int),Ev (fun k=>H k xs m (xs.length:Int)) m) :
    ∀ (d:Nat) (pre:List α) (m:Int),0 < m→m + c * d≤B→pre.length + d≤140737488351232→Ev (fun k=>H k (pre ++ mkL enc c d m) m (pre.length:Int)) (m + c * d):=by
  intro d
  induction d with
  | zero =>
    intro pre m hm hB hl
    have:=hend pre m
    simpa [mkL] using this
  | succ d ih =>
    intro pre m hm hB hl
    have hcd:c * ((d + 1:Nat):Int)=c * d + c:=by rw [Int.natCast_add,Int.mul_add];simp
    have hcd0:0≤c * (d:Int):=Int.mul_nonneg hc (by omega)
    refine hstep _ m pre.length _ hm (by omega) (by simp [mkL]) (by simp [mkL_len];omega) (by simp [mkL]) ?_
    have:=ih (pre ++ [enc m]) (m + c) (by omega) (by omega) (by simp;omega)
    rw [show m + c * ((d + 1:Nat):Int)=m + c + c * d by omega]
    simpa [mkL] using this
theorem to_gen {α β:Type} (L:Nat→List α→List β→Int→Option (List β)) (f:α→β) (z:β) (za:α)
    (hstep:∀ (xs:List α) (ys:List β) (i:Nat) (r:List β),i < xs.length→i < ys.length→xs.length≤140737488351232→Ev (fun k=>L k xs (ys.set i (f (xs.getD i za))) ((i + 1:Nat):Int)) r→Ev (fun k=>L k xs ys (i:Int)) r)
    (hend:∀ (xs:List α) (ys:List β),Ev (fun k=>L k xs ys (xs.length:Int)) ys) :
    ∀ (d:Nat) (xs:List α) (i:Nat),i + d=xs.length→xs.length≤140737488351232→Ev (fun k=>L k xs ((xs.take i).map f ++ List.replicate d z) (i:Int)) (xs.map f):=by
  intro d
  induction d with
  | zero =>
    intro xs i hi hl
    obtain rfl:i=xs.length:=by omega
    have:=hend xs (xs.map f)
    simpa using this
  | succ d ih =>
    intro xs i hi hl
    refine hstep xs _ i _ (by omega) (by simp;omega) hl ?_
    have:=ih xs (i + 1) (by omega) hl
    have e:((xs.take i).map f ++ List.replicate (d + 1) z).set i (f (xs.getD i za))=(xs.take (i + 1)).map f ++ List.replicate d z:=by
      have h0:i - ((xs.take i).map f).length=0:=by simp;omega
      rw [List.take_succ_eq_append_getElem (show i < xs.length by omega),List.map_append,List.set_append_right _ _ (by simp;omega),List.append_assoc,h0]
      congr 1
      simp [List.replicate_succ,List.getD_eq_getElem?_getD,List.getElem?_eq_getElem (show i < xs.length by omega)]
    rw [e]
    exact this
theorem eq_gen {α:Type} (E:Nat→List α→List α→Int→Option Bool)
    (hstep:∀ (xs:List α) (i:Nat),i < xs.length→xs.length≤140737488351232→Ev (fun k=>E k xs xs ((i + 1:Nat):Int)) true→Ev (fun k=>E k xs xs (i:Int)) true)
    (hend:∀ (xs:List α),Ev (fun k=>E k xs xs (xs.length:Int)) true) :
    ∀ (d:Nat) (xs:List α) (i:Nat),i + d=xs.length→xs.length≤140737488351232→Ev (fun k=>E k xs xs (i:Int)) true:=by
  intro d
  induction d with
  | zero => intro xs i hi hl; obtain rfl : i = xs.length := by omega
            exact hend xs
  |succ d ih=>intro xs i hi hl;exact hstep xs i (by omega) hl (ih xs (i + 1) (by omega) hl)
theorem sz_gen {α:Type} (Z:Nat→List α→Int→Int→Option Int)
    (hstep:∀ (xs:List α) (m:Int) (i:Nat),i < xs.length→xs.length≤140737488351232→(∀ m',∃ r,Ev (fun k=>Z k xs m' ((i + 1:Nat):Int)) r) → ∃ r,Ev (fun k=>Z k xs m (i:Int)) r)
    (hend:∀ (xs:List α) (m:Int),∃ r,Ev (fun k=>Z k xs m (xs.length:Int)) r) :
    ∀ (d:Nat) (xs:List α) (m:Int) (i:Nat),i + d=xs.length→xs.length≤140737488351232 → ∃ r,Ev (fun k=>Z k xs m (i:Int)) r:=by
  intro d
  induction d with
  | zero => intro xs m i hi hl; obtain rfl : i = xs.length := by omega
            exact hend xs m
  |succ d ih=>intro xs m i hi hl;exact hstep xs m i (by omega) hl (fun m'=>ih xs m' (i + 1) (by omega) hl)
theorem wi {i n:Nat} (h:i < n) (hn:n≤140737488351232):wrap64 ((i:Int) + 1)=((i + 1:Nat):Int):=by rw [w64 (by omega) (by omega)];omega
theorem rd_nat (xs:List Int) (i:Nat):rd xs (i:Int)=xs.getD i 0:=by unfold rd;rw [Int.toNat_natCast]
theorem rdOf_nat {α:Type} (d:α) (xs:List α) (i:Nat):rdOf d xs (i:Int)=xs.getD i d:=by unfold rdOf;rw [Int.toNat_natCast]
theorem getD_of {α:Type} {xs:List α} {i:Nat} {a:α} (d:α) (h:xs[i]? = some a):xs.getD i d=a:=by rw [List.getD_eq_getElem?_getD,h];rfl
-- part eqIntS needs laws_eqIntS.f
theorem eqIntS_refl (l:List Int) (hl:l.length≤140737488351232):Ev (fun k=>laws_eqIntS.f k l l) true:=by
  unfold laws_eqIntS.f
  refine Ev.pos_ rfl (eq_gen laws_eqIntS.l0 (fun xs i hi hn h=>Ev.step (fun k=>?_) h) (fun xs=>Ev.step (f:=fun _=>some true) (fun k=>?_) (Ev.now _)) l.length l 0 (by omega) hl)
  · simp only [laws_eqIntS.l0];rw [if_pos (by omega),if_pos (by omega),if_pos (by omega),if_pos trivial,wi hi hn]
  · simp only [laws_eqIntS.l0];rw [if_neg (by omega)]
-- part markIntS needs laws_markIntS.f
theorem markIntS_gen (l:List Int) (m:Int) (hm:0 < m) (hB:m + l.length≤4611686018427387904) (hl:l.length≤140737488351232):Ev (fun k=>laws_markIntS.f k l m) (m + 1 * l.length,mkL (fun m=>m) 1 l.length m):=by
  have:=mark_gen laws_markIntS.l0 (fun m=>m) 1 4611686018427387904 (by omega) (fun xs m i r hm hB hi hn h=>Ev.step (fun k=>?_) h) (fun xs m=>Ev.step (f:=fun _=>some (m,xs)) (fun k=>?_) (Ev.now _)) l.length l m 0 (by omega) hm (by omega) hl
  · unfold laws_markIntS.f;simpa using this
  · simp only [laws_markIntS.l0];rw [if_pos (by omega),if_pos (by omega),wi hi hn,Int.toNat_natCast,w64 (by omega) (by omega)]
  · simp only [laws_markIntS.l0];rw [if_neg (by omega)]
-- part specIn needs spec_l1In.f
theorem spec_in (a lo hi:Int):spec_l1In.f a lo hi=some (inB a lo hi):=by
  unfold spec_l1In.f inB;rw [bo_andP]
-- part implIn needs impl_in.f
theorem impl_in_ (a lo hi:Int):impl_in.f a lo hi=some (inB a lo hi):=by
  unfold impl_in.f inB;rw [bo_andP]
-- part goodItem
def keyB (k:ByteArray):Bool:=inB (k.size:Int) 1 16
def seqB (q:Int):Bool:=inB q 0 1000000000
def goodItemB (k:ByteArray) (q d:Int) (v:ByteArray):Bool:=keyB k && (seqB q && (inB d 0 1 && (decide ((v.size:Int)≤40) && (decide (d=1) || (v.toList == ([]:List UInt8))))))
-- part specGoodItem needs spec_GoodItem.f
theorem spec_goodItem (k:ByteArray) (q d:Int) (v:ByteArray):spec_GoodItem.f k q d v=some (goodItemB k q d v):=by
  unfold spec_GoodItem.f spec_l4Key.f spec_l4Seq.f goodItemB keyB seqB
  simp only [spec_in,Option.bind_some,bo_andP,bo_orP,Bool.decide_eq_true]
-- part implGoodItem needs impl_GoodItem.f
theorem impl_goodItem (k:ByteArray) (q d:Int) (v:ByteArray):impl_GoodItem.f k q d v=some (goodItemB k q d v):=by
  unfold impl_GoodItem.f impl_isKey.f impl_isSeq.f impl_isValue.f goodItemB keyB seqB
  simp only [impl_in_,Option.bind_some,bo_andP,bo_orP,Bool.decide_eq_true]
-- part sumM: the table of sums and the sum of a text
def crcStep (n:Int):Int:=if Go.bits .and .u32 n 1=1 then Go.bits .xor .u32 (n / 2) 2197175160 else n / 2
def crcIt:Nat→Int→Int
  |0,n=>n
  |d + 1,n=>crcIt d (crcStep n)
def crcE (i:Nat):Int:=crcIt 8 (i:Int)
def crcT:List Int:=(List.range 256).map crcE
theorem crcT_len:crcT.length=256:=by simp [crcT]
theorem xor_comm_ (k:IntKind) (x y:Int):Go.bits .xor k x y=Go.bits .xor k y x:=by simp only [Go.bits,BitVec.xor_comm]
theorem bits_u8 (op:BinOp) (x y:Int):0≤Go.bits op .u8 x y∧Go.bits op .u8 x y < 256:=by
  unfold Go.bits;rw [IntKind.wrap_u8];exact ⟨Int.emod_nonneg _ (by decide),Int.emod_lt_of_pos _ (by decide)⟩
theorem bits_u32 (op:BinOp) (x y:Int):0≤Go.bits op .u32 x y∧Go.bits op .u32 x y < 4294967296:=by
  unfold Go.bits;rw [IntKind.wrap_u32];exact ⟨Int.emod_nonneg _ (by decide),Int.emod_lt_of_pos _ (by decide)⟩
def sumR (s:ByteArray):Nat→Nat→Int→Int
  |0,_,x=>x
  |d + 1,i,x=>sumR s d (i + 1) (Go.bits .xor .u32 (x / 256) (rd crcT (Go.bits .xor .u8 (x % 256) (bt s i))))
def sumOnV (x:Int) (s:ByteArray):Int:=sumR s s.size 0 x
def sumV (s:ByteArray):Int:=Go.bits .xor .u32 4294967295 (sumOnV 4294967295 s)
theorem sumV_range (s:ByteArray):0≤sumV s∧sumV s < 4294967296:=bits_u32 _ _ _
-- part specTable needs spec_l2Table.f
theorem spec_table_in (d:Nat):∀ (T:List Int) (i x j y z:Int) (r:List Int),0≤j→j + d=8→0≤i→i < T.length →
    Ev (fun k=>spec_l2Table.l0 k (T.set i.toNat (crcIt d x)) y (wrap64 (z + 1))) r→Ev (fun k=>spec_l2Table.l1 k T i x j y z) r:=by
  induction d with
  | zero =>
    intro T i x j y z r h0 hd hi hi' h
    refine Ev.step (fun k=>?_) h
    simp only [spec_l2Table.l1]
    rw [if_neg (by omega),if_pos hi,if_pos hi'];rfl
  | succ d ih =>
    intro T i x j y z r h0 hd hi hi' h
    refine Ev.step (fun k=>?_) (ih T i (crcStep x) (j + 1) y z r (by omega) (by omega) hi hi' h)
    simp only [spec_l2Table.l1]
    rw [if_pos (by omega),w64 (by omega) (by omega)]
    unfold crcStep
    split<;>rfl
theorem spec_table_l (d:Nat):∀ (i:Nat),i + d=256→Ev (fun k=>spec_l2Table.l0 k ((List.range i).map crcE ++ List.replicate d 0) 256 i) crcT:=by
  induction d with
  | zero =>
    intro i hi
    obtain rfl:i=256:=by omega
    refine Ev.step (f:=fun _=>some crcT) (fun k=>?_) (Ev.now _)
    simp only [spec_l2Table.l0];rw [if_neg (by omega)];simp [crcT]
  | succ d ih =>
    intro i hi
    have e:((List.range i).map crcE ++ List.replicate (d + 1) 0).set (i:Int).toNat (crcE i)=(List.range (i + 1)).map crcE ++ List.replicate d 0:=by
      rw [Int.toNat_natCast,List.range_succ,List.map_append,List.set_append_right _ _ (by simp)]
      simp [List.replicate_succ]
    refine Ev.step (f:=fun k=>spec_l2Table.l1 k ((List.range i).map crcE ++ List.replicate (d + 1) 0) i i 0 256 i) (fun k=>?_) ?_
    · simp only [spec_l2Table.l0];rw [if_pos (by omega),Int.emod_eq_of_lt (by omega) (by omega)]
    · refine spec_table_in 8 _ _ _ _ _ _ _ (by omega) rfl (by omega) (by simp; omega) ?_
      have:=ih (i + 1) (by omega)
      rw [show crcIt 8 (i:Int)=crcE i from rfl,e,w64 (by omega) (by omega)]
      exact this
theorem spec_table:Ev (fun k=>spec_l2Table.f k) crcT:=by
  unfold spec_l2Table.f
  refine Ev.pos_ (by decide) ?_
  show Ev (fun k=>spec_l2Table.l0 k (List.replicate 256 0) ((List.replicate 256 (0:Int)).length:Int) 0) crcT
  rw [List.length_replicate]
  exact spec_table_l 256 0 rfl
-- part implTable needs impl_SumTable.f
theorem impl_table_in (d:Nat):∀ (T:List Int) (x z j:Int) (r:List Int),0≤j→j + d=8→T.length < 35184372088832 →
    Ev (fun k=>impl_SumTable.l0 k (T ++ [crcIt d x]) ((z + 1) % 4294967296)) r→Ev (fun k=>impl_SumTable.l1 k T x z j) r:=by
  induction d with
  | zero =>
    intro T x z j r h0 hd hi h
    refine Ev.step (fun k=>?_) h
    simp only [impl_SumTable.l1]
    rw [if_neg (by omega),if_pos hi];rfl
  | succ d ih =>
    intro T x z j r h0 hd hi h
    refine Ev.step (fun k=>?_) (ih T (crcStep x) z (j + 1) r (by omega) (by omega) hi h)
    simp only [impl_SumTable.l1]
    rw [if_pos (by omega),w64 (by omega) (by omega)]
    unfold crcStep
    split<;>rfl
theorem impl_table_l (d:Nat):∀ (i:Nat),i + d=256→Ev (fun k=>impl_SumTable.l0 k ((List.range i).map crcE) i) crcT:=by
  induction d with
  | zero =>
    intro i hi
    obtain rfl:i=256:=by omega
    refine Ev.step (f:=fun _=>some crcT) (fun k=>?_) (Ev.now _)
    simp only [impl_SumTable.l0];rw [if_neg (by omega)];rfl
  | succ d ih =>
    intro i hi
    refine Ev.step (f:=fun k=>impl_SumTable.l1 k ((List.range i).map crcE) i i 0) (fun k=>?_) ?_
    · simp only [impl_SumTable.l0];rw [if_pos (by omega)]
    · refine impl_table_in 8 _ _ _ _ _ (by omega) rfl (by simp; omega) ?_
      have:=ih (i + 1) (by omega)
      rw [Int.emod_eq_of_lt (by omega) (by omega)]
      rw [List.range_succ,List.map_append] at this
      exact this
theorem impl_table:Ev (fun k=>impl_SumTable.f k) crcT:=impl_table_l 256 0 rfl
-- part specOn needs spec_l2On.f
theorem spec_on_l (s:ByteArray) (hs:s.size≤140737488351232) (d:Nat):∀ (i:Nat) (x:Int),i + d=s.size→Ev (fun k=>spec_l2On.l0 k crcT x s i) (sumR s d i x):=by
  induction d with
  | zero =>
    intro i x hi
    refine Ev.step (f:=fun _=>some x) (fun k=>?_) (Ev.now _)
    simp only [spec_l2On.l0];rw [if_neg (by omega)]
  | succ d ih =>
    intro i x hi
    have hr:=bits_u8 .xor (x % 256) (bt s i)
    refine Ev.step (fun k=>?_) (ih (i + 1) _ (by omega))
    simp only [spec_l2On.l0]
    rw [if_pos (by omega),if_pos (by omega),if_pos hr.1,if_pos (by rw [crcT_len];exact hr.2),xor_comm_ .u32,w64 (by omega) (by omega)];rfl
theorem spec_on (x:Int) (s:ByteArray) (hs:s.size≤140737488351232):Ev (fun k=>spec_l2On.f k crcT x s) (sumOnV x s):=spec_on_l s hs _ 0 x (by omega)
-- part implOn needs impl_SumOn.f
theorem impl_on_l (s:ByteArray) (hs:s.size≤140737488351232) (d:Nat):∀ (i:Nat) (x:Int),i + d=s.size→Ev (fun k=>impl_SumOn.l0 k x s crcT (s.size:Int) i) (sumR s d i x):=by
  induction d with
  | zero =>
    intro i x hi
    refine Ev.step (f:=fun _=>some x) (fun k=>?_) (Ev.now _)
    simp only [impl_SumOn.l0];rw [if_neg (by omega)]
  | succ d ih =>
    intro i x hi
    have hr:=bits_u8 .xor (x % 256) (bt s i)
    refine Ev.step (fun k=>?_) (ih (i + 1) _ (by omega))
    simp only [impl_SumOn.l0]
    rw [if_pos (by omega),if_pos (by omega),if_pos (by omega),if_pos hr.1,if_pos (by rw [crcT_len];exact hr.2),w64 (by omega) (by omega)];rfl
theorem impl_on (x:Int) (s:ByteArray) (hs:s.size≤140737488351232):Ev (fun k=>impl_SumOn.f k x s) (sumOnV x s) :=
  Ev.bind impl_table (impl_on_l s hs _ 0 x (by omega))
-- part implSum needs impl_SumOf.f
theorem impl_sum (s:ByteArray) (hs:s.size≤140737488351232):Ev (fun k=>impl_SumOf.f k s) (sumV s) :=
  Ev.bind (impl_on 4294967295 s hs) (Ev.now _)
-- part cmpM: items by their order
def cmpV (k1:ByteArray) (q1:Int) (k2:ByteArray) (q2:Int):Int :=
  if Op.bytesLess k1.toList k2.toList=true then -1 else if k1.toList=k2.toList then (if q1 > q2 then -1 else if q1=q2 then 0 else 1) else 1
theorem less_irrefl (a:List UInt8):Op.bytesLess a a=false:=by
  have:=Go.Proofs.YtffjlpphcjfdgaaDoorX.less_of a a
  cases h:Op.bytesLess a a<;>simp_all
theorem less_eq {a b:List UInt8} (h1:¬ Op.bytesLess a b=true) (h2:¬ Op.bytesLess b a=true):a=b:=by
  have:=Go.Proofs.YtffjlpphcjfdgaaDoorX.less_of a b
  cases h3:Op.bytesLess a b<;>simp_all
-- part specCmpJ needs spec_l4Compare.j1
theorem spec_cmp (k1:ByteArray) (q1 d1:Int) (v1 k2:ByteArray) (q2 d2:Int) (v2:ByteArray):Ev (fun k=>spec_l4Compare.f k k1 q1 d1 v1 k2 q2 d2 v2) (cmpV k1 q1 k2 q2):=by
  unfold spec_l4Compare.f cmpV
  by_cases h1:Op.bytesLess k1.toList k2.toList=true
  · rw [if_pos h1]
    exact Ev.pos_ h1 (Ev.step (fun k=>by rw [spec_l4Compare.j0]) (Ev.pos_ rfl (Ev.now _)))
  · rw [if_neg h1]
    refine Ev.neg_ h1 ?_
    by_cases h2:k1.toList=k2.toList
    · rw [if_pos h2]
      refine Ev.pos_ h2 (Ev.step (fun k=>by rw [spec_l4Compare.j0]) ?_)
      by_cases h3:q1 > q2
      · rw [if_pos h3];exact Ev.pos_ (by simpa using h3) (Ev.now _)
      · rw [if_neg h3]
        refine Ev.neg_ (by simpa using h3) (Ev.pos_ h2 ?_)
        refine Ev.step (fun k=>by rw [spec_l4Compare.j1]) ?_
        by_cases h4:q1=q2
        · rw [if_pos h4];exact Ev.pos_ (by simpa using h4) (Ev.now _)
        · rw [if_neg h4];exact Ev.neg_ (by simpa using h4) (Ev.now _)
    · rw [if_neg h2]
      exact Ev.neg_ h2 (Ev.step (fun k=>by rw [spec_l4Compare.j0]) (Ev.neg_ (by simp) (Ev.neg_ h2 (Ev.step (fun k=>by rw [spec_l4Compare.j1]) (Ev.neg_ (by simp) (Ev.now _))))))
-- part implCmp needs impl_itemOrder.f
theorem or_two (a b:Int):Ev (fun k=>cmp_Or_int.f k [a,b]) (if a=0 then b else a):=by
  unfold cmp_Or_int.f
  refine Ev.step (fun k=>by rw [cmp_Or_int.l0]) ?_
  refine Ev.pos_ (by simp) (Ev.pos_ (by omega) (Ev.pos_ (by simp) ?_))
  have e0:rd [a,b] 0=a:=rfl
  have e1:rd [a,b] 1=b:=rfl
  have ew:wrap64 (0 + 1)=1:=by rw [w64 (by omega) (by omega)];rfl
  rw [e0,ew]
  by_cases h:a=0
  · rw [if_pos h]
    refine Ev.pos_ h ?_
    refine Ev.step (fun k=>by rw [cmp_Or_int.l0]) ?_
    refine Ev.pos_ (by simp) (Ev.pos_ (by omega) (Ev.pos_ (by simp) ?_))
    rw [e1]
    by_cases h':b=0
    · refine Ev.pos_ h' ?_
      have ew2:wrap64 (1 + 1)=2:=by rw [w64 (by omega) (by omega)];rfl
      rw [ew2]
      subst h'
      exact Ev.step (fun k=>by rw [cmp_Or_int.l0]) (Ev.neg_ (by simp) (Ev.now _))
    · exact Ev.neg_ h' (Ev.now _)
  · rw [if_neg h];exact Ev.neg_ h (Ev.now _)
theorem impl_cmp (k1:ByteArray) (q1 d1:Int) (v1 k2:ByteArray) (q2 d2:Int) (v2:ByteArray):Ev (fun k=>impl_itemOrder.f k k1 q1 d1 v1 k2 q2 d2 v2) (cmpV k1 q1 k2 q2):=by
  unfold impl_itemOrder.f
  have e1:cmp_Compare_string.f k1 k2=some (if Op.bytesLess k1.toList k2.toList=true then -1 else if k1.toList=k2.toList then 0 else 1):=by
    unfold cmp_Compare_string.f cmp_isNaN_string.f
    simp only [Option.bind_some]
    by_cases h1:Op.bytesLess k1.toList k2.toList=true
    · simp [h1]
    · by_cases h2 : Op.bytesLess k2.toList k1.toList = true
      · have h3 : ¬ k1.toList = k2.toList := fun e => by rw [e, less_irrefl] at h2; cases h2
        simp [h1,h2,h3]
      · have h3 := less_eq h1 h2
        simp [h1,h2,h3,less_irrefl]
  have e2:cmp_Compare_int.f q2 q1=some (if q1 > q2 then -1 else if q1=q2 then 0 else 1):=by
    unfold cmp_Compare_int.f cmp_isNaN_int.f
    simp only [Option.bind_some,bne_self_eq_false]
    by_cases h1:q2 < q1
    · simp [h1]
    · by_cases h2 : q2 > q1
      · have : ¬ q1 = q2 := by omega
        simp [h1,h2,this]
      · obtain rfl : q1 = q2 := by omega
        simp
  simp only [e1,e2,Option.bind_some]
  refine Ev.bind (or_two _ _) ?_
  have:(if (if Op.bytesLess k1.toList k2.toList=true then (-1:Int) else if k1.toList=k2.toList then 0 else 1)=0 then (if q1 > q2 then (-1:Int) else if q1=q2 then 0 else 1) else (if Op.bytesLess k1.toList k2.toList=true then -1 else if k1.toList=k2.toList then 0 else 1))=cmpV k1 q1 k2 q2:=by
    unfold cmpV
    by_cases h1:Op.bytesLess k1.toList k2.toList=true
    · simp [h1]
    · by_cases h3 : k1.toList = k2.toList
      · simp [h3,less_irrefl]
      · simp [h1,h3]
  rw [this]
  exact Ev.now _
-- part markText needs laws_markText.f
def markR:Nat→Int→ByteArray→ByteArray
  |0,_,acc=>(⟨#[109]⟩:ByteArray) ++ acc
  |d + 1,x,acc=>if x > 0 then markR d (x / 10) (strOfNums [(48 + x % 10) % 256] ++ acc) else (⟨#[109]⟩:ByteArray) ++ acc
def markT (m:Int):ByteArray:=markR 19 m ⟨#[]⟩
theorem markText_l:∀ (d:Nat) (x:Int) (acc:ByteArray),0≤x→x < 10 ^ d→x≤9223372036854775807→acc.size + d≤100→Ev (fun k=>laws_markText.l0 k x acc) (markR d x acc):=by
  intro d
  induction d with
  | zero =>
    intro x acc h0 h1 hx hs
    have hp:(10:Int) ^ 0=1:=rfl
    refine Ev.step (fun k=>by rw [laws_markText.l0]) ?_
    exact Ev.neg_ (by omega) (Ev.pos_ (by omega) (Ev.now _))
  | succ d ih =>
    intro x acc h0 h1 hx hs
    unfold markR
    refine Ev.step (fun k=>by rw [laws_markText.l0]) ?_
    by_cases hp:x > 0
    · rw [if_pos hp]
      refine Ev.pos_ hp ?_
      simp only [Option.bind_some]
      have e1:wrap64 (48 + Int.tmod x 10) % 256=(48 + x % 10) % 256:=by rw [Int.tmod_eq_emod_of_nonneg h0,w64 (by omega) (by omega)]
      have e2:wrap64 (Int.tdiv x 10)=x / 10:=by rw [Int.tdiv_eq_ediv_of_nonneg h0,w64 (by omega) (by omega)]
      have hz:(strOfNums [(48 + x % 10) % 256]).size=1:=by rw [strOfNums_size];rfl
      rw [e1,e2]
      refine Ev.pos_ (by omega) (ih _ _ (by omega) (by rw [Int.pow_succ] at h1;omega) (by omega) ?_)
      rw [ByteArray.size_append,hz];omega
    · rw [if_neg hp]
      exact Ev.neg_ hp (Ev.pos_ (by omega) (Ev.now _))
theorem markText_ {m:Int} (h0:0 < m) (h1:m≤4611686018427387904):Ev (fun k=>laws_markText.f k m) (markT m):=by
  unfold laws_markText.f
  refine Ev.neg_ (by omega) (markText_l 19 m ⟨#[]⟩ (by omega) ?_ (by omega) (by decide))
  have:(10:Int) ^ 19=10000000000000000000:=rfl
  omega
-- part eqItemS needs laws_eqItemS.f
theorem eqItemS_refl (l:List S28) (hl:l.length≤140737488351232):Ev (fun k=>laws_eqItemS.f k l l) true:=by
  unfold laws_eqItemS.f
  refine Ev.pos_ rfl (eq_gen laws_eqItemS.l0 (fun xs i hi hn h=>Ev.step (fun k=>?_) h) (fun xs=>Ev.step (f:=fun _=>some true) (fun k=>?_) (Ev.now _)) l.length l 0 (by omega) hl)
  · have e : laws_eqItem.f (rd_T28 xs i).f0 (rd_T28 xs i).f1 (rd_T28 xs i).f2 (rd_T28 xs i).f3 (rd_T28 xs i).f0 (rd_T28 xs i).f1 (rd_T28 xs i).f2 (rd_T28 xs i).f3 = some true := by simp [laws_eqItem.f]
    simp only [laws_eqItemS.l0];rw [if_pos (by omega),if_pos (by omega),if_pos (by omega),e,wi hi hn];rfl
  · simp only [laws_eqItemS.l0];rw [if_neg (by omega)]
-- part runM: runs of items
def goodI (a:S28):Bool:=goodItemB a.f0 a.f1 a.f2 a.f3
def cmpI (a b:S28):Int:=cmpV a.f0 a.f1 b.f0 b.f1
def goodRunR (l:List S28):Nat→Nat→Bool
  |0,_=>true
  |d + 1,i=>if goodI (l.getD i z28)=true then (if i > 0 then (if cmpI (l.getD (i - 1) z28) (l.getD i z28) ≥ 0 then false else goodRunR l d (i + 1)) else goodRunR l d (i + 1)) else false
def goodRunV (l:List S28):Bool:=goodRunR l l.length 0
theorem rdI_nat (xs:List S28) (i:Nat):rd_T28 xs (i:Int)=xs.getD i z28:=by unfold rd_T28;rw [Int.toNat_natCast]
theorem goodRunR_good (l:List S28):∀ (d i:Nat),i + d=l.length→goodRunR l d i=true → ∀ j,i≤j→j < l.length→goodI (l.getD j z28)=true:=by
  intro d
  induction d with
  |zero=>intro i hi h j h1 h2;omega
  | succ d ih =>
    intro i hi h j h1 h2
    unfold goodRunR at h
    by_cases hg:goodI (l.getD i z28)=true
    · rw [if_pos hg] at h
      by_cases hj:j=i
      · subst hj;exact hg
      · refine ih (i + 1) (by omega) ?_ j (by omega) h2
        by_cases h0:i > 0
        · rw [if_pos h0] at h
          split at h
          · cases h
          · exact h
        · rw [if_neg h0] at h;exact h
    · rw [if_neg hg] at h;cases h
theorem goodRunV_good {l:List S28} (h:goodRunV l=true) (j:Nat) (hj:j < l.length):goodI (l.getD j z28)=true:=goodRunR_good l l.length 0 (by omega) h j (by omega) hj
theorem goodI_iff {a:S28} (h:goodI a=true):1≤a.f0.size∧a.f0.size≤16∧0≤a.f1∧a.f1≤1000000000∧0≤a.f2∧a.f2≤1∧a.f3.size≤40:=by
  unfold goodI goodItemB keyB seqB at h
  simp only [Bool.and_eq_true,inB_iff,decide_eq_true_eq] at h
  omega
-- part orderM: the order of items
theorem less_trans:∀ a b c:List UInt8,Op.bytesLess a b=true→Op.bytesLess b c=true→Op.bytesLess a c=true:=by
  intro a
  induction a with
  | nil =>
    intro b c h1 h2
    cases c with
    |nil=>cases b<;>simp [Op.bytesLess] at h2
    |cons z c=>rfl
  | cons x a ih =>
    intro b c h1 h2
    cases b with
    |nil=>simp [Op.bytesLess] at h1
    | cons y b =>
      cases c with
      |nil=>simp [Op.bytesLess] at h2
      | cons z c =>
        simp only [Op.bytesLess,Bool.or_eq_true,Bool.and_eq_true,decide_eq_true_eq,beq_iff_eq] at h1 h2 ⊢
        rcases h1 with h1 | ⟨rfl,h1⟩
        · rcases h2 with h2 | ⟨rfl, h2⟩
          · exact .inl (UInt8.lt_trans h1 h2)
          · exact .inl h1
        · rcases h2 with h2 | ⟨rfl, h2⟩
          · exact .inl h2
          · exact .inr ⟨rfl,ih b c h1 h2⟩
theorem cmpV_neg {k1 k2:ByteArray} {q1 q2:Int}:cmpV k1 q1 k2 q2 < 0↔Op.bytesLess k1.toList k2.toList=true∨(k1.toList=k2.toList∧q1 > q2):=by
  unfold cmpV
  by_cases h1:Op.bytesLess k1.toList k2.toList=true
  · rw [if_pos h1];exact ⟨fun _ => .inl h1,fun _=>by omega⟩
  · rw [if_neg h1]
    by_cases h2:k1.toList=k2.toList
    · rw [if_pos h2]
      by_cases h3:q1 > q2
      · rw [if_pos h3];exact ⟨fun _ => .inr ⟨h2,h3⟩,fun _=>by omega⟩
      · rw [if_neg h3]
        refine ⟨fun h=>?_,fun h=>?_⟩
        · by_cases h4 : q1 = q2
          · rw [if_pos h4] at h;omega
          · rw [if_neg h4] at h;omega
        · rcases h with h | ⟨_, h⟩
          · exact absurd h h1
          · exact absurd h h3
    · rw [if_neg h2]
      refine ⟨fun h=>by omega,fun h=>?_⟩
      rcases h with h | ⟨h,_⟩
      · exact absurd h h1
      · exact absurd h h2
theorem cmpV_trans {k1 k2 k3:ByteArray} {q1 q2 q3:Int} (h1:cmpV k1 q1 k2 q2 < 0) (h2:cmpV k2 q2 k3 q3 < 0):cmpV k1 q1 k3 q3 < 0:=by
  rw [cmpV_neg] at h1 h2 ⊢
  rcases h1 with h1 | ⟨e1,h1⟩
  · rcases h2 with h2 | ⟨e2, h2⟩
    · exact .inl (less_trans _ _ _ h1 h2)
    · rw [e2] at h1;exact .inl h1
  · rcases h2 with h2 | ⟨e2, h2⟩
    · rw [e1];exact .inl h2
    · exact .inr ⟨e1.trans e2,by omega⟩
-- part towerM needs strconv_Itoa.f
def towR:Nat→Int→Int→Int
  |0,_,n=>n
  |d + 1,h,n=>if Go.bits .and .u32 h 3=0 then towR d (h / 4) (n + 1) else n
def numT (n:Int):ByteArray:=⟨(Lib.itoa n).toArray⟩
def towV (s:ByteArray) (n:Int):Int:=towR 4 (sumV (s ++ numT n)) 1
theorem decDigits_len:∀ (n u:Nat),u < n→(Lib.decDigits u).length≤u + 1:=by
  intro n
  induction n with
  |zero=>intro u h;omega
  | succ n ih =>
    intro u h
    rw [Lib.decDigits]
    split
    · simp
    · have := ih (u / 10) (by omega)
      simp only [List.length_append,List.length_singleton]
      omega
theorem numT_dec (u:Nat):numT (u:Int)=⟨(Lib.decDigits u).toArray⟩:=by
  unfold numT Lib.itoa
  rw [if_neg (by omega),Int.toNat_natCast]
theorem numT_size {n:Int} (h0:0≤n):(numT n).size≤n.toNat + 1:=by
  obtain ⟨u,rfl⟩:=Int.eq_ofNat_of_zero_le h0
  have:=decDigits_len (u + 1) u (by omega)
  rw [numT_dec]
  show (Lib.decDigits u).toArray.size≤_
  simpa using this
theorem itoa_f {n:Int} (h0:0≤n) (h1:n≤1000000000):strconv_Itoa.f n=some (numT n):=by
  unfold strconv_Itoa.f
  rw [if_pos (by omega)];rfl
theorem towR_range:∀ (d:Nat) (h n:Int),n≤towR d h n∧towR d h n≤n + d:=by
  intro d
  induction d with
  |zero=>intro h n;unfold towR;omega
  | succ d ih =>
    intro h n
    unfold towR
    split
    · have:=ih (h / 4) (n + 1);omega
    · omega
theorem towV_range (s:ByteArray) (n:Int):1≤towV s n∧towV s n≤5:=by
  have:=towR_range 4 (sumV (s ++ numT n)) 1
  unfold towV;omega
-- part specNum needs spec_l1Num.f
theorem num_one {a:Nat} (ha:a < 10):strOfNums [wrap64 (48 + (a:Int)) % 256]=⟨#[UInt8.ofNat (48 + a)]⟩:=by
  rw [w64 (by omega) (by omega),Int.emod_eq_of_lt (by omega) (by omega)]
  unfold strOfNums
  have:(48 + (a:Int)).toNat=48 + a:=by omega
  simp [this]
theorem bytes_app (x y:List UInt8):(⟨x.toArray⟩:ByteArray) ++ ⟨y.toArray⟩=⟨(x ++ y).toArray⟩:=by
  apply ByteArray.ext
  simp
theorem spec_num:∀ (m u:Nat),u < m→m≤1000000001→Ev (fun k=>spec_l1Num.f k (u:Int)) (numT (u:Int)):=by
  intro m
  induction m with
  |zero=>intro u h _;omega
  | succ m ih =>
    intro u h hm
    refine Ev.step (fun k=>by rw [spec_l1Num.f]) ?_
    rw [numT_dec,Lib.decDigits]
    by_cases h10:u < 10
    · rw [dif_pos h10]
      refine Ev.pos_ (by omega) ?_
      rw [num_one h10]
      exact Ev.now _
    · rw [dif_neg h10]
      refine Ev.neg_ (by omega) ?_
      have e1:wrap64 (Int.tdiv (u:Int) 10)=((u / 10:Nat):Int):=by rw [Int.tdiv_eq_ediv_of_nonneg (by omega),w64 (by omega) (by omega)];omega
      have e2:(Int.tmod (u:Int) 10)=((u % 10:Nat):Int):=by rw [Int.tmod_eq_emod_of_nonneg (by omega)];omega
      rw [e1]
      refine Ev.bind (ih (u / 10) (by omega) (by omega)) ?_
      simp only [Option.bind_some]
      rw [e2,num_one (by omega),numT_dec]
      have hs:=numT_size (n:=((u / 10:Nat):Int)) (by omega)
      rw [numT_dec] at hs
      refine Ev.pos_ ?_ ?_
      · have : (⟨#[UInt8.ofNat (48 + u % 10)]⟩ : ByteArray).size = 1 := rfl
        omega
      · have e := bytes_app (Lib.decDigits (u / 10)) [UInt8.ofNat (48 + u % 10)]
        have e3:(⟨#[UInt8.ofNat (48 + u % 10)]⟩:ByteArray)=⟨[UInt8.ofNat (48 + u % 10)].toArray⟩:=rfl
        rw [e3,e]
        exact Ev.now _
theorem spec_num' {n:Int} (h0:0≤n) (h1:n≤1000000000):Ev (fun k=>spec_l1Num.f k n) (numT n):=by
  obtain ⟨u,rfl⟩:=Int.eq_ofNat_of_zero_le h0
  exact spec_num (u + 1) u (by omega) (by omega)
-- part specTowerJ needs spec_l4Tower.j1
theorem spec_tower_l:∀ (d:Nat) (h n:Int),0≤n→n + d=5→Ev (fun k=>spec_l4Tower.l0 k h n) (towR d h n):=by
  intro d
  induction d with
  | zero =>
    intro h n h0 hn
    refine Ev.step (fun k=>by rw [spec_l4Tower.l0]) ?_
    refine Ev.neg_ (by omega) (Ev.step (fun k=>by rw [spec_l4Tower.j1]) ?_)
    exact Ev.neg_ (by simp) (Ev.now _)
  | succ d ih =>
    intro h n h0 hn
    unfold towR
    refine Ev.step (fun k=>by rw [spec_l4Tower.l0]) (Ev.pos_ (by omega) (Ev.step (fun k=>by rw [spec_l4Tower.j1]) ?_))
    by_cases hc:Go.bits .and .u32 h 3=0
    · rw [if_pos hc]
      refine Ev.pos_ (by simpa using hc) ?_
      rw [w64 (by omega) (by omega)]
      exact ih _ _ (by omega) (by omega)
    · rw [if_neg hc]
      exact Ev.neg_ (by simpa using hc) (Ev.now _)
theorem spec_tower (s:ByteArray) {n:Int} (hs:s.size≤16) (h0:0≤n) (h1:n≤1000000000):Ev (fun k=>spec_l4Tower.f k crcT s n) (towV s n):=by
  unfold spec_l4Tower.f
  have hz:=numT_size h0
  refine Ev.bind (spec_num' h0 h1) (Ev.pos_ (by omega) (Ev.bind (spec_on _ _ (by rw [ByteArray.size_append];omega)) ?_))
  exact spec_tower_l 4 _ 1 (by omega) (by omega)
-- part implTowerJ needs impl_towerOf.j1
theorem impl_tower_l:∀ (d:Nat) (h n:Int),0≤n→n + d=5→Ev (fun k=>impl_towerOf.l0 k h n) (towR d h n):=by
  intro d
  induction d with
  | zero =>
    intro h n h0 hn
    unfold towR
    refine Ev.step (fun k=>by rw [impl_towerOf.l0]) ?_
    by_cases hc:Go.bits .and .u32 h 3=0
    · exact Ev.pos_ hc (Ev.step (fun k=>by rw [impl_towerOf.j1]) (Ev.neg_ (by simp;omega) (Ev.now _)))
    · exact Ev.neg_ hc (Ev.step (fun k=>by rw [impl_towerOf.j1]) (Ev.neg_ (by simp) (Ev.now _)))
  | succ d ih =>
    intro h n h0 hn
    unfold towR
    refine Ev.step (fun k=>by rw [impl_towerOf.l0]) ?_
    by_cases hc:Go.bits .and .u32 h 3=0
    · rw [if_pos hc]
      refine Ev.pos_ hc (Ev.step (fun k=>by rw [impl_towerOf.j1]) (Ev.pos_ (by simp;omega) ?_))
      rw [w64 (by omega) (by omega)]
      exact ih _ _ (by omega) (by omega)
    · rw [if_neg hc]
      exact Ev.neg_ hc (Ev.step (fun k=>by rw [impl_towerOf.j1]) (Ev.neg_ (by simp) (Ev.now _)))
theorem impl_tower (s:ByteArray) {n:Int} (hs:s.size≤16) (h0:0≤n) (h1:n≤1000000000):Ev (fun k=>impl_towerOf.f k s n) (towV s n):=by
  unfold impl_towerOf.f
  have hz:=numT_size h0
  rw [itoa_f h0 h1]
  refine Ev.some_ (Ev.pos_ (by omega) (Ev.bind (impl_sum _ (by rw [ByteArray.size_append];omega)) ?_))
  exact impl_tower_l 4 _ 1 (by omega) (by omega)
-- part skipM: lists with towers
theorem rdT_nat (xs:List S77) (i:Nat):rd_T77 xs (i:Int)=xs.getD i z77:=by unfold rd_T77;rw [Int.toNat_natCast]
def nxt (H:List Int) (T:List S77) (lv a:Int):Int:=if a < 0 then rd H lv else rd (rd_T77 T a).f1 lv
def ltT (T:List S77) (i j:Int):Prop:=cmpI (rd_T77 T i).f0 (rd_T77 T j).f0 < 0
def hghT (T:List S77) (lv j:Int):Prop:=0≤j∧j < (T.length:Int)∧lv < ((rd_T77 T j).f1.length:Int)
def okStep (T:List S77) (lv a j:Int):Prop:=hghT T lv j∧(0≤a→ltT T a j)
def Chain (H:List Int) (T:List S77) (lv:Int):Int→List Int→Prop
  |a,[]=>nxt H T lv a = -1
  |a,j :: L=>nxt H T lv a=j∧okStep T lv a j∧Chain H T lv j L
def cntHi (lv:Int) (T:List S77):Nat:=T.countP (fun t=>decide (lv < (t.f1.length:Int)))
def levelP (H:List Int) (T:List S77) (lv:Int):Prop := ∃ L,Chain H T lv (-1) L∧L.length=cntHi lv T
theorem ltT_trans {T:List S77} {a b c:Int} (h1:ltT T a b) (h2:ltT T b c):ltT T a c:=cmpV_trans h1 h2
theorem ltT_irrefl (T:List S77) (a:Int):¬ ltT T a a:=by
  unfold ltT cmpI
  rw [cmpV_neg,less_irrefl]
  intro h
  rcases h with h | ⟨_,h⟩
  · cases h
  · omega
theorem cntHi_drop (lv:Int) (T:List S77) (i:Nat) (hi:i < T.length):cntHi lv (T.drop i)=cntHi lv (T.drop (i + 1)) + (if lv < ((T.getD i z77).f1.length:Int) then 1 else 0):=by
  unfold cntHi
  rw [List.drop_eq_getElem_cons hi,List.countP_cons]
  simp [List.getD_eq_getElem?_getD,List.getElem?_eq_getElem hi]
theorem cntHi_take (lv:Int) (T:List S77) (i:Nat) (hi:i < T.length):cntHi lv (T.take (i + 1))=cntHi lv (T.take i) + (if lv < ((T.getD i z77).f1.length:Int) then 1 else 0):=by
  unfold cntHi
  rw [List.take_succ_eq_append_getElem hi,List.countP_append]
  simp [List.getD_eq_getElem?_getD,List.getElem?_eq_getElem hi,List.countP_cons]
theorem cntHi_le (lv:Int) (T:List S77):cntHi lv T≤T.length:=List.countP_le_length
/-- What was visited: from the last on, each behind the next in the list. -/
def Vis (T:List S77):Int→List Int→Prop
  |a,[]=>a = -1
  |a,v :: V=>a=v∧0≤v∧v < (T.length:Int)∧(v :: V).Pairwise (fun x y=>ltT T y x) ∧ ∀ y ∈ V,0≤y∧y < (T.length:Int)
theorem nodup_bound (n:Nat) (V:List Int) (hn:V.Nodup) (hb:∀ y ∈ V,0≤y∧y < (n:Int)):V.length≤n:=by
  have h:(V.map Int.toNat).Nodup:=by
    rw [List.nodup_iff_pairwise_ne] at hn ⊢
    rw [List.pairwise_map]
    exact hn.imp_of_mem (fun {x y} hx hy h=>by have:=hb x hx;have:=hb y hy;omega)
  have hs:V.map Int.toNat ⊆ List.range n:=by
    intro x hx
    obtain ⟨y,hy,rfl⟩:=List.mem_map.1 hx
    have:=hb y hy
    rw [List.mem_range];omega
  have:=h.length_le_of_subset hs
  simpa using this
theorem Vis.bound {T:List S77} {a:Int} {V:List Int} (h:Vis T a V):V.length≤T.length:=by
  cases V with
  |nil=>simp
  | cons v V =>
    obtain ⟨_,h0,h1,hp,hb⟩:=h
    refine nodup_bound _ _ ?_ ?_
    · rw [List.nodup_iff_pairwise_ne]
      exact hp.imp (fun {x y} hl he=>by subst he;exact ltT_irrefl _ _ hl)
    · intro y hy
      rcases List.mem_cons.1 hy with rfl|hy
      · exact ⟨h0,h1⟩
      · exact hb y hy
theorem Vis.push {T:List S77} {lv a j:Int} {V:List Int} (h:Vis T a V) (hs:okStep T lv a j):Vis T j (j :: V):=by
  obtain ⟨⟨h0,h1,_⟩,hl⟩:=hs
  cases V with
  |nil=>exact ⟨rfl,h0,h1,by simp,by simp⟩
  | cons v V =>
    obtain ⟨rfl,g0,g1,hp,hb⟩:=h
    refine ⟨rfl,h0,h1,List.pairwise_cons.2 ⟨fun y hy=>?_,hp⟩,fun y hy=>?_⟩
    · rcases List.mem_cons.1 hy with rfl | hy
      · exact hl g0
      · exact ltT_trans ((List.pairwise_cons.1 hp).1 y hy) (hl g0)
    · rcases List.mem_cons.1 hy with rfl | hy
      · exact ⟨g0,g1⟩
      · exact hb y hy
theorem Vis.room {T:List S77} {lv a j:Int} {V:List Int} (h:Vis T a V) (hs:okStep T lv a j):V.length + 1≤T.length:=by
  have:=(h.push hs).bound
  simpa using this
theorem Chain.fun {H:List Int} {T:List S77} {lv:Int}:∀ {a:Int} {L L':List Int},Chain H T lv a L→Chain H T lv a L'→L=L'
  |a,[],[],_,_=>rfl
  | a, [], j :: L', h, h' => by
    have h1:nxt H T lv a = -1:=h
    have h2:=h'.1
    have h3:=h'.2.1.1.1
    omega
  | a, j :: L, [], h, h' => by
    have h1:nxt H T lv a = -1:=h'
    have h2:=h.1
    have h3:=h.2.1.1.1
    omega
  | a, j :: L, j' :: L', h, h' => by
    obtain rfl:j=j':=h.1.symm.trans h'.1
    rw [Chain.fun h.2.2 h'.2.2]
theorem okStep_cmp {T:List S77} {lv a j:Int}:okStep T lv a j↔hghT T lv j∧(0≤a → ¬ cmpI (rd_T77 T a).f0 (rd_T77 T j).f0 ≥ 0):=by
  unfold okStep ltT
  constructor
  · rintro ⟨h1,h2⟩;exact ⟨h1,fun h=>by have:=h2 h;omega⟩
  · rintro ⟨h1,h2⟩;exact ⟨h1,fun h=>by have:=h2 h;omega⟩
def restP (H:List Int) (T:List S77) (lv a:Int) (m c:Nat):Prop := ∃ L,Chain H T lv a L∧m + L.length=c
theorem restP_end {H:List Int} {T:List S77} {lv a:Int} {m c:Nat} (h:nxt H T lv a = -1):restP H T lv a m c↔m=c:=by
  constructor
  · rintro ⟨L, hL, hc⟩
    have:=Chain.fun hL (show Chain H T lv a [] from h)
    subst this
    simpa using hc
  · intro hc;exact ⟨[],h,by simpa using hc⟩
theorem restP_step {H:List Int} {T:List S77} {lv a j:Int} {m c:Nat} (h:nxt H T lv a=j) (hs:okStep T lv a j):restP H T lv a m c↔restP H T lv j (m + 1) c:=by
  constructor
  · rintro ⟨L, hL, hc⟩
    cases L with
    | nil =>
      have h1:nxt H T lv a = -1:=hL
      have h2:=hs.1.1
      omega
    | cons j' L =>
      obtain rfl:j=j':=h.symm.trans hL.1
      exact ⟨L,hL.2.2,by simp at hc;omega⟩
  · rintro ⟨L, hL, hc⟩
    exact ⟨j :: L,⟨h,hs,hL⟩,by simp;omega⟩
theorem restP_bad {H:List Int} {T:List S77} {lv a j:Int} {m c:Nat} (h:nxt H T lv a=j) (hj:j ≠ -1) (hs:¬ okStep T lv a j):¬ restP H T lv a m c:=by
  rintro ⟨L,hL,hc⟩
  cases L with
  | nil =>
    have h1:nxt H T lv a = -1:=hL
    omega
  | cons j' L =>
    obtain rfl:j=j':=h.symm.trans hL.1
    exact hs hL.2.1
def towI (t:S77):Prop:=goodI t.f0=true∧(t.f1.length:Int)=towV t.f0.f0 t.f0.f1
def allTow (T:List S77):Prop := ∀ j:Nat,j < T.length→towI (T.getD j z77)
def goodSkipP (H:List Int) (T:List S77):Prop:=H.length=5∧T.length≤60∧allTow T ∧ ∀ lv:Nat,lv < 5→levelP H T lv
open Classical in
noncomputable def goodSkipV (H:List Int) (T:List S77):Bool:=decide (goodSkipP H T)
open Classical in
theorem goodSkipV_iff {H:List Int} {T:List S77}:goodSkipV H T=true↔goodSkipP H T:=by unfold goodSkipV;rw [decide_eq_true_eq]
-- part specSkip needs spec_GoodSkip.f spec_GoodSkip.j7
theorem spec_next {H:List Int} {T:List S77} {lv a:Int} (h0:0≤lv) (hH:lv < (H.length:Int)) (ha:a = -1∨hghT T lv a):spec_l4Next.f H T a lv=some (nxt H T lv a):=by
  unfold spec_l4Next.f nxt
  rcases ha with rfl | ⟨g0,g1,g2⟩
  · rw [if_pos (by omega),if_pos h0,if_pos hH,if_pos (by omega)]
  · rw [if_neg (by omega),if_pos g0,if_pos g1,if_pos h0,if_pos g2,if_neg (by omega)]
/-- All that the towers and the heads name is a tower's number or none. -/
def inT (T:List S77) (x:Int):Prop := -1≤x∧x≤(T.length:Int) - 1
def rangeT (T:List S77) (t:S77):Prop := ∀ j:Nat,j < t.f1.length→inT T (t.f1.getD j 0)
def apartT (T:List S77) (i:Nat):Prop := ∀ q:Nat,q < i→cmpI (T.getD q z77).f0 (T.getD i z77).f0 ≠ 0
def condT (T:List S77) (i:Nat):Prop:=towI (T.getD i z77)∧apartT T i∧rangeT T (T.getD i z77)
theorem nxt_in {H:List Int} {T:List S77} {lv a:Int} (h0:0≤lv) (hr:∀ j:Nat,j < T.length→rangeT T (T.getD j z77)) (hh:inT T (rd H lv)) (ha:a = -1∨hghT T lv a):inT T (nxt H T lv a):=by
  unfold nxt
  rcases ha with rfl | ⟨g0,g1,g2⟩
  · rw [if_pos (by omega)];exact hh
  · rw [if_neg (by omega)]
    obtain ⟨n,rfl⟩:=Int.eq_ofNat_of_zero_le g0
    obtain ⟨l,rfl⟩:=Int.eq_ofNat_of_zero_le h0
    rw [rdT_nat] at g2 ⊢
    rw [rd_nat]
    exact hr n (by omega) l (by omega)
open Classical in
theorem spec_skip_l4 (H:List Int) (T M:List Int) (TT:List S77) (n:Int) (lv:Nat) (rst:Bool) (hlv:lv < 5) (hH:H.length=5) (hl:TT.length≤140737488351232)
    (hr:∀ j:Nat,j < TT.length→rangeT TT (TT.getD j z77)) (hh:inT TT (rd H lv)) (hn:Ev (fun k=>spec_GoodSkip.l3 k M n (wrap64 ((lv:Int) + 1)) H TT) rst) :
    ∀ (m:Nat) (a:Int),m≤140737488351232→(a = -1∨hghT TT lv a)→Ev (fun k=>spec_GoodSkip.l4 k (lv:Int) (m:Int) a M n (lv:Int) H TT) (decide (restP H TT lv a 0 m) && rst):=by
  intro m
  induction m with
  | zero =>
    intro a _ ha
    refine Ev.step (fun k=>by rw [spec_GoodSkip.l4]) ?_
    refine Ev.neg_ (by omega) ?_
    rw [spec_next (by omega) (by omega) ha]
    refine Ev.some_ ?_
    by_cases h1:nxt H TT lv a = -1
    · rw [decide_eq_true ((restP_end h1).2 rfl), Bool.true_and]
      exact Ev.pos_ h1 hn
    · rw [decide_eq_false (fun g : restP H TT lv a 0 0 => ?_), Bool.false_and]
      · exact Ev.neg_ h1 (Ev.now _)
      · obtain ⟨L, hL, hc⟩ := g
        have:L=[]:=List.eq_nil_of_length_eq_zero (by omega)
        subst this
        exact h1 hL
  | succ m ih =>
    intro a hm ha
    refine Ev.step (fun k=>by rw [spec_GoodSkip.l4]) ?_
    refine Ev.pos_ (by omega) ?_
    rw [spec_next (by omega) (by omega) ha]
    refine Ev.some_ ?_
    have hin:=nxt_in (H:=H) (T:=TT) (lv:=lv) (by omega) hr hh ha
    have ht:Ev (fun k:Nat=>some false) (decide (restP H TT lv a 0 (m + 1)) && rst)∨okStep TT lv a (nxt H TT lv a):=by
      by_cases hs:okStep TT lv a (nxt H TT lv a)
      · exact .inr hs
      · left
        rw [decide_eq_false (fun g:restP H TT lv a 0 (m + 1)=>?_),Bool.false_and]
        · exact Ev.now _
        · obtain ⟨L, hL, hc⟩ := g
          cases L with
          |nil=>simp at hc
          | cons j L =>
            obtain rfl:nxt H TT lv a=j:=hL.1
            exact hs hL.2.1
    have hgo:∀ x:Bool,(x=true ↔ ¬ okStep TT lv a (nxt H TT lv a))→Ev (fun k=>spec_GoodSkip.j7 k (lv:Int) ((m + 1:Nat):Int) (nxt H TT lv a) M n (lv:Int) x H TT) (decide (restP H TT lv a 0 (m + 1)) && rst):=by
      intro x hx
      refine Ev.step (fun k=>by rw [spec_GoodSkip.j7]) ?_
      by_cases hs:okStep TT lv a (nxt H TT lv a)
      · have hx' : ¬ x = true := fun h => (hx.1 h) hs
        refine Ev.neg_ hx' ?_
        have:=ih (nxt H TT lv a) (by omega) (.inr hs.1)
        rw [w64 (by omega) (by omega),show ((m + 1:Nat):Int) - 1=(m:Int) by omega]
        have e:decide (restP H TT lv a 0 (m + 1))=decide (restP H TT lv (nxt H TT lv a) 0 m):=by
          rw [Bool.eq_iff_iff,decide_eq_true_eq,decide_eq_true_eq,restP_step rfl hs]
          unfold restP
          exact ⟨fun ⟨L,h1,h2⟩=>⟨L,h1,by omega⟩,fun ⟨L,h1,h2⟩=>⟨L,h1,by omega⟩⟩
        rw [e];exact this
      · refine Ev.pos_ (hx.2 hs) ?_
        rcases ht with ht|ht
        · exact ht
        · exact absurd ht hs
    by_cases h1:nxt H TT lv a < 0
    · refine Ev.pos_ h1 (hgo true ?_)
      simp only [true_iff]
      rintro ⟨⟨g,_⟩,_⟩;omega
    · refine Ev.neg_ h1 (Ev.pos_ (by omega) (Ev.pos_ (by unfold inT at hin; omega) ?_))
      by_cases h2:((rd_T77 TT (nxt H TT lv a)).f1.length:Int)≤lv
      · refine Ev.pos_ h2 (hgo true ?_)
        simp only [true_iff]
        rintro ⟨⟨_,_,g⟩,_⟩;omega
      · refine Ev.neg_ h2 ?_
        have hhi:hghT TT lv (nxt H TT lv a):=⟨by omega,by unfold inT at hin;omega,by omega⟩
        rcases ha with rfl|ha
        · refine Ev.neg_ (by omega) (hgo false ?_)
          simp only [Bool.false_eq_true,false_iff,Classical.not_not]
          exact ⟨hhi,fun h=>by omega⟩
        · refine Ev.pos_ ha.1 (Ev.pos_ ha.1 (Ev.pos_ ha.2.1 (Ev.bind (spec_cmp _ _ _ _ _ _ _ _) (hgo _ ?_))))
          rw [okStep_cmp,decide_eq_true_eq]
          constructor
          · intro h hs;exact hs.2 ha.1 h
          · intro h
            exact Classical.byContradiction fun hc=>h ⟨hhi,fun _=>hc⟩
theorem spec_range_in (T:List S77) (hl:T.length≤140737488351232) (x:Int):spec_l1In.f x (-1) (wrap64 ((T.length:Int) - 1))=some (inB x (-1) ((T.length:Int) - 1)):=by
  rw [spec_in,w64 (by omega) (by omega)]
theorem inB_inT (T:List S77) (x:Int):inB x (-1) ((T.length:Int) - 1)=true↔inT T x:=inB_iff
def manyL (f:Nat→Nat):List Int:=[(f 0:Int),f 1,f 2,f 3,f 4]
theorem manyL_len (f:Nat→Nat):(manyL f).length=5:=rfl
theorem rd_many (f:Nat→Nat) {j:Nat} (hj:j < 5):rd (manyL f) (j:Int)=f j:=by
  rw [rd_nat]
  match j,hj with
  |0,_=>rfl
  |1,_=>rfl
  |2,_=>rfl
  |3,_=>rfl
  |4,_=>rfl
theorem set_many (f:Nat→Nat) {j v:Nat} (hj:j < 5):(manyL f).set j (v:Int)=manyL (fun l=>if l=j then v else f l):=by
  match j,hj with
  |0,_=>rfl
  |1,_=>rfl
  |2,_=>rfl
  |3,_=>rfl
  |4,_=>rfl
theorem manyL_congr {f g:Nat→Nat} (h:∀ l,l < 5→f l=g l):manyL f=manyL g:=by
  unfold manyL;rw [h 0 (by omega),h 1 (by omega),h 2 (by omega),h 3 (by omega),h 4 (by omega)]
open Classical in
theorem spec_skip_l3 (H:List Int) (T:List S77) (hl:T.length≤140737488351232) (hH:H.length=5) (hr:∀ j:Nat,j < T.length→rangeT T (T.getD j z77)) :
    ∀ (d i:Nat),i + d=5→Ev (fun k=>spec_GoodSkip.l3 k (manyL fun l=>cntHi l T) ((manyL fun l=>cntHi l T).length:Int) (i:Int) H T) (decide (∀ lv:Nat,i≤lv→lv < 5→inT T (rd H lv)∧levelP H T lv)):=by
  intro d
  induction d with
  | zero =>
    intro i hi
    refine Ev.step (fun k=>by rw [spec_GoodSkip.l3]) ?_
    rw [zE (show ∀ lv:Nat,i≤lv→lv < 5→inT T (rd H lv)∧levelP H T lv from fun lv h1 h2=>by omega)]
    exact Ev.neg_ (by rw [manyL_len];omega) (Ev.now _)
  | succ d ih =>
    intro i hi
    refine Ev.step (fun k=>by rw [spec_GoodSkip.l3]) ?_
    refine Ev.pos_ (by rw [manyL_len];omega) (Ev.pos_ (by omega) (Ev.pos_ (by rw [manyL_len];omega) (Ev.pos_ (by omega) ?_)))
    rw [spec_range_in T hl]
    refine Ev.some_ ?_
    by_cases hh:inT T (rd H i)
    · refine Ev.pos_ ((inB_inT T _).2 hh) ?_
      rw [rd_many _ (show i < 5 by omega)]
      have hn:=ih (i + 1) (by omega)
      rw [← wi (show i < 5 by omega) (by omega)] at hn
      have:=spec_skip_l4 H [] (manyL fun l=>cntHi l T) T ((manyL fun l=>cntHi l T).length:Int) i _ (by omega) hH hl hr hh hn (cntHi i T) (-1) (by have:=cntHi_le i T;omega) (.inl rfl)
      have e:decide (∀ lv:Nat,i≤lv→lv < 5→inT T (rd H lv)∧levelP H T lv)=(decide (restP H T i (-1) 0 (cntHi i T)) && decide (∀ lv:Nat,i + 1≤lv→lv < 5→inT T (rd H lv)∧levelP H T lv)):=by
        rw [Bool.eq_iff_iff,Bool.and_eq_true,decide_eq_true_eq,decide_eq_true_eq,decide_eq_true_eq]
        constructor
        · intro g
          obtain ⟨L,g1,g2⟩:=(g i (Nat.le_refl _) (by omega)).2
          exact ⟨⟨L,g1,by omega⟩,fun lv h1 h2=>g lv (by omega) h2⟩
        · rintro ⟨⟨L, g1, g2⟩, g⟩ lv h1 h2
          by_cases e:lv=i
          · subst e;exact ⟨hh,L,g1,by omega⟩
          · exact g lv (by omega) h2
      rw [e];exact this
    · refine Ev.neg_ (fun h => hh ((inB_inT T _).1 h)) ?_
      rw [decide_eq_false (fun g=>hh (g i (Nat.le_refl _) (by omega)).1)]
      exact Ev.now _
open Classical in
theorem spec_skip_l2 (C H:List Int) (T:List S77) (t:S77) (i:Nat) (rst:Bool) (hl:T.length≤140737488351232) (ht:t.f1.length≤5) (f:Nat→Nat) (hf:∀ l,f l≤140737488351232)
    (hn:rangeT T t→Ev (fun k=>spec_GoodSkip.l0 k C (manyL fun l=>f l + if (l:Int) < (t.f1.length:Int) then 1 else 0) T (T.length:Int) (wrap64 ((i:Int) + 1)) H T) rst) :
    ∀ (d x:Nat),x + d=t.f1.length→(∀ j:Nat,j < x→inT T (t.f1.getD j 0))→Ev (fun k=>spec_GoodSkip.l2 k C (manyL fun l=>f l + if l < x then 1 else 0) T (T.length:Int) (i:Int) (t.f1.length:Int) (x:Int) H T t.f0.f0 t.f0.f1 t.f0.f2 t.f0.f3 t.f1) (decide (∀ j:Nat,x≤j→j < t.f1.length→inT T (t.f1.getD j 0)) && rst):=by
  intro d
  induction d with
  | zero =>
    intro x hx hp
    refine Ev.step (fun k=>by rw [spec_GoodSkip.l2]) ?_
    rw [zE (show ∀ j:Nat,x≤j→j < t.f1.length→inT T (t.f1.getD j 0) from fun j h1 h2=>by omega),Bool.true_and]
    refine Ev.neg_ (by omega) ?_
    have e:(manyL fun l=>f l + if l < x then 1 else 0)=(manyL fun l=>f l + if (l:Int) < (t.f1.length:Int) then 1 else 0):=by
      refine manyL_congr fun l _=>?_
      by_cases h:l < x
      · rw [if_pos h,if_pos (by omega)]
      · rw [if_neg h,if_neg (by omega)]
    rw [e];exact hn (fun j hj=>hp j (by omega))
  | succ d ih =>
    intro x hx hp
    refine Ev.step (fun k=>by rw [spec_GoodSkip.l2]) ?_
    refine Ev.pos_ (by omega) (Ev.pos_ (by omega) (Ev.pos_ (by rw [manyL_len];omega) (Ev.pos_ (by omega) ?_)))
    rw [spec_range_in T hl,rd_nat]
    refine Ev.some_ ?_
    by_cases hh:inT T (t.f1.getD x 0)
    · refine Ev.pos_ ((inB_inT T _).2 hh) ?_
      have hfx:=hf x
      rw [rd_many _ (show x < 5 by omega),if_neg (by omega),w64 (by omega) (by omega),Int.toNat_natCast,wi (show x < 5 by omega) (by omega),
        show (((f x + 0:Nat):Int) + 1)=((f x + 1:Nat):Int) by omega,set_many _ (show x < 5 by omega)]
      have e:(manyL fun l=>if l=x then f x + 1 else f l + if l < x then 1 else 0)=(manyL fun l=>f l + if l < x + 1 then 1 else 0):=by
        refine manyL_congr fun l _=>?_
        by_cases h:l=x
        · subst h;rw [if_pos rfl,if_pos (by omega)]
        · rw [if_neg h]
          by_cases h2:l < x
          · rw [if_pos h2,if_pos (by omega)]
          · rw [if_neg h2,if_neg (by omega)]
      rw [e]
      have e2:decide (∀ j:Nat,x≤j→j < t.f1.length→inT T (t.f1.getD j 0))=decide (∀ j:Nat,x + 1≤j→j < t.f1.length→inT T (t.f1.getD j 0)):=by
        rw [Bool.eq_iff_iff,decide_eq_true_eq,decide_eq_true_eq]
        refine ⟨fun g j h1 h2=>g j (by omega) h2,fun g j h1 h2=>?_⟩
        by_cases e:j=x
        · subst e;exact hh
        · exact g j (by omega) h2
      rw [e2]
      refine ih (x + 1) (by omega) (fun j hj=>?_)
      by_cases e:j=x
      · subst e;exact hh
      · exact hp j (by omega)
    · refine Ev.neg_ (fun h => hh ((inB_inT T _).1 h)) ?_
      rw [decide_eq_false (fun g=>hh (g x (Nat.le_refl _) (by omega))),Bool.false_and]
      exact Ev.now _
theorem take_getD {T:List S77} {q i:Nat} (h:q < i):(T.take i).getD q z77=T.getD q z77:=by
  rw [List.getD_eq_getElem?_getD,List.getD_eq_getElem?_getD,List.getElem?_take_of_lt h]
open Classical in
theorem spec_skip_l1 (C M H:List Int) (T:List S77) (t:S77) (i:Nat) (rst:Bool) (hl:T.length≤140737488351232) (hi:i≤T.length)
    (hn:(∀ j:Nat,j < i→cmpI (T.getD j z77).f0 t.f0 ≠ 0)→Ev (fun k=>spec_GoodSkip.l2 k C M T (T.length:Int) (i:Int) (t.f1.length:Int) 0 H T t.f0.f0 t.f0.f1 t.f0.f2 t.f0.f3 t.f1) rst) :
    ∀ (d q:Nat),q + d=i→(∀ j:Nat,j < q→cmpI (T.getD j z77).f0 t.f0 ≠ 0)→Ev (fun k=>spec_GoodSkip.l1 k C M T (T.length:Int) (i:Int) (T.take i) ((T.take i).length:Int) (q:Int) H T t.f0.f0 t.f0.f1 t.f0.f2 t.f0.f3 t.f1) (decide (∀ j:Nat,q≤j→j < i→cmpI (T.getD j z77).f0 t.f0 ≠ 0) && rst):=by
  have hlen:(T.take i).length=i:=by simp;omega
  intro d
  induction d with
  | zero =>
    intro q hq hp
    refine Ev.step (fun k=>by rw [spec_GoodSkip.l1]) ?_
    rw [zE (show ∀ j:Nat,q≤j→j < i→cmpI (T.getD j z77).f0 t.f0 ≠ 0 from fun j h1 h2=>by omega),Bool.true_and]
    exact Ev.neg_ (by omega) (hn (fun j hj=>hp j (by omega)))
  | succ d ih =>
    intro q hq hp
    refine Ev.step (fun k=>by rw [spec_GoodSkip.l1]) ?_
    refine Ev.pos_ (by omega) (Ev.pos_ (by omega) (Ev.pos_ (by omega) ?_))
    refine Ev.bind (spec_cmp _ _ _ _ _ _ _ _) ?_
    rw [rdT_nat,take_getD (show q < i by omega)]
    refine Ev.ite_ (fun h=>?_) (fun h=>?_)
    · rw [decide_eq_false (fun g => g q (Nat.le_refl _) (by omega) h), Bool.false_and]
      exact Ev.now _
    · rw [wi (show q < i by omega) (by omega)]
      have e2:decide (∀ j:Nat,q≤j→j < i→cmpI (T.getD j z77).f0 t.f0 ≠ 0)=decide (∀ j:Nat,q + 1≤j→j < i→cmpI (T.getD j z77).f0 t.f0 ≠ 0):=by
        rw [Bool.eq_iff_iff,decide_eq_true_eq,decide_eq_true_eq]
        refine ⟨fun g j h1 h2=>g j (by omega) h2,fun g j h1 h2=>?_⟩
        by_cases e:j=q
        · subst e;exact h
        · exact g j (by omega) h2
      rw [e2]
      refine ih (q + 1) (by omega) (fun j hj=>?_)
      by_cases e:j=q
      · subst e;exact h
      · exact hp j (by omega)
open Classical in
theorem spec_skip_l0 (H:List Int) (T:List S77) (hl:T.length≤140737488351232) (hH:H.length=5) :
    ∀ (d i:Nat),i + d=T.length→(∀ j:Nat,j < i→condT T j)→Ev (fun k=>spec_GoodSkip.l0 k crcT (manyL fun l=>cntHi l (T.take i)) T (T.length:Int) (i:Int) H T) (decide ((∀ j:Nat,i≤j→j < T.length→condT T j) ∧ ∀ lv:Nat,lv < 5→inT T (rd H lv)∧levelP H T lv)):=by
  intro d
  induction d with
  | zero =>
    intro i hi hp
    refine Ev.step (fun k=>by rw [spec_GoodSkip.l0]) ?_
    refine Ev.neg_ (by omega) ?_
    rw [List.take_of_length_le (by omega)]
    have:=spec_skip_l3 H T hl hH (fun j hj=>(hp j (by omega)).2.2) 5 0 (by omega)
    have e:decide ((∀ j:Nat,i≤j→j < T.length→condT T j) ∧ ∀ lv:Nat,lv < 5→inT T (rd H lv)∧levelP H T lv)=decide (∀ lv:Nat,0≤lv→lv < 5→inT T (rd H lv)∧levelP H T lv):=by
      rw [Bool.eq_iff_iff,decide_eq_true_eq,decide_eq_true_eq]
      exact ⟨fun g lv _ h2=>g.2 lv h2,fun g=>⟨fun j h1 h2=>by omega,fun lv h2=>g lv (Nat.zero_le _) h2⟩⟩
    rw [e];exact this
  | succ d ih =>
    intro i hi hp
    refine Ev.step (fun k=>by rw [spec_GoodSkip.l0]) ?_
    refine Ev.pos_ (by omega) (Ev.pos_ (by omega) (Ev.pos_ (by omega) ?_))
    simp only [rdT_nat,spec_goodItem,Option.bind_some]
    have hno:¬ condT T i→Ev (fun k:Nat=>some false) (decide ((∀ j:Nat,i≤j→j < T.length→condT T j) ∧ ∀ lv:Nat,lv < 5→inT T (rd H lv)∧levelP H T lv)):=by
      intro ht
      rw [decide_eq_false (fun g=>ht (g.1 i (Nat.le_refl _) (by omega)))]
      exact Ev.now _
    by_cases h:goodI (T.getD i z77).f0=true
    · have hb := goodI_iff h
      refine Ev.pos_ h (Ev.bind (spec_tower _ hb.2.1 hb.2.2.1 hb.2.2.2.1) ?_)
      refine Ev.step (fun k=>by rw [spec_GoodSkip.j2]) ?_
      refine Ev.ite_ (fun h2=>hno ?_) (fun h2=>?_)
      · rintro ⟨⟨_, g⟩, _⟩
        rw [g] at h2
        simp at h2
      · have hw : towI (T.getD i z77) := ⟨h, by simpa using h2⟩
        have hw5:(T.getD i z77).f1.length≤5:=by have:=towV_range (T.getD i z77).f0.f0 (T.getD i z77).f0.f1;have:=hw.2;omega
        refine Ev.pos_ (by omega) (Ev.pos_ (by omega) (Ev.some_ ?_))
        rw [Int.toNat_natCast]
        have hle:∀ l:Nat,cntHi l (T.take i)≤140737488351232:=fun l=>by have:=cntHi_le l (T.take i);simp at this;omega
        have e0:(manyL fun l=>cntHi l (T.take (i + 1)))=(manyL fun l=>cntHi l (T.take i) + if (l:Int) < ((T.getD i z77).f1.length:Int) then 1 else 0):=manyL_congr fun l _=>cntHi_take l T i (by omega)
        have e1:(manyL fun l=>cntHi l (T.take i) + if l < 0 then 1 else 0)=(manyL fun l=>cntHi l (T.take i)):=manyL_congr fun l _=>by simp
        have key:=fun ha:apartT T i=>spec_skip_l2 crcT H T (T.getD i z77) i (decide ((∀ j:Nat,i + 1≤j→j < T.length→condT T j) ∧ ∀ lv:Nat,lv < 5→inT T (rd H lv)∧levelP H T lv)) hl hw5 (fun l=>cntHi l (T.take i)) hle (fun hrg=>by
          have hnx:=ih (i + 1) (by omega) (fun j hj=>by
            by_cases e:j=i
            · subst e;exact ⟨hw,ha,hrg⟩
            · exact hp j (by omega))
          rw [← wi (show i < T.length by omega) hl,e0] at hnx
          exact hnx) (T.getD i z77).f1.length 0 (by omega) (fun j hj=>by omega)
        rw [e1] at key
        have:=spec_skip_l1 crcT _ H T (T.getD i z77) i _ hl (by omega) key i 0 (by omega) (fun j hj=>by omega)
        have e2:decide ((∀ j:Nat,i≤j→j < T.length→condT T j) ∧ ∀ lv:Nat,lv < 5→inT T (rd H lv)∧levelP H T lv)=(decide (∀ j:Nat,0≤j→j < i→cmpI (T.getD j z77).f0 (T.getD i z77).f0 ≠ 0) && (decide (∀ j:Nat,0≤j→j < (T.getD i z77).f1.length→inT T ((T.getD i z77).f1.getD j 0)) && decide ((∀ j:Nat,i + 1≤j→j < T.length→condT T j) ∧ ∀ lv:Nat,lv < 5→inT T (rd H lv)∧levelP H T lv))):=by
          rw [Bool.eq_iff_iff,Bool.and_eq_true,Bool.and_eq_true,decide_eq_true_eq,decide_eq_true_eq,decide_eq_true_eq,decide_eq_true_eq]
          constructor
          · rintro ⟨g1, g2⟩
            have hc:=g1 i (Nat.le_refl _) (by omega)
            exact ⟨fun j _ h=>hc.2.1 j h,fun j _ h=>hc.2.2 j h,fun j h1 h2=>g1 j (by omega) h2,g2⟩
          · rintro ⟨g1, g2, g3, g4⟩
            refine ⟨fun j h1 h2=>?_,g4⟩
            by_cases e:j=i
            · subst e;exact ⟨hw,fun q hq=>g1 q (Nat.zero_le _) hq,fun q hq=>g2 q (Nat.zero_le _) hq⟩
            · exact g3 j (by omega) h2
        rw [e2];exact this
    · refine Ev.neg_ h ?_
      refine Ev.step (fun k=>by rw [spec_GoodSkip.j2]) ?_
      exact Ev.pos_ rfl (hno (fun g=>h g.1.1))
/-- The chain of a level names each tower that is so high, once. -/
theorem Chain.facts {H:List Int} {T:List S77} {lv:Int}:∀ {a:Int} {L V:List Int},Chain H T lv a L→Vis T a V→(L.reverse ++ V).Pairwise (fun x y=>ltT T y x)∧(∀ y ∈ L,hghT T lv y)
  | a, [], V, _, hv => by
    refine ⟨?_,by simp⟩
    cases V with
    |nil=>simp
    |cons v V=>simpa using hv.2.2.2.1
  | a, j :: L, V, h, hv => by
    have:=Chain.facts h.2.2 (hv.push h.2.1)
    refine ⟨by simpa using this.1,fun y hy=>?_⟩
    rcases List.mem_cons.1 hy with rfl|hy
    · exact h.2.1.1
    · exact this.2 y hy
theorem Chain.nexts {H:List Int} {T:List S77} {lv:Int}:∀ {a:Int} {L:List Int},Chain H T lv a L → ∀ x,x=a∨x ∈ L→nxt H T lv x = -1∨nxt H T lv x ∈ L
  | a, [], h, x, hx => by
    rcases hx with rfl|hx
    · exact .inl h
    · cases hx
  | a, j :: L, h, x, hx => by
    rcases hx with rfl|hx
    · right;rw [h.1];simp
    · rcases Chain.nexts h.2.2 x (List.mem_cons.1 hx) with h' | h'
      · exact .inl h'
      · exact .inr (List.mem_cons_of_mem _ h')
def hiL (T:List S77) (lv:Int):List Nat:=(List.range T.length).filter (fun j=>decide (lv < ((T.getD j z77).f1.length:Int)))
theorem hiL_length (T:List S77) (lv:Int):(hiL T lv).length=cntHi lv T:=by
  unfold hiL cntHi
  rw [← List.countP_eq_length_filter]
  have:∀ (n:Nat),n≤T.length→(List.range n).countP (fun j=>decide (lv < ((T.getD j z77).f1.length:Int)))=cntHi lv (T.take n):=by
    intro n
    induction n with
    |zero=>intro _;simp [cntHi]
    | succ n ih =>
      intro h
      rw [List.range_succ,List.countP_append,ih (by omega),cntHi_take lv T n (by omega)]
      simp [List.countP_cons]
  have h:=this T.length (Nat.le_refl _)
  rw [List.take_length] at h
  exact h
theorem mem_hiL {T:List S77} {lv:Int} {j:Nat}:j ∈ hiL T lv↔hghT T lv j:=by
  unfold hiL hghT
  rw [List.mem_filter,List.mem_range,rdT_nat,decide_eq_true_eq]
  omega
theorem level_all {H:List Int} {T:List S77} {lv:Int} {L:List Int} (h:Chain H T lv (-1) L) (hc:L.length=cntHi lv T) {j:Int} (hj:hghT T lv j):j ∈ L:=by
  have hf:=h.facts (V:=[]) rfl
  have hp:(L.map Int.toNat).Nodup:=by
    rw [List.nodup_iff_pairwise_ne,List.pairwise_map]
    have h1:=hf.1
    rw [List.append_nil,List.pairwise_reverse] at h1
    refine h1.imp_of_mem (fun {x y} hx hy hl he=>?_)
    have:=(hf.2 x hx).1
    have:=(hf.2 y hy).1
    have e:x=y:=by omega
    subst e
    exact ltT_irrefl _ _ hl
  have hs:L.map Int.toNat ⊆ hiL T lv:=by
    intro x hx
    obtain ⟨y,hy,rfl⟩:=List.mem_map.1 hx
    rw [mem_hiL,Int.toNat_of_nonneg (hf.2 y hy).1]
    exact hf.2 y hy
  refine Classical.byContradiction fun hno=>?_
  have hp2:(j.toNat :: L.map Int.toNat).Nodup:=by
    refine List.nodup_cons.2 ⟨fun hm=>?_,hp⟩
    obtain ⟨y,hy,e⟩:=List.mem_map.1 hm
    have:=(hf.2 y hy).1
    have:=hj.1
    have:y=j:=by omega
    subst this;exact hno hy
  have hs2:(j.toNat :: L.map Int.toNat) ⊆ hiL T lv:=by
    intro x hx
    rcases List.mem_cons.1 hx with rfl|hx
    · rw [mem_hiL,Int.toNat_of_nonneg hj.1];exact hj
    · exact hs hx
  have:=hp2.length_le_of_subset hs2
  rw [hiL_length,List.length_cons,List.length_map,hc] at this
  omega
theorem good_range {H:List Int} {T:List S77} (h:goodSkipP H T):(∀ j:Nat,j < T.length→rangeT T (T.getD j z77)) ∧ ∀ lv:Nat,lv < 5→inT T (rd H lv):=by
  obtain ⟨hH,hn,ht,hl⟩:=h
  have key:∀ lv:Nat,lv < 5 → ∀ x,x = -1∨hghT T lv x→inT T (nxt H T lv x):=by
    intro lv hlv x hx
    obtain ⟨L,h1,h2⟩:=hl lv hlv
    have hf:=h1.facts (V:=[]) rfl
    have:nxt H T lv x = -1∨nxt H T lv x ∈ L:=by
      refine h1.nexts x ?_
      rcases hx with rfl|hx
      · exact .inl rfl
      · exact .inr (level_all h1 h2 hx)
    unfold inT
    rcases this with h|h
    · omega
    · have := hf.2 _ h
      have:=this.1
      have:=(hf.2 _ h).2.1
      omega
  refine ⟨fun j hj q hq=>?_,fun lv hlv=>?_⟩
  · have hw := ht j hj
    have:=towV_range (T.getD j z77).f0.f0 (T.getD j z77).f0.f1
    have:=hw.2
    have h:=key q (by omega) j (.inr ⟨by omega,by omega,by rw [rdT_nat];omega⟩)
    unfold nxt at h
    rw [if_neg (by omega),rdT_nat,rd_nat] at h
    exact h
  · have h := key lv hlv (-1) (.inl rfl)
    unfold nxt at h
    rw [if_pos (by omega)] at h
    exact h
theorem cmpV_anti {k1 k2:ByteArray} {q1 q2:Int} (h:cmpV k1 q1 k2 q2=0):k1.toList=k2.toList∧q1=q2:=by
  unfold cmpV at h
  by_cases h1:Op.bytesLess k1.toList k2.toList=true
  · rw [if_pos h1] at h;omega
  · rw [if_neg h1] at h
    by_cases h2:k1.toList=k2.toList
    · rw [if_pos h2] at h
      by_cases h3:q1 > q2
      · rw [if_pos h3] at h;omega
      · rw [if_neg h3] at h
        by_cases h4:q1=q2
        · exact ⟨h2,h4⟩
        · rw [if_neg h4] at h;omega
    · rw [if_neg h2] at h;omega
theorem good_apart {H:List Int} {T:List S77} (h:goodSkipP H T) (i:Nat) (hi:i < T.length):apartT T i:=by
  obtain ⟨hH,hn,ht,hl⟩:=h
  obtain ⟨L,h1,h2⟩:=hl 0 (by omega)
  have hf:=h1.facts (V:=[]) rfl
  have hall:∀ j:Nat,j < T.length→(j:Int) ∈ L:=by
    intro j hj
    have:=towV_range (T.getD j z77).f0.f0 (T.getD j z77).f0.f1
    have:=(ht j hj).2
    exact level_all h1 h2 ⟨by omega,by omega,by rw [rdT_nat];omega⟩
  intro q hq he
  have hp:=hf.1
  rw [List.append_nil,List.pairwise_reverse] at hp
  have hrel:∀ {x y:Int},x ∈ L→y ∈ L→x ≠ y→ltT T x y∨ltT T y x:=by
    intro x y hx hy hne
    obtain ⟨a,ha,rfl⟩:=List.mem_iff_getElem.1 hx
    obtain ⟨b,hb,rfl⟩:=List.mem_iff_getElem.1 hy
    rcases Nat.lt_trichotomy a b with h|h|h
    · exact .inl (List.pairwise_iff_getElem.1 hp a b ha hb h)
    · subst h;exact absurd rfl hne
    · exact .inr (List.pairwise_iff_getElem.1 hp b a hb ha h)
  have e:=cmpV_anti he
  rcases hrel (hall q (by omega)) (hall i hi) (by omega) with h|h
  · unfold ltT cmpI at h
    rw [rdT_nat,rdT_nat,cmpV_neg,e.1,less_irrefl] at h
    rcases h with h | ⟨_,h⟩
    · cases h
    · omega
  · unfold ltT cmpI at h
    rw [rdT_nat,rdT_nat,cmpV_neg,e.1,less_irrefl] at h
    rcases h with h | ⟨_,h⟩
    · cases h
    · omega
open Classical in
theorem spec_goodSkip (H:List Int) (T:List S77) (hl:T.length≤140737488351232):Ev (fun k=>spec_GoodSkip.f k H T) (goodSkipV H T):=by
  have hj:∀ x:Bool,(x=false→H.length=5)→Ev (fun k=>spec_GoodSkip.j0 k x H T) (!x && decide ((∀ j:Nat,0≤j→j < T.length→condT T j) ∧ ∀ lv:Nat,lv < 5→inT T (rd H lv)∧levelP H T lv)):=by
    intro x hx
    refine Ev.step (fun k=>by rw [spec_GoodSkip.j0]) ?_
    cases x with
    |true=>exact Ev.pos_ rfl (Ev.now _)
    | false =>
      refine Ev.neg_ (by simp) (Ev.bind spec_table (Ev.pos_ (by omega) ?_))
      have:=spec_skip_l0 H T hl (hx rfl) T.length 0 (by omega) (fun j hj=>by omega)
      exact this
  unfold spec_GoodSkip.f goodSkipV
  by_cases h5:(H.length:Int)=5
  · have h5' : H.length = 5 := by omega
    refine Ev.pos_ h5 ?_
    have:=hj (decide ((T.length:Int) > 60)) (fun _=>h5')
    have e:decide (goodSkipP H T)=(!decide ((T.length:Int) > 60) && decide ((∀ j:Nat,0≤j→j < T.length→condT T j) ∧ ∀ lv:Nat,lv < 5→inT T (rd H lv)∧levelP H T lv)):=by
      rw [Bool.eq_iff_iff,Bool.and_eq_true,decide_eq_true_eq,decide_eq_true_eq]
      simp only [Bool.not_eq_true',decide_eq_false_iff_not]
      constructor
      · intro g
        have g':=g
        obtain ⟨_,g2,g3,g4⟩:=g
        have gr:=good_range g'
        exact ⟨by omega,fun j _ h=>⟨g3 j h,good_apart g' j h,gr.1 j h⟩,fun lv h=>⟨gr.2 lv h,g4 lv h⟩⟩
      · rintro ⟨g2, g3, g4⟩
        exact ⟨h5',by omega,fun j h=>(g3 j (Nat.zero_le _) h).1,fun lv h=>(g4 lv h).2⟩
    rw [e];exact this
  · refine Ev.neg_ h5 ?_
    have:=hj true (fun h=>by cases h)
    rw [decide_eq_false (fun g:goodSkipP H T=>h5 (by have:=g.1;omega))]
    exact this
-- part implSkip needs impl_GoodSkip.f impl_Skip_levelOk.j2
theorem impl_next {H:List Int} {T:List S77} {lv a:Int} (h0:0≤lv) (hH:lv < (H.length:Int)) (ha:a = -1∨hghT T lv a):impl_Skip_next.f H T a lv=some (nxt H T lv a):=by
  unfold impl_Skip_next.f nxt
  rcases ha with rfl | ⟨g0,g1,g2⟩
  · rw [if_pos rfl,if_pos h0,if_pos hH,if_pos (by omega)]
  · rw [if_neg (by omega),if_pos g0,if_pos g1,if_pos h0,if_pos g2,if_neg (by omega)]
theorem impl_level_l1 (T:List S77) (lv:Int) (hl:T.length≤140737488351232):∀ (d i:Nat) (m:Int),i + d=T.length → -140737488351232≤m - d→m≤140737488351232→Ev (fun k=>impl_Skip_levelOk.l1 k lv m T (T.length:Int) i) (m - cntHi lv (T.drop i) == 0):=by
  intro d
  induction d with
  | zero =>
    intro i m hi h0 h1
    refine Ev.step (fun k=>by rw [impl_Skip_levelOk.l1]) ?_
    refine Ev.neg_ (by omega) ?_
    rw [List.drop_of_length_le (by omega)]
    simp only [cntHi,List.countP_nil]
    rw [show m - ((0:Nat):Int)=m by omega]
    exact Ev.now _
  | succ d ih =>
    intro i m hi h0 h1
    refine Ev.step (fun k=>by rw [impl_Skip_levelOk.l1]) ?_
    refine Ev.pos_ (by omega) (Ev.pos_ (by omega) (Ev.pos_ (by omega) ?_))
    have hc:=cntHi_drop lv T i (by omega)
    simp only [rdT_nat,wi (show i < T.length by omega) hl]
    by_cases h:lv < ((T.getD i z77).f1.length:Int)
    · rw [if_pos h] at hc
      refine Ev.pos_ h ?_
      rw [w64 (by omega) (by omega)]
      have:=ih (i + 1) (m - 1) (by omega) (by omega) (by omega)
      rw [hc,show m - ((cntHi lv (T.drop (i + 1)) + 1:Nat):Int)=m - 1 - (cntHi lv (T.drop (i + 1)):Int) by omega]
      exact this
    · rw [if_neg h] at hc
      refine Ev.neg_ h ?_
      have:=ih (i + 1) m (by omega) (by omega) (by omega)
      rw [hc]
      exact this
open Classical in
theorem impl_level_l0 (H:List Int) (T:List S77) (lv:Int) (hl:T.length≤140737488351232) (h0:0≤lv) (hH:lv < (H.length:Int)) :
    ∀ (d:Nat) (a:Int) (V:List Int),V.length + d=T.length→Vis T a V→(a = -1∨hghT T lv a)→Ev (fun k=>impl_Skip_levelOk.l0 k lv (V.length:Int) a H T) (decide (restP H T lv a V.length (cntHi lv T))):=by
  intro d
  induction d with
  | zero =>
    intro a V hd hv ha
    refine Ev.step (fun k=>by rw [impl_Skip_levelOk.l0]) ?_
    rw [impl_next h0 hH ha]
    refine Ev.some_ ?_
    by_cases h1:nxt H T lv a = -1
    · refine Ev.pos_ h1 ?_
      have:=impl_level_l1 T lv hl T.length 0 (V.length:Int) (by omega) (by omega) (by omega)
      rw [List.drop_zero] at this
      have e:((V.length:Int) - cntHi lv T == 0)=decide (restP H T lv a V.length (cntHi lv T)):=by
        rw [Bool.eq_iff_iff,beq_iff_eq,decide_eq_true_eq,restP_end h1];omega
      rw [← e];exact this
    · refine Ev.neg_ h1 ?_
      have hbad:¬ okStep T lv a (nxt H T lv a):=fun hs=>by have:=hv.room hs;omega
      rw [decide_eq_false (restP_bad rfl h1 hbad)]
      rw [impl_in_]
      refine Ev.some_ ?_
      by_cases h2:inB (nxt H T lv a) 0 (wrap64 ((T.length:Int) - 1))=true
      · refine Ev.pos_ h2 ?_
        rw [inB_iff,w64 (by omega) (by omega)] at h2
        refine Ev.pos_ (by omega) (Ev.pos_ (by omega) ?_)
        refine Ev.step (fun k=>by rw [impl_Skip_levelOk.j1]) ?_
        refine Ev.ite_ (fun _=>Ev.now _) (fun h3=>?_)
        have h3':lv < ((rd_T77 T (nxt H T lv a)).f1.length:Int):=by
          have:¬ ((rd_T77 T (nxt H T lv a)).f1.length:Int)≤lv:=by simpa using h3
          omega
        rcases ha with rfl|ha
        · exact absurd ⟨⟨by omega,by omega,h3'⟩,fun h=>by omega⟩ hbad
        · refine Ev.neg_ (by have := ha.1; omega) (Ev.pos_ ha.1 (Ev.pos_ ha.2.1 (Ev.pos_ (by omega) (Ev.pos_ (by omega) (Ev.bind (impl_cmp _ _ _ _ _ _ _ _) ?_)))))
          refine Ev.step (fun k=>by rw [impl_Skip_levelOk.j2]) ?_
          refine Ev.ite_ (fun _=>Ev.now _) (fun h4=>?_)
          exact absurd (okStep_cmp.2 ⟨⟨by omega,by omega,h3'⟩,fun _=>by simpa [cmpI] using h4⟩) hbad
      · refine Ev.neg_ h2 ?_
        refine Ev.step (fun k=>by rw [impl_Skip_levelOk.j1]) ?_
        exact Ev.pos_ rfl (Ev.now _)
  | succ d ih =>
    intro a V hd hv ha
    refine Ev.step (fun k=>by rw [impl_Skip_levelOk.l0]) ?_
    rw [impl_next h0 hH ha]
    refine Ev.some_ ?_
    by_cases h1:nxt H T lv a = -1
    · refine Ev.pos_ h1 ?_
      have:=impl_level_l1 T lv hl T.length 0 (V.length:Int) (by omega) (by omega) (by omega)
      rw [List.drop_zero] at this
      have e:((V.length:Int) - cntHi lv T == 0)=decide (restP H T lv a V.length (cntHi lv T)):=by
        rw [Bool.eq_iff_iff,beq_iff_eq,decide_eq_true_eq,restP_end h1];omega
      rw [← e];exact this
    · refine Ev.neg_ h1 ?_
      have hgo:okStep T lv a (nxt H T lv a)→Ev (fun k=>impl_Skip_levelOk.l0 k lv (wrap64 ((V.length:Int) + 1)) (nxt H T lv a) H T) (decide (restP H T lv a V.length (cntHi lv T))):=by
        intro hs
        have:=ih (nxt H T lv a) (nxt H T lv a :: V) (by simp;omega) (hv.push hs) (.inr hs.1)
        rw [List.length_cons] at this
        rw [wi (show V.length < V.length + 1 by omega) (by omega)]
        have e:decide (restP H T lv a V.length (cntHi lv T))=decide (restP H T lv (nxt H T lv a) (V.length + 1) (cntHi lv T)):=by
          rw [Bool.eq_iff_iff,decide_eq_true_eq,decide_eq_true_eq];exact restP_step rfl hs
        rw [e];exact this
      have hno:¬ okStep T lv a (nxt H T lv a)→Ev (fun k:Nat=>some false) (decide (restP H T lv a V.length (cntHi lv T))):=by
        intro hb
        rw [decide_eq_false (restP_bad rfl h1 hb)];exact Ev.now _
      rw [impl_in_]
      refine Ev.some_ ?_
      by_cases h2:inB (nxt H T lv a) 0 (wrap64 ((T.length:Int) - 1))=true
      · refine Ev.pos_ h2 ?_
        rw [inB_iff,w64 (by omega) (by omega)] at h2
        refine Ev.pos_ (by omega) (Ev.pos_ (by omega) ?_)
        refine Ev.step (fun k=>by rw [impl_Skip_levelOk.j1]) ?_
        refine Ev.ite_ (fun h3=>hno ?_) (fun h3=>?_)
        · have h3' : ((rd_T77 T (nxt H T lv a)).f1.length : Int) ≤ lv := by simpa using h3
          rintro ⟨⟨_,_,hh⟩,_⟩
          omega
        · have h3' : lv < ((rd_T77 T (nxt H T lv a)).f1.length : Int) := by
            have:¬ ((rd_T77 T (nxt H T lv a)).f1.length:Int)≤lv:=by simpa using h3
            omega
          rcases ha with rfl|ha
          · refine Ev.pos_ rfl ?_
            refine Ev.step (fun k=>by rw [impl_Skip_levelOk.j2]) ?_
            exact Ev.neg_ (by simp) (hgo ⟨⟨by omega,by omega,h3'⟩,fun h=>by omega⟩)
          · refine Ev.neg_ (by have := ha.1; omega) (Ev.pos_ ha.1 (Ev.pos_ ha.2.1 (Ev.pos_ (by omega) (Ev.pos_ (by omega) (Ev.bind (impl_cmp _ _ _ _ _ _ _ _) ?_)))))
            refine Ev.step (fun k=>by rw [impl_Skip_levelOk.j2]) ?_
            refine Ev.ite_ (fun h4=>hno ?_) (fun h4=>hgo ?_)
            · intro hs
              exact absurd (by simpa [cmpI] using h4) ((okStep_cmp.1 hs).2 ha.1)
            · exact okStep_cmp.2 ⟨⟨by omega,by omega,h3'⟩,fun _=>by simpa [cmpI] using h4⟩
      · refine Ev.neg_ h2 ?_
        refine Ev.step (fun k=>by rw [impl_Skip_levelOk.j1]) ?_
        refine Ev.pos_ rfl (hno ?_)
        rintro ⟨⟨g0,g1,_⟩,_⟩
        apply h2
        rw [inB_iff,w64 (by omega) (by omega)];omega
open Classical in
theorem impl_level (H:List Int) (T:List S77) (lv:Int) (hl:T.length≤140737488351232) (h0:0≤lv) (hH:lv < (H.length:Int)) :
    Ev (fun k=>impl_Skip_levelOk.f k H T lv) (decide (levelP H T lv)):=by
  have:=impl_level_l0 H T lv hl h0 hH T.length (-1) [] (by simp) rfl (.inl rfl)
  have e:decide (levelP H T lv)=decide (restP H T lv (-1) 0 (cntHi lv T)):=by
    rw [Bool.eq_iff_iff,decide_eq_true_eq,decide_eq_true_eq]
    unfold levelP restP;simp
  rw [e];exact this
open Classical in
theorem impl_skip_l1 (H:List Int) (T:List S77) (hl:T.length≤140737488351232) (hH:H.length=5):∀ (d i:Nat),i + d=5→Ev (fun k=>impl_GoodSkip.l1 k (i:Int) H T) (decide (∀ lv:Nat,i≤lv→lv < 5→levelP H T lv)):=by
  intro d
  induction d with
  | zero =>
    intro i hi
    refine Ev.step (fun k=>by rw [impl_GoodSkip.l1]) ?_
    rw [zE (show ∀ lv:Nat,i≤lv→lv < 5→levelP H T lv from fun lv h1 h2=>by omega)]
    exact Ev.neg_ (by omega) (Ev.now _)
  | succ d ih =>
    intro i hi
    refine Ev.step (fun k=>by rw [impl_GoodSkip.l1]) ?_
    refine Ev.pos_ (by omega) (Ev.bind (impl_level H T i hl (by omega) (by omega)) ?_)
    by_cases h:levelP H T i
    · refine Ev.pos_ (decide_eq_true h) ?_
      rw [wi (show i < 5 by omega) (by omega)]
      have e:decide (∀ lv:Nat,i≤lv→lv < 5→levelP H T lv)=decide (∀ lv:Nat,i + 1≤lv→lv < 5→levelP H T lv):=by
        rw [Bool.eq_iff_iff,decide_eq_true_eq,decide_eq_true_eq]
        refine ⟨fun g lv h1 h2=>g lv (by omega) h2,fun g lv h1 h2=>?_⟩
        by_cases e:lv=i
        · subst e;exact h
        · exact g lv (by omega) h2
      rw [e];exact ih (i + 1) (by omega)
    · refine Ev.neg_ (by simpa using h) ?_
      rw [decide_eq_false (fun g=>h (g i (Nat.le_refl _) (by omega)))]
      exact Ev.now _
open Classical in
theorem impl_skip_l0 (H:List Int) (T:List S77) (hl:T.length≤140737488351232) (hH:H.length=5):∀ (d i:Nat),i + d=T.length→Ev (fun k=>impl_GoodSkip.l0 k T (T.length:Int) (i:Int) H T) (decide ((∀ j:Nat,i≤j→j < T.length→towI (T.getD j z77)) ∧ ∀ lv:Nat,lv < 5→levelP H T lv)):=by
  intro d
  induction d with
  | zero =>
    intro i hi
    refine Ev.step (fun k=>by rw [impl_GoodSkip.l0]) ?_
    refine Ev.neg_ (by omega) ?_
    have:=impl_skip_l1 H T hl hH 5 0 (by omega)
    have e:decide ((∀ j:Nat,i≤j→j < T.length→towI (T.getD j z77)) ∧ ∀ lv:Nat,lv < 5→levelP H T lv)=decide (∀ lv:Nat,0≤lv→lv < 5→levelP H T lv):=by
      rw [Bool.eq_iff_iff,decide_eq_true_eq,decide_eq_true_eq]
      exact ⟨fun g lv _ h2=>g.2 lv h2,fun g=>⟨fun j h1 h2=>by omega,fun lv h2=>g lv (Nat.zero_le _) h2⟩⟩
    rw [e];exact this
  | succ d ih =>
    intro i hi
    refine Ev.step (fun k=>by rw [impl_GoodSkip.l0]) ?_
    refine Ev.pos_ (by omega) (Ev.pos_ (by omega) (Ev.pos_ (by omega) ?_))
    simp only [rdT_nat,impl_goodItem,Option.bind_some,wi (show i < T.length by omega) hl]
    have hgo:towI (T.getD i z77)→Ev (fun k=>impl_GoodSkip.l0 k T (T.length:Int) ((i + 1:Nat):Int) H T) (decide ((∀ j:Nat,i≤j→j < T.length→towI (T.getD j z77)) ∧ ∀ lv:Nat,lv < 5→levelP H T lv)):=by
      intro ht
      have e:decide ((∀ j:Nat,i≤j→j < T.length→towI (T.getD j z77)) ∧ ∀ lv:Nat,lv < 5→levelP H T lv)=decide ((∀ j:Nat,i + 1≤j→j < T.length→towI (T.getD j z77)) ∧ ∀ lv:Nat,lv < 5→levelP H T lv):=by
        rw [Bool.eq_iff_iff,decide_eq_true_eq,decide_eq_true_eq]
        refine ⟨fun g=>⟨fun j h1 h2=>g.1 j (by omega) h2,g.2⟩,fun g=>⟨fun j h1 h2=>?_,g.2⟩⟩
        by_cases e:j=i
        · subst e;exact ht
        · exact g.1 j (by omega) h2
      rw [e];exact ih (i + 1) (by omega)
    have hno:¬ towI (T.getD i z77)→Ev (fun k:Nat=>some false) (decide ((∀ j:Nat,i≤j→j < T.length→towI (T.getD j z77)) ∧ ∀ lv:Nat,lv < 5→levelP H T lv)):=by
      intro ht
      rw [decide_eq_false (fun g=>ht (g.1 i (Nat.le_refl _) (by omega)))]
      exact Ev.now _
    by_cases h:goodI (T.getD i z77).f0=true
    · have hb := goodI_iff h
      refine Ev.pos_ h (Ev.bind (impl_tower _ hb.2.1 hb.2.2.1 hb.2.2.2.1) ?_)
      refine Ev.step (fun k=>by rw [impl_GoodSkip.j2]) ?_
      simp only [wi (show i < T.length by omega) hl]
      refine Ev.ite_ (fun h2=>hno ?_) (fun h2=>hgo ?_)
      · rintro ⟨_, g⟩
        rw [g] at h2
        simp at h2
      · exact ⟨h,by simpa using h2⟩
    · refine Ev.neg_ h ?_
      refine Ev.step (fun k=>by rw [impl_GoodSkip.j2]) ?_
      exact Ev.pos_ rfl (hno (fun g=>h g.1))
open Classical in
theorem impl_goodSkip (H:List Int) (T:List S77) (hl:T.length≤140737488351232):Ev (fun k=>impl_GoodSkip.f k H T) (goodSkipV H T):=by
  have hj:∀ x:Bool,(x=false→H.length=5)→Ev (fun k=>impl_GoodSkip.j0 k x H T) (!x && decide ((∀ j:Nat,0≤j→j < T.length→towI (T.getD j z77)) ∧ ∀ lv:Nat,lv < 5→levelP H T lv)):=by
    intro x hx
    refine Ev.step (fun k=>by rw [impl_GoodSkip.j0]) ?_
    cases x with
    |true=>exact Ev.pos_ rfl (Ev.now _)
    |false=>exact Ev.neg_ (by simp) (impl_skip_l0 H T hl (hx rfl) T.length 0 (by omega))
  unfold impl_GoodSkip.f goodSkipV
  by_cases h5:(H.length:Int)=5
  · have h5' : H.length = 5 := by omega
    refine Ev.pos_ h5 ?_
    have:=hj (decide ((T.length:Int) > 60)) (fun _=>h5')
    have e:decide (goodSkipP H T)=(!decide ((T.length:Int) > 60) && decide ((∀ j:Nat,0≤j→j < T.length→towI (T.getD j z77)) ∧ ∀ lv:Nat,lv < 5→levelP H T lv)):=by
      rw [Bool.eq_iff_iff,Bool.and_eq_true,decide_eq_true_eq,decide_eq_true_eq]
      unfold goodSkipP allTow
      simp only [Bool.not_eq_true',decide_eq_false_iff_not]
      constructor
      · rintro ⟨_,g2,g3,g4⟩;exact ⟨by omega,fun j _ h=>g3 j h,g4⟩
      · rintro ⟨g2,g3,g4⟩;exact ⟨h5',by omega,fun j h=>g3 j (Nat.zero_le _) h,g4⟩
    rw [e];exact this
  · refine Ev.neg_ h5 ?_
    have:=hj true (fun h=>by cases h)
    rw [decide_eq_false (fun g:goodSkipP H T=>h5 (by have:=g.1;omega))]
    exact this
-- part toSkip needs laws_toSkip.f
theorem toIntS_ (l:List Int) (hl:l.length≤35184372088832):Ev (fun k=>laws_toIntS.f k l) l:=by
  unfold laws_toIntS.f
  refine Ev.pos_ (by omega) (Ev.pos_ (by omega) ?_)
  have:=to_gen laws_toIntS.l0 (fun x:Int=>x) 0 0 (fun xs ys i r hi hy hn h=>?_) (fun xs ys=>Ev.step (f:=fun _=>some ys) (fun k=>?_) (Ev.now _)) l.length l 0 (by omega) (by omega)
  · simpa using this
  · refine Ev.step (fun k => by rw [laws_toIntS.l0]) ?_
    refine Ev.pos_ (by omega) (Ev.pos_ (by omega) ?_)
    refine Ev.pos_ (by omega) ?_
    simp only [wi hi hn,Int.toNat_natCast,rd_nat];exact h
  · simp only [laws_toIntS.l0];rw [if_neg (by omega)]
def convItem (a:S51):S28:=⟨a.f0,a.f1,a.f2,a.f3⟩
def convTower (a:S113):S77:=⟨convItem a.f0,a.f1⟩
theorem rd_T113_nat (xs:List S113) (i:Nat):rd_T113 xs (i:Int)=xs.getD i z113:=by unfold rd_T113;rw [Int.toNat_natCast]
theorem toTower_ (f0 f1 f2 f3) (l:List Int) (hl:l.length≤35184372088832):Ev (fun k=>laws_toTower.f k f0 f1 f2 f3 l) (f0,f1,f2,f3,l):=by
  unfold laws_toTower.f laws_toItem.f
  exact Ev.some_ (Ev.bind (toIntS_ l hl) (Ev.now _))
def smallT (T:List S113):Prop:=T.length≤3909374676536 ∧ ∀ t ∈ T,t.f1.length≤35184372088832
theorem to_genQ {α β:Type} (Q:α→Prop) (L:Nat→List α→List β→Int→Option (List β)) (f:α→β) (z:β) (za:α)
    (hstep:∀ (xs:List α) (ys:List β) (i:Nat) (r:List β),i < xs.length→i < ys.length→xs.length≤140737488351232→Q (xs.getD i za)→Ev (fun k=>L k xs (ys.set i (f (xs.getD i za))) ((i + 1:Nat):Int)) r→Ev (fun k=>L k xs ys (i:Int)) r)
    (hend:∀ (xs:List α) (ys:List β),Ev (fun k=>L k xs ys (xs.length:Int)) ys) :
    ∀ (d:Nat) (xs:List α) (i:Nat),i + d=xs.length→xs.length≤140737488351232→(∀ x ∈ xs,Q x)→Ev (fun k=>L k xs ((xs.take i).map f ++ List.replicate d z) (i:Int)) (xs.map f):=by
  intro d
  induction d with
  | zero =>
    intro xs i hi hl hq
    obtain rfl:i=xs.length:=by omega
    have:=hend xs (xs.map f)
    simpa using this
  | succ d ih =>
    intro xs i hi hl hq
    refine hstep xs _ i _ (by omega) (by simp;omega) hl ?_ ?_
    · rw [List.getD_eq_getElem?_getD, List.getElem?_eq_getElem (show i < xs.length by omega)]
      exact hq _ (List.getElem_mem _)
    have:=ih xs (i + 1) (by omega) hl hq
    have e:((xs.take i).map f ++ List.replicate (d + 1) z).set i (f (xs.getD i za))=(xs.take (i + 1)).map f ++ List.replicate d z:=by
      have h0:i - ((xs.take i).map f).length=0:=by simp;omega
      rw [List.take_succ_eq_append_getElem (show i < xs.length by omega),List.map_append,List.set_append_right _ _ (by simp;omega),List.append_assoc,h0]
      congr 1
      simp [List.replicate_succ,List.getD_eq_getElem?_getD,List.getElem?_eq_getElem (show i < xs.length by omega)]
    rw [e]
    exact this
theorem toTowerS_ (l:List S113) (hl:smallT l):Ev (fun k=>laws_toTowerS.f k l) (l.map convTower):=by
  unfold laws_toTowerS.f
  have h1:=hl.1
  refine Ev.pos_ (by omega) (Ev.pos_ (by omega) ?_)
  have:=to_genQ (fun t:S113=>t.f1.length≤35184372088832) laws_toTowerS.l0 convTower z77 z113 (fun xs ys i r hi hy hn hq h=>?_) (fun xs ys=>Ev.step (f:=fun _=>some ys) (fun k=>?_) (Ev.now _)) l.length l 0 (by omega) (by omega) hl.2
  · simpa using this
  · refine Ev.step (fun k => by rw [laws_toTowerS.l0]) ?_
    refine Ev.pos_ (by omega) (Ev.pos_ (by omega) ?_)
    rw [rd_T113_nat]
    refine Ev.bind (toTower_ _ _ _ _ _ hq) ?_
    refine Ev.pos_ (by omega) ?_
    simp only [wi hi hn,Int.toNat_natCast];exact h
  · simp only [laws_toTowerS.l0];rw [if_neg (by omega)]
theorem toSkip_ (H:List Int) (T:List S113) (hH:H.length≤35184372088832) (hT:smallT T):Ev (fun k=>laws_toSkip.f k H T) (H,T.map convTower):=by
  unfold laws_toSkip.f
  exact Ev.bind (toIntS_ H hH) (Ev.bind (toTowerS_ T hT) (Ev.now _))
def skipB (H:List Int) (T:List S113):Prop:=(H.length * 8≤140737488351232 ∧ ∀ x ∈ H,(Lit.int .i64 x).wf=true)∧(T.length * 72≤140737488351232 ∧ ∀ t ∈ T,(t.f0.f0.size≤140737488351232∧(Lit.int .i64 t.f0.f1).wf=true∧(Lit.int .i64 t.f0.f2).wf=true∧t.f0.f3.size≤140737488351232)∧(t.f1.length * 8≤140737488351232 ∧ ∀ x ∈ t.f1,(Lit.int .i64 x).wf=true))
theorem skipB_small {H:List Int} {T:List S113} (h:skipB H T):H.length≤35184372088832∧smallT T:=by
  obtain ⟨⟨h1,_⟩,h2,h3⟩:=h
  refine ⟨by omega,by omega,fun t ht=>?_⟩
  have:=(h3 t ht).2.1
  omega
-- part eqSkip needs laws_eqSkip.f
theorem eqTower_refl (f0 f1 f2 f3) (l:List Int) (hl:l.length≤140737488351232):Ev (fun k=>laws_eqTower.f k f0 f1 f2 f3 l f0 f1 f2 f3 l) true:=by
  unfold laws_eqTower.f
  have e:laws_eqItem.f f0 f1 f2 f3 f0 f1 f2 f3=some true:=by simp [laws_eqItem.f]
  rw [e]
  exact Ev.some_ (Ev.pos_ rfl (Ev.bind (eqIntS_refl l hl) (Ev.pos_ rfl (Ev.now _))))
def smallI (T:List S77):Prop:=T.length≤140737488351232 ∧ ∀ t ∈ T,t.f1.length≤140737488351232
theorem eq_genQ {α:Type} (Q:α→Prop) (za:α) (E:Nat→List α→List α→Int→Option Bool)
    (hstep:∀ (xs:List α) (i:Nat),i < xs.length→xs.length≤140737488351232→Q (xs.getD i za)→Ev (fun k=>E k xs xs ((i + 1:Nat):Int)) true→Ev (fun k=>E k xs xs (i:Int)) true)
    (hend:∀ (xs:List α),Ev (fun k=>E k xs xs (xs.length:Int)) true) :
    ∀ (d:Nat) (xs:List α) (i:Nat),i + d=xs.length→xs.length≤140737488351232→(∀ x ∈ xs,Q x)→Ev (fun k=>E k xs xs (i:Int)) true:=by
  intro d
  induction d with
  | zero => intro xs i hi hl hq; obtain rfl : i = xs.length := by omega
            exact hend xs
  | succ d ih =>
    intro xs i hi hl hq
    refine hstep xs i (by omega) hl ?_ (ih xs (i + 1) (by omega) hl hq)
    rw [List.getD_eq_getElem?_getD,List.getElem?_eq_getElem (show i < xs.length by omega)]
    exact hq _ (List.getElem_mem _)
theorem eqTowerS_refl (l:List S77) (hl:smallI l):Ev (fun k=>laws_eqTowerS.f k l l) true:=by
  unfold laws_eqTowerS.f
  refine Ev.pos_ rfl (eq_genQ (fun t:S77=>t.f1.length≤140737488351232) z77 laws_eqTowerS.l0 (fun xs i hi hn hq h=>?_) (fun xs=>Ev.step (f:=fun _=>some true) (fun k=>?_) (Ev.now _)) l.length l 0 (by omega) hl.1 hl.2)
  · refine Ev.step (fun k => by rw [laws_eqTowerS.l0]) ?_
    refine Ev.pos_ (by omega) (Ev.pos_ (by omega) (Ev.pos_ (by omega) ?_))
    rw [rdT_nat,wi hi hn]
    exact Ev.bind (eqTower_refl _ _ _ _ _ hq) (Ev.pos_ rfl h)
  · simp only [laws_eqTowerS.l0];rw [if_neg (by omega)]
theorem eqSkip_refl (H:List Int) (T:List S77) (hH:H.length≤140737488351232) (hT:smallI T):Ev (fun k=>laws_eqSkip.f k H T H T) true:=by
  unfold laws_eqSkip.f
  exact Ev.bind (eqIntS_refl H hH) (Ev.pos_ rfl (Ev.bind (eqTowerS_refl T hT) (Ev.pos_ rfl (Ev.now _))))
-- part smallMap needs laws_toSkip.f, laws_eqSkip.f
theorem smallT_map {T:List S113} (hT:smallT T):smallI (T.map convTower):=by
  refine ⟨by rw [List.length_map];have:=hT.1;omega,fun t ht=>?_⟩
  obtain ⟨x,hx,rfl⟩:=List.mem_map.1 ht
  have:=hT.2 x hx
  show x.f1.length≤_
  omega
-- part markheldItemS needs laws_markItemS.f laws_heldItemS.f
def itemM (m:Int):S28:=⟨markT m,m + 1,m + 2,markT (m + 3)⟩
theorem rd_setI (xs:List S28) (i:Nat) (x:S28) (h:i < xs.length):rd_T28 (xs.set i x) (i:Int)=x:=by
  unfold rd_T28
  rw [Int.toNat_natCast,List.getD_eq_getElem?_getD,List.getElem?_set_self h];rfl
theorem markItemS_step (xs:List S28) (m:Int) (i:Nat) (r:Int × List S28) (hm:0 < m) (hB:m + 4≤4611686018427387904) (hi:i < xs.length) (hn:xs.length≤140737488351232)
    (h:Ev (fun k=>laws_markItemS.l0 k (xs.set i (itemM m)) (m + 4) ((i + 1:Nat):Int)) r):Ev (fun k=>laws_markItemS.l0 k xs m (i:Int)) r:=by
  have e1:wrap64 (m + 1)=m + 1:=w64 (by omega) (by omega)
  have e2:wrap64 (m + 1 + 1)=m + 2:=by rw [w64 (by omega) (by omega)];omega
  have e3:wrap64 (m + 2 + 1)=m + 3:=by rw [w64 (by omega) (by omega)];omega
  have e4:wrap64 (m + 3 + 1)=m + 4:=by rw [w64 (by omega) (by omega)];omega
  refine Ev.step (fun k=>by rw [laws_markItemS.l0]) (Ev.pos_ (by omega) (Ev.bind (markText_ hm (by omega)) ?_))
  refine Ev.pos_ (by omega) ?_
  simp only [Option.bind_some,Int.toNat_natCast,List.set_set,e1,e2,e3,e4]
  refine Ev.bind (markText_ (by omega) (by omega)) ?_
  simp only [rd_setI xs i _ hi,List.set_set]
  rw [wi hi hn]
  exact h
theorem heldItemS_step (xs:List S28) (m:Int) (i:Nat) (r:Int) (hm:0 < m) (hB:m + 4≤4611686018427387904) (hi:i < xs.length) (hn:xs.length≤140737488351232) (he:xs[i]? = some (itemM m))
    (h:Ev (fun k=>laws_heldItemS.l0 k xs (m + 4) ((i + 1:Nat):Int)) r):Ev (fun k=>laws_heldItemS.l0 k xs m (i:Int)) r:=by
  have e1:wrap64 (m + 1)=m + 1:=w64 (by omega) (by omega)
  have e2:wrap64 (m + 1 + 1)=m + 2:=by rw [w64 (by omega) (by omega)];omega
  have e3:wrap64 (m + 2 + 1)=m + 3:=by rw [w64 (by omega) (by omega)];omega
  have e4:wrap64 (m + 3 + 1)=m + 4:=by rw [w64 (by omega) (by omega)];omega
  have ei:rd_T28 xs (i:Int)=itemM m:=by unfold rd_T28;rw [Int.toNat_natCast];exact getD_of _ he
  refine Ev.step (fun k=>by rw [laws_heldItemS.l0]) (Ev.pos_ (by omega) (Ev.pos_ (by omega) (Ev.bind (markText_ hm (by omega)) ?_)))
  rw [ei,e1,e2,e3]
  refine Ev.pos_ rfl (Ev.pos_ rfl (Ev.pos_ rfl (Ev.bind (markText_ (by omega) (by omega)) (Ev.pos_ rfl ?_))))
  rw [e4,wi hi hn]
  exact h
theorem markheldItemS (l:List S28) (hl:l.length≤140737488351232):∃ r l',Ev (fun k=>laws_markItemS.f k l 1) (r,l')∧Ev (fun k=>laws_heldItemS.f k l' 1) r∧0≤r:=by
  refine ⟨1 + 4 * l.length,mkL itemM 4 l.length 1,?_,?_,by omega⟩
  · have := mark_gen laws_markItemS.l0 itemM 4 4611686018427387904 (by omega) markItemS_step (fun xs m => Ev.step (f := fun _ => some (m, xs)) (fun k => ?_) (Ev.now _)) l.length l 1 0 (by omega) (by omega) (by omega) hl
    · unfold laws_markItemS.f;simpa using this
    · simp only [laws_markItemS.l0];rw [if_neg (by omega)]
  · have := held_gen laws_heldItemS.l0 itemM 4 4611686018427387904 (by omega) heldItemS_step (fun xs m => Ev.step (f := fun _ => some m) (fun k => ?_) (Ev.now _)) l.length [] 1 (by omega) (by omega) (by simpa using hl)
    · unfold laws_heldItemS.f;simpa using this
    · simp only [laws_heldItemS.l0];rw [if_neg (by omega)]
-- part skipList needs impl_ListSkip.f spec_ListSkip.f
def itemsOf (T:List S77) (L:List Int):List S28:=L.map (fun j=>(rd_T77 T j).f0)
theorem impl_list_l0 (H:List Int) (T:List S77) (lv:Int) (h0:0≤lv) (hH:lv < (H.length:Int)):∀ (L:List Int) (a:Int) (out:List S28),Chain H T lv a L→out.length + L.length≤60→Ev (fun k=>impl_Skip_list.l0 k lv out (nxt H T lv a) H T) (out ++ itemsOf T L):=by
  intro L
  induction L with
  | nil =>
    intro a out hc _
    have e:nxt H T lv a = -1:=hc
    rw [e]
    refine Ev.step (fun k=>by rw [impl_Skip_list.l0]) ?_
    exact Ev.pos_ rfl (by simpa [itemsOf] using Ev.now _)
  | cons j L ih =>
    intro a out hc hl
    obtain ⟨e,hs,hc2⟩:=hc
    have hh:=hs.1
    rw [e]
    refine Ev.step (fun k=>by rw [impl_Skip_list.l0]) ?_
    have:=hh.1
    have hl':out.length + (L.length + 1)≤60:=by simpa using hl
    refine Ev.neg_ (by omega) (Ev.pos_ hh.1 (Ev.pos_ hh.2.1 (Ev.pos_ (by omega) ?_)))
    rw [impl_next h0 hH (.inr hh)]
    refine Ev.some_ ?_
    have h2:=ih j (out ++ [(rd_T77 T j).f0]) hc2 (by simp;omega)
    simpa [itemsOf] using h2
theorem spec_list_l0 (H:List Int) (T:List S77) (lv:Int) (h0:0≤lv) (hH:lv < (H.length:Int)):∀ (L:List Int) (a:Int) (out:List S28),Chain H T lv a L→out.length + L.length≤60→Ev (fun k=>spec_l4List.l0 k lv out (nxt H T lv a) H T) (out ++ itemsOf T L):=by
  intro L
  induction L with
  | nil =>
    intro a out hc _
    have e:nxt H T lv a = -1:=hc
    rw [e]
    refine Ev.step (fun k=>by rw [spec_l4List.l0]) ?_
    exact Ev.neg_ (by omega) (by simpa [itemsOf] using Ev.now _)
  | cons j L ih =>
    intro a out hc hl
    obtain ⟨e,hs,hc2⟩:=hc
    have hh:=hs.1
    rw [e]
    refine Ev.step (fun k=>by rw [spec_l4List.l0]) ?_
    have:=hh.1
    have hl':out.length + (L.length + 1)≤60:=by simpa using hl
    refine Ev.pos_ (by omega) (Ev.pos_ hh.1 (Ev.pos_ hh.2.1 (Ev.pos_ (by omega) (Ev.pos_ h0 (Ev.pos_ hh.2.2 ?_)))))
    have h2:=ih j (out ++ [(rd_T77 T j).f0]) hc2 (by simp;omega)
    have en:nxt H T lv j=rd (rd_T77 T j).f1 lv:=by unfold nxt;rw [if_neg (by omega)]
    rw [en] at h2
    simpa [itemsOf] using h2
theorem list_both (H:List Int) (T:List S77) (a:Int) (hl:T.length≤140737488351232):∃ (xs:List S28) (b:Bool),xs.length≤60∧Ev (fun k=>spec_ListSkip.f k H T a) (xs,b)∧Ev (fun k=>impl_ListSkip.f k H T a) (xs,b):=by
  unfold spec_ListSkip.f impl_ListSkip.f
  by_cases hg:goodSkipV H T=true
  · have hp := goodSkipV_iff.1 hg
    by_cases hi:inB a 0 4=true
    · have hr := inB_iff.1 hi
      have hlen:=hp.1
      obtain ⟨L,hc,hn⟩:=hp.2.2.2 a.toNat (by omega)
      rw [show ((a.toNat:Nat):Int)=a by omega] at hc hn
      have hle:L.length≤60:=by rw [hn];exact Nat.le_trans (cntHi_le _ _) hp.2.1
      refine ⟨itemsOf T L,true,by simpa [itemsOf] using hle,Ev.bind (spec_goodSkip H T hl) (Ev.pos_ hg ?_),Ev.bind (impl_goodSkip H T hl) (Ev.pos_ hg ?_)⟩
      · rw [spec_in, hi]
        refine Ev.some_ (Ev.step (fun k=>by rw [spec_ListSkip.j0]) ?_)
        refine Ev.neg_ (by decide) ?_
        have:=spec_list_l0 H T a hr.1 (by omega) L (-1) [] hc (by simpa using hle)
        unfold spec_l4List.f
        refine Ev.bind (Ev.pos_ hr.1 (Ev.pos_ (by omega) ?_)) (Ev.now _)
        have en:nxt H T a (-1)=rd H a:=by unfold nxt;rw [if_pos (by omega)]
        rw [en] at this
        simpa using this
      · rw [impl_in_, hi]
        refine Ev.some_ (Ev.step (fun k=>by rw [impl_ListSkip.j0]) ?_)
        refine Ev.neg_ (by decide) ?_
        have:=impl_list_l0 H T a hr.1 (by omega) L (-1) [] hc (by simpa using hle)
        unfold impl_Skip_list.f
        refine Ev.bind ?_ (Ev.now _)
        rw [impl_next hr.1 (by omega) (.inl rfl)]
        exact Ev.some_ (by simpa using this)
    · refine ⟨[], false, by simp, Ev.bind (spec_goodSkip H T hl) (Ev.pos_ hg ?_), Ev.bind (impl_goodSkip H T hl) (Ev.pos_ hg ?_)⟩
      · rw [spec_in, Bool.eq_false_iff.mpr hi]
        refine Ev.some_ (Ev.step (fun k=>by rw [spec_ListSkip.j0]) ?_)
        exact Ev.pos_ rfl (Ev.now _)
      · rw [impl_in_, Bool.eq_false_iff.mpr hi]
        refine Ev.some_ (Ev.step (fun k=>by rw [impl_ListSkip.j0]) ?_)
        exact Ev.pos_ rfl (Ev.now _)
  · refine ⟨[], false, by simp, Ev.bind (spec_goodSkip H T hl) (Ev.neg_ hg ?_), Ev.bind (impl_goodSkip H T hl) (Ev.neg_ hg ?_)⟩
    · refine Ev.step (fun k => by rw [spec_ListSkip.j0]) ?_
      exact Ev.pos_ rfl (Ev.now _)
    · refine Ev.step (fun k => by rw [impl_ListSkip.j0]) ?_
      exact Ev.pos_ rfl (Ev.now _)
-- part szSkipB needs laws_szSkip.f laws_markSkip.f
def lenL (T:List S113):Nat:=(T.map (fun t=>t.f1.length)).sum
def lenI (T:List S77):Nat:=(T.map (fun t=>t.f1.length)).sum
theorem lenI_conv (T:List S113):lenI (T.map convTower)=lenL T:=by unfold lenI lenL;rw [List.map_map];rfl
theorem szItem_b (f0 f1 f2 f3) (m:Int) (h0:0≤m) (hm:m≤1048576) (s0:f0.size≤140737488351232) (s3:f3.size≤140737488351232):∃ r,laws_szItem.f f0 f1 f2 f3 m=some r∧r≤m:=by
  unfold laws_szItem.f
  rw [w64 (n:=m - (f0.size:Int)) (by omega) (by omega)]
  by_cases h:m - (f0.size:Int) < 0
  · exact ⟨-1,by rw [if_pos h],by omega⟩
  · rw [if_neg h, w64 (n := m - (f0.size : Int) - (f3.size : Int)) (by omega) (by omega)]
    by_cases h2:m - (f0.size:Int) - (f3.size:Int) < 0
    · exact ⟨-1,by rw [if_pos h2],by omega⟩
    · exact ⟨_,by rw [if_neg h2],by omega⟩
theorem szIntS_b (l:List Int) (m:Int) (h0:0≤m) (hm:m≤1048576) (hl:l.length≤140737488351232):∃ r,laws_szIntS.f l m=some r∧(0≤r→r + l.length≤m)∧r≤m:=by
  unfold laws_szIntS.f
  rw [w64 (n:=m - (l.length:Int)) (by omega) (by omega)]
  by_cases h:m - (l.length:Int) < 0
  · exact ⟨-1,by rw [if_pos h],by omega,by omega⟩
  · exact ⟨_,by rw [if_neg h],by omega,by omega⟩
theorem szTower_b (f0 f1 f2 f3) (l:List Int) (m:Int) (h0:0≤m) (hm:m≤1048576) (s0:f0.size≤140737488351232) (s3:f3.size≤140737488351232) (hl:l.length≤140737488351232):∃ r,laws_szTower.f f0 f1 f2 f3 l m=some r∧(0≤r→r + l.length≤m):=by
  unfold laws_szTower.f
  obtain ⟨r,hr,hrm⟩:=szItem_b f0 f1 f2 f3 m h0 hm s0 s3
  rw [hr,Option.bind_some]
  by_cases h:r < 0
  · exact ⟨-1,by rw [if_pos h],by omega⟩
  · obtain ⟨q, hq, hq1, _⟩ := szIntS_b l r (by omega) (by omega) hl
    rw [if_neg h,hq,Option.bind_some]
    by_cases h2:q < 0
    · exact ⟨-1,by rw [if_pos h2],by omega⟩
    · exact ⟨q,by rw [if_neg h2],fun h3=>by have:=hq1 h3;omega⟩
def smallS (t:S113):Prop:=t.f0.f0.size≤140737488351232∧t.f0.f3.size≤140737488351232∧t.f1.length≤140737488351232
theorem lenL_drop (T:List S113) (i:Nat) (hi:i < T.length):lenL (T.drop i)=(T.getD i z113).f1.length + lenL (T.drop (i + 1)):=by
  unfold lenL
  rw [List.drop_eq_getElem_cons hi,zC,List.sum_cons,List.getD_eq_getElem?_getD,List.getElem?_eq_getElem hi];rfl
theorem lenI_drop (T:List S77) (i:Nat) (hi:i < T.length):lenI (T.drop i)=(T.getD i z77).f1.length + lenI (T.drop (i + 1)):=by
  unfold lenI
  rw [List.drop_eq_getElem_cons hi,zC,List.sum_cons,List.getD_eq_getElem?_getD,List.getElem?_eq_getElem hi];rfl
theorem szTowerS_b (T:List S113) (hn:T.length≤140737488351232) (hT:∀ t ∈ T,smallS t):∀ (d i:Nat) (m:Int),i + d=T.length→0≤m→m≤1048576 → ∃ r,Ev (fun k=>laws_szTowerS.l0 k T m (i:Int)) r∧(0≤r→r + lenL (T.drop i)≤m):=by
  intro d
  induction d with
  | zero =>
    intro i m hi h0 hm
    refine ⟨m,Ev.step (fun k=>by rw [laws_szTowerS.l0]) (Ev.neg_ (by omega) (Ev.now _)),fun _=>?_⟩
    rw [List.drop_eq_nil_of_le (by omega)];simp [lenL]
  | succ d ih =>
    intro i m hi h0 hm
    have hs:smallS (T.getD i z113):=by
      rw [List.getD_eq_getElem?_getD,List.getElem?_eq_getElem (show i < T.length by omega)]
      exact hT _ (List.getElem_mem _)
    obtain ⟨r,hr,hb⟩:=szTower_b (T.getD i z113).f0.f0 (T.getD i z113).f0.f1 (T.getD i z113).f0.f2 (T.getD i z113).f0.f3 (T.getD i z113).f1 m h0 hm hs.1 hs.2.1 hs.2.2
    have hd:=lenL_drop T i (by omega)
    by_cases h:r < 0
    · refine ⟨-1, Ev.step (fun k => by rw [laws_szTowerS.l0]) (Ev.pos_ (by omega) (Ev.pos_ (by omega) ?_)), by omega⟩
      rw [rd_T113_nat,hr]
      exact Ev.some_ (Ev.pos_ h (Ev.now _))
    · have hb' := hb (by omega)
      obtain ⟨q,hq,hq1⟩:=ih (i + 1) r (by omega) (by omega) (by omega)
      refine ⟨q,Ev.step (fun k=>by rw [laws_szTowerS.l0]) (Ev.pos_ (by omega) (Ev.pos_ (by omega) ?_)),fun h2=>by have:=hq1 h2;omega⟩
      rw [rd_T113_nat,hr]
      refine Ev.some_ (Ev.neg_ h ?_)
      rw [wi (show i < T.length by omega) hn];exact hq
theorem szSkip_b (H:List Int) (T:List S113) (hH:H.length≤140737488351232) (hn:T.length≤140737488351232) (hT:∀ t ∈ T,smallS t):∃ r,Ev (fun k=>laws_szSkip.f k H T 1048576) r∧(0≤r→H.length + T.length + lenL T≤1048576):=by
  unfold laws_szSkip.f
  obtain ⟨r,hr,hr1,hr2⟩:=szIntS_b H 1048576 (by omega) (by omega) hH
  rw [hr]
  by_cases h:r < 0
  · exact ⟨-1,Ev.some_ (Ev.pos_ h (Ev.now _)),by omega⟩
  · have hr1' := hr1 (by omega)
    have hS:∃ q,Ev (fun k=>laws_szTowerS.f k T r) q∧(0≤q→H.length + T.length + lenL T≤1048576):=by
      unfold laws_szTowerS.f
      rw [w64 (n:=r - (T.length:Int)) (by omega) (by omega)]
      by_cases h2:r - (T.length:Int) < 0
      · exact ⟨-1,Ev.pos_ h2 (Ev.now _),by omega⟩
      · obtain ⟨q, hq, hq1⟩ := szTowerS_b T hn hT T.length 0 (r - (T.length : Int)) (by omega) (by omega) (by omega)
        refine ⟨q,Ev.neg_ h2 (by simpa using hq),fun h3=>?_⟩
        have:=hq1 h3
        rw [List.drop_zero] at this
        omega
    obtain ⟨q,hq,hq1⟩:=hS
    by_cases h3:q < 0
    · exact ⟨-1,Ev.some_ (Ev.neg_ h (Ev.bind hq (Ev.pos_ h3 (Ev.now _)))),by omega⟩
    · exact ⟨q,Ev.some_ (Ev.neg_ h (Ev.bind hq (Ev.neg_ h3 (Ev.now _)))),hq1⟩
theorem rd_setT (xs:List S77) (i:Nat) (x:S77) (h:i < xs.length):rd_T77 (xs.set i x) (i:Int)=x:=by
  rw [rdT_nat,List.getD_eq_getElem?_getD,List.getElem?_set_self h];rfl
theorem markTowerS_ex:∀ (d:Nat) (xs:List S77) (m:Int) (i:Nat),i + d=xs.length→xs.length≤1048576→0 < m→m + 4 * (d:Int) + lenI (xs.drop i)≤1000000000 → ∃ r,Ev (fun k=>laws_markTowerS.l0 k xs m (i:Int)) r∧m≤r.1:=by
  intro d
  induction d with
  | zero =>
    intro xs m i hi hn hm hB
    exact ⟨(m,xs),Ev.step (fun k=>by rw [laws_markTowerS.l0]) (Ev.neg_ (by omega) (Ev.now _)),Int.le_refl _⟩
  | succ d ih =>
    intro xs m i hi hn hm hB
    have hd:=lenI_drop xs i (by omega)
    have e3:wrap64 (wrap64 (wrap64 (m + 1) + 1) + 1)=m + 3:=by rw [w64 (n:=m + 1) (by omega) (by omega),w64 (n:=m + 1 + 1) (by omega) (by omega),w64 (by omega) (by omega)];omega
    have e4:wrap64 (wrap64 (wrap64 (wrap64 (m + 1) + 1) + 1) + 1)=m + 4:=by rw [e3,w64 (by omega) (by omega)];omega
    have hg:=markIntS_gen (xs.getD i z77).f1 (m + 4) (by omega) (by omega) (by omega)
    obtain ⟨r,hr,hrm⟩:=ih (xs.set i ⟨⟨markT m,wrap64 (m + 1),wrap64 (wrap64 (m + 1) + 1),markT (m + 3)⟩,mkL (fun m=>m) 1 (xs.getD i z77).f1.length (m + 4)⟩) (m + 4 + 1 * (xs.getD i z77).f1.length) (i + 1) (by simp;omega) (by simpa using hn) (by omega) (by rw [List.drop_set_of_lt (by omega)];omega)
    refine ⟨r,Ev.step (fun k=>by rw [laws_markTowerS.l0]) (Ev.pos_ (by omega) (Ev.bind (markText_ hm (by omega)) ?_)),by omega⟩
    refine Ev.pos_ (by omega) ?_
    simp only [Option.bind_some,Int.toNat_natCast,List.set_set,e4,e3]
    refine Ev.bind (markText_ (by omega) (by omega)) ?_
    have e5:wrap64 (m + 3 + 1)=m + 4:=by rw [w64 (by omega) (by omega)];omega
    simp only [rd_setT xs i _ (show i < xs.length by omega),List.set_set,e5]
    rw [rdT_nat]
    refine Ev.bind hg ?_
    rw [wi (show i < xs.length by omega) (by omega)]
    exact hr
theorem markSkip_ (H:List Int) (T:List S77) (hb:H.length + T.length + lenI T≤1048576):∃ r,Ev (fun k=>laws_markSkip.f k H T 1) r∧0≤r:=by
  unfold laws_markSkip.f
  have h1:=markIntS_gen H 1 (by omega) (by omega) (by omega)
  obtain ⟨r,hr,hm⟩:=markTowerS_ex T.length T (1 + 1 * H.length) 0 (by omega) (by omega) (by omega) (by rw [List.drop_zero];omega)
  have hr':Ev (fun k=>laws_markTowerS.f k T (1 + 1 * H.length)) r:=by unfold laws_markTowerS.f;simpa using hr
  exact ⟨r.1,Ev.bind h1 (Ev.bind hr' (Ev.now _)),by omega⟩
theorem FnExactListSkip (H:List Int) (T:List S113) (a:Int) (hb:skipB H T) (_:(Lit.int .i64 a).wf=true):∃ k,laws_FnExactListSkip.f k H T a=some true:=by
  obtain ⟨hH,hT⟩:=skipB_small hb
  have hT1:=hT.1
  apply Ev.rounds (r:=true)
  have hm:=smallT_map hT
  have ht:=toSkip_ H T hH hT
  obtain ⟨r,hr,hr1⟩:=szSkip_b H T (by omega) (by omega) (fun t h=>⟨(hb.2.2 t h).1.1,(hb.2.2 t h).1.2.2.2,by have:=(hb.2.2 t h).2.1;omega⟩)
  obtain ⟨xs,b,hx,hv1,hv2⟩:=list_both H (T.map convTower) a hm.1
  obtain ⟨q,xs',hq1,hq2,hq0⟩:=markheldItemS xs (by omega)
  have hxx:=eqItemS_refl xs (by omega)
  unfold laws_FnExactListSkip.f
  refine Ev.bind hr (Ev.ite_ (fun _=>Ev.now _) (fun hneg=>?_))
  obtain ⟨m,hm1,hm0⟩:=markSkip_ H (T.map convTower) (by rw [lenI_conv,List.length_map];exact hr1 (by omega))
  refine Ev.bind ht (Ev.bind hv1 (Ev.bind ht (Ev.bind hv2 (Ev.bind hxx (Ev.pos_ rfl ?_)))))
  simp only [bne_self_eq_false]
  refine Ev.step (fun k=>by rw [laws_FnExactListSkip.j0]) ?_
  refine Ev.neg_ (by decide) (Ev.bind ht (Ev.bind (eqSkip_refl H _ (by omega) hm) (Ev.pos_ rfl (Ev.bind hm1 (Ev.neg_ (by omega) (Ev.bind hxx (Ev.pos_ rfl ?_)))))))
  simp only [bne_self_eq_false]
  refine Ev.step (fun k=>by rw [laws_FnExactListSkip.j1]) ?_
  refine Ev.neg_ (by decide) (Ev.bind hq1 (Ev.bind hq2 (Ev.neg_ (by omega) (Ev.pos_ rfl (Ev.bind ht (Ev.bind hv2 (Ev.bind hxx (Ev.pos_ rfl ?_))))))))
  simp only [bne_self_eq_false]
  refine Ev.step (fun k=>by rw [laws_FnExactListSkip.j2]) ?_
  exact Ev.neg_ (by decide) (Ev.bind hq2 (Ev.neg_ (by omega) (Ev.pos_ rfl (Ev.now _))))
end Go.Proofs.YtffjlpphcjfdgaaDoor.Pure
