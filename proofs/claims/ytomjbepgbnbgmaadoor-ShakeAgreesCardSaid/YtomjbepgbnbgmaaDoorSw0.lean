/- Packed: Vals, Mem, Plan, Run, Int, Step, Sl, Arr, Facts, More, Fe, Builds, Sha0, Fork, OwnD, Aes0, Aes1, Aes7, AesK, as far as shakeWordsCard_holds, shakeAgreesCard_holds needs them. No conditions but those that stand in the statements. -/
import Derived.WalkKit
import Derived.OrdersHeld
import Derived.Deep.Quiet
import Derived.Tactics2
import Derived.KernelRfl
import Derived.LaidEql
import Derived.Laws.BytesArg
import Derived.ChangeKeysEq
import Derived.Test.YtomjbepgbnbgmaaDoorProg
import Derived.Laws.Externs
set_option linter.unusedSimpArgs false
set_option linter.unusedVariables false
namespace Go.Proofs.YtomjbepgbnbgmaaDoor
open Go
abbrev BV (b:Bool):Value:= .bool b
abbrev bb (n:Int):Value:= .int .i64 n
abbrev PT (b o:Nat):Value:= .pointer (some ⟨b,o,none⟩)
def fl (P:Program) (op:BinOp) (t:TypeId) (x y:Operand) (vx vy v:Value):Prop:=∀w,(do eqGuard op t x y vx vy;binOp op t vx vy:Sem Value).run P w= .ok v w
def yv (P:Program) (s d:TypeId) (vx v:Value):Prop:=∀w,(convert s d vx).run P w= .ok v w
theorem g8 (P:Program) (op:BinOp) (t:TypeId) (x y:Operand) (k:IntKind) (m:Int) (v:Value) (w:World):(eqGuard op t x y (.int k m) v).run P w= .ok () w:=by
  unfold eqGuard;cases op<;>rfl
theorem nt (P:Program) (op:BinOp) (t:TypeId) (x y:Operand) (b:Bool) (v:Value) (w:World):(eqGuard op t x y (.bool b) v).run P w= .ok () w:=by
  unfold eqGuard;cases op<;>rfl
theorem mm (P:Program) (op:BinOp) (t:TypeId) (x y:Operand) (b:ByteArray) (v:Value) (w:World):(eqGuard op t x y (.string b) v).run P w= .ok () w:=by
  unfold eqGuard;cases op<;>rfl
theorem lV (P:Program) (op:BinOp) (t:TypeId) (x y:Operand) (b:Option Addr) (v:Value) (w:World):(eqGuard op t x y (.pointer b) v).run P w= .ok () w:=by
  unfold eqGuard;cases op<;>rfl
theorem a_ {P:Program} {op:BinOp} {t:TypeId} {x y:Operand} {k:IntKind} {m:Int} {vy v:Value} (h:∀w,(binOp op t (.int k m) vy).run P w= .ok v w):fl P op t x y (.int k m) vy v:=fun w=>by
  rw[Sem.run_bind,g8];exact h w
theorem tz {P:Program} {op:BinOp} {t:TypeId} {x y:Operand} {b:Bool} {vy v:Value} (h:∀w,(binOp op t (.bool b) vy).run P w= .ok v w):fl P op t x y (.bool b) vy v:=fun w=>by
  rw[Sem.run_bind,nt];exact h w
theorem jb {P:Program} {op:BinOp} {t:TypeId} {x y:Operand} {b:ByteArray} {vy v:Value} (h:∀w,(binOp op t (.string b) vy).run P w= .ok v w):fl P op t x y (.string b) vy v:=fun w=>by
  rw[Sem.run_bind,mm];exact h w
theorem kO {P:Program} {op:BinOp} {t:TypeId} {x y:Operand} {b:Option Addr} {vy v:Value} (h:∀w,(binOp op t (.pointer b) vy).run P w= .ok v w):fl P op t x y (.pointer b) vy v:=fun w=>by
  rw[Sem.run_bind,lV];exact h w
section
variable {P : Program} {t ty : TypeId} {x y : Operand}
theorem eh (w n:Nat):BitVec.ofInt w (n:Int)=BitVec.ofNat w n:=by
  apply BitVec.eq_of_toNat_eq;simp
abbrev V8 (x:UInt8):Value:= .int .u8 ((x.toNat:Nat):Int)
theorem hJ (n:Nat):IntKind.u8.wrap (n:Int)=((n%256:Nat):Int):=by simp[IntKind.wrap,IntKind.bits,IntKind.signed]
theorem i4 (x:UInt8):x.toNat<256:=x.toNat_lt
theorem ck (a b:UInt8):fl P .xor t x y (V8 a) (V8 b) (V8 (a^^^b)):=a_ fun w=>by
  simp only[binOp,Op.intBits,eh]
  have h:(IntKind.u8.wrap (((BitVec.ofNat 8 a.toNat)^^^(BitVec.ofNat 8 b.toNat)).toNat:Int))=(((a^^^b).toNat:Nat):Int):=by
    rw[hJ];congr 1;have ha:=i4 a;have hb:=i4 b;rw[BitVec.toNat_xor,BitVec.toNat_ofNat,BitVec.toNat_ofNat,Nat.mod_eq_of_lt ha,Nat.mod_eq_of_lt hb,UInt8.toNat_xor];exact Nat.mod_eq_of_lt (Nat.xor_lt_two_pow (n:=8) ha hb)
  show Result.ok (Value.int .u8 (IntKind.u8.wrap (((BitVec.ofNat 8 a.toNat)^^^(BitVec.ofNat 8 b.toNat)).toNat:Int))) w=_;rw[h]
theorem mg (a b:UInt8):fl P .and t x y (V8 a) (V8 b) (V8 (a&&&b)):=a_ fun w=>by
  simp only[binOp,Op.intBits,eh]
  have h:(IntKind.u8.wrap (((BitVec.ofNat 8 a.toNat)&&&(BitVec.ofNat 8 b.toNat)).toNat:Int))=(((a&&&b).toNat:Nat):Int):=by
    rw[hJ];congr 1;have ha:=i4 a;have hb:=i4 b;rw[BitVec.toNat_and,BitVec.toNat_ofNat,BitVec.toNat_ofNat,Nat.mod_eq_of_lt ha,Nat.mod_eq_of_lt hb,UInt8.toNat_and];exact Nat.mod_eq_of_lt (Nat.and_lt_two_pow (n:=8) _ hb)
  show Result.ok (Value.int .u8 (IntKind.u8.wrap (((BitVec.ofNat 8 a.toNat)&&&(BitVec.ofNat 8 b.toNat)).toNat:Int))) w=_;rw[h]
theorem qs (a b:UInt8):fl P .or t x y (V8 a) (V8 b) (V8 (a|||b)):=a_ fun w=>by
  simp only[binOp,Op.intBits,eh]
  have h:(IntKind.u8.wrap (((BitVec.ofNat 8 a.toNat)|||(BitVec.ofNat 8 b.toNat)).toNat:Int))=(((a|||b).toNat:Nat):Int):=by
    rw[hJ];congr 1;have ha:=i4 a;have hb:=i4 b;rw[BitVec.toNat_or,BitVec.toNat_ofNat,BitVec.toNat_ofNat,Nat.mod_eq_of_lt ha,Nat.mod_eq_of_lt hb,UInt8.toNat_or];exact Nat.mod_eq_of_lt (Nat.or_lt_two_pow (n:=8) ha hb)
  show Result.ok (Value.int .u8 (IntKind.u8.wrap (((BitVec.ofNat 8 a.toNat)|||(BitVec.ofNat 8 b.toNat)).toNat:Int))) w=_;rw[h]
theorem uz (a b:UInt8):fl P .add t x y (V8 a) (V8 b) (V8 (a+b)):=a_ fun w=>by
  show Result.ok (Value.int .u8 (IntKind.u8.wrap ((a.toNat:Int)+(b.toNat:Int)))) w=_;rw[show((a.toNat:Int)+(b.toNat:Int))=((a.toNat+b.toNat:Nat):Int)by simp,hJ];show Result.ok (Value.int .u8 ((((a.toNat+b.toNat)%256:Nat)):Int)) w=Result.ok (Value.int .u8 (((a+b).toNat:Nat):Int)) w;rw[UInt8.toNat_add]
theorem ve (a b:UInt8):fl P .mul t x y (V8 a) (V8 b) (V8 (a*b)):=a_ fun w=>by
  show Result.ok (Value.int .u8 (IntKind.u8.wrap ((a.toNat:Int)*(b.toNat:Int)))) w=_;rw[show((a.toNat:Int)*(b.toNat:Int))=((a.toNat*b.toNat:Nat):Int)by simp,hJ];show Result.ok (Value.int .u8 ((((a.toNat*b.toNat)%256:Nat)):Int)) w=Result.ok (Value.int .u8 (((a*b).toNat:Nat):Int)) w;rw[UInt8.toNat_mul]
theorem pP (a:UInt8) (k:IntKind) (c:Nat):fl P .shl t x y (V8 a) (.int k (c:Int)) (V8 (if c<8 then a<<<UInt8.ofNat c else 0)):=a_ fun w=>by
  have h0:¬((c:Int)<0):=by omega
  show((Op.shift .shl .u8 (a.toNat:Int) k (c:Int))).run P w=_
  have h:IntKind.u8.wrap ((a.toNat:Int)*2^(min c 8))=(((if c<8 then a<<<UInt8.ofNat c else 0).toNat:Nat):Int):=by
    have e:(a.toNat:Int)*2^(min c 8)=((a.toNat*2^(min c 8):Nat):Int):=by simp
    rw[e,hJ];congr 1;split
    · rename_i hc
      rw[Nat.min_eq_left (by omega),UInt8.toNat_shiftLeft,UInt8.toNat_ofNat',Nat.shiftLeft_eq];have hm:c%256%8=c:=by rw[Nat.mod_eq_of_lt (a:=c) (b:=256) (by omega)];exact Nat.mod_eq_of_lt hc
      simp only[Nat.reducePow,hm]
    · rename_i hc
      rw[Nat.min_eq_right (by omega)];simp
  simp only[Op.shift,h0,if_false,Int.toNat_natCast,IntKind.bits,h];rfl
theorem me (a:UInt8) (k:IntKind) (c:Nat):fl P .shr t x y (V8 a) (.int k (c:Int)) (V8 (if c<8 then a>>>UInt8.ofNat c else 0)):=a_ fun w=>by
  have h0:¬((c:Int)<0):=by omega
  show((Op.shift .shr .u8 (a.toNat:Int) k (c:Int))).run P w=_
  have h:Int.fdiv (a.toNat:Int) (2^(min c 8))=(((if c<8 then a>>>UInt8.ofNat c else 0).toNat:Nat):Int):=by
    have e:Int.fdiv (a.toNat:Int) (2^(min c 8))=((a.toNat/2^(min c 8):Nat):Int):=by
      rw[show((2:Int)^(min c 8))=((2^(min c 8):Nat):Int)by simp];rw[Int.natCast_ediv,Int.fdiv_eq_ediv_of_nonneg _ (Int.natCast_nonneg _)]
    rw[e];congr 1;split
    · rename_i hc
      rw[Nat.min_eq_left (by omega),UInt8.toNat_shiftRight,UInt8.toNat_ofNat',Nat.shiftRight_eq_div_pow];have hm:c%256%8=c:=by rw[Nat.mod_eq_of_lt (a:=c) (b:=256) (by omega)];exact Nat.mod_eq_of_lt hc
      simp only[Nat.reducePow,hm]
    · rename_i hc
      rw[Nat.min_eq_right (by omega)];have:=i4 a;simp only[Nat.reducePow]at this⊢;rw[Nat.div_eq_of_lt this];rfl
  simp only[Op.shift,h0,if_false,Int.toNat_natCast,IntKind.bits,h];rfl
theorem sT (c:Nat) (s:UInt8) (hc:c<8) (hs:UInt8.ofNat c=s) (a:UInt8) {k:IntKind}:fl P .shl t x y (V8 a) (.int k (c:Int)) (V8 (a<<<s)):=by
  have h:=pP (P:=P) (t:=t) (x:=x) (y:=y) a k c;rw[if_pos hc,hs]at h;exact h
theorem lk (c:Nat) (s:UInt8) (hc:c<8) (hs:UInt8.ofNat c=s) (a:UInt8) {k:IntKind}:fl P .shr t x y (V8 a) (.int k (c:Int)) (V8 (a>>>s)):=by
  have h:=me (P:=P) (t:=t) (x:=x) (y:=y) a k c;rw[if_pos hc,hs]at h;exact h
theorem eP (a b:UInt8):fl P .eql t x y (V8 a) (V8 b) (BV (a==b)):=a_ fun w=>by
  show Result.ok (Value.bool ((a.toNat:Int)==(b.toNat:Int))) w=_;have h:((a.toNat:Int)==(b.toNat:Int))=(a==b):=by rw[Bool.eq_iff_iff];simp[←UInt8.toNat_inj];omega
  rw[h]
theorem j6 (a b:UInt8):fl P .gtr t x y (V8 a) (V8 b) (BV (decide (a>b))):=a_ fun w=>by
  show Result.ok (Value.bool (decide ((a.toNat:Int)>(b.toNat:Int)))) w=_;have h:(decide ((a.toNat:Int)>(b.toNat:Int)))=(decide (a>b)):=by rw[Bool.eq_iff_iff];simp[GT.gt,GE.ge,UInt8.lt_iff_toNat_lt,UInt8.le_iff_toNat_le]
  rw[h]
abbrev gV (x:UInt32):Value:= .int .u32 ((x.toNat:Nat):Int)
theorem iI (n:Nat):IntKind.u32.wrap (n:Int)=((n%4294967296:Nat):Int):=by simp[IntKind.wrap,IntKind.bits,IntKind.signed]
theorem mj (x:UInt32):x.toNat<4294967296:=x.toNat_lt
theorem dJ (a b:UInt32):fl P .xor t x y (gV a) (gV b) (gV (a^^^b)):=a_ fun w=>by
  simp only[binOp,Op.intBits,eh]
  have h:(IntKind.u32.wrap (((BitVec.ofNat 32 a.toNat)^^^(BitVec.ofNat 32 b.toNat)).toNat:Int))=(((a^^^b).toNat:Nat):Int):=by
    rw[iI];congr 1;have ha:=mj a;have hb:=mj b;rw[BitVec.toNat_xor,BitVec.toNat_ofNat,BitVec.toNat_ofNat,Nat.mod_eq_of_lt ha,Nat.mod_eq_of_lt hb,UInt32.toNat_xor];exact Nat.mod_eq_of_lt (Nat.xor_lt_two_pow (n:=32) ha hb)
  show Result.ok (Value.int .u32 (IntKind.u32.wrap (((BitVec.ofNat 32 a.toNat)^^^(BitVec.ofNat 32 b.toNat)).toNat:Int))) w=_;rw[h]
theorem kS (a b:UInt32):fl P .and t x y (gV a) (gV b) (gV (a&&&b)):=a_ fun w=>by
  simp only[binOp,Op.intBits,eh]
  have h:(IntKind.u32.wrap (((BitVec.ofNat 32 a.toNat)&&&(BitVec.ofNat 32 b.toNat)).toNat:Int))=(((a&&&b).toNat:Nat):Int):=by
    rw[iI];congr 1;have ha:=mj a;have hb:=mj b;rw[BitVec.toNat_and,BitVec.toNat_ofNat,BitVec.toNat_ofNat,Nat.mod_eq_of_lt ha,Nat.mod_eq_of_lt hb,UInt32.toNat_and];exact Nat.mod_eq_of_lt (Nat.and_lt_two_pow (n:=32) _ hb)
  show Result.ok (Value.int .u32 (IntKind.u32.wrap (((BitVec.ofNat 32 a.toNat)&&&(BitVec.ofNat 32 b.toNat)).toNat:Int))) w=_;rw[h]
theorem ez (a b:UInt32):fl P .or t x y (gV a) (gV b) (gV (a|||b)):=a_ fun w=>by
  simp only[binOp,Op.intBits,eh]
  have h:(IntKind.u32.wrap (((BitVec.ofNat 32 a.toNat)|||(BitVec.ofNat 32 b.toNat)).toNat:Int))=(((a|||b).toNat:Nat):Int):=by
    rw[iI];congr 1;have ha:=mj a;have hb:=mj b;rw[BitVec.toNat_or,BitVec.toNat_ofNat,BitVec.toNat_ofNat,Nat.mod_eq_of_lt ha,Nat.mod_eq_of_lt hb,UInt32.toNat_or];exact Nat.mod_eq_of_lt (Nat.or_lt_two_pow (n:=32) ha hb)
  show Result.ok (Value.int .u32 (IntKind.u32.wrap (((BitVec.ofNat 32 a.toNat)|||(BitVec.ofNat 32 b.toNat)).toNat:Int))) w=_;rw[h]
theorem cU (a b:UInt32):fl P .add t x y (gV a) (gV b) (gV (a+b)):=a_ fun w=>by
  show Result.ok (Value.int .u32 (IntKind.u32.wrap ((a.toNat:Int)+(b.toNat:Int)))) w=_;rw[show((a.toNat:Int)+(b.toNat:Int))=((a.toNat+b.toNat:Nat):Int)by simp,iI];show Result.ok (Value.int .u32 ((((a.toNat+b.toNat)%4294967296:Nat)):Int)) w=Result.ok (Value.int .u32 (((a+b).toNat:Nat):Int)) w;rw[UInt32.toNat_add]
theorem n4 (a:UInt32) (k:IntKind) (c:Nat):fl P .shl t x y (gV a) (.int k (c:Int)) (gV (if c<32 then a<<<UInt32.ofNat c else 0)):=a_ fun w=>by
  have h0:¬((c:Int)<0):=by omega
  show((Op.shift .shl .u32 (a.toNat:Int) k (c:Int))).run P w=_
  have h:IntKind.u32.wrap ((a.toNat:Int)*2^(min c 32))=(((if c<32 then a<<<UInt32.ofNat c else 0).toNat:Nat):Int):=by
    have e:(a.toNat:Int)*2^(min c 32)=((a.toNat*2^(min c 32):Nat):Int):=by simp
    rw[e,iI];congr 1;split
    · rename_i hc
      rw[Nat.min_eq_left (by omega),UInt32.toNat_shiftLeft,UInt32.toNat_ofNat',Nat.shiftLeft_eq];have hm:c%4294967296%32=c:=by rw[Nat.mod_eq_of_lt (a:=c) (b:=4294967296) (by omega)];exact Nat.mod_eq_of_lt hc
      simp only[Nat.reducePow,hm]
    · rename_i hc
      rw[Nat.min_eq_right (by omega)];simp
  simp only[Op.shift,h0,if_false,Int.toNat_natCast,IntKind.bits,h];rfl
theorem li (a:UInt32) (k:IntKind) (c:Nat):fl P .shr t x y (gV a) (.int k (c:Int)) (gV (if c<32 then a>>>UInt32.ofNat c else 0)):=a_ fun w=>by
  have h0:¬((c:Int)<0):=by omega
  show((Op.shift .shr .u32 (a.toNat:Int) k (c:Int))).run P w=_
  have h:Int.fdiv (a.toNat:Int) (2^(min c 32))=(((if c<32 then a>>>UInt32.ofNat c else 0).toNat:Nat):Int):=by
    have e:Int.fdiv (a.toNat:Int) (2^(min c 32))=((a.toNat/2^(min c 32):Nat):Int):=by
      rw[show((2:Int)^(min c 32))=((2^(min c 32):Nat):Int)by simp];rw[Int.natCast_ediv,Int.fdiv_eq_ediv_of_nonneg _ (Int.natCast_nonneg _)]
    rw[e];congr 1;split
    · rename_i hc
      rw[Nat.min_eq_left (by omega),UInt32.toNat_shiftRight,UInt32.toNat_ofNat',Nat.shiftRight_eq_div_pow];have hm:c%4294967296%32=c:=by rw[Nat.mod_eq_of_lt (a:=c) (b:=4294967296) (by omega)];exact Nat.mod_eq_of_lt hc
      simp only[Nat.reducePow,hm]
    · rename_i hc
      rw[Nat.min_eq_right (by omega)];have:=mj a;simp only[Nat.reducePow]at this⊢;rw[Nat.div_eq_of_lt this];rfl
  simp only[Op.shift,h0,if_false,Int.toNat_natCast,IntKind.bits,h];rfl
theorem fu (c:Nat) (s:UInt32) (hc:c<32) (hs:UInt32.ofNat c=s) (a:UInt32) {k:IntKind}:fl P .shl t x y (gV a) (.int k (c:Int)) (gV (a<<<s)):=by
  have h:=n4 (P:=P) (t:=t) (x:=x) (y:=y) a k c;rw[if_pos hc,hs]at h;exact h
theorem f_ (c:Nat) (s:UInt32) (hc:c<32) (hs:UInt32.ofNat c=s) (a:UInt32) {k:IntKind}:fl P .shr t x y (gV a) (.int k (c:Int)) (gV (a>>>s)):=by
  have h:=li (P:=P) (t:=t) (x:=x) (y:=y) a k c;rw[if_pos hc,hs]at h;exact h
abbrev db (x:UInt64):Value:= .int .u64 ((x.toNat:Nat):Int)
theorem gL (n:Nat):IntKind.u64.wrap (n:Int)=((n%18446744073709551616:Nat):Int):=by simp[IntKind.wrap,IntKind.bits,IntKind.signed]
theorem jL (x:UInt64):x.toNat<18446744073709551616:=x.toNat_lt
theorem cd (a b:UInt64):fl P .xor t x y (db a) (db b) (db (a^^^b)):=a_ fun w=>by
  simp only[binOp,Op.intBits,eh]
  have h:(IntKind.u64.wrap (((BitVec.ofNat 64 a.toNat)^^^(BitVec.ofNat 64 b.toNat)).toNat:Int))=(((a^^^b).toNat:Nat):Int):=by
    rw[gL];congr 1;have ha:=jL a;have hb:=jL b;rw[BitVec.toNat_xor,BitVec.toNat_ofNat,BitVec.toNat_ofNat,Nat.mod_eq_of_lt ha,Nat.mod_eq_of_lt hb,UInt64.toNat_xor];exact Nat.mod_eq_of_lt (Nat.xor_lt_two_pow (n:=64) ha hb)
  show Result.ok (Value.int .u64 (IntKind.u64.wrap (((BitVec.ofNat 64 a.toNat)^^^(BitVec.ofNat 64 b.toNat)).toNat:Int))) w=_;rw[h]
theorem bJ (a b:UInt64):fl P .and t x y (db a) (db b) (db (a&&&b)):=a_ fun w=>by
  simp only[binOp,Op.intBits,eh]
  have h:(IntKind.u64.wrap (((BitVec.ofNat 64 a.toNat)&&&(BitVec.ofNat 64 b.toNat)).toNat:Int))=(((a&&&b).toNat:Nat):Int):=by
    rw[gL];congr 1;have ha:=jL a;have hb:=jL b;rw[BitVec.toNat_and,BitVec.toNat_ofNat,BitVec.toNat_ofNat,Nat.mod_eq_of_lt ha,Nat.mod_eq_of_lt hb,UInt64.toNat_and];exact Nat.mod_eq_of_lt (Nat.and_lt_two_pow (n:=64) _ hb)
  show Result.ok (Value.int .u64 (IntKind.u64.wrap (((BitVec.ofNat 64 a.toNat)&&&(BitVec.ofNat 64 b.toNat)).toNat:Int))) w=_;rw[h]
theorem fL (a b:UInt64):fl P .or t x y (db a) (db b) (db (a|||b)):=a_ fun w=>by
  simp only[binOp,Op.intBits,eh]
  have h:(IntKind.u64.wrap (((BitVec.ofNat 64 a.toNat)|||(BitVec.ofNat 64 b.toNat)).toNat:Int))=(((a|||b).toNat:Nat):Int):=by
    rw[gL];congr 1;have ha:=jL a;have hb:=jL b;rw[BitVec.toNat_or,BitVec.toNat_ofNat,BitVec.toNat_ofNat,Nat.mod_eq_of_lt ha,Nat.mod_eq_of_lt hb,UInt64.toNat_or];exact Nat.mod_eq_of_lt (Nat.or_lt_two_pow (n:=64) ha hb)
  show Result.ok (Value.int .u64 (IntKind.u64.wrap (((BitVec.ofNat 64 a.toNat)|||(BitVec.ofNat 64 b.toNat)).toNat:Int))) w=_;rw[h]
theorem bQ (a b:UInt64):fl P .add t x y (db a) (db b) (db (a+b)):=a_ fun w=>by
  show Result.ok (Value.int .u64 (IntKind.u64.wrap ((a.toNat:Int)+(b.toNat:Int)))) w=_;rw[show((a.toNat:Int)+(b.toNat:Int))=((a.toNat+b.toNat:Nat):Int)by simp,gL];show Result.ok (Value.int .u64 ((((a.toNat+b.toNat)%18446744073709551616:Nat)):Int)) w=Result.ok (Value.int .u64 (((a+b).toNat:Nat):Int)) w;rw[UInt64.toNat_add]
theorem dq (a b:UInt64):fl P .mul t x y (db a) (db b) (db (a*b)):=a_ fun w=>by
  show Result.ok (Value.int .u64 (IntKind.u64.wrap ((a.toNat:Int)*(b.toNat:Int)))) w=_;rw[show((a.toNat:Int)*(b.toNat:Int))=((a.toNat*b.toNat:Nat):Int)by simp,gL];show Result.ok (Value.int .u64 ((((a.toNat*b.toNat)%18446744073709551616:Nat)):Int)) w=Result.ok (Value.int .u64 (((a*b).toNat:Nat):Int)) w;rw[UInt64.toNat_mul]
theorem gG (a b:UInt64):fl P .sub t x y (db a) (db b) (db (a - b)):=a_ fun w=>by
  show Result.ok (Value.int .u64 (IntKind.u64.wrap ((a.toNat:Int) - (b.toNat:Int)))) w=_
  have h:IntKind.u64.wrap ((a.toNat:Int) - (b.toNat:Int))=(((a - b).toNat:Nat):Int):=by
    have ha:=jL a;have hb:=jL b;have hs:(a - b).toNat=(18446744073709551616 - b.toNat+a.toNat)%18446744073709551616:=by rw[UInt64.toNat_sub]
    rw[hs];simp only[IntKind.wrap,IntKind.bits,IntKind.signed];simp;omega
  rw[h]
theorem kK (a:UInt64) (k:IntKind) (c:Nat):fl P .shl t x y (db a) (.int k (c:Int)) (db (if c<64 then a<<<UInt64.ofNat c else 0)):=a_ fun w=>by
  have h0:¬((c:Int)<0):=by omega
  show((Op.shift .shl .u64 (a.toNat:Int) k (c:Int))).run P w=_
  have h:IntKind.u64.wrap ((a.toNat:Int)*2^(min c 64))=(((if c<64 then a<<<UInt64.ofNat c else 0).toNat:Nat):Int):=by
    have e:(a.toNat:Int)*2^(min c 64)=((a.toNat*2^(min c 64):Nat):Int):=by simp
    rw[e,gL];congr 1;split
    · rename_i hc
      rw[Nat.min_eq_left (by omega),UInt64.toNat_shiftLeft,UInt64.toNat_ofNat',Nat.shiftLeft_eq];have hm:c%18446744073709551616%64=c:=by rw[Nat.mod_eq_of_lt (a:=c) (b:=18446744073709551616) (by omega)];exact Nat.mod_eq_of_lt hc
      simp only[Nat.reducePow,hm]
    · rename_i hc
      rw[Nat.min_eq_right (by omega)];simp
  simp only[Op.shift,h0,if_false,Int.toNat_natCast,IntKind.bits,h];rfl
theorem d6 (a:UInt64) (k:IntKind) (c:Nat):fl P .shr t x y (db a) (.int k (c:Int)) (db (if c<64 then a>>>UInt64.ofNat c else 0)):=a_ fun w=>by
  have h0:¬((c:Int)<0):=by omega
  show((Op.shift .shr .u64 (a.toNat:Int) k (c:Int))).run P w=_
  have h:Int.fdiv (a.toNat:Int) (2^(min c 64))=(((if c<64 then a>>>UInt64.ofNat c else 0).toNat:Nat):Int):=by
    have e:Int.fdiv (a.toNat:Int) (2^(min c 64))=((a.toNat/2^(min c 64):Nat):Int):=by
      rw[show((2:Int)^(min c 64))=((2^(min c 64):Nat):Int)by simp];rw[Int.natCast_ediv,Int.fdiv_eq_ediv_of_nonneg _ (Int.natCast_nonneg _)]
    rw[e];congr 1;split
    · rename_i hc
      rw[Nat.min_eq_left (by omega),UInt64.toNat_shiftRight,UInt64.toNat_ofNat',Nat.shiftRight_eq_div_pow];have hm:c%18446744073709551616%64=c:=by rw[Nat.mod_eq_of_lt (a:=c) (b:=18446744073709551616) (by omega)];exact Nat.mod_eq_of_lt hc
      simp only[Nat.reducePow,hm]
    · rename_i hc
      rw[Nat.min_eq_right (by omega)];have:=jL a;simp only[Nat.reducePow]at this⊢;rw[Nat.div_eq_of_lt this];rfl
  simp only[Op.shift,h0,if_false,Int.toNat_natCast,IntKind.bits,h];rfl
theorem d8 (c:Nat) (s:UInt64) (hc:c<64) (hs:UInt64.ofNat c=s) (a:UInt64) {k:IntKind}:fl P .shl t x y (db a) (.int k (c:Int)) (db (a<<<s)):=by
  have h:=kK (P:=P) (t:=t) (x:=x) (y:=y) a k c;rw[if_pos hc,hs]at h;exact h
theorem bY (c:Nat) (s:UInt64) (hc:c<64) (hs:UInt64.ofNat c=s) (a:UInt64) {k:IntKind}:fl P .shr t x y (db a) (.int k (c:Int)) (db (a>>>s)):=by
  have h:=d6 (P:=P) (t:=t) (x:=x) (y:=y) a k c;rw[if_pos hc,hs]at h;exact h
theorem s8 (a b:UInt64) (hb:b≠0):fl P .rem t x y (db a) (db b) (db (a%b)):=a_ fun w=>by
  have h0:¬((b.toNat:Int)=0):=fun h=>hb (UInt64.toNat_inj.1 (by simpa using h));show(Op.intDiv .rem .u64 (a.toNat:Int) (b.toNat:Int)).run P w=_;have e:(a.toNat:Int).tmod b.toNat=((a.toNat%b.toNat:Nat):Int):=by rw[Int.tmod_eq_emod_of_nonneg (by omega)];simp
  simp only[Op.intDiv,h0,if_false,e];show Result.ok (Value.int .u64 ((a.toNat%b.toNat:Nat):Int)) w=_;rw[←UInt64.toNat_mod]
theorem n' (a b:UInt64):fl P .eql t x y (db a) (db b) (BV (a==b)):=a_ fun w=>by
  show Result.ok (Value.bool ((a.toNat:Int)==(b.toNat:Int))) w=_;have h:((a.toNat:Int)==(b.toNat:Int))=(a==b):=by rw[Bool.eq_iff_iff];simp[←UInt64.toNat_inj];omega
  rw[h]
theorem k9 (a b:UInt64):fl P .gtr t x y (db a) (db b) (BV (decide (a>b))):=a_ fun w=>by
  show Result.ok (Value.bool (decide ((a.toNat:Int)>(b.toNat:Int)))) w=_;have h:(decide ((a.toNat:Int)>(b.toNat:Int)))=(decide (a>b)):=by rw[Bool.eq_iff_iff];simp[GT.gt,GE.ge,UInt64.lt_iff_toNat_lt,UInt64.le_iff_toNat_le]
  rw[h]
end
end Go.Proofs.YtomjbepgbnbgmaaDoor
namespace Go.Proofs.YtomjbepgbnbgmaaDoor
open Go Go.RowKit
def iU (n:Nat) (f:Nat→Value):Array Value:=((List.range n).map f).toArray
@[simp] theorem CU (n:Nat) (f:Nat→Value):(iU n f).size=n:=by simp[iU]
theorem iN {n:Nat} {f:Nat→Value} {i:Nat} (h:i<n):(iU n f)[i]? =some (f i):=by simp[iU,h]
theorem qf {n:Nat} {f:Nat→Value} {i:Nat} (h:n≤i):(iU n f)[i]? =none:=by simp[iU,h]
theorem mq {n:Nat} {f g:Nat→Value} (h:∀i,i<n→f i=g i):iU n f=iU n g:=by
  unfold iU;congr 1;exact List.map_congr_left fun i hi=>h i (by simpa using hi)
theorem gM {n:Nat} {f:Nat→Value} {cs:Array Value} (hn:cs.size=n) (h:∀i,i<n→cs[i]? =some (f i)):cs=iU n f:=by
  apply Array.ext_getElem?;intro i;by_cases hi:i<n
  · rw[h i hi,iN hi]
  · rw[qf (by omega)];simp;omega
def dn {α:Type} (f:Nat→α) (k:Nat) (v:α):Nat→α:=fun i=>if i=k then v else f i
@[simp] theorem fc {α:Type} (f:Nat→α) (k:Nat) (v:α):dn f k v k=v:=by simp[dn]
theorem cL {α:Type} (f:Nat→α) (k:Nat) (v:α) {i:Nat} (h:i≠k):dn f k v i=f i:=by simp[dn,h]
theorem nM {α:Type} {g z:Nat→α} {k:Nat} {v:α} (h:v=g k) (i:Nat):dn (fun i=>if i<k then g i else z i) k v i=if i<k+1 then g i else z i:=by
  subst h;simp only[dn];by_cases h:i=k
  · subst h;simp
  · rw[if_neg h];by_cases h2:i<k
    · rw[if_pos h2,if_pos (by omega)]
    · rw[if_neg h2,if_neg (by omega)]
theorem kP {n:Nat} {f:Nat→Value} {k:Nat} {v:Value}:(iU n f).setIfInBounds k v=iU n (dn f k v):=by
  refine gM (by simp) fun i hi=>?_;rw[Array.getElem?_setIfInBounds];by_cases h:k=i
  · subst h;simp[hi]
  · rw[if_neg h,iN hi,cL _ _ _ (fun e=>h e.symm)]
theorem mw {m n o:Nat} {f:Nat→Value} (h:o+n≤m):(iU m f).extract o (o+n)=iU n (fun j=>f (o+j)):=by
  refine gM (by simp;omega) fun i hi=>?_;rw[Array.getElem?_extract];rw[if_pos (by simp;omega),iN (by omega)]
def a9 (n:Nat) (f:Nat→UInt8):Array Value:=iU n (fun i=>V8 (f i))
def dD (n:Nat) (f:Nat→UInt32):Array Value:=iU n (fun i=>gV (f i))
def bf (n:Nat) (f:Nat→UInt64):Array Value:=iU n (fun i=>db (f i))
@[simp] theorem CV (n:Nat) (f:Nat→UInt8):(a9 n f).size=n:=by simp[a9]
@[simp] theorem uq (n:Nat) (f:Nat→UInt32):(dD n f).size=n:=by simp[dD]
@[simp] theorem CL (n:Nat) (f:Nat→UInt64):(bf n f).size=n:=by simp[bf]
theorem bK {n:Nat} {f:Nat→UInt8} {i:Nat} (h:i<n):(a9 n f)[i]? =some (V8 (f i)):=iN h
theorem cz {n:Nat} {f:Nat→UInt32} {i:Nat} (h:i<n):(dD n f)[i]? =some (gV (f i)):=iN h
theorem bg {n:Nat} {f:Nat→UInt64} {i:Nat} (h:i<n):(bf n f)[i]? =some (db (f i)):=iN h
theorem yF {n:Nat} {f:Nat→UInt8} {k:Nat} {v:UInt8}:(a9 n f).setIfInBounds k (V8 v)=a9 n (dn f k v):=by
  unfold a9;rw[kP];congr 1;funext i;unfold dn;split<;>rfl
theorem xG {n:Nat} {f:Nat→UInt32} {k:Nat} {v:UInt32}:(dD n f).setIfInBounds k (gV v)=dD n (dn f k v):=by
  unfold dD;rw[kP];congr 1;funext i;unfold dn;split<;>rfl
theorem wX {n:Nat} {f:Nat→UInt64} {k:Nat} {v:UInt64}:(bf n f).setIfInBounds k (db v)=bf n (dn f k v):=by
  unfold bf;rw[kP];congr 1;funext i;unfold dn;split<;>rfl
theorem bI {n:Nat} {f g:Nat→UInt8} (h:∀i,i<n→f i=g i):a9 n f=a9 n g:=mq fun i hi=>by rw[h i hi]
theorem fh {n:Nat} {f g:Nat→UInt32} (h:∀i,i<n→f i=g i):dD n f=dD n g:=mq fun i hi=>by rw[h i hi]
theorem fR {n:Nat} {f g:Nat→UInt64} (h:∀i,i<n→f i=g i):bf n f=bf n g:=mq fun i hi=>by rw[h i hi]
theorem rP {m n o:Nat} {f:Nat→UInt8} (h:o+n≤m):(a9 m f).extract o (o+n)=a9 n (fun j=>f (o+j)):=mw h
def bytes (l:List UInt8):Array Value:=(l.map V8).toArray
@[simp] theorem vD (l:List UInt8):(bytes l).size=l.length:=by simp[bytes]
theorem qw {l:List UInt8} {i:Nat}:(bytes l)[i]? =l[i]?.map V8:=by simp[bytes]
def cD (w:World) (b:Nat) (t:TypeId) (cs:Array Value):Prop:=∃fr:Nat×Nat,w.heap[b]? =some (.cells cs t fr)∧(fr.1=fr.2∨cs.size≤fr.1)
theorem cD.cell {w:World} {b:Nat} {t:TypeId} {cs:Array Value} (h:cD w b t cs) {o:Nat} {v:Value} (hv:cs[o]? =some v):w.cell? ⟨b,o,none⟩=some v:=by
  obtain⟨fr,h,_⟩:=h;simp[World.cell?,h,hv]
theorem cD.free {w:World} {b:Nat} {t:TypeId} {cs:Array Value} (h:cD w b t cs) {o:Nat} (ho:o<cs.size):w.frozen? ⟨b,o,none⟩=false:=by
  obtain⟨fr,h,hf⟩:=h;have:=ho;simp only[World.frozen?,h];simp only[Bool.and_eq_false_iff,decide_eq_false_iff_not,Nat.not_le,Nat.not_lt];omega
theorem cD.lt {w:World} {b:Nat} {t:TypeId} {cs:Array Value} (h:cD w b t cs):b<w.heap.size:=by
  obtain⟨fr,h,_⟩:=h;exact(Array.getElem?_eq_some_iff.1 h).1
theorem cD.of_heap {w w':World} {b:Nat} {t:TypeId} {cs:Array Value} (h:cD w b t cs) (e:w'.heap[b]? =w.heap[b]?):cD w' b t cs:=by
  obtain⟨fr,h,hf⟩:=h;exact⟨fr,by rw[e,h],hf⟩
theorem cD.set {w:World} {b:Nat} {t:TypeId} {cs:Array Value} (h:cD w b t cs) (o:Nat) (v:Value):cD (w.setCell ⟨b,o,none⟩ v) b t (cs.setIfInBounds o v):=by
  obtain⟨fr,h,hf⟩:=h;exact⟨fr,by simp[World.setCell,Array.getElem?_modify,h],by simpa using hf⟩
theorem cD.mark {w:World} {b:Nat} {t:TypeId} {cs:Array Value} (h:cD w b t cs):cD (w.freeze ⟨b,cs.size,none⟩ 1) b t cs:=by
  obtain⟨⟨lo,hi⟩,h,hf⟩:=h;refine⟨if lo==hi then(cs.size,cs.size+1)else(min lo cs.size,max hi (cs.size+1)),by simp[World.freeze,Array.getElem?_modify,h],?_⟩;by_cases e:lo=hi
  · rw[if_pos (by simpa using e)];exact .inr (Nat.le_refl _)
  · rw[if_neg (by simpa using e)]
    rcases hf with hf|hf
    · exact absurd hf e
    · refine .inr ?_
      have:cs.size≤lo:=hf;show cs.size≤min lo cs.size;omega
theorem i9 (w:World) (a:Addr) (n:Nat) {k:Nat} (h:k≠a.block):(w.freeze a n).heap[k]? =w.heap[k]? :=by
  unfold World.freeze;split
  · rfl
  · simp only[Array.getElem?_modify]
    rw[if_neg (fun e=>h e.symm)]
theorem iM (w:World) (a:Addr) (v:Value) {k:Nat} (h:k≠a.block):(w.setCell a v).heap[k]? =w.heap[k]? :=heap_setCell_other w a k v h
theorem l6 (w:World) (a:Addr) (v:Value):(w.setCell a v).heap.size=w.heap.size:=by simp[World.setCell]
theorem cD.new (w:World) (t:TypeId) (cs:Array Value):cD (w.alloc (.cells cs t)) w.heap.size t cs:=⟨(0,0),Go.heap_alloc_new w _,.inl rfl⟩
structure Chg (S:List Nat) (w w':World):Prop where
  os:w'.os=w.os
  tape:w'.tape=w.tape
  output:w'.output=w.output
  size:w.heap.size≤w'.heap.size
  block:∀k,k<w.heap.size→k∉S→w'.heap[k]? =w.heap[k]?
theorem Chg.refl (S:List Nat) (w:World):Chg S w w:=⟨rfl,rfl,rfl,Nat.le_refl _,fun _ _ _=>rfl⟩
theorem Chg.trans {S:List Nat} {a b c:World} (h:Chg S a b) (k:Chg S b c):Chg S a c:=
  ⟨k.os.trans h.os,k.tape.trans h.tape,k.output.trans h.output,Nat.le_trans h.size k.size,fun i hi hn=>(k.block i (Nat.lt_of_lt_of_le hi h.size) hn).trans (h.block i hi hn)⟩
theorem Chg.trans' {S T:List Nat} {a b c:World} (h:Chg S a b) (k:Chg T b c) (hT:∀x∈T,x<a.heap.size→x∈S):Chg S a c:=
  ⟨k.os.trans h.os,k.tape.trans h.tape,k.output.trans h.output,Nat.le_trans h.size k.size,fun i hi hn=>(k.block i (Nat.lt_of_lt_of_le hi h.size) (fun hm=>hn (hT i hm hi))).trans (h.block i hi hn)⟩
theorem Chg.weak {S T:List Nat} {w w':World} (h:Chg S w w') (hs:∀x∈S,x∈T):Chg T w w':=⟨h.os,h.tape,h.output,h.size,fun k hk hn=>h.block k hk fun hm=>hn (hs k hm)⟩
theorem Chg.drew {S:List Nat} {a w:World} (h:Chg S a w):Chg S a w.drew:=⟨h.os,h.tape,h.output,h.size,h.block⟩
theorem Chg.alloc {S:List Nat} {a w:World} (h:Chg S a w) (o:Obj):Chg S a (w.alloc o):=
  h.trans ⟨rfl,rfl,rfl,by simp,fun k hk _=>Below.heap_alloc _ _ _ (by omega)⟩
theorem Chg.setCell {S:List Nat} {a w:World} (h:Chg S a w) {p:Addr} (hp:a.heap.size≤p.block∨p.block∈S) (u:Value):Chg S a (w.setCell p u) where
  os:=h.os;tape:=h.tape;output:=h.output;size:=by rw[l6];exact h.size
  block k hk hn:=by
    have hne:k≠p.block:=by
      rcases hp with hp|hp
      · omega
      · intro e;exact hn (e▸hp)
    rw[iM _ _ _ hne];exact h.block k hk hn
theorem Chg.below {w w':World} (h:Chg [] w w'):Below w.heap.size w w':=⟨h.os,h.tape,h.output,h.size,fun k hk=>h.block k hk (by simp)⟩
theorem Chg.cell {S:List Nat} {w w':World} (h:Chg S w w') {p:Addr} {v:Value} (hv:w.cell? p=some v) (hn:p.block∉S):w'.cell? p=some v:=by
  rw[←hv];exact World.cell?_of_block (w:=w) (h.block p.block (block_lt_of_cell hv) hn)
theorem Chg.blk {S:List Nat} {w w':World} (h:Chg S w w') {b:Nat} {t:TypeId} {cs:Array Value} (hb:cD w b t cs) (hn:b∉S):cD w' b t cs:=hb.of_heap (h.block b hb.lt hn)
theorem Chg.nil_blk {w w':World} (h:Chg [] w w') {b:Nat} {t:TypeId} {cs:Array Value} (hb:cD w b t cs):cD w' b t cs:=h.blk hb (by simp)
theorem Chg.nil_cell {w w':World} (h:Chg [] w w') {p:Addr} {v:Value} (hv:w.cell? p=some v):w'.cell? p=some v:=h.cell hv (by simp)
abbrev bU:=Option Nat×TypeId×Array Value
def bU.at (e:bU):Option Nat:=e.1
structure Hp (S:List Nat) (w0 w:World) (L:List bU):Prop where
  chg:Chg S w0 w
  own:∀e∈L,∀b,e.1=some b→(w0.heap.size≤b∨b∈S)∧cD w b e.2.1 e.2.2
  apart:∀(i j b:Nat),(L[i]?).bind bU.at=some b→(L[j]?).bind bU.at=some b→i=j
theorem Hp.start (S:List Nat) (w:World):Hp S w w []:=⟨.refl _ _,by simp,by simp⟩
theorem Hp.blk {S:List Nat} {w0 w:World} {L:List bU} (h:Hp S w0 w L) (i:Nat) {b:Nat} {t:TypeId} {cs:Array Value} (hi:L[i]? =some (some b,t,cs)):cD w b t cs:=(h.own _ (List.mem_of_getElem? hi) b rfl).2
theorem Hp.mine {S:List Nat} {w0 w:World} {L:List bU} (h:Hp S w0 w L) (i:Nat) {b:Nat} {t:TypeId} {cs:Array Value} (hi:L[i]? =some (some b,t,cs)):w0.heap.size≤b∨b∈S:=(h.own _ (List.mem_of_getElem? hi) b rfl).1
theorem Hp.drew {S:List Nat} {w0 w:World} {L:List bU} (h:Hp S w0 w L):Hp S w0 w.drew L:=⟨h.chg.drew,fun e he b hb=>⟨(h.own e he b hb).1,(h.own e he b hb).2.of_heap rfl⟩,h.apart⟩
theorem Hp.lt {S:List Nat} {w0 w:World} {L:List bU} (h:Hp S w0 w L) {e:bU} (he:e∈L) {b:Nat} (hb:e.1=some b):b<w.heap.size:=(h.own e he b hb).2.lt
theorem Hp.other {S:List Nat} {w0 w:World} {L:List bU} (h:Hp S w0 w L) {i:Nat} {b:Nat} {t:TypeId} {cs:Array Value} (hi:L[i]? =some (some b,t,cs)) {j:Nat} {e':bU} (hj:L[j]? =some e') (hij:i≠j) {b':Nat} (hb':e'.1=some b'):b'≠b:=by
  intro he;exact hij (h.apart i j b (by rw[hi];rfl) (by rw[hj];exact he▸hb'))
theorem Hp.turn {S:List Nat} {w0 w w':World} {L:List bU} (h:Hp S w0 w L) (i:Nat) {e:bU} (hi:L[i]? =some e) (e':bU) (hc:Chg S w0 w')
    (hb:∀b,e'.1=some b→(w0.heap.size≤b∨b∈S)∧cD w' b e'.2.1 e'.2.2) (hd:∀b,e'.1=some b→e.1=some b∨w.heap.size≤b)
    (ho:∀k,e.1≠some k→k<w.heap.size→w'.heap[k]? =w.heap[k]?):Hp S w0 w' (L.set i e') where
  chg:=hc
  own x hx b hxb:=by
    obtain⟨j,hj⟩:=List.mem_iff_getElem?.1 hx
    rw[List.getElem?_set]at hj
    split at hj
    · split at hj
      · cases hj;exact hb b hxb
      · cases hj
    · rename_i hij
      have hm:=List.mem_of_getElem? hj
      refine⟨(h.own x hm b hxb).1,(h.own x hm b hxb).2.of_heap (ho b ?_ (h.lt hm hxb))⟩
      intro he
      exact hij (h.apart i j b (by rw[hi];exact he) (by rw[hj];exact hxb))
  apart j k b hj hk:=by
    have key:∀m:Nat,((L.set i e')[m]?).bind bU.at=some b→(m=i∧e'.1=some b)∨(m≠i∧(L[m]?).bind bU.at=some b):=by
      intro m hm
      rw[List.getElem?_set]at hm
      split at hm
      · split at hm
        · rename_i h1 h2;exact .inl ⟨h1.symm,hm⟩
        · simp at hm
      · rename_i h1;exact .inr ⟨fun e=>h1 e.symm,hm⟩
    have old:∀m:Nat,m≠i→(L[m]?).bind bU.at=some b→e'.1=some b→False:=by
      intro m hmi hm he
      obtain⟨x,hx,hxb⟩:=Option.bind_eq_some_iff.1 hm
      rcases hd b he with h1|h1
      · exact hmi (h.apart m i b hm (by rw[hi];exact h1))
      · have:=h.lt (List.mem_of_getElem? hx) hxb;omega
    rcases key j hj with ⟨hji,hj1⟩|⟨hji,hj1⟩<;>rcases key k hk with ⟨hki,hk1⟩|⟨hki,hk1⟩
    · omega
    · exact(old k hki hk1 hj1).elim
    · exact(old j hji hj1 hk1).elim
    · exact h.apart j k b hj1 hk1
theorem Hp.put {S:List Nat} {w0 w w':World} {L:List bU} (h:Hp S w0 w L) (i:Nat) {b:Nat} {t:TypeId} {cs cs':Array Value} (hi:L[i]? =some (some b,t,cs))
    (hc:Chg S w0 w') (hb:cD w' b t cs') (ho:∀k,k≠b→k<w.heap.size→w'.heap[k]? =w.heap[k]?):Hp S w0 w' (L.set i (some b,t,cs')):=
  h.turn i hi _ hc (fun b' hb'=>by cases hb';exact⟨h.mine i hi,hb⟩) (fun b' hb'=> .inl hb') fun k hk hlt=>ho k (fun e=>hk (e▸rfl)) hlt
theorem Hp.store {S:List Nat} {w0 w:World} {L:List bU} (h:Hp S w0 w L) (i:Nat) {b:Nat} {t:TypeId} {cs:Array Value} (hi:L[i]? =some (some b,t,cs)) (o:Nat) (v:Value):
    Hp S w0 (w.setCell ⟨b,o,none⟩ v) (L.set i (some b,t,cs.setIfInBounds o v)):=
  h.put i hi (h.chg.setCell (h.mine i hi) v) ((h.blk i hi).set o v) fun k hk _=>iM _ _ _ hk
theorem Hp.call {S:List Nat} {w0 w w':World} {L:List bU} (h:Hp S w0 w L) (hc:Chg [] w w'):Hp S w0 w' L:=
  ⟨h.chg.trans' hc (by simp),fun e he b hb=>⟨(h.own e he b hb).1,hc.nil_blk (h.own e he b hb).2⟩,h.apart⟩
theorem Hp.callw {S:List Nat} {w0 w w':World} {L:List bU} (h:Hp S w0 w L) (i:Nat) {b:Nat} {t:TypeId} {cs cs':Array Value} (hi:L[i]? =some (some b,t,cs)) (hc:Chg [b] w w') (hb:cD w' b t cs'):Hp S w0 w' (L.set i (some b,t,cs')):=by
  refine h.put i hi (h.chg.trans' hc ?_) hb fun k hk hlt=>hc.block k hlt (by simpa using hk);intro x hx hlt;simp only[List.mem_singleton]at hx;subst hx;rcases h.mine i hi with h1|h1
  · omega
  · exact h1
theorem Hp.add {S:List Nat} {w0 w:World} {L:List bU} (h:Hp S w0 w L) (e:bU) (hb:∀b,e.1=some b→(w0.heap.size≤b∨b∈S)∧cD w b e.2.1 e.2.2) (hn:∀x∈L,∀b,e.1=some b→x.1≠some b):Hp S w0 w (L++[e]) where
  chg:=h.chg
  own x hx:=by
    rcases List.mem_append.1 hx with hx|hx
    · exact h.own x hx
    · simp only[List.mem_singleton]at hx;subst hx;exact hb
  apart i j b hi hj:=by
    have key:∀m:Nat,((L++[e])[m]?).bind bU.at=some b→(m<L.length∧(L[m]?).bind bU.at=some b)∨(m=L.length∧e.1=some b):=by
      intro m hm;rw[List.getElem?_append]at hm;split at hm
      · rename_i h1;exact .inl ⟨h1,hm⟩
      · rename_i h1
        obtain⟨x,hx,hxb⟩:=Option.bind_eq_some_iff.1 hm
        have h0:m - L.length=0:=by
          cases hz:m - L.length with
          |zero=>rfl
          |succ n=>rw[hz]at hx;simp at hx
        rw[h0]at hx;simp at hx;subst hx;exact .inr ⟨by omega,hxb⟩
    have old:∀m:Nat,(L[m]?).bind bU.at=some b→e.1=some b→False:=by
      intro m hm he;obtain⟨x,hx,hxb⟩:=Option.bind_eq_some_iff.1 hm;exact hn x (List.mem_of_getElem? hx) b he hxb
    rcases key i hi with ⟨_,hi⟩|⟨hi',hi⟩<;>rcases key j hj with ⟨_,hj⟩|⟨hj',hj⟩
    · exact h.apart i j b hi hj
    · exact(old i hi hj).elim
    · exact(old j hj hi).elim
    · omega
theorem Hp.nil {S:List Nat} {w0 w:World} {L:List bU} (h:Hp S w0 w L) (t:TypeId):Hp S w0 w (L++[(none,t,#[])]):=h.add _ (fun b hb=>by cases hb) (fun x _ b hb=>by cases hb)
theorem Hp.callnew {S:List Nat} {w0 w w':World} {L:List bU} (h:Hp S w0 w L) (hc:Chg [] w w') {b:Nat} {t:TypeId} {cs:Array Value} (hb:cD w' b t cs) (hn:w.heap.size≤b):Hp S w0 w' (L++[(some b,t,cs)]):=
  (h.call hc).add _ (fun b' hb'=>by cases hb';exact⟨.inl (Nat.le_trans h.chg.size hn),hb⟩) (fun x hx b' hb' hxb=>by cases hb';have:=h.lt hx hxb;omega)
theorem Hp.alloc {S:List Nat} {w0 w:World} {L:List bU} (h:Hp S w0 w L) (t:TypeId) (cs:Array Value):Hp S w0 (w.alloc (.cells cs t)) (L++[(some w.heap.size,t,cs)]):=
  h.callnew ((Chg.refl [] w).alloc _) (cD.new w t cs) (Nat.le_refl _)
theorem Hp.mark {S:List Nat} {w0 w:World} {L:List bU} (h:Hp S w0 w L) (i:Nat) {b:Nat} {t:TypeId} {cs:Array Value} (hi:L[i]? =some (some b,t,cs)):Hp S w0 (w.freeze ⟨b,cs.size,none⟩ 1) (L.set i (some b,t,cs)):=by
  refine h.put i hi ⟨?_,?_,?_,?_,?_⟩ (h.blk i hi).mark fun k hk _=>i9 _ _ _ hk
  · exact h.chg.os
  · exact h.chg.tape
  · exact h.chg.output
  · have:(w.freeze ⟨b,cs.size,none⟩ 1).heap.size=w.heap.size:=by simp[World.freeze]
    rw[this];exact h.chg.size
  · intro k hk hn
    rw[i9]
    · exact h.chg.block k hk hn
    · intro e
      have e':k=b:=e;subst e';rcases h.mine i hi with h1|h1
      · omega
      · exact hn h1
theorem Hp.callown {S:List Nat} {w0 w w':World} {L:List bU} (h:Hp S w0 w L) (hc:Chg [] w w') {o:Option Nat} {t:TypeId} {cs:Array Value} (hb:∀b,o=some b→w.heap.size≤b∧cD w' b t cs):Hp S w0 w' (L++[(o,t,cs)]):=
  (h.call hc).add _ (fun b hb'=>⟨.inl (Nat.le_trans h.chg.size (hb b hb').1),(hb b hb').2⟩) (fun x hx b hb' hxb=>by have:=h.lt hx hxb;have:=(hb b hb').1;omega)
theorem Hp.owned {w0 w:World} {L:List bU} (h:Hp [] w0 w L) (i:Nat) {o:Option Nat} {t:TypeId} {cs:Array Value} (hi:L[i]? =some (o,t,cs)):∀b,o=some b→w0.heap.size≤b∧cD w b t cs:=fun b hb=>
  have:=h.own _ (List.mem_of_getElem? hi) b hb
  ⟨this.1.resolve_right (by simp),this.2⟩
end Go.Proofs.YtomjbepgbnbgmaaDoor
namespace Go.Proofs.YtomjbepgbnbgmaaDoor
open Go
section
variable {P : Program} {ops : Array Oper} {Q : Exit → Act → World → Prop} {md : Region.Mode}
def Ad:World→World→Prop:=fun _ _=>True
def Qt (P:Program) (ops:Array Oper) (o:Oper) (v:Value) (R:World→World→Prop) (w:World) (a:Act):Prop:=
  (Region.wanted o (yielded ops a.tmps)=true∧∀w',R w w'→o.quietAt P a (Chg [] w') w' v)∨
  (Region.wanted o (yielded ops a.tmps)=false∧v=undef)
structure Far (R:World→World→Prop):Prop where
  of:∀w w',Chg [] w w'→R w w'
  trans:∀a b c,R a b→R b c→R a c
theorem Far.any:Far Ad:=⟨fun _ _ _=>trivial,fun _ _ _ _ _=>trivial⟩
theorem Far.grown:Far (Chg []):=⟨fun _ _ h=>h,fun _ _ _ h k=>h.trans k⟩
theorem Far.chg (S:List Nat):Far (Chg S):=⟨fun _ _ h=>h.weak (by simp),fun _ _ _ h k=>h.trans k⟩
theorem Qt.of_same {o:Oper} {v:Value} {R:World→World→Prop} {w:World} {a a':Act} (hy:Qt P ops o v R w a) (he:execOp a'.eval o=execOp a.eval o)
    (hw:Region.wanted o (yielded ops a'.tmps)=Region.wanted o (yielded ops a.tmps)):Qt P ops o v R w a':=by
  unfold Qt Oper.quietAt at *;rw[he,hw];exact hy
theorem Qt.grow {o:Oper} {v:Value} {R:World→World→Prop} (hR:Far R) {w w':World} {a:Act} (hy:Qt P ops o v R w a) (h:R w w'):Qt P ops o v R w' a:=by
  rcases hy with ⟨h1,h2⟩|h1
  · exact .inl ⟨h1,fun w2 h3=>h2 w2 (hR.trans _ _ _ h h3)⟩
  · exact .inr h1
theorem Qt.wpOp {i:Nat} {o:Oper} {v:Value} {R:World→World→Prop} (hR:Far R) {a:Act} {w:World} (hi:ops[i]? =some o) (hy:Qt P ops o v R w a) {K:Act→World→Prop} (h:∀w',Chg [] w w'→K (a.put o.dst v) w'):wpOp P ops Q i K a w:=by
  unfold Go.wpOp;simp only[hi];rcases hy with ⟨hw,hv⟩|⟨hw,rfl⟩
  · simp only[hw,if_true]
    refine .inl ?_;have hv:=hv w (hR.of _ _ (.refl _ _));unfold Oper.quietAt at hv;unfold Oper.wp;generalize (execOp a.eval o).run P w=r at hv;cases r with
    |ok n w'=>
      cases n<;>simp only[Oper.quietUpon]at hv<;>simp only[Oper.upon];case value u=>obtain⟨e1,e2⟩:=hv;rw[e1,e2];exact h _ (.refl _ _)
      case skip=>obtain⟨e1,e2⟩:=hv;rw[e1,←e2];exact h _ (.refl _ _)
      case enter f args=>
        obtain⟨e1,hc⟩:=hv;rw[e1];exact hc.mono fun e w'' ⟨he,hw''⟩=>by subst he;exact h _ hw''
    |halt x w'=>simp only[Oper.quietUpon]at hv
  · simp only[hw,Bool.false_eq_true,if_false];exact h _ (.refl _ _)
theorem wU {j:Nat} {oi oj:Oper} {v:Value} (Y:Act→Prop) (hj:ops[j]? =some oj) (h1:∀d,oi.dst=some d→d∉oj.looksAt ops) (h2:∀d,oi.dst=some d→oj.dst≠some d)
    (hsj:∀cs b,oj.op≠ .select cs b) (hQ:∀c a w,Q (.panic c) (a.put oi.dst v) w→Q (.panic c) a w) {K:Act→World→Prop} {a:Act} {w:World}
    (keep:∀u,Y (a.put oj.dst u)) (keepD:∀d,Y (({a with defers:=d::a.defers}:Act).put oj.dst undef)) (h:wpOp P ops Q j K (a.put oi.dst v) w):
    wpOp P ops Q j (fun a' w'=>Y a'∧K (a'.put oi.dst v) w') a w:=by
  unfold wpOp at *
  simp only[hj]at *
  rw[wanted_put oj a oi.dst v h1]at h
  by_cases hw:Region.wanted oj (yielded ops a.tmps)=true
  · rw[if_pos hw]at h⊢
    rcases h with h|⟨ha,hl⟩
    · refine .inl ?_
      unfold Oper.wp at *
      rw[execOp_put oj hsj a oi.dst v h1]at h
      cases hr:(execOp a.eval oj).run P w with
      |ok n w'=>
        rw[hr]at h
        cases n<;>simp only[Oper.upon]at h⊢
        case value u=>exact⟨keep u,Act.put_comm a v u h2▸h⟩
        case skip=>exact⟨keep _,Act.put_comm a v undef h2▸h⟩
        case defer d=>exact⟨keepD d,by rw[←Act.put_comm _ v undef h2,←Act.put_defers];exact h⟩
        case enter f args=>
          refine Calls.mono h fun e w'' he=>?_
          cases e with
          |returned u=>exact⟨keep u,Act.put_comm a v u h2▸he⟩
          |panicked c=>exact hQ _ _ _ he
          |outgrown=>exact he
        case row row args=>exact Rows.mono h fun u w'' he=>⟨keep u,Act.put_comm a v u h2▸he⟩
      |halt x w'=>
        rw[hr]at h
        cases x<;>simp only[Oper.upon]at h⊢
        case panic u=>exact hQ _ _ _ h
    · exact .inr ⟨by unfold Oper.asks at *;rw[execOp_put oj hsj a oi.dst v h1]at ha;exact ha,hl⟩
  · rw[if_neg hw]at h⊢
    exact⟨keep _,Act.put_comm a v undef h2▸h⟩
def Bv (E M:List Nat) (R0:World→World→Prop) (i:Nat) (w w':World):Prop:=(E.contains i=false→R0 w w')∧(E.contains i=false→M.contains i=false→Chg [] w w')
theorem Bv.grown {E M:List Nat} {R0:World→World→Prop} (hR:Far R0) {i:Nat} {w w':World} (h:Chg [] w w'):Bv E M R0 i w w':=⟨fun _=>hR.of _ _ h,fun _ _=>h⟩
def fK (P:Program) (md:Region.Mode) (ops:Array Oper) (Q:Exit→Act→World→Prop) (E M:List Nat) (R0:World→World→Prop):Nat→Array Bool→Act→World→Prop
  |0,listed,a,w=>∀w1,Chg [] w w1→Region.ready md ops listed=[]∧Q .normal a w1
  |fuel+1,listed,a,w=>∀w1,Chg [] w w1→
    (Region.ready md ops listed=[]→Q .normal a w1)∧
    ∀i∈Region.ready md ops listed,wpOp P ops Q i (fun a' w'=>Bv E M R0 i w1 w'∧fK P md ops Q E M R0 fuel (listed.setIfInBounds i true) a' w') a w1
theorem l8 {E M:List Nat} {R0:World→World→Prop}:∀(fuel:Nat) (listed:Array Bool) (a:Act) (w:World),fK P md ops Q E M R0 fuel listed a w→wpAny P md ops Q fuel listed a w
  |0,_,_,w,h=>h w (.refl _ _)
  |fuel+1,_,_,w,h=>⟨(h w (.refl _ _)).1,fun i hi=>wpOp_mono (fun a' w' h'=>l8 fuel _ a' w' h'.2) ((h w (.refl _ _)).2 i hi)⟩
theorem fK.grow {E M:List Nat} {R0:World→World→Prop} {fuel:Nat} {listed:Array Bool} {a:Act} {w w':World} (h:fK P md ops Q E M R0 fuel listed a w) (hc:Chg [] w w'):fK P md ops Q E M R0 fuel listed a w':=by
  cases fuel with
  |zero=>exact fun w1 h1=>h w1 (hc.trans h1)
  |succ fuel=>exact fun w1 h1=>h w1 (hc.trans h1)
theorem mB {E M:List Nat} {R0 R:World→World→Prop} (hR0:Far R0) (hR:Far R) {i:Nat} {oi:Oper} {v:Value} (hi:ops[i]? =some oi) (hsel:∀(j:Nat) (o:Oper) cs b,ops[j]? =some o→o.op≠ .select cs b)
    (hQ:∀c a w,Q (.panic c) (a.put oi.dst v) w→Q (.panic c) a w) (S:Nat→Bool)
    (hS:∀j oj,ops[j]? =some oj→j≠i→(∀e∈oj.after,Region.binds md e=true→S e.on=true)→S j=true):
    ∀(fuel:Nat) (listed:Array Bool) (a:Act) (w:World),
      (∀k,listed.getD k false=true→S k=true)→
      (∀j oj,ops[j]? =some oj→j≠i→S j=true→listed.getD j true=false→((∀w w',Bv E M R0 j w w'→R w w')∧oi.apart ops oj=true))→
      i∈Region.ready md ops listed→Qt P ops oi v R w a→
      fK P md ops Q E M R0 fuel (listed.setIfInBounds i true) (a.put oi.dst v) w→fK P md ops Q E M R0 (fuel+1) listed a w:=by
  intro fuel
  induction fuel with
  |zero=>
    intro listed a w hL hfree hr hy H w1 hw1
    refine⟨fun h=>(by rw[h]at hr;cases hr),fun j hj=>?_⟩
    by_cases hji:j=i
    · subst hji
      exact(hy.grow hR (hR.of _ _ hw1)).wpOp hR hi fun w' hw'=>⟨.grown hR0 hw',H.grow (hw1.trans hw')⟩
    · have:=ready_mono hj hji
      rw[(H w (.refl _ _)).1]at this
      cases this
  |succ fuel ih=>
    intro listed a w hL hfree hr hy H w1 hw1
    refine⟨fun h=>(by rw[h]at hr;cases hr),fun j hj=>?_⟩
    by_cases hji:j=i
    · subst hji
      exact(hy.grow hR (hR.of _ _ hw1)).wpOp hR hi fun w' hw'=>⟨.grown hR0 hw',H.grow (hw1.trans hw')⟩
    · have h1:=(H w1 hw1).2 j (ready_mono hj hji)
      obtain⟨hjun,oj,hoj,hall⟩:=mem_ready.1 hj
      have hSj:S j=true:=hS j oj hoj hji fun e he hb=>hL _ (hall e he hb)
      obtain⟨hjE,hap⟩:=hfree j oj hoj hji hSj hjun
      obtain⟨a1,a2,a3⟩:=Oper.apart_spec hap
      have keep:∀(a:Act) u,Qt P ops oi v R w1 a→Qt P ops oi v R w1 (a.put oj.dst u):=fun a u hy=>
        hy.of_same (execOp_put oi (fun cs b=>hsel i oi cs b hi) a oj.dst u a3) (wanted_put oi a oj.dst u a3)
      have hy1:=hy.grow hR (hR.of _ _ hw1)
      have h2:=wU (fun a=>Qt P ops oi v R w1 a) hoj a1 a2 (fun cs b=>hsel j oj cs b hoj) hQ (fun u=>keep a u hy1) (fun d=>keep _ undef (hy1.of_same rfl rfl)) h1
      have hL':∀k,(listed.setIfInBounds j true).getD k false=true→S k=true:=by
        intro k hk
        by_cases hjk:j=k
        · subst hjk;exact hSj
        · rw[getD_set_ne false hjk]at hk;exact hL k hk
      have hfree':∀k ok,ops[k]? =some ok→k≠i→S k=true→(listed.setIfInBounds j true).getD k true=false→((∀w w',Bv E M R0 k w w'→R w w')∧oi.apart ops ok=true):=by
        intro k ok hk hki hSk hun
        refine hfree k ok hk hki hSk ?_
        by_cases hjk:j=k
        · subst hjk;exact hjun
        · rw[getD_set_ne true hjk]at hun;exact hun
      refine wpOp_mono (fun a' w' h3=>⟨h3.2.1,?_⟩) h2
      obtain⟨h3a,h3b,h3c⟩:=h3
      refine ih (listed.setIfInBounds j true) a' w' hL' hfree' (ready_mono hr (Ne.symm hji)) (h3a.grow hR (hjE _ _ h3b)) ?_
      rw[Array.setIfInBounds_comm _ _ hji]
      exact h3c
structure Row where
  after:List Nat
  looks:List Nat
  dst:Option Nat
  deriving DecidableEq
def n9 (md:Region.Mode) (ops:Array Oper) (o:Oper):Row:=
  {after:=(o.after.toList.filter (Region.binds md ·)).map (·.on),looks:=o.looksAt ops,dst:=o.dst}
def dw (md:Region.Mode) (ops:Array Oper):List Row:=ops.toList.map (n9 md ops)
def Row.apart (x y:Row):Bool:=
  (match x.dst with
   |some d=> !(y.looks).contains d&&y.dst !=some d
   | none => true) &&
  (match y.dst with
   |some d=> !(x.looks).contains d
   | none => true)
def subset (xs ys:List Nat):Bool:=xs.all (ys.contains ·)
def nE (i:Nat) (b:Bool) (E:List Nat):List Row→Nat→List Nat→List Nat
  |[],_,S=>S
  |r::rs,j,S=>nE i b E rs (j+1) (if j !=i&& !(b&&E.contains j)&& !S.contains j&&subset r.after S then j::S else S)
def closed (i:Nat) (S:List Nat):List Row→Nat→Bool
  |[],_=>true
  |r::rs,j=>(j==i||S.contains j|| !subset r.after S)&&closed i S rs (j+1)
def rH (i:Nat) (ri:Row) (pure:Bool) (E S listed:List Nat):List Row→Nat→Bool
  |[],_=>true
  |r::rs,j=>(j==i|| !S.contains j||listed.contains j||((pure|| !E.contains j)&&ri.apart r))&&rH i ri pure E S listed rs (j+1)
def dH (T:List Row) (listed:List Nat) (i:Nat):Bool:=
  match T[i]? with
  |some r=> !listed.contains i&&subset r.after listed
  |none=>false
def g' (T:List Row) (pure:Bool) (E listed:List Nat) (i:Nat):Bool:=
  match T[i]? with
  |some ri=>
    let S:=nE i (!pure) E T 0 listed
    !listed.contains i&&subset ri.after listed&& !S.contains i&&closed i S T 0&&rH i ri pure E S listed T 0
  |none=>false
def gv (listed:List Nat) (k:Nat):List Row→Nat→Bool
  |[],_=>true
  |r::rs,j=>(j==k||listed.contains j|| !subset r.after listed)&&gv listed k rs (j+1)
def ij (listed:List Nat):List Row→Nat→Bool
  |[],_=>true
  |r::rs,j=>(listed.contains j|| !subset r.after listed)&&ij listed rs (j+1)
inductive PStep where
  |p (i:Nat)
  |q (i:Nat)
  |r (i:Nat) (R:World→World→Prop)
  |x (i:Nat)
  |s (i:Nat) (R:World→World→Prop)
  |e (i:Nat)
def aK:List PStep→List Nat
  |[]=>[]
  | .e i::r=>i::aK r
  |_::r=>aK r
def aW:List PStep→List Nat
  |[]=>[]
  | .s i _::r=>i::aW r
  |_::r=>aW r
def aY (R0:World→World→Prop):List PStep→Prop
  |[]=>True
  | .r _ R::r=>R=R0∧aY R0 r
  | .s _ R::r=>R=R0∧aY R0 r
  |_::r=>aY R0 r
def dG (T:List Row) (E M:List Nat):List PStep→List Nat→Bool
  |[],listed=>ij listed T 0
  | .p i::r,listed=>g' T true E listed i&&dG T E M r (i::listed)
  | .q i::r,listed=>g' T false (E++M) listed i&&dG T E M r (i::listed)
  | .r i _::r,listed=>g' T false E listed i&&dG T E M r (i::listed)
  | .x k::r,listed=>dH T listed k&&gv listed k T 0&&dG T E M r (k::listed)
  | .s k _::r,listed=>dH T listed k&&gv listed k T 0&&dG T E M r (k::listed)
  | .e k::r,listed=>dH T listed k&&gv listed k T 0&&dG T E M r (k::listed)
def gq (T:List Row) (E:List Nat):List PStep→List Nat→Bool
  |[],listed=>ij listed T 0
  | .p i::r,listed=>g' T true E listed i&&gq T E r (i::listed)
  | .q i::r,listed=>g' T false E listed i&&gq T E r (i::listed)
  | .x k::r,listed=>dH T listed k&&gv listed k T 0&&gq T E r (k::listed)
  | .e k::r,listed=>dH T listed k&&gv listed k T 0&&gq T E r (k::listed)
  | .r _ _::_,_=>false
  | .s _ _::_,_=>false
theorem kU {T:List Row} {E:List Nat}:∀(pl:List PStep) (l:List Nat),gq T E pl l=true→dG T E [] pl l=true∧aW pl=[]∧aY (Chg []) pl
  |[],l,h=>⟨h,rfl,trivial⟩
  | .p i::r,l,h=>by
    simp only[gq,dG,Bool.and_eq_true]at h⊢;have:=kU r _ h.2;exact⟨⟨h.1,this.1⟩,this.2.1,this.2.2⟩
  | .q i::r,l,h=>by
    simp only[gq,dG,Bool.and_eq_true,List.append_nil]at h⊢;have:=kU r _ h.2;exact⟨⟨h.1,this.1⟩,this.2.1,this.2.2⟩
  | .x k::r,l,h=>by
    simp only[gq,dG,Bool.and_eq_true]at h⊢;have:=kU r _ h.2;exact⟨⟨h.1,this.1⟩,this.2.1,this.2.2⟩
  | .e k::r,l,h=>by
    simp only[gq,dG,Bool.and_eq_true]at h⊢;have:=kU r _ h.2;exact⟨⟨h.1,this.1⟩,this.2.1,this.2.2⟩
  | .r _ _::_,_,h=>by simp[gq]at h
  | .s _ _::_,_,h=>by simp[gq]at h
structure Rel (ops:Array Oper) (L:Array Bool) (l:List Nat):Prop where
  at_:∀k,k<ops.size→L[k]? =some (l.contains k)
  size:L.size=ops.size
  bound:∀k∈l,k<ops.size
theorem Rel.getDf {L:Array Bool} {l:List Nat} (h:Rel ops L l) (k:Nat):L.getD k false=l.contains k:=by
  by_cases hk:k<ops.size
  · have h1:=h.at_ k hk
    simp[Array.getD_eq_getD_getElem?,h1]
  · have h0:L[k]? =none:=by simp;have:=h.size;omega
    have h2:l.contains k=false:=by
      rw[←Bool.not_eq_true,List.contains_iff_mem];intro hm;exact hk (h.bound k hm)
    rw[Array.getD_eq_getD_getElem?,h0,h2];rfl
theorem Rel.getDt {L:Array Bool} {l:List Nat} (h:Rel ops L l) {k:Nat} (hk:k<ops.size):L.getD k true=l.contains k:=by
  have h1:=h.at_ k hk;simp[Array.getD_eq_getD_getElem?,h1]
theorem Rel.cons {L:Array Bool} {l:List Nat} (h:Rel ops L l) {i:Nat} (hi:i<ops.size):Rel ops (L.setIfInBounds i true) (i::l) where
  at_ k hk:=by
    rw[Array.getElem?_setIfInBounds];by_cases e:i=k
    · subst e;simp[h.size,hi]
    · rw[if_neg e,h.at_ k hk]
      have e':k≠i:=fun h=>e h.symm;simp[e']
  size:=by simp[h.size]
  bound k hk:=by
    rcases List.mem_cons.1 hk with rfl|hk
    · exact hi
    · exact h.bound k hk
theorem Rel.start:Rel ops (Array.replicate ops.size false) [] where
  at_ k hk:=by simp[hk]
  size:=by simp
  bound k hk:=by cases hk
theorem cB {i:Nat} {o:Oper} (h:ops[i]? =some o):i<ops.size:=(Array.getElem?_eq_some_iff.1 h).1
theorem fG {i:Nat} {o:Oper} (h:ops[i]? =some o):(dw md ops)[i]? =some (n9 md ops o):=by
  unfold dw;rw[List.getElem?_map,Array.getElem?_toList,h];rfl
theorem m_ {i:Nat} {r:Row} (h:(dw md ops)[i]? =some r):∃o,ops[i]? =some o∧r=n9 md ops o:=by
  unfold dw at h;rw[List.getElem?_map,Array.getElem?_toList]at h;cases ho:ops[i]? with
  |none=>simp[ho]at h
  |some o=>simp[ho]at h;exact⟨o,rfl,h.symm⟩
theorem jN {o:Oper} {l:List Nat}:subset (n9 md ops o).after l=true↔∀e∈o.after,Region.binds md e=true→l.contains e.on=true:=by
  unfold subset n9;simp only[List.all_eq_true,List.mem_map,List.mem_filter,forall_exists_index,and_imp];constructor
  · intro h e he hb
    exact h e.on e (by simpa using he) hb rfl
  · rintro h x e he hb rfl
    exact h e (by simpa using he) hb
theorem dW {L:Array Bool} {l:List Nat} (h:Rel ops L l) {j:Nat}:j∈Region.ready md ops L↔l.contains j=false∧∃o,ops[j]? =some o∧subset (n9 md ops o).after l=true:=by
  rw[mem_ready];constructor
  · rintro⟨h0,o,ho,hall⟩
    rw[h.getDt (cB ho)]at h0;exact⟨h0,o,ho,jN.2 fun e he hb=>by rw[←h.getDf];exact hall e he hb⟩
  · rintro⟨h0,o,ho,hall⟩
    refine⟨by rw[h.getDt (cB ho)];exact h0,o,ho,fun e he hb=>?_⟩;rw[h.getDf];exact jN.1 hall e he hb
theorem kR {i:Nat} {S:List Nat}:∀(T:List Row) (n:Nat),closed i S T n=true→∀j r,T[j]? =some r→n+j≠i→subset r.after S=true→S.contains (n+j)=true
  |[],_,_,j,r,h,_,_=>by simp at h
  |x::T,n,hc,j,r,h,hji,hs=>by
    simp only[closed,Bool.and_eq_true,Bool.or_eq_true,beq_iff_eq,Bool.not_eq_true']at hc;cases j with
    |zero=>
      simp at h;subst h;rcases hc.1 with (h1|h1)|h1
      · exact absurd h1 (by simpa using hji)
      · simpa using h1
      · rw[hs]at h1;cases h1
    |succ j=>
      have:=kR T (n+1) hc.2 j r (by simpa using h) (by omega) hs;rw[show n+(j+1)=n+1+j by omega];exact this
theorem k5 {i:Nat} {ri:Row} {pure:Bool} {E S l:List Nat}:∀(T:List Row) (n:Nat),rH i ri pure E S l T n=true→∀j r,T[j]? =some r→n+j≠i→S.contains (n+j)=true→l.contains (n+j)=false→
    ((pure=true∨E.contains (n+j)=false)∧ri.apart r=true)
  |[],_,_,j,r,h,_,_,_=>by simp at h
  |x::T,n,hc,j,r,h,hji,hs,hl=>by
    simp only[rH,Bool.and_eq_true,Bool.or_eq_true,beq_iff_eq,Bool.not_eq_true']at hc;cases j with
    |zero=>
      simp at h;subst h;simp only[Nat.add_zero]at hs hl hji⊢;rcases hc.1 with ((h1|h1)|h1)|h1
      · exact absurd h1 hji
      · rw[hs]at h1;cases h1
      · rw[hl]at h1;cases h1
      · exact h1
    |succ j=>
      have:=k5 T (n+1) hc.2 j r (by simpa using h) (by omega) (by rw[show n+1+j=n+(j+1)by omega];exact hs) (by rw[show n+1+j=n+(j+1)by omega];exact hl);rw[show n+(j+1)=n+1+j by omega];exact this
theorem kZ {l:List Nat} {k:Nat}:∀(T:List Row) (n:Nat),gv l k T n=true→∀j r,T[j]? =some r→l.contains (n+j)=false→subset r.after l=true→n+j=k
  |[],_,_,j,r,h,_,_=>by simp at h
  |x::T,n,hc,j,r,h,hl,hs=>by
    simp only[gv,Bool.and_eq_true,Bool.or_eq_true,beq_iff_eq,Bool.not_eq_true']at hc;cases j with
    |zero=>
      simp at h;subst h;rcases hc.1 with (h1|h1)|h1
      · simpa using h1
      · simp only[Nat.add_zero]at hl;rw[hl]at h1;cases h1
      · rw[hs]at h1;cases h1
    |succ j=>
      have:=kZ T (n+1) hc.2 j r (by simpa using h) (by rw[show n+1+j=n+(j+1)by omega];exact hl) hs;omega
theorem iR {l:List Nat}:∀(T:List Row) (n:Nat),ij l T n=true→∀j r,T[j]? =some r→l.contains (n+j)=false→subset r.after l=true→False
  |[],_,_,j,r,h,_,_=>by simp at h
  |x::T,n,hc,j,r,h,hl,hs=>by
    simp only[ij,Bool.and_eq_true,Bool.or_eq_true,Bool.not_eq_true']at hc;cases j with
    |zero=>
      simp at h;subst h;rcases hc.1 with h1|h1
      · simp only[Nat.add_zero]at hl;rw[hl]at h1;cases h1
      · rw[hs]at h1;cases h1
    |succ j=>exact iR T (n+1) hc.2 j r (by simpa using h) (by rw[show n+1+j=n+(j+1)by omega];exact hl) hs
theorem nU {x:Nat} {j:Nat} {S:List Nat} (h:S.contains j=true):(x::S).contains j=true:=by
  simp only[List.contains_cons,h,Bool.or_true]
theorem ka {i:Nat} {b:Bool} {E:List Nat}:∀(T:List Row) (n:Nat) (S:List Nat) (j:Nat),S.contains j=true→(nE i b E T n S).contains j=true
  |[],_,_,_,h=>h
  |r::T,n,S,j,h=>by
    unfold nE;split
    · exact ka T (n+1) _ j (nU h)
    · exact ka T (n+1) _ j h
def aN (P:Program) (ops:Array Oper) (Q:Exit→Act→World→Prop):List PStep→Act→World→Prop
  |[],a,w=>∀w1,Chg [] w w1→Q .normal a w1
  | .p i::r,a,w=>∃o,ops[i]? =some o∧∃v,Qt P ops o v Ad w a∧aN P ops Q r (a.put o.dst v) w
  | .q i::r,a,w=>∃o,ops[i]? =some o∧∃v,Qt P ops o v (Chg []) w a∧aN P ops Q r (a.put o.dst v) w
  | .r i R::r,a,w=>∃o,ops[i]? =some o∧∃v,Qt P ops o v R w a∧aN P ops Q r (a.put o.dst v) w
  | .x k::r,a,w=>∀w1,Chg [] w w1→wpOp P ops Q k (fun a' w'=>Chg [] w1 w'∧aN P ops Q r a' w') a w1
  | .s k R::r,a,w=>∀w1,Chg [] w w1→wpOp P ops Q k (fun a' w'=>R w1 w'∧aN P ops Q r a' w') a w1
  | .e k::r,a,w=>∀w1,Chg [] w w1→wpOp P ops Q k (fun a' w'=>aN P ops Q r a' w') a w1
theorem tg {E M:List Nat} {R0:World→World→Prop} (hR0:Far R0) (hsel:Region.noSelect ops=true) (hQ:∀c a d v w,Q (.panic c) (a.put d v) w→Q (.panic c) a w):
    ∀(pl:List PStep) (fuel:Nat) (L:Array Bool) (l:List Nat) (a:Act) (w:World),pl.length≤fuel→Rel ops L l→(∀i∈aK pl,E.contains i=true)→(∀i∈aW pl,M.contains i=true)→aY R0 pl→dG (dw md ops) E M pl l=true→aN P ops Q pl a w→
      fK P md ops Q E M R0 fuel L a w:=by
  have take:∀(R:World→World→Prop) (hR:Far R) (pure:Bool) (E':List Nat) (hE':∀j,(pure=true∨E'.contains j=false)→∀w w',Bv E M R0 j w w'→R w w') (i:Nat) (r:List PStep) (fuel:Nat) (L:Array Bool) (l:List Nat) (a:Act) (w:World) (o:Oper) (v:Value),Rel ops L l→ops[i]? =some o→Qt P ops o v R w a→
      g' (dw md ops) pure E' l i=true→fK P md ops Q E M R0 fuel (L.setIfInBounds i true) (a.put o.dst v) w→fK P md ops Q E M R0 (fuel+1) L a w:=by
    intro R hR pure E' hE' i r fuel L l a w o v hR' ho hy hok H
    simp only[g',fG ho,Bool.and_eq_true,Bool.not_eq_true']at hok
    obtain⟨⟨⟨⟨h0,h1⟩,h2⟩,h3⟩,h4⟩:=hok
    refine mB hR0 hR ho (Region.noSelect_spec hsel) (fun c a w=>hQ c a _ _ w) (fun j=>(nE i (!pure) E' (dw md ops) 0 l).contains j) ?_ fuel L a w ?_ ?_ ?_ hy H
    · intro j oj hoj hji hall
      have:=kR _ 0 h3 j _ (fG hoj) (by simpa using hji) (jN.2 hall)
      simpa using this
    · intro k hk
      rw[hR'.getDf]at hk
      exact ka _ _ _ _ hk
    · intro j oj hoj hji hS hl
      rw[hR'.getDt (cB hoj)]at hl
      have:=k5 _ 0 h4 j _ (fG hoj) (by simpa using hji) (by simpa using hS) (by simpa using hl)
      exact⟨hE' j (by simpa using this.1),this.2⟩
    · exact(dW hR').2 ⟨h0,o,ho,h1⟩
  have only:∀(k:Nat) (L:Array Bool) (l:List Nat),Rel ops L l→dH (dw md ops) l k=true→gv l k (dw md ops) 0=true→(∃o,ops[k]? =some o)∧k∈Region.ready md ops L∧∀j∈Region.ready md ops L,j=k:=by
    intro k L l hR h1 h2
    have hrk:∃o,ops[k]? =some o∧l.contains k=false∧subset (n9 md ops o).after l=true:=by
      unfold dH at h1
      cases ht:(dw md ops)[k]? with
      |none=>rw[ht]at h1;cases h1
      |some rr=>
        rw[ht]at h1
        obtain⟨o,ho,rfl⟩:=m_ ht
        simp only[Bool.and_eq_true,Bool.not_eq_true']at h1
        exact⟨o,ho,h1.1,h1.2⟩
    obtain⟨o,ho,hk0,hk1⟩:=hrk
    refine⟨⟨o,ho⟩,(dW hR).2 ⟨hk0,o,ho,hk1⟩,fun j hj=>?_⟩
    obtain⟨hj0,oj,hoj,hjs⟩:=(dW hR).1 hj
    have:=kZ _ 0 h2 j _ (fG hoj) (by simpa using hj0) hjs
    omega
  intro pl
  induction pl with
  |nil=>
    intro fuel L l a w _ hR _ _ _ hok h
    have hr:Region.ready md ops L=[]:=by
      apply List.eq_nil_iff_forall_not_mem.2
      intro j hj
      obtain⟨h0,o,ho,hs⟩:=(dW hR).1 hj
      exact iR _ 0 hok j _ (fG ho) (by simpa using h0) hs
    cases fuel with
    |zero=>exact fun w1 h1=>⟨hr,h w1 h1⟩
    |succ fuel=>exact fun w1 h1=>⟨fun _=>h w1 h1,by rw[hr];simp⟩
  |cons s r ih=>
    intro fuel L l a w hf hR hE hM hA hok h
    obtain⟨fuel,rfl⟩:∃m,fuel=m+1:=⟨fuel - 1,by simp at hf;omega⟩
    simp only[List.length_cons]at hf
    cases s with
    |p i=>
      obtain⟨o,ho,v,hy,hn⟩:=h
      simp only[dG,Bool.and_eq_true]at hok
      exact take Ad .any true E (fun _ _ _ _ _=>trivial) i r fuel L l a w o v hR ho hy hok.1 (ih fuel _ (i::l) _ w (by omega) (hR.cons (cB ho)) hE hM hA hok.2 hn)
    |q i=>
      obtain⟨o,ho,v,hy,hn⟩:=h
      simp only[dG,Bool.and_eq_true]at hok
      refine take (Chg []) .grown false (E++M) (fun j hj w w' he=>?_) i r fuel L l a w o v hR ho hy hok.1 (ih fuel _ (i::l) _ w (by omega) (hR.cons (cB ho)) hE hM hA hok.2 hn)
      rcases hj with hj|hj
      · cases hj
      · rw[List.contains_eq_mem,decide_eq_false_iff_not,List.mem_append,not_or]at hj
        exact he.2 (by simpa using hj.1) (by simpa using hj.2)
    |r i R=>
      obtain⟨o,ho,v,hy,hn⟩:=h
      obtain⟨rfl,hA⟩:=hA
      simp only[dG,Bool.and_eq_true]at hok
      refine take R hR0 false E (fun j hj w w' he=>?_) i r fuel L l a w o v hR ho hy hok.1 (ih fuel _ (i::l) _ w (by omega) (hR.cons (cB ho)) hE hM hA hok.2 hn)
      rcases hj with hj|hj
      · cases hj
      · exact he.1 hj
    |x k=>
      simp only[dG,Bool.and_eq_true]at hok
      obtain⟨⟨o,ho⟩,hmem,hall⟩:=only k L l hR hok.1.1 hok.1.2
      intro w1 hw1
      refine⟨fun h0=>(by rw[h0]at hmem;cases hmem),fun j hj=>?_⟩
      obtain rfl:=hall j hj
      exact wpOp_mono (fun a' w' h'=>⟨.grown hR0 h'.1,ih fuel _ (j::l) a' w' (by omega) (hR.cons (cB ho)) hE hM hA hok.2 h'.2⟩) (h w1 hw1)
    |s k R=>
      obtain⟨rfl,hA⟩:=hA
      simp only[dG,Bool.and_eq_true]at hok
      obtain⟨⟨o,ho⟩,hmem,hall⟩:=only k L l hR hok.1.1 hok.1.2
      intro w1 hw1
      refine⟨fun h0=>(by rw[h0]at hmem;cases hmem),fun j hj=>?_⟩
      obtain rfl:=hall j hj
      refine wpOp_mono (fun a' w' h'=>⟨⟨fun _=>h'.1,fun _ hc=>?_⟩,ih fuel _ (j::l) a' w' (by omega) (hR.cons (cB ho)) hE (fun i hi=>hM i (by simp[aW,hi])) hA hok.2 h'.2⟩) (h w1 hw1)
      have:=hM j (by simp[aW])
      rw[this]at hc;cases hc
    |e k=>
      simp only[dG,Bool.and_eq_true]at hok
      obtain⟨⟨o,ho⟩,hmem,hall⟩:=only k L l hR hok.1.1 hok.1.2
      intro w1 hw1
      refine⟨fun h0=>(by rw[h0]at hmem;cases hmem),fun j hj=>?_⟩
      obtain rfl:=hall j hj
      have hEj:=hE j (by simp[aK])
      exact wpOp_mono (fun a' w' h'=>⟨⟨fun hc=>(by rw[hEj]at hc;cases hc),fun hc=>(by rw[hEj]at hc;cases hc)⟩,ih fuel _ (j::l) a' w' (by omega) (hR.cons (cB ho)) (fun i hi=>hE i (by simp[aK,hi])) hM hA hok.2 h'⟩) (h w1 hw1)
theorem fF {id:Nat} {l:List Oper} {a:Act} {w:World} (R0:World→World→Prop) (hR0:Far R0) (pl:List PStep) (hA:aY R0 pl) (hm:P.follows .mixedOrders=true) (hsel:Region.noSelect l.toArray=true) (hlen:(pl.length≤l.toArray.size:Bool)=true)
    (hok:dG (dw .any l.toArray) (aK pl) (aW pl) pl []=true) (hQ:∀c a d v w,Q (.panic c) (a.put d v) w→Q (.panic c) a w) (h:aN P l.toArray Q pl a w):(Code.region id l.toArray true).wp P Q a w:=
  wp_region_any hm (l8 _ _ _ _ (fK.grow (tg (E:=aK pl) (M:=aW pl) hR0 hsel hQ pl _ _ [] _ _ (by simpa using hlen) Rel.start (fun i hi=>by simpa using hi) (fun i hi=>by simpa using hi) hA hok h) (Chg.drew (.refl _ _))))
theorem pY {id:Nat} {l:List Oper} {a:Act} {w:World} (pl:List PStep) (hm:P.follows .mixedOrders=true) (hsel:Region.noSelect l.toArray=true) (hlen:(pl.length≤l.toArray.size:Bool)=true)
    (hok:gq (dw .any l.toArray) (aK pl) pl []=true) (hQ:∀c a d v w,Q (.panic c) (a.put d v) w→Q (.panic c) a w) (h:aN P l.toArray Q pl a w):(Code.region id l.toArray true).wp P Q a w:=
  have hp:=kU pl [] hok;fF (Chg []) .grown pl hp.2.2 hm hsel hlen (by rw[hp.2.1];exact hp.1) hQ h
def PStep.idx:PStep→Nat
  | .p i| .q i| .r i _| .x i| .s i _| .e i=>i
def z3:List PStep→Prop
  |[]=>True
  | .r _ R::r=>Far R∧z3 r
  |_::r=>z3 r
theorem ec:∀(pl:List PStep) (a:Act) (w w1:World),z3 pl→Chg [] w w1→aN P ops Q pl a w→wpOps P ops Q (pl.map PStep.idx) a w1
  |[],_,_,w1,_,hw,h=>h w1 hw
  | .p i::r,a,w,w1,hF,hw,⟨o,ho,v,hy,hn⟩=>by
    rw[List.map_cons,wpOps_cons];exact(hy.grow .any (Far.any.of _ _ hw)).wpOp .any ho fun w2 h2=>ec r _ w w2 hF (hw.trans h2) hn
  | .q i::r,a,w,w1,hF,hw,⟨o,ho,v,hy,hn⟩=>by
    rw[List.map_cons,wpOps_cons];exact(hy.grow .grown hw).wpOp .grown ho fun w2 h2=>ec r _ w w2 hF (hw.trans h2) hn
  | .r i R::r,a,w,w1,hF,hw,⟨o,ho,v,hy,hn⟩=>by
    rw[List.map_cons,wpOps_cons];exact(hy.grow hF.1 (hF.1.of _ _ hw)).wpOp hF.1 ho fun w2 h2=>ec r _ w w2 hF.2 (hw.trans h2) hn
  | .x i::r,a,w,w1,hF,hw,h=>by
    rw[List.map_cons,wpOps_cons];exact wpOp_mono (fun a' w' h'=>ec r a' w' w' hF (.refl _ _) h'.2) (h w1 hw)
  | .s i R::r,a,w,w1,hF,hw,h=>by
    rw[List.map_cons,wpOps_cons];exact wpOp_mono (fun a' w' h'=>ec r a' w' w' hF (.refl _ _) h'.2) (h w1 hw)
  | .e i::r,a,w,w1,hF,hw,h=>by
    rw[List.map_cons,wpOps_cons];exact wpOp_mono (fun a' w' h'=>ec r a' w' w' hF (.refl _ _) h') (h w1 hw)
def noR:List PStep→Bool
  |[]=>true
  | .r _ _::_=>false
  |_::r=>noR r
theorem gk:∀pl,noR pl=true→z3 pl
  |[],_=>trivial
  | .r _ _::r,h=>by simp[noR]at h
  | .s _ _::r,h=>gk r h
  | .p _::r,h=>gk r h
  | .q _::r,h=>gk r h
  | .x _::r,h=>gk r h
  | .e _::r,h=>gk r h
theorem pA {id:Nat} {l:List Oper} {a:Act} {w:World} (pl:List PStep) (hpl:pl.map PStep.idx=List.range l.toArray.size) (h:aN P l.toArray Q pl a w) (hF:noR pl=true:=by rfl):(Code.region id l.toArray false).wp P Q a w:=
  wp_region (by rw[←hpl];exact ec pl a w w (gk pl hF) (.refl _ _) h)
end
end Go.Proofs.YtomjbepgbnbgmaaDoor
namespace Go.Proofs.YtomjbepgbnbgmaaDoor
open Go
def szc (P:Program) (t:TypeId):Option Nat:=(P.info? t).map (·.size)
def c7 (P:Program) (o:Oper) (a:Act) (v:Value):Prop:=∀w,(execOp a.eval o).run P w= .ok (.value v) w
def r5 (P:Program) (o:Oper) (a:Act) (w:World) (v:Value):Prop:=(execOp a.eval o).run P w= .ok (.value v) w
theorem c7.l {P:Program} {o:Oper} {a:Act} {v:Value} (h:c7 P o a v) (w:World):r5 P o a w v:=h w
section
variable {P : Program} {a : Act} {d : Option Tmp} {ty : TypeId} {pos : String} {af : Array Edge} {g : Option (Nat × Bool)} {x y : Operand} {t : TypeId}
theorem br {s:Sem Value} {w w':World} {v:Value} (h:s.run P w= .ok v w'):(do pure (.value (←s)):Sem Next).run P w= .ok (.value v) w':=by
  rw[Sem.run_bind,h];rfl
theorem aw:c7 P ⟨d,.move x,ty,pos,af,g⟩ a (a.eval x):=fun _=>rfl
theorem yb:c7 P ⟨d,.assign x,ty,pos,af,g⟩ a (a.eval x):=fun _=>rfl
theorem ac {op:BinOp} {vx vy v:Value} {t':TypeId} (hx:a.eval x=vx) (hy:a.eval y=vy) (h:fl P op t x y vx vy v):c7 P ⟨d,.binOp op t x y t',ty,pos,af,g⟩ a v:=fun w=>by
  subst hx;subst hy;exact br (h w)
theorem bw {s:TypeId} {vx v:Value} (hx:a.eval x=vx) (h:yv P s t vx v):c7 P ⟨d,.convert s t x,ty,pos,af,g⟩ a v:=fun w=>by
  subst hx;exact br (h w)
theorem bS {b:Bool} (hx:a.eval x= .bool b):c7 P ⟨d,.unOp .not t x,ty,pos,af,g⟩ a (.bool !b):=fun w=>by
  refine br (w:=w) ?_;rw[hx];rfl
theorem kI {b:UInt64} (hx:a.eval x=db b):c7 P ⟨d,.unOp .neg t x,ty,pos,af,g⟩ a (db (-b)):=fun w=>by
  refine br (w:=w) ?_;rw[hx];have h:=gG (P:=P) (t:=t) (x:=x) (y:=x) 0 b w;rw[Sem.run_bind,g8]at h;rw[show -b=0 - b by simp];exact h
theorem ai {vs:Array Value} {i:Nat} {v:Value} (hx:a.eval x= .tuple vs) (hv:vs[i]? =some v):c7 P ⟨d,.extract x i,ty,pos,af,g⟩ a v:=fun w=>by
  refine br (w:=w) ?_;simp only[hx,Instr.extract,hv];rfl
theorem oG {c:Operand} {b:Bool} (hc:a.eval c= .bool b):c7 P ⟨d,.pick c x y,ty,pos,af,g⟩ a (if b then a.eval x else a.eval y):=fun w=>by
  simp only[execOp,hc,asBool,Sem.run_bind,Sem.run_pure,Result.andThen_ok]
theorem ap {v:Value} (hx:a.eval x=v):c7 P ⟨d,.move x,ty,pos,af,g⟩ a v:=hx▸aw
theorem ba {c:Operand} (hc:a.eval c= .bool true):c7 P ⟨d,.pick c x y,ty,pos,af,g⟩ a (a.eval x):=oG (b:=true) hc
theorem aO {c:Operand} (hc:a.eval c= .bool false):c7 P ⟨d,.pick c x y,ty,pos,af,g⟩ a (a.eval y):=oG (b:=false) hc
theorem ae {ad:Addr} (hx:a.eval x= .pointer (some ad)):c7 P ⟨d,.nilCheck x,ty,pos,af,g⟩ a (.pointer (some ad)):=fun w=>by
  simp only[execOp,hx];rfl
theorem bC {e:TypeId} {ad:Option Addr} {n c:Nat} (hx:a.eval x= .slice ad n c) (hu:P.underlying t=some (.slice e)):c7 P ⟨d,.call ⟨.builtin .len,#[x],#[t]⟩,ty,pos,af,g⟩ a (bb (n:Nat)):=fun w=>by
  simp[execOp,resolve,invoke,builtin,Builtin.len_,hx,run_underlying hu,goInt]
theorem bE {s:ByteArray} (hx:a.eval x= .string s) (hu:P.underlying t=some .string):c7 P ⟨d,.call ⟨.builtin .len,#[x],#[t]⟩,ty,pos,af,g⟩ a (bb (s.size:Nat)):=fun w=>by
  simp[execOp,resolve,invoke,builtin,Builtin.len_,hx,run_underlying hu,goInt]
theorem Ch {k k':IntKind} {m n:Int} {ts:Array TypeId} (hx:a.eval x= .int k m) (hy:a.eval y= .int k' n):c7 P ⟨d,.call ⟨.builtin .min,#[x,y],ts⟩,ty,pos,af,g⟩ a (.int k (if n<m then n else m)):=fun w=>by
  simp[execOp,resolve,invoke,builtin,Builtin.min_,Builtin.min2,hx,hy]
theorem io {m n:Nat} {ts:Array TypeId} (hx:a.eval x=bb m) (hy:a.eval y=bb n):c7 P ⟨d,.call ⟨.builtin .min,#[x,y],ts⟩,ty,pos,af,g⟩ a (bb (min m n:Nat)):=fun w=>by
  rw[Ch hx hy w];have:(if(n:Int)<(m:Int)then(n:Int)else(m:Int))=((min m n:Nat):Int):=by split<;>omega
  rw[this]
theorem dr (b o n:Nat):(⟨b,o,none⟩:Addr).add n=⟨b,o+n,none⟩:=by unfold Addr.add;split<;>simp_all
theorem cn {n:Nat} (h:szc P t=some n) (w:World):(sizeOf t).run P w= .ok n w:=by
  unfold szc at h;obtain⟨i,hi,rfl⟩:=Option.map_eq_some_iff.1 h;simp[sizeOf,typeInfo,hi]
theorem ab {fs:List Field} {f:Field} {i b o n:Nat} (off:Nat) (hx:a.eval x=PT b o) (hu:P.underlying t=some (.struct fs.toArray)) (hf:fs[i]? =some f) (ho:f.offset=off) (hz:szc P f.type=some (n+1)):
    c7 P ⟨d,.fieldAddr t x i,ty,pos,af,g⟩ a (PT b (o+off)):=fun w=>by
  refine br (w:=w) ?_;simp[hx,Instr.fieldAt,run_underlying hu,hf,Instr.sureAddr,fieldPlace,cn hz,dr,ho]
theorem cu {k:IntKind} {e:TypeId} {n s b o i:Nat} (hx:a.eval x=PT b o) (hy:a.eval y= .int k (i:Int)) (hu:P.underlying t=some (.array n e)) (hs:szc P e=some s) (hi:i<n):
    c7 P ⟨d,.indexAddr t x y,ty,pos,af,g⟩ a (PT b (o+i*s)):=fun w=>by
  refine br (w:=w) ?_;have h1:(0:Int)≤(i:Int)∧(i:Int)<(n:Int):=by omega
  simp[hx,hy,Instr.indexAt,asIntOf,run_underlying hu,Instr.sureAddr,cn hs,dr];omega
theorem aq {k:IntKind} {e:TypeId} {n b o i:Nat} (hx:a.eval x=PT b o) (hy:a.eval y= .int k (i:Int)) (hu:P.underlying t=some (.array n e)) (hs:szc P e=some 1) (hi:i<n):
    c7 P ⟨d,.indexAddr t x y,ty,pos,af,g⟩ a (PT b (o+i)):=by
  have:=cu (d:=d) (ty:=ty) (pos:=pos) (af:=af) (g:=g) hx hy hu hs hi;simpa using this
theorem Bj {k:IntKind} {e:TypeId} {n c s b o i:Nat} (hx:a.eval x= .slice (some ⟨b,o,none⟩) n c) (hy:a.eval y= .int k (i:Int)) (hu:P.underlying t=some (.slice e)) (hs:szc P e=some s) (hi:i<n):
    c7 P ⟨d,.indexAddr t x y,ty,pos,af,g⟩ a (PT b (o+i*s)):=fun w=>by
  refine br (w:=w) ?_;have h1:(0:Int)≤(i:Int)∧(i:Int)<(n:Int):=by omega
  simp[hx,hy,Instr.indexAt,asIntOf,run_underlying hu,cn hs,dr];omega
theorem b5 {k:IntKind} {e:TypeId} {n c b o i:Nat} (hx:a.eval x= .slice (some ⟨b,o,none⟩) n c) (hy:a.eval y= .int k (i:Int)) (hu:P.underlying t=some (.slice e)) (hs:szc P e=some 1) (hi:i<n):
    c7 P ⟨d,.indexAddr t x y,ty,pos,af,g⟩ a (PT b (o+i)):=by
  have:=Bj (d:=d) (ty:=ty) (pos:=pos) (af:=af) (g:=g) hx hy hu hs hi;simpa using this
theorem eC {k:IntKind} {e:TypeId} {n i:Nat} {cs:Array Value} {v:Value} (hx:a.eval x= .agg cs) (hy:a.eval y= .int k (i:Int)) (hu:P.underlying t=some (.array n e)) (hs:szc P e=some 1)
    (hz:∀w,(isAgg e).run P w= .ok false w) (hi:i<n) (hv:cs[i]? =some v):c7 P ⟨d,.index t x y,ty,pos,af,g⟩ a v:=fun w=>by
  refine br (w:=w) ?_;have h1:(0:Int)≤(i:Int)∧(i:Int)<(n:Int):=by omega
  simp[hx,hy,Instr.index,asIntOf,run_underlying hu,cn hs,part,hz,hv];omega
theorem dX {k:IntKind} {i y:Nat} (h:i≤y) (c:BoundsCode) (w:World):(Instr.sliceBound (.int k (i:Int)) y c).run P w= .ok i w:=by
  have h1:(0:Int)≤(i:Int)∧(i:Int)≤(y:Int):=by omega
  simp[Instr.sliceBound,asIntOf];omega
def kr (ad:Option Addr) (l m s:Nat):Option Addr:=if m=l then ad else ad.map (·.add (l*s))
theorem sc {k k':IntKind} {e:TypeId} {ad:Option Addr} {n c s l h:Nat} {xl xh:Operand} (hx:a.eval x= .slice ad n c) (hl:a.eval xl= .int k (l:Int)) (hh:a.eval xh= .int k' (h:Int))
    (hu:P.underlying t=some (.slice e)) (hs:szc P e=some s) (h1:l≤h) (h2:h≤c):c7 P ⟨d,.slice t x (some xl) (some xh) none,ty,pos,af,g⟩ a (.slice (kr ad l c s) (h - l) (c - l)):=fun w=>by
  refine br (w:=w) ?_;simp[hx,hl,hh,Instr.sliceAt,Instr.slice,run_underlying hu,Instr.sliceBounds,dX h1,dX h2,cn hs,kr]
theorem uM {k':IntKind} {e:TypeId} {ad:Option Addr} {n c s h:Nat} {xh:Operand} (hx:a.eval x= .slice ad n c) (hh:a.eval xh= .int k' (h:Int))
    (hu:P.underlying t=some (.slice e)) (hs:szc P e=some s) (h2:h≤c):c7 P ⟨d,.slice t x none (some xh) none,ty,pos,af,g⟩ a (.slice ad h c):=fun w=>by
  refine br (w:=w) ?_
  have e0:(if c=0 then ad else ad.map fun a=>a.add 0)=ad:=by
    split
    · rfl
    · cases ad<;>simp[Addr.add]
  simp[hx,hh,Instr.sliceAt,Instr.slice,run_underlying hu,Instr.sliceBounds,dX h2,cn hs,e0]
theorem p9 {k:IntKind} {e:TypeId} {ad:Option Addr} {n c s l:Nat} {xl:Operand} (hx:a.eval x= .slice ad n c) (hl:a.eval xl= .int k (l:Int))
    (hu:P.underlying t=some (.slice e)) (hs:szc P e=some s) (h1:l≤n):c7 P ⟨d,.slice t x (some xl) none none,ty,pos,af,g⟩ a (.slice (kr ad l c s) (n - l) (c - l)):=fun w=>by
  refine br (w:=w) ?_;simp[hx,hl,Instr.sliceAt,Instr.slice,run_underlying hu,Instr.sliceBounds,dX h1,cn hs,kr]
theorem dp {k':IntKind} {st:ByteArray} {h:Nat} {xh:Operand} (hx:a.eval x= .string st) (hh:a.eval xh= .int k' (h:Int))
    (hu:P.underlying t=some .string) (h2:h≤st.size):c7 P ⟨d,.slice t x none (some xh) none,ty,pos,af,g⟩ a (.string (st.extract 0 h)):=fun w=>by
  refine br (w:=w) ?_;simp[hx,hh,Instr.sliceAt,Instr.slice,run_underlying hu,Instr.sliceBounds,dX h2]
theorem fY {k:IntKind} {st:ByteArray} {l:Nat} {xl:Operand} (hx:a.eval x= .string st) (hl:a.eval xl= .int k (l:Int))
    (hu:P.underlying t=some .string) (h1:l≤st.size):c7 P ⟨d,.slice t x (some xl) none none,ty,pos,af,g⟩ a (.string (st.extract l st.size)):=fun w=>by
  refine br (w:=w) ?_;simp[hx,hl,Instr.sliceAt,Instr.slice,run_underlying hu,Instr.sliceBounds,dX h1]
theorem ox {k k':IntKind} {e:TypeId} {n s b o l h:Nat} {xl xh:Operand} (hx:a.eval x=PT b o) (hl:a.eval xl= .int k (l:Int)) (hh:a.eval xh= .int k' (h:Int))
    (hu:P.underlying t=some (.array n e)) (hs:szc P e=some s) (h1:l≤h) (h2:h≤n):c7 P ⟨d,.slice t x (some xl) (some xh) none,ty,pos,af,g⟩ a (.slice (kr (some ⟨b,o,none⟩) l n s) (h - l) (n - l)):=fun w=>by
  refine br (w:=w) ?_;simp only[hx,hl,hh,Option.map_some,Option.map_none,Instr.sliceAt,run_underlying hu,Sem.run_bind,Result.andThen_ok,Instr.sureAddr,Instr.sliceBounds,dX h1,dX h2,cn hs,kr,Sem.run_pure];split<;>rfl
theorem aR {e:TypeId} {n s b o:Nat} (hx:a.eval x=PT b o) (hu:P.underlying t=some (.array n e)) (hs:szc P e=some s):c7 P ⟨d,.slice t x none none none,ty,pos,af,g⟩ a (.slice (some ⟨b,o,none⟩) n n):=fun w=>by
  refine br (w:=w) ?_;simp[hx,Instr.sliceAt,run_underlying hu,Instr.sureAddr,Instr.sliceBounds,cn hs,Addr.add]
theorem k8 {k':IntKind} {e:TypeId} {n s b o h:Nat} {xh:Operand} (hx:a.eval x=PT b o) (hh:a.eval xh= .int k' (h:Int))
    (hu:P.underlying t=some (.array n e)) (hs:szc P e=some s) (h2:h≤n):c7 P ⟨d,.slice t x none (some xh) none,ty,pos,af,g⟩ a (.slice (some ⟨b,o,none⟩) h n):=fun w=>by
  refine br (w:=w) ?_;simp[hx,hh,Instr.sliceAt,run_underlying hu,Instr.sureAddr,Instr.sliceBounds,dX h2,cn hs,Addr.add]
theorem o7 {k:IntKind} {e:TypeId} {n s b o l:Nat} {xl:Operand} (hx:a.eval x=PT b o) (hl:a.eval xl= .int k (l:Int))
    (hu:P.underlying t=some (.array n e)) (hs:szc P e=some s) (h1:l≤n):c7 P ⟨d,.slice t x (some xl) none none,ty,pos,af,g⟩ a (.slice (kr (some ⟨b,o,none⟩) l n s) (n - l) (n - l)):=fun w=>by
  refine br (w:=w) ?_;simp only[hx,hl,Option.map_some,Option.map_none,Instr.sliceAt,run_underlying hu,Sem.run_bind,Result.andThen_ok,Instr.sureAddr,Instr.sliceBounds,dX h1,cn hs,kr,Sem.run_pure];split<;>rfl
theorem wz {e:TypeId} {ad:Addr} {m n c:Nat} (hx:a.eval x= .slice (some ad) n c) (hu:P.underlying t=some (.array m e)) (h:m≤n):c7 P ⟨d,.sliceToArrayPointer t x,ty,pos,af,g⟩ a (.pointer (some ad)):=fun w=>by
  refine br (w:=w) ?_;have h1:¬n<m:=by omega
  simp[hx,Instr.arrayAt,run_underlying hu,h1]
end
end Go.Proofs.YtomjbepgbnbgmaaDoor
namespace Go.Proofs.YtomjbepgbnbgmaaDoor
open Go
theorem d5 (n:Int) (h1: -9223372036854775808≤n) (h2:n<9223372036854775808):IntKind.i64.wrap n=n:=by
  simp only[IntKind.wrap,IntKind.bits,IntKind.signed];simp;omega
section
variable {P : Program} {t ty : TypeId} {x y : Operand}
theorem xd {m n:Int} (h1: -9223372036854775808≤m+n) (h2:m+n<9223372036854775808):fl P .add t x y (bb m) (bb n) (bb (m+n)):=a_ fun w=>by
  show Result.ok (Value.int .i64 (IntKind.i64.wrap (m+n))) w=_;rw[d5 _ h1 h2]
theorem ic {m n:Int} (h1: -9223372036854775808≤m - n) (h2:m - n<9223372036854775808):fl P .sub t x y (bb m) (bb n) (bb (m - n)):=a_ fun w=>by
  show Result.ok (Value.int .i64 (IntKind.i64.wrap (m - n))) w=_;rw[d5 _ h1 h2]
theorem xV {m n:Int} (h1: -9223372036854775808≤m*n) (h2:m*n<9223372036854775808):fl P .mul t x y (bb m) (bb n) (bb (m*n)):=a_ fun w=>by
  show Result.ok (Value.int .i64 (IntKind.i64.wrap (m*n))) w=_;rw[d5 _ h1 h2]
theorem aE {m n:Nat} (h:m+n<9223372036854775808):fl P .add t x y (bb m) (bb n) (bb (m+n:Nat)):=by
  have:=xd (P:=P) (t:=t) (x:=x) (y:=y) (m:=m) (n:=n) (by omega) (by omega);rwa [show((m:Int)+n)=((m+n:Nat):Int)by omega]at this
theorem cj {m n:Nat} (h:n≤m) (hm:m<9223372036854775808):fl P .sub t x y (bb m) (bb n) (bb (m - n:Nat)):=by
  have:=ic (P:=P) (t:=t) (x:=x) (y:=y) (m:=m) (n:=n) (by omega) (by omega);rwa [show((m:Int) - n)=((m - n:Nat):Int)by omega]at this
theorem dV {m n:Nat} (h:m*n<9223372036854775808):fl P .mul t x y (bb m) (bb n) (bb (m*n:Nat)):=by
  have e:(m:Int)*n=((m*n:Nat):Int):=by simp
  have:=xV (P:=P) (t:=t) (x:=x) (y:=y) (m:=m) (n:=n) (by rw[e];omega) (by rw[e];omega);rwa [e]at this
theorem gz {m n:Nat} (hn:0<n) (hm:m<9223372036854775808):fl P .quo t x y (bb m) (bb n) (bb (m/n:Nat)):=a_ fun w=>by
  have h0:¬((n:Int)=0):=by omega
  show(Op.intDiv .quo .i64 (m:Int) (n:Int)).run P w=_;have e:(m:Int).tdiv n=((m/n:Nat):Int):=by simp
  have hd:m/n≤m:=Nat.div_le_self _ _;simp only[Op.intDiv,h0,if_false,e];show Result.ok (Value.int .i64 (IntKind.i64.wrap ((m/n:Nat):Int))) w=_
  rw[d5 _ (by have:=Int.natCast_nonneg (m/n);omega) (by have:((m/n:Nat):Int)≤m:=(by exact_mod_cast hd);omega)]
theorem dM {m n:Nat} (hn:0<n):fl P .rem t x y (bb m) (bb n) (bb (m%n:Nat)):=a_ fun w=>by
  have h0:¬((n:Int)=0):=by omega
  show(Op.intDiv .rem .i64 (m:Int) (n:Int)).run P w=_;have e:(m:Int).tmod n=((m%n:Nat):Int):=by rw[Int.tmod_eq_emod_of_nonneg (by omega)];simp
  simp only[Op.intDiv,h0,if_false,e];rfl
theorem lr {m c:Nat} {k:IntKind} (hc:c<64) (h:m*2^c<9223372036854775808):fl P .shl t x y (bb m) (.int k (c:Int)) (bb (m*2^c:Nat)):=a_ fun w=>by
  have h0:¬((c:Int)<0):=by omega
  show(Op.shift .shl .i64 (m:Int) k (c:Int)).run P w=_;have e:(m:Int)*2^(min c 64)=((m*2^c:Nat):Int):=by rw[Nat.min_eq_left (by omega)];simp
  simp only[Op.shift,h0,if_false,Int.toNat_natCast,IntKind.bits,e,d5 _ (show(-9223372036854775808:Int)≤((m*2^c:Nat):Int)by omega) (by omega)];rfl
theorem nK {m c:Nat} {k:IntKind} (hc:c<64):fl P .shr t x y (bb m) (.int k (c:Int)) (bb (m/2^c:Nat)):=a_ fun w=>by
  have h0:¬((c:Int)<0):=by omega
  show(Op.shift .shr .i64 (m:Int) k (c:Int)).run P w=_
  have e:Int.fdiv (m:Int) (2^(min c 64))=((m/2^c:Nat):Int):=by
    rw[Nat.min_eq_left (by omega),show((2:Int)^c)=((2^c:Nat):Int)by simp];rw[Int.natCast_ediv,Int.fdiv_eq_ediv_of_nonneg _ (Int.natCast_nonneg _)]
  simp only[Op.shift,h0,if_false,Int.toNat_natCast,IntKind.bits,e];rfl
theorem xk {m n:Int}:fl P .eql t x y (bb m) (bb n) (BV (m==n)):=a_ fun w=>rfl
theorem aS {m n:Nat}:fl P .eql t x y (bb m) (bb n) (BV (m==n)):=by
  have h:=xk (P:=P) (t:=t) (x:=x) (y:=y) (m:=m) (n:=n);have e:((m:Int)==(n:Int))=(m==n):=by rw[Bool.eq_iff_iff];simp;omega
  rwa [e]at h
theorem wO {m n:Int}:fl P .neq t x y (bb m) (bb n) (BV (m !=n)):=a_ fun w=>rfl
theorem an {m n:Nat}:fl P .neq t x y (bb m) (bb n) (BV (m !=n)):=by
  have h:=wO (P:=P) (t:=t) (x:=x) (y:=y) (m:=m) (n:=n);have e:((m:Int) !=(n:Int))=(m !=n):=by rw[Bool.eq_iff_iff];simp;omega
  rwa [e]at h
theorem qA {m n:Int}:fl P .lss t x y (bb m) (bb n) (BV (decide (m<n))):=a_ fun w=>rfl
theorem aJ {m n:Nat}:fl P .lss t x y (bb m) (bb n) (BV (decide (m<n))):=by
  have h:=qA (P:=P) (t:=t) (x:=x) (y:=y) (m:=m) (n:=n);have e:(decide ((m:Int)<(n:Int)))=(decide (m<n)):=by rw[Bool.eq_iff_iff];simp
  rwa [e]at h
theorem xu {m n:Int}:fl P .leq t x y (bb m) (bb n) (BV (decide (m≤n))):=a_ fun w=>rfl
theorem jq {m n:Nat}:fl P .leq t x y (bb m) (bb n) (BV (decide (m≤n))):=by
  have h:=xu (P:=P) (t:=t) (x:=x) (y:=y) (m:=m) (n:=n);have e:(decide ((m:Int)≤(n:Int)))=(decide (m≤n)):=by rw[Bool.eq_iff_iff];simp
  rwa [e]at h
theorem xx {m n:Int}:fl P .gtr t x y (bb m) (bb n) (BV (decide (m>n))):=a_ fun w=>rfl
theorem bZ {m n:Nat}:fl P .gtr t x y (bb m) (bb n) (BV (decide (m>n))):=by
  have h:=xx (P:=P) (t:=t) (x:=x) (y:=y) (m:=m) (n:=n);have e:(decide ((m:Int)>(n:Int)))=(decide (m>n)):=by rw[Bool.eq_iff_iff];simp
  rwa [e]at h
theorem ik {m n:Int}:fl P .geq t x y (bb m) (bb n) (BV (decide (m≥n))):=a_ fun w=>rfl
theorem de {m n:Nat}:fl P .geq t x y (bb m) (bb n) (BV (decide (m≥n))):=by
  have h:=ik (P:=P) (t:=t) (x:=x) (y:=y) (m:=m) (n:=n);have e:(decide ((m:Int)≥(n:Int)))=(decide (m≥n)):=by rw[Bool.eq_iff_iff];simp
  rwa [e]at h
theorem nk (d:Nat) {a b:Bool} (hu:P.underlying t=some .bool) (w:World):(Op.equalIn (d+1) t (.bool a) (.bool b)).run P w= .ok (a==b) w:=by
  simp[Op.equalIn,run_underlying hu]
theorem kY (d:Nat) {e:TypeId} {p:Option Addr} (hu:P.underlying t=some (.pointer e)) (w:World):(Op.equalIn (d+1) t (.pointer p) (.pointer none)).run P w= .ok p.isNone w:=by
  cases p<;>simp[Op.equalIn,run_underlying hu]
theorem qi {vx vy:Value} {b:Bool} (hb:binOp .eql t vx vy=do pure (.bool (←Op.equal t vx vy))) (h:∀d w,(Op.equalIn (d+1) t vx vy).run P w= .ok b w) (w:World):(binOp .eql t vx vy).run P w= .ok (.bool b) w:=by
  rw[hb,Sem.run_bind];have:=h 9999 w;show(Sem.run P (Op.equalIn (9999+1) t vx vy) w).andThen _=_;rw[this];rfl
theorem lX {vx vy:Value} {b:Bool} (hb:binOp .neq t vx vy=do pure (.bool !(←Op.equal t vx vy))) (h:∀d w,(Op.equalIn (d+1) t vx vy).run P w= .ok b w) (w:World):(binOp .neq t vx vy).run P w= .ok (.bool !b) w:=by
  rw[hb,Sem.run_bind];have:=h 9999 w;show(Sem.run P (Op.equalIn (9999+1) t vx vy) w).andThen _=_;rw[this];rfl
theorem ii {a b:Bool} (hu:P.underlying t=some .bool):fl P .neq t x y (.bool a) (.bool b) (BV (!(a==b))):=tz fun w=>lX rfl (fun d w=>nk d hu w) w
theorem dY {a b:ByteArray}:fl P .eql t x y (.string a) (.string b) (BV (a.data.toList==b.data.toList)):=jb fun w=>by
  rw[binOp_string_eql,ByteArray.toList_eq,ByteArray.toList_eq];rfl
theorem cT {a b:ByteArray}:fl P .neq t x y (.string a) (.string b) (BV (!(a.data.toList==b.data.toList))):=jb fun w=>by
  rw[binOp_string_neq,ByteArray.toList_eq,ByteArray.toList_eq];rfl
theorem yd {a b:ByteArray} (h:a.size+b.size<9223372036854775808):fl P .add t x y (.string a) (.string b) (.string (a++b)):=jb fun w=>by
  have h1:¬(IntKind.i64.max<((a.size+b.size:Nat):Int)):=by
    rw[show IntKind.i64.max=9223372036854775807 by decide];omega
  simp only[binOp,Op.stringOp,gt_iff_lt,h1,if_false];rfl
theorem bN {e:TypeId} {p:Option Addr} (hu:P.underlying t=some (.pointer e)):fl P .eql t x y (.pointer p) (.pointer none) (BV p.isNone):=kO fun w=>qi rfl (fun d w=>kY d hu w) w
theorem pV {e:TypeId} {p:Option Addr} (hu:P.underlying t=some (.pointer e)):fl P .neq t x y (.pointer p) (.pointer none) (BV !p.isNone):=kO fun w=>lX rfl (fun d w=>kY d hu w) w
theorem gE {s:TypeId} {ds:TypeDesc} {k k0:IntKind} {n:Int} (hs:P.underlying s=some ds) (hd:P.underlying t=some (.int k)):yv P s t (.int k0 n) (.int k (k.wrap n)):=fun w=>by
  simp only[convert,Sem.run_bind,run_underlying hs,run_underlying hd,Result.andThen_ok];cases ds<;>rfl
theorem eV {s:TypeId} {ds:TypeDesc} (a:UInt8) (hs:P.underlying s=some ds) (hd:P.underlying t=some (.int .u32)):yv P s t (V8 a) (gV a.toUInt32):=by
  have h:=gE (P:=P) (k0:= .u8) (n:=((a.toNat:Nat):Int)) hs hd;rw[iI,Nat.mod_eq_of_lt (by have:=i4 a;omega),←UInt8.toNat_toUInt32]at h;exact h
theorem ki {s:TypeId} {ds:TypeDesc} (a:UInt8) (hs:P.underlying s=some ds) (hd:P.underlying t=some (.int .u64)):yv P s t (V8 a) (db a.toUInt64):=by
  have h:=gE (P:=P) (k0:= .u8) (n:=((a.toNat:Nat):Int)) hs hd;rw[gL,Nat.mod_eq_of_lt (by have:=i4 a;omega),←UInt8.toNat_toUInt64]at h;exact h
theorem gO {s:TypeId} {ds:TypeDesc} {n:Nat} (hs:P.underlying s=some ds) (hd:P.underlying t=some (.int .u8)):yv P s t (bb n) (V8 (UInt8.ofNat n)):=by
  have h:=gE (P:=P) (k0:= .i64) (n:=(n:Int)) hs hd;rw[hJ]at h;have e:(UInt8.ofNat n).toNat=n%256:=UInt8.toNat_ofNat';rw[←e]at h;exact h
theorem kV {s:TypeId} {ds:TypeDesc} (a:UInt8) (hs:P.underlying s=some ds) (hd:P.underlying t=some (.int .i64)):yv P s t (V8 a) (bb (a.toNat:Nat)):=by
  have h:=gE (P:=P) (k0:= .u8) (n:=((a.toNat:Nat):Int)) hs hd;have:=i4 a;rwa [d5 _ (by omega) (by omega)]at h
theorem iz {s:TypeId} {ds:TypeDesc} (a:UInt32) (hs:P.underlying s=some ds) (hd:P.underlying t=some (.int .u8)):yv P s t (gV a) (V8 a.toUInt8):=by
  have h:=gE (P:=P) (k0:= .u32) (n:=((a.toNat:Nat):Int)) hs hd;rw[hJ]at h;have e:(a.toUInt8).toNat=a.toNat%256:=UInt32.toNat_toUInt8 a;rw[←e]at h;exact h
theorem wN {s:TypeId} {ds:TypeDesc} {n:Nat} (hs:P.underlying s=some ds) (hd:P.underlying t=some (.int .u32)):yv P s t (bb n) (gV (UInt32.ofNat n)):=by
  have h:=gE (P:=P) (k0:= .i64) (n:=(n:Int)) hs hd;rw[iI]at h;have e:(UInt32.ofNat n).toNat=n%4294967296:=UInt32.toNat_ofNat';rw[←e]at h;exact h
theorem iH {s:TypeId} {ds:TypeDesc} (a:UInt64) (hs:P.underlying s=some ds) (hd:P.underlying t=some (.int .u8)):yv P s t (db a) (V8 a.toUInt8):=by
  have h:=gE (P:=P) (k0:= .u64) (n:=((a.toNat:Nat):Int)) hs hd;rw[hJ]at h;have e:(a.toUInt8).toNat=a.toNat%256:=UInt64.toNat_toUInt8 a;rw[←e]at h;exact h
theorem gl {s:TypeId} {ds:TypeDesc} {n:Nat} (hs:P.underlying s=some ds) (hd:P.underlying t=some (.int .u64)):yv P s t (bb n) (db (UInt64.ofNat n)):=by
  have h:=gE (P:=P) (k0:= .i64) (n:=(n:Int)) hs hd;rw[gL]at h;have e:(UInt64.ofNat n).toNat=n%18446744073709551616:=UInt64.toNat_ofNat';rw[←e]at h;exact h
theorem q7 {s:TypeId} {ds:TypeDesc} {n:Int} (hs:P.underlying s=some ds) (hd:P.underlying t=some (.int .u64)):yv P s t (bb n) (db (UInt64.ofNat (n%18446744073709551616).toNat)):=by
  have h:=gE (P:=P) (k0:= .i64) (n:=n) hs hd
  have e:IntKind.u64.wrap n=(((UInt64.ofNat (n%18446744073709551616).toNat).toNat:Nat):Int):=by
    have e1:(UInt64.ofNat (n%18446744073709551616).toNat).toNat=(n%18446744073709551616).toNat%18446744073709551616:=UInt64.toNat_ofNat';rw[e1];simp only[IntKind.wrap,IntKind.bits,IntKind.signed];simp;omega
  rw[e]at h;exact h
theorem lB {s:TypeId} {ds:TypeDesc} (a:UInt64) (hs:P.underlying s=some ds) (hd:P.underlying t=some (.int .i64)) (ha:a.toNat<9223372036854775808):yv P s t (db a) (bb (a.toNat:Nat)):=by
  have h:=gE (P:=P) (k0:= .u64) (n:=((a.toNat:Nat):Int)) hs hd;rwa [d5 _ (by omega) (by omega)]at h
end
end Go.Proofs.YtomjbepgbnbgmaaDoor
namespace Go.Proofs.YtomjbepgbnbgmaaDoor
open Go
@[irreducible] def aZ (P:Program) (f:FuncId) (args:Array Value) (w:World) (Post:Value→World→Prop):Prop:=Calls P f args w fun e w'=>∃v,e= .returned v∧Post v w'
@[irreducible] def BP (P:Program) (fn:Func) (Post:Value→World→Prop):Exit→Act→World→Prop:=bodyPost P fn fun e w'=>∃v,e= .returned v∧Post v w'
theorem aZ.calls {P:Program} {f:FuncId} {args:Array Value} {w:World} {Post:Value→World→Prop} (h:aZ P f args w Post):Calls P f args w fun e w'=>∃v,e= .returned v∧Post v w':=by unfold aZ at h;exact h
theorem aZ.mono {P:Program} {f:FuncId} {args:Array Value} {w:World} {Post Post':Value→World→Prop} (h:aZ P f args w Post) (hp:∀v w',Post v w'→Post' v w'):aZ P f args w Post':=by
  unfold aZ at *;exact h.mono fun e w' ⟨v,he,hv⟩=>⟨v,he,hp v w' hv⟩
theorem aZ.enter {P:Program} {f:FuncId} {fn:Func} {c:Code} {args:Array Value} {w:World} {Post:Value→World→Prop} (hf:P.funcs[f]? =some fn) (hb:fn.body=some c)
    (h:c.wp P (BP P fn Post) ⟨args++Array.replicate (fn.ntmps - args.size) undef,[]⟩ w):aZ P f args w Post:=by
  unfold aZ;unfold BP at h;exact calls_of_wp hf hb h
section
variable {P : Program} {fn : Func} {Post : Value → World → Prop} {tm : List Value} {w : World}
theorem BP.panic (c:List PanicEntry) (a:Act) (d:Option Tmp) (v:Value) (w:World) (h:BP P fn Post (.panic c) (a.put d v) w):BP P fn Post (.panic c) a w:=by
  unfold BP at *;obtain⟨_,v,hv,_⟩:=h;cases hv
theorem BP.of {a:Act} {v:Value} (hr:(results fn a.tmps).run P w= .ok v w) (hd:a.defers=[]) (h:Post v w):BP P fn Post .ret a w:=by unfold BP;exact⟨hd,v,hr,v,rfl,h⟩
theorem BP.normal {a:Act} (h:BP P fn Post .ret a w):BP P fn Post .normal a w:=by unfold BP at *;exact h
theorem BP.ret1 {t:Tmp} {v:Value} (hr:fn.results= #[.tmp t]) (hv:tm.getD t undef=v) (h:Post v w):BP P fn Post .ret ⟨tm.toArray,[]⟩ w:=
  .of (v:=v) (by subst hv;simp[results,hr]) rfl h
theorem BP.ret0 {a:Act} (hr:fn.results= #[]) (hd:a.defers=[]) (h:Post (.tuple #[]) w):BP P fn Post .ret a w:= .of (by simp[results,hr]) hd h
theorem BP.ret2 {t u:Tmp} {v v':Value} (hr:fn.results= #[.tmp t,.tmp u]) (hv:tm.getD t undef=v) (hv':tm.getD u undef=v') (h:Post (.tuple #[v,v']) w):BP P fn Post .ret ⟨tm.toArray,[]⟩ w:=
  .of (v:= .tuple #[v,v']) (by subst hv;subst hv';simp[results,hr]) rfl h
theorem BP.ret3 {t u s:Tmp} {v v' v'':Value} (hr:fn.results= #[.tmp t,.tmp u,.tmp s]) (hv:tm.getD t undef=v) (hv':tm.getD u undef=v') (hv'':tm.getD s undef=v'') (h:Post (.tuple #[v,v',v'']) w):BP P fn Post .ret ⟨tm.toArray,[]⟩ w:=
  .of (v:= .tuple #[v,v',v'']) (by subst hv;subst hv';subst hv'';simp[results,hr]) rfl h
end
section
variable {P : Program} {a : Act} {d : Option Tmp} {ty : TypeId} {pos : String} {af : Array Edge} {g : Option (Nat × Bool)} {x y : Operand} {t T : TypeId} {w : World}
def dO:TypeDesc→Bool
  | .struct _| .array _ _=>true
  |_=>false
theorem lw {D:TypeDesc} (hu:P.underlying t=some D) (w:World):(isAgg t).run P w= .ok (dO D) w:=by
  unfold isAgg;rw[Sem.run_bind,run_underlying hu w];cases D<;>rfl
theorem ta {D:TypeDesc} {b o:Nat} {v:Value} (hx:a.eval x=PT b o) (hu:P.underlying t=some D) (hD:dO D=false) (hc:w.cell? ⟨b,o,none⟩=some v):r5 P ⟨d,.load t x,ty,pos,af,g⟩ a w v:=by
  refine br (w:=w) ?_;simp[hx,Instr.loadAt,Instr.sureAddr,loadVar,lw hu,hD,hc]
theorem ie {D:TypeDesc} {b o n:Nat} {cs:Array Value} (hu:P.underlying t=some D) (hD:dO D=true) (hs:szc P t=some n) (hc:∀j,j<n→w.cell? ⟨b,o+j,none⟩=cs[o+j]?) (hn:o+n≤cs.size):
    (loadVar t ⟨b,o,none⟩).run P w= .ok (.agg (cs.extract o (o+n))) w:=by
  have h := run_loadCells_list (P := P) w ⟨b, o, none⟩ (cs.extract o (o + n)).toList (fun j v hj => by
    rw[dr];have hj':(cs.extract o (o+n))[j]? =some v:=by rw[←Array.getElem?_toList];exact hj
    rw[Array.getElem?_extract]at hj';split at hj'
    · rename_i hlt
      rw[hc j (by omega)];exact hj'
    · cases hj')
  have hl:(cs.extract o (o+n)).toList.length=n:=by simp;omega
  rw[hl]at h;simp only[loadVar,Sem.run_bind,lw hu,hD,Result.andThen_ok,if_true,cn hs,h,Array.toArray_toList];rfl
theorem tH {D:TypeDesc} {b o n:Nat} {cs:Array Value} (hx:a.eval x=PT b o) (hb:cD w b T cs) (hu:P.underlying t=some D) (hD:dO D=true) (hs:szc P t=some n) (hn:o+n≤cs.size):
    r5 P ⟨d,.load t x,ty,pos,af,g⟩ a w (.agg (cs.extract o (o+n))):=by
  refine br (w:=w) ?_;simp only[hx,Instr.loadAt,Instr.sureAddr,Sem.run_bind,Sem.run_pure,Result.andThen_ok]
  exact ie hu hD hs (fun j hj => by
    have hlt:o+j<cs.size:=by omega
    rw [hb.cell (Array.getElem?_eq_getElem hlt), Array.getElem?_eq_getElem hlt]) hn
theorem mZ {D:TypeDesc} {b n:Nat} {cs:Array Value} (hx:a.eval x=PT b 0) (hb:cD w b T cs) (hu:P.underlying t=some D) (hD:dO D=true) (hs:szc P t=some n) (hn:cs.size=n):
    r5 P ⟨d,.load t x,ty,pos,af,g⟩ a w (.agg cs):=by
  have:=tH (d:=d) (ty:=ty) (pos:=pos) (af:=af) (g:=g) hx hb hu hD hs (by omega);rwa [show cs.extract 0 (0+n)=cs by rw[Nat.zero_add,←hn];simp]at this
end
def cR (cs:Array Value) (o:Nat) (vs:Array Value):Array Value:=(cs.toList.take o++vs.toList++cs.toList.drop (o+vs.size)).toArray
theorem eS {cs vs:Array Value} {o:Nat} (h:o+vs.size≤cs.size):(cR cs o vs).size=cs.size:=by simp[cR];omega
theorem pF {cs vs:Array Value} (h:vs.size=cs.size):cR cs 0 vs=vs:=by
  unfold cR;simp only[List.take_zero,List.nil_append,Nat.zero_add];rw[List.drop_eq_nil_of_le (by simp;omega)];simp
theorem dP {cs vs:Array Value} {o i:Nat} (h:o+vs.size≤cs.size):(cR cs o vs)[i]? =if o≤i∧i<o+vs.size then vs[i - o]? else cs[i]? :=by
  unfold cR;simp only[List.append_assoc,List.getElem?_toArray];rw[List.getElem?_append];simp only[List.length_take,Array.length_toList,Nat.min_eq_left (show o≤cs.size by omega)];by_cases h1:i<o
  · rw[if_pos h1,if_neg (by omega),List.getElem?_take,if_pos h1];simp
  · rw[if_neg h1,List.getElem?_append]
    simp only[Array.length_toList];by_cases h2:i<o+vs.size
    · rw[if_pos (by omega),if_pos ⟨by omega,h2⟩];simp
    · rw[if_neg (by omega),if_neg (by omega),List.getElem?_drop]
      simp only[Array.getElem?_toList];congr 1;omega
theorem cQ {P:Program} {b:Nat} {t:TypeId}:∀(vs:List Value) (i o:Nat) (w:World) (cs:Array Value),cD w b t cs→o+i+vs.length≤cs.size→(∀v∈vs,v.oneCell'=true)→
    ∃w',(storeCells ⟨b,o,none⟩ vs i).run P w= .ok () w'∧cD w' b t (cR cs (o+i) vs.toArray)∧(∀k,k≠b→w'.heap[k]? =w.heap[k]?)∧w'.heap.size=w.heap.size∧w'.os=w.os∧w'.tape=w.tape∧w'.output=w.output
  |[],i,o,w,cs,hb,hl,_=>by
    refine⟨w,rfl,?_,fun _ _=>rfl,rfl,rfl,rfl,rfl⟩;have:cR cs (o+i) [].toArray=cs:=by unfold cR;simp
    rw[this];exact hb
  |v::rest,i,o,w,cs,hb,hl,h1=>by
    simp only[List.length_cons]at hl;have hlt:o+i<cs.size:=by omega
    have hst:(store ((⟨b,o,none⟩:Addr).add i) v).run P w= .ok () (w.setCell ⟨b,o+i,none⟩ v):=by
      rw[dr,run_store P w _ v _ (h1 v (by simp)),hb.cell (Array.getElem?_eq_getElem hlt)];simp[hb.free hlt]
    obtain⟨w',hr,hB,ho,hsz,e1,e2,e3⟩:=cQ (P:=P) rest (i+1) o (w.setCell ⟨b,o+i,none⟩ v) _ (hb.set (o+i) v) (by simp;omega) (fun x hx=>h1 x (by simp[hx]));refine⟨w',?_,?_,fun k hk=>(ho k hk).trans (iM _ _ _ hk),hsz.trans (l6 _ _ _),e1,e2,e3⟩
    · simp only[storeCells,Sem.run_bind,hst,Result.andThen_ok,hr]
    · have:cR (cs.setIfInBounds (o+i) v) (o+(i+1)) rest.toArray=cR cs (o+i) (v::rest).toArray:=by
        apply Array.ext_getElem?;intro j;rw[dP (by simp;omega),dP (by simp;omega),Array.getElem?_setIfInBounds];simp only[List.size_toArray,List.length_cons];by_cases hj:o+i=j
        · subst hj;simp[hlt];omega
        · by_cases hj2:o+i≤j∧j<o+i+(rest.length+1)
          · rw[if_pos (by omega),if_pos hj2]
            have:j - (o+i)=(j - (o+(i+1)))+1:=by omega
            rw[this];simp
          · rw[if_neg (by omega),if_neg hj2,if_neg hj]
      rw[←this];exact hB
section
variable {P : Program} {ops : List Oper} {Q : Exit → Act → World → Prop} {r : List PStep} {a : Act} {w : World} {i : Nat} {d : Option Tmp} {ty : TypeId} {pos : String} {af : Array Edge} {g : Option (Nat × Bool)} {x y : Operand} {t T : TypeId}
  {S:List Nat} {w0:World} {L:List bU} {o:Oper} {v:Value}
def jn (P:Program) (o:Oper) (a:Act) (w:World) (v:Value):Prop:=∀w',Chg [] w w'→o.quietAt P a (Chg [] w') w' v
theorem jn.of_l (h:∀w',Chg [] w w'→r5 P o a w' v):jn P o a w v:=fun w' hw=>by
  unfold Oper.quietAt;rw[h w' hw];exact⟨rfl,rfl⟩
theorem c7.q (h:c7 P o a v) (w:World):jn P o a w v:= .of_l fun w' _=>h w'
theorem ef {ops:List Oper} (h:ops[i]? =some o):ops.toArray[i]? =some o:=by simpa using h
theorem aa (hH:Hp S w0 w L) (h:∀w',Hp S w0 w' L→Q .normal a w'):aN P ops.toArray Q [] a w:=fun w1 hw=>h w1 (hH.call hw)
theorem aI (ho:ops[i]? =some o) (hg:Region.wanted o (yielded ops.toArray a.tmps)=true) (hrun:c7 P o a v) (h:aN P ops.toArray Q r (a.put o.dst v) w):aN P ops.toArray Q (.p i::r) a w:=
  ⟨o,ef ho,v,.inl ⟨hg,fun w' _=>by unfold Oper.quietAt;rw[hrun w'];exact⟨rfl,rfl⟩⟩,h⟩
theorem ug (ho:ops[i]? =some o) (hg:Region.wanted o (yielded ops.toArray a.tmps)=true) (hrun:jn P o a w v) (h:aN P ops.toArray Q r (a.put o.dst v) w):aN P ops.toArray Q (.q i::r) a w:=
  ⟨o,ef ho,v,.inl ⟨hg,hrun⟩,h⟩
theorem ax (ho:ops[i]? =some o) (hg:Region.wanted o (yielded ops.toArray a.tmps)=false) (h:aN P ops.toArray Q r (a.put o.dst undef) w):aN P ops.toArray Q (.p i::r) a w:=
  ⟨o,ef ho,undef,.inr ⟨hg,rfl⟩,h⟩
theorem cY (ho:ops[i]? =some o) (hg:Region.wanted o (yielded ops.toArray a.tmps)=false) (h:aN P ops.toArray Q r (a.put o.dst undef) w):aN P ops.toArray Q (.q i::r) a w:=
  ⟨o,ef ho,undef,.inr ⟨hg,rfl⟩,h⟩
theorem aN.grow:∀(pl:List PStep) (a:Act) (w w1:World),z3 pl→aN P ops.toArray Q pl a w→Chg [] w w1→aN P ops.toArray Q pl a w1
  |[],_,_,_,_,h,hc=>fun w2 h2=>h w2 (hc.trans h2)
  | .p i::r,a,w,w1,hF,⟨o,ho,v,hy,hn⟩,hc=>⟨o,ho,v,hy.grow .any (Far.any.of _ _ hc),aN.grow r _ w w1 hF hn hc⟩
  | .q i::r,a,w,w1,hF,⟨o,ho,v,hy,hn⟩,hc=>⟨o,ho,v,hy.grow .grown hc,aN.grow r _ w w1 hF hn hc⟩
  | .r i R::r,a,w,w1,hF,⟨o,ho,v,hy,hn⟩,hc=>⟨o,ho,v,hy.grow hF.1 (hF.1.of _ _ hc),aN.grow r _ w w1 hF.2 hn hc⟩
  | .x i::r,_,_,_,_,h,hc=>fun w2 h2=>h w2 (hc.trans h2)
  | .s i R::r,_,_,_,_,h,hc=>fun w2 h2=>h w2 (hc.trans h2)
  | .e i::r,_,_,_,_,h,hc=>fun w2 h2=>h w2 (hc.trans h2)
theorem rV (hH:Hp S w0 w L) (ho:ops[i]? =some o) (hg:Region.wanted o (yielded ops.toArray a.tmps)=true) (h:∀w1,Hp S w0 w1 L→∃v w',(execOp a.eval o).run P w1= .ok (.value v) w'∧aN P ops.toArray Q r (a.put o.dst v) w'):aN P ops.toArray Q (.e i::r) a w:=fun w1 hw=>by
  obtain⟨v,w',hr,hn⟩:=h w1 (hH.call hw);unfold wpOp;simp only[ef ho,hg,if_true];exact .inl (by unfold Oper.wp;rw[hr];exact hn)
theorem wa (hH:Hp S w0 w L) (ho:ops[i]? =some o) (hg:Region.wanted o (yielded ops.toArray a.tmps)=true) (h:∀w1,Hp S w0 w1 L→∃w',(execOp a.eval o).run P w1= .ok .skip w'∧aN P ops.toArray Q r (a.put o.dst undef) w'):aN P ops.toArray Q (.e i::r) a w:=fun w1 hw=>by
  obtain⟨w',hr,hn⟩:=h w1 (hH.call hw);unfold wpOp;simp only[ef ho,hg,if_true];exact .inl (by unfold Oper.wp;rw[hr];exact hn)
theorem lM (hH:Hp S w0 w L) (ho:ops[i]? =some o) (hg:Region.wanted o (yielded ops.toArray a.tmps)=true) (h:∀w1,Hp S w0 w1 L→∃v w',(execOp a.eval o).run P w1= .ok (.value v) w'∧Chg [] w1 w'∧aN P ops.toArray Q r (a.put o.dst v) w'):aN P ops.toArray Q (.x i::r) a w:=fun w1 hw=>by
  obtain⟨v,w',hr,hn⟩:=h w1 (hH.call hw);unfold wpOp;simp only[ef ho,hg,if_true];exact .inl (by unfold Oper.wp;rw[hr];exact hn)
def wP (P:Program) (o:Oper) (a:Act) (R:World→World→Prop) (w:World) (v:Value):Prop:=∀w',R w w'→o.quietAt P a (Chg [] w') w' v
theorem wP.of_l {R:World→World→Prop} (h:∀w',R w w'→r5 P o a w' v):wP P o a R w v:=fun w' hw=>by
  unfold Oper.quietAt;rw[h w' hw];exact⟨rfl,rfl⟩
theorem jA {R:World→World→Prop} (ho:ops[i]? =some o) (hg:Region.wanted o (yielded ops.toArray a.tmps)=true) (hrun:wP P o a R w v) (h:aN P ops.toArray Q r (a.put o.dst v) w):aN P ops.toArray Q (.r i R::r) a w:=
  ⟨o,ef ho,v,.inl ⟨hg,hrun⟩,h⟩
theorem pj {R:World→World→Prop} {D:TypeDesc} {b o:Nat} {cs:Array Value} (hR:∀w',R w w'→cD w' b T cs) (hx:a.eval x=PT b o) (hu:P.underlying t=some D) (hD:dO D=false) (hc:cs[o]? =some v):wP P ⟨d,.load t x,ty,pos,af,g⟩ a R w v:=
  .of_l fun w' hw=>ta hx hu hD ((hR w' hw).cell hc)
theorem ah {D:TypeDesc} {b o:Nat} (hx:a.eval x=PT b o) (hu:P.underlying t=some D) (hD:dO D=false) (hc:w.cell? ⟨b,o,none⟩=some v):jn P ⟨d,.load t x,ty,pos,af,g⟩ a w v:=
  .of_l fun _ hw=>ta hx hu hD (hw.nil_cell hc)
theorem mF {D:TypeDesc} {b o n:Nat} {cs:Array Value} (hx:a.eval x=PT b o) (hb:cD w b T cs) (hu:P.underlying t=some D) (hD:dO D=true) (hs:szc P t=some n) (hn:o+n≤cs.size):
    jn P ⟨d,.load t x,ty,pos,af,g⟩ a w (.agg (cs.extract o (o+n))):= .of_l fun _ hw=>tH hx (hw.nil_blk hb) hu hD hs hn
theorem aA {D:TypeDesc} {b n:Nat} {cs:Array Value} (hx:a.eval x=PT b 0) (hb:cD w b T cs) (hu:P.underlying t=some D) (hD:dO D=true) (hs:szc P t=some n) (hn:cs.size=n):
    jn P ⟨d,.load t x,ty,pos,af,g⟩ a w (.agg cs):= .of_l fun _ hw=>mZ hx (hw.nil_blk hb) hu hD hs hn
theorem am (n:Nat) {b o:Nat} {cs:Array Value} {v:Value} (ho:ops[i]? =some ⟨none,.store t x y,ty,pos,af,g⟩) (hg:Region.wanted ⟨none,.store t x y,ty,pos,af,g⟩ (yielded ops.toArray a.tmps)=true)
    (hH:Hp S w0 w L) (hx:a.eval x=PT b o) (hi:L[n]? =some (some b,T,cs)) (hy:a.eval y=v) (h1:v.oneCell'=true) (hs:szc P t=some 1) (hlt:o<cs.size)
    (h:∀w',Hp S w0 w' (L.set n (some b,T,cs.setIfInBounds o v))→aN P ops.toArray Q r a w'):aN P ops.toArray Q (.e i::r) a w:=by
  refine wa hH ho hg fun w hH=>?_
  have hb:=hH.blk n hi
  have hc:v.cells= #[v]:=by cases v<;>simp_all [Value.cells,Value.oneCell']
  refine⟨w.setCell ⟨b,o,none⟩ v,?_,h _ (hH.store n hi o v)⟩
  have hst:(store (⟨b,o,none⟩:Addr) v).run P w= .ok () (w.setCell ⟨b,o,none⟩ v):=by
    rw[run_store P w _ v _ h1,hb.cell (Array.getElem?_eq_getElem hlt)]
    simp[hb.free hlt]
  simp[execOp,hx,hy,Instr.storeAt,Instr.sureAddr,storeVar,cn hs,hc,storeCells,dr,hst]
theorem dI (n:Nat) {b o m:Nat} {cs vs:Array Value} (ho:ops[i]? =some ⟨none,.store t x y,ty,pos,af,g⟩) (hg:Region.wanted ⟨none,.store t x y,ty,pos,af,g⟩ (yielded ops.toArray a.tmps)=true)
    (hH:Hp S w0 w L) (hx:a.eval x=PT b o) (hi:L[n]? =some (some b,T,cs)) (hy:a.eval y= .agg vs) (h1:∀v∈vs.toList,v.oneCell'=true) (hs:szc P t=some m) (hm:vs.size=m) (hlt:o+m≤cs.size)
    (h:∀w',Hp S w0 w' (L.set n (some b,T,cR cs o vs))→aN P ops.toArray Q r a w'):aN P ops.toArray Q (.e i::r) a w:=by
  refine wa hH ho hg fun w hH=>?_
  have hb:=hH.blk n hi
  obtain⟨w',hr,hB,hoth,hsz,e1,e2,e3⟩:=cQ (P:=P) vs.toList 0 o w cs hb (by simp;omega) h1
  refine⟨w',?_,h _ (hH.put n hi ?_ (by simpa using hB) fun k hk _=>hoth k hk)⟩
  · simp[execOp,hx,hy,Instr.storeAt,Instr.sureAddr,storeVar,cn hs,Value.cells,hm,hr]
  · refine hH.chg.trans' (T:=[b]) ⟨e1,e2,e3,by omega,fun k hk hn=>hoth k (by simpa using hn)⟩ ?_
    intro z hz hlt
    simp only[List.mem_singleton]at hz
    subst hz
    rcases hH.mine n hi with h1|h1
    · omega
    · exact h1
theorem ao (n:Nat) {b m:Nat} {cs vs:Array Value} (ho:ops[i]? =some ⟨none,.store t x y,ty,pos,af,g⟩) (hg:Region.wanted ⟨none,.store t x y,ty,pos,af,g⟩ (yielded ops.toArray a.tmps)=true)
    (hH:Hp S w0 w L) (hx:a.eval x=PT b 0) (hi:L[n]? =some (some b,T,cs)) (hy:a.eval y= .agg vs) (h1:∀v∈vs.toList,v.oneCell'=true) (hs:szc P t=some m) (hm:vs.size=m) (hlt:cs.size=m)
    (h:∀w',Hp S w0 w' (L.set n (some b,T,vs))→aN P ops.toArray Q r a w'):aN P ops.toArray Q (.e i::r) a w:=
  dI n ho hg hH hx hi hy h1 hs hm (by omega) fun w' h'=>h w' (by rwa [pF (by omega)]at h')
def dt (P:Program) (t:TypeId):Option (Array Value):=((P.info? t).bind (·.zero)).map Value.cells
theorem au {dst:Tmp} {cs:Array Value} (ho:ops[i]? =some ⟨some dst,.alloc t,ty,pos,af,g⟩) (hg:Region.wanted ⟨some dst,.alloc t,ty,pos,af,g⟩ (yielded ops.toArray a.tmps)=true)
    (hH:Hp S w0 w L) (hz:dt P t=some cs) (h:∀b w',Hp S w0 w' (L++[(some b,t,cs)])→aN P ops.toArray Q r (a.put (some dst) (PT b 0)) w'):aN P ops.toArray Q (.x i::r) a w:=by
  refine lM hH ho hg fun w hH=>⟨PT w.heap.size 0,w.alloc (.cells cs t),?_,(Chg.refl _ _).alloc _,h _ _ (hH.alloc t cs)⟩;unfold dt at hz;obtain⟨z,hz1,rfl⟩:=Option.map_eq_some_iff.1 hz;obtain⟨inf,hi,hz2⟩:=Option.bind_eq_some_iff.1 hz1;simp[execOp,Instr.alloc,zeroValue,typeInfo,hi,hz2,newVar,newRow]
theorem aX {dst:Tmp} {v:Value} (ho:ops[i]? =some ⟨some dst,.box t x,ty,pos,af,g⟩) (hg:Region.wanted ⟨some dst,.box t x,ty,pos,af,g⟩ (yielded ops.toArray a.tmps)=true)
    (hH:Hp S w0 w L) (hx:a.eval x=v) (h:∀b w',Hp S w0 w' (L++[(some b,t,v.cells)])→aN P ops.toArray Q r (a.put (some dst) (PT b 0)) w'):aN P ops.toArray Q (.x i::r) a w:=by
  refine lM hH ho hg fun w hH=>⟨PT w.heap.size 0,w.alloc (.cells v.cells t),?_,(Chg.refl _ _).alloc _,h _ _ (hH.alloc t v.cells)⟩;simp[execOp,hx,Instr.box,newVar,newRow]
def aC (P:Program) (f:FuncId):Prop:=∃fn,P.funcs[f]? =some fn∧(fn.name== "runtime.NumGoroutine")=false∧fn.body.isNone=false
theorem pX {f:FuncId} {args:List Operand} {ats:Array TypeId} {vs:List Value} (hc:aC P f) (hargs:args.map a.eval=vs) (w:World):(execOp a.eval ⟨d,.call ⟨.value (.func f),args.toArray,ats⟩,ty,pos,af,g⟩).run P w= .ok (.enter f vs.toArray) w:=by
  obtain⟨fn,hf,hn,hb⟩:=hc
  have h1:(callFunc f vs.toArray).run P w= .ok (.enter f vs.toArray) w:=by
    unfold callFunc;rw[Sem.run_bind];simp only[run_program,Result.andThen_ok,hf,hn,hb,Bool.false_eq_true,if_false];rfl
  simp only[execOp,resolve,List.map_toArray,hargs,Act.eval,Deferred.ofValue,invoke,Sem.run_bind,Sem.run_pure,Result.andThen_ok,Array.empty_append,Array.append_empty,h1]
theorem aj {f:FuncId} {args:List Operand} {ats:Array TypeId} {vs:List Value} (hc:aC P f) (hr:∀w',Chg [] w w'→aZ P f vs.toArray w' fun v' w''=>v'=v∧Chg [] w' w'') (hargs:args.map a.eval=vs):
    jn P ⟨d,.call ⟨.value (.func f),args.toArray,ats⟩,ty,pos,af,g⟩ a w v:=fun w' hw=>by
  unfold Oper.quietAt;rw[pX hc hargs w'];exact⟨rfl,(hr w' hw).calls.mono fun e w'' ⟨v',he,hv,hx⟩=>⟨by rw[he,hv],hx⟩⟩
theorem ar {f:FuncId} {args:List Operand} {ats:Array TypeId} {vs:List Value} {Post:World→Value→World→Prop} (ho:ops[i]? =some ⟨d,.call ⟨.value (.func f),args.toArray,ats⟩,ty,pos,af,g⟩)
    (hg:Region.wanted ⟨d,.call ⟨.value (.func f),args.toArray,ats⟩,ty,pos,af,g⟩ (yielded ops.toArray a.tmps)=true) (hH:Hp S w0 w L) (hc:aC P f) (hr:∀w1,Hp S w0 w1 L→aZ P f vs.toArray w1 (Post w1)) (hargs:args.map a.eval=vs)
    (hx:∀w1 v w',Post w1 v w'→Chg [] w1 w') (h:∀w1 v w',Hp S w0 w1 L→Post w1 v w'→aN P ops.toArray Q r (a.put d v) w'):aN P ops.toArray Q (.x i::r) a w:=fun w1 hw=>by
  unfold wpOp
  simp only[ef ho,hg,if_true]
  refine .inl ?_
  unfold Oper.wp
  rw[pX hc hargs w1,Oper.upon_enter]
  exact(hr w1 (hH.call hw)).calls.mono fun e w' ⟨v,he,hv⟩=>by subst he;exact⟨hx _ _ _ hv,h w1 v w' (hH.call hw) hv⟩
theorem aB {f:FuncId} {args:List Operand} {ats:Array TypeId} {vs:List Value} {Post:World→Value→World→Prop} (ho:ops[i]? =some ⟨d,.call ⟨.value (.func f),args.toArray,ats⟩,ty,pos,af,g⟩)
    (hg:Region.wanted ⟨d,.call ⟨.value (.func f),args.toArray,ats⟩,ty,pos,af,g⟩ (yielded ops.toArray a.tmps)=true) (hH:Hp S w0 w L) (hc:aC P f) (hr:∀w1,Hp S w0 w1 L→aZ P f vs.toArray w1 (Post w1)) (hargs:args.map a.eval=vs)
    (h:∀w1 v w',Hp S w0 w1 L→Post w1 v w'→aN P ops.toArray Q r (a.put d v) w'):aN P ops.toArray Q (.e i::r) a w:=fun w1 hw=>by
  unfold wpOp
  simp only[ef ho,hg,if_true]
  refine .inl ?_
  unfold Oper.wp
  rw[pX hc hargs w1,Oper.upon_enter]
  exact(hr w1 (hH.call hw)).calls.mono fun e w' ⟨v,he,hv⟩=>by subst he;exact h w1 v w' (hH.call hw) hv
end
theorem xa {P:Program} {Q:Exit→Act→World→Prop} {c:Code} (I:Nat→Act→World→Prop) (round:∀n a w,I n a w→c.wp P (Exit.then (fun a' w'=>∃m,m<n∧I m a' w') Q) a w):
    ∀(n:Nat) (a:Act) (w:World),I n a w→(Code.loop c).wp P Q a w:=by
  intro n a w h₀ b k cs
  have key:∀n a w,I n a w→∃e a' w',Q e a' w'∧Arrives P (lone (b.at a (.code c:: .inLoop c::k)) cs w) b k cs e a' w':=by
    intro n;induction n using Nat.strongRecOn with
    |_ n ih=>
      intro a w hI;obtain⟨e,a₁,w₁,hq,harr⟩:=round n a w hI b (.inLoop c::k) cs;cases e with
      |normal=>
        obtain⟨m,hlt,hI₁⟩:=hq;obtain⟨e₂,a₂,w₂,hq₂,harr₂⟩:=ih m hlt a₁ w₁ hI₁;exact⟨e₂,a₂,w₂,hq₂,.of_steps (Steps.trans harr (.one step_inLoop)) harr₂⟩
      |exit id=>exact⟨_,a₁,w₁,hq,.pass (x:= .inLoop c) rfl (fun _ _=> .inl (by simp)) harr⟩
      |goto l=>exact⟨_,a₁,w₁,hq,.pass (x:= .inLoop c) rfl (fun _ _=> .inl (by simp)) harr⟩
      |ret=>exact⟨_,a₁,w₁,hq,.pass (x:= .inLoop c) rfl (fun _ _=> .inl (by simp)) harr⟩
      |panic ch=>exact⟨_,a₁,w₁,hq,.pass (x:= .inLoop c) rfl (fun _ _=> .inl (by simp)) harr⟩
      |outgrown=>exact⟨_,a₁,w₁,hq,.pass (x:= .inLoop c) rfl (fun _ _=> .inl (by simp)) harr⟩
  obtain⟨e,a',w',hq,harr⟩:=key n a w h₀;exact⟨e,a',w',hq,.of_steps (.one step_loop) harr⟩
def bG (tm:List Value):List Nat→List Value→List Value
  |s::ss,v::vs=>bG (tm.set s v) ss vs
  |_,_=>tm
def gW (tm:List Value) (slots:List Nat):List Value:=slots.map fun s=>tm.getD s undef
def c6 (tm d:List Value):List Nat→Nat→List Value
  |s::ss,k=>c6 (tm.set s (d.getD k undef)) d ss (k+1)
  |[],_=>tm
theorem bd {P:Program} {Q:Exit→Act→World→Prop} {c:Code} {tm:List Value} (live dead:List Nat) (R:Nat→List Value→World→Prop) (n:Nat) {w:World} (hst:c6 (bG tm live (gW tm live)) (gW tm dead) dead 0=tm)
    (h0:R n (gW tm live) w)
    (round:∀n vs w,R n vs w→∀d,c.wp P (Exit.then (fun a' w'=>∃m,m<n∧∃tm',a'=⟨tm'.toArray,[]⟩∧c6 (bG tm live (gW tm' live)) (gW tm' dead) dead 0=tm'∧R m (gW tm' live) w') Q) ⟨(c6 (bG tm live vs) d dead 0).toArray,[]⟩ w):(Code.loop c).wp P Q ⟨tm.toArray,[]⟩ w:=by
  refine xa (fun n a w=>∃tm',a=⟨tm'.toArray,[]⟩∧c6 (bG tm live (gW tm' live)) (gW tm' dead) dead 0=tm'∧R n (gW tm' live) w) (fun n a w hI=>?_) n _ _ ⟨tm,rfl,hst,h0⟩
  obtain⟨tm',rfl,h1,hR⟩:=hI
  have:=round n (gW tm' live) w hR (gW tm' dead)
  rw[h1]at this
  exact this
section
variable {P : Program} {a : Act} {w : World} {d : Option Tmp} {ty : TypeId} {pos : String} {af : Array Edge} {g : Option (Nat × Bool)} {x y : Operand} {t T : TypeId}
theorem oR {D:TypeDesc} {b o n m:Nat} {f:Nat→UInt8} (hx:a.eval x=PT b o) (hb:cD w b T (a9 m f)) (hu:P.underlying t=some D) (hD:dO D=true) (hs:szc P t=some n) (hn:o+n≤m):
    jn P ⟨d,.load t x,ty,pos,af,g⟩ a w (.agg (a9 n fun j=>f (o+j))):=by
  have:=mF (d:=d) (ty:=ty) (pos:=pos) (af:=af) (g:=g) hx hb hu hD hs (by simpa using hn);rwa [rP hn]at this
theorem nV {k k':IntKind} {e:TypeId} {n s b o l h:Nat} {xl xh:Operand} (hx:a.eval x=PT b o) (hl:a.eval xl= .int k (l:Int)) (hh:a.eval xh= .int k' (h:Int))
    (hu:P.underlying t=some (.array n e)) (hs:szc P e=some s) (h1:l≤h) (h2:h≤n) (h3:l<n):c7 P ⟨d,.slice t x (some xl) (some xh) none,ty,pos,af,g⟩ a (.slice (some ⟨b,o+l*s,none⟩) (h - l) (n - l)):=by
  have:=ox (d:=d) (ty:=ty) (pos:=pos) (af:=af) (g:=g) hx hl hh hu hs h1 h2;rw[show kr (some ⟨b,o,none⟩) l n s=some ⟨b,o+l*s,none⟩by unfold kr;rw[if_neg (by omega)];simp[dr]]at this;exact this
theorem oo {k:IntKind} {e:TypeId} {n s b o l:Nat} {xl:Operand} (hx:a.eval x=PT b o) (hl:a.eval xl= .int k (l:Int))
    (hu:P.underlying t=some (.array n e)) (hs:szc P e=some s) (h3:l<n):c7 P ⟨d,.slice t x (some xl) none none,ty,pos,af,g⟩ a (.slice (some ⟨b,o+l*s,none⟩) (n - l) (n - l)):=by
  have:=o7 (d:=d) (ty:=ty) (pos:=pos) (af:=af) (g:=g) hx hl hu hs (by omega);rw[show kr (some ⟨b,o,none⟩) l n s=some ⟨b,o+l*s,none⟩by unfold kr;rw[if_neg (by omega)];simp[dr]]at this;exact this
end
theorem BP.retc {P:Program} {fn:Func} {Post:Value→World→Prop} {tm:List Value} {w:World} {p:Tmp} {t T:TypeId} {D:TypeDesc} {b n:Nat} {cs:Array Value} (hr:fn.results= #[.cell p t]) (hp:tm.getD p undef=PT b 0) (hb:cD w b T cs)
    (hu:P.underlying t=some D) (hD:dO D=true) (hs:szc P t=some n) (hn:cs.size=n) (h:Post (.agg cs) w):BP P fn Post .ret ⟨tm.toArray,[]⟩ w:=by
  refine .of (v:= .agg cs) ?_ rfl h
  have hl := ie (P := P) (w := w) (b := b) (o := 0) (cs := cs) hu hD hs (fun j hj => by
    have hlt:0+j<cs.size:=by omega
    rw [hb.cell (Array.getElem?_eq_getElem hlt), Array.getElem?_eq_getElem hlt]) (by omega)
  rw[show cs.extract 0 (0+n)=cs by rw[Nat.zero_add,←hn];simp]at hl;have hp':tm[p]?.getD undef=PT b 0:=by rw[←hp,List.getD_eq_getElem?_getD]
  simp[results,hr,hp',asAddr,hl]
theorem Hp.cast {S:List Nat} {w0 w:World} {L L':List bU} (h:Hp S w0 w L) (e:L=L'):Hp S w0 w L':=e▸h
theorem Hp.take {S:List Nat} {w0 w:World} {L:List bU} (h:Hp S w0 w L) (n:Nat):Hp S w0 w (L.take n) where
  chg:=h.chg;own e he:=h.own e (List.mem_of_mem_take he)
  apart i j b hi hj:=by
    have key:∀m:Nat,((L.take n)[m]?).bind bU.at=some b→(L[m]?).bind bU.at=some b:=by
      intro m hm;rw[List.getElem?_take]at hm;split at hm
      · exact hm
      · simp at hm
    exact h.apart i j b (key i hi) (key j hj)
theorem Hp.say {S:List Nat} {w0 w:World} {L:List bU} (h:Hp S w0 w L) (i:Nat) {b:Option Nat} {t:TypeId} {cs cs':Array Value} (hi:L[i]? =some (b,t,cs)) (e:cs=cs'):Hp S w0 w (L.set i (b,t,cs')):=by
  subst e
  have:L.set i (b,t,cs)=L:=by
    apply List.ext_getElem?;intro j;rw[List.getElem?_set];split
    · rename_i hij;subst hij
      split
      · exact hi.symm
      · rename_i hl;rw[List.getElem?_eq_none (by omega)]at hi;cases hi
    · rfl
  rw[this];exact h
theorem zH (l:List Value) (ds:List Deferred) (t:Tmp):(Act.mk l.toArray ds).eval (.tmp t)=l.getD t undef:=by simp[Act.eval]
theorem yW (l:List Value) (ds:List Deferred) (t:Tmp) (v:Value):(Act.mk l.toArray ds).put (some t) v=Act.mk (l.set t v).toArray ds:=by simp[Act.put]
theorem sk (l:List Value) (n:Nat):l.toArray++Array.replicate n undef=(l++List.replicate n undef).toArray:=by simp
theorem uf {P:Program} {a:Act} {d:Option Tmp} {ty:TypeId} {pos:String} {af:Array Edge} {g:Option (Nat×Bool)} (n:Nat) {m:Int} (h:m=(n:Int)):c7 P ⟨d,.move (.const (.int .i64 m)),ty,pos,af,g⟩ a (bb (n:Nat)):=fun _=>by subst h;rfl
theorem tE {P:Program} {a:Act} {d:Option Tmp} {ty:TypeId} {pos:String} {af:Array Edge} {g:Option (Nat×Bool)} (n:Nat) {m:Int} (h:m=(n:Int)):c7 P ⟨d,.assign (.const (.int .i64 m)),ty,pos,af,g⟩ a (bb (n:Nat)):=fun _=>by subst h;rfl
theorem bj {n:Nat} {f:Nat→UInt8}:∀v∈(a9 n f).toList,v.oneCell'=true:=by
  intro v hv;simp[a9,iU]at hv;obtain⟨i,_,rfl⟩:=hv;rfl
theorem lq {n:Nat} {f:Nat→UInt32}:∀v∈(dD n f).toList,v.oneCell'=true:=by
  intro v hv;simp[dD,iU]at hv;obtain⟨i,_,rfl⟩:=hv;rfl
theorem az {n:Nat} {f:Nat→UInt64}:∀v∈(bf n f).toList,v.oneCell'=true:=by
  intro v hv;simp[bf,iU]at hv;obtain⟨i,_,rfl⟩:=hv;rfl
theorem mh {P:Program} {t:TypeId} {D:TypeDesc} (hu:P.underlying t=some D) (hD:dO D=false):∀w,(isAgg t).run P w= .ok false w:=fun w=>by rw[lw hu,hD]
theorem nf:(∀(l:List Value) (ds:List Deferred) (t:Tmp),(Act.mk l.toArray ds).eval (.tmp t)=l.getD t undef)∧(∀(a:Act) (v:Value),a.eval (.const v)=v)∧
  (∀(l:List Value) (ds:List Deferred) (t:Tmp) (v:Value),(Act.mk l.toArray ds).put (some t) v=Act.mk (l.set t v).toArray ds)∧(∀(a:Act) (v:Value),a.put none v=a)∧
  (∀(α:Type) (x:α) (xs:List α) (d:α),(x::xs).getD 0 d=x)∧(∀(α:Type) (x:α) (xs:List α) (n:Nat) (d:α),(x::xs).getD (n+1) d=xs.getD n d)∧
  (∀(α:Type) (x:α) (xs:List α) (a:α),(x::xs).set 0 a=a::xs)∧(∀(α:Type) (x:α) (xs:List α) (n:Nat) (a:α),(x::xs).set (n+1) a=x::xs.set n a)∧
  (∀n:Nat,0+n=n)∧(∀n:Nat,n+0=n)∧(∀n:Nat,n*1=n)∧(∀n:Nat,0*n=0)∧
  (∀(α:Type) (xs:List α) (i:Nat) (h:i<xs.toArray.size),xs.toArray[i]=xs[i]'(by simpa using h))∧(∀(α:Type) (x:α) (xs:List α) (h:0<(x::xs).length),(x::xs)[0]=x)∧
  (∀(α:Type) (x:α) (xs:List α) (i:Nat) (h:i+1<(x::xs).length),(x::xs)[i+1]=xs[i]'(Nat.lt_of_succ_lt_succ h)):=
  ⟨zH,fun _ _=>rfl,yW,fun _ _=>rfl,fun _ _ _ _=>rfl,fun _ _ _ _ _=>rfl,fun _ _ _ _=>rfl,fun _ _ _ _ _=>rfl,Nat.zero_add,Nat.add_zero,Nat.mul_one,Nat.zero_mul,fun _ _ _ h=>List.getElem_toArray h,fun _ _ _ _=>rfl,fun _ _ _ _ _=>rfl⟩
theorem nh:(∀(α:Type) (x:α) (xs ys:List α),(x::xs)++ys=x::(xs++ys))∧(∀(α:Type) (ys:List α),[]++ys=ys)∧(∀(α:Type) (xs:List α) (i:Nat) (a:α),xs.toArray.setIfInBounds i a=(xs.set i a).toArray)∧
  (∀(n:Nat) (f:Nat→UInt8) (k:Nat) (v:UInt8),(a9 n f).setIfInBounds k (V8 v)=a9 n (dn f k v))∧(∀(n:Nat) (f:Nat→UInt32) (k:Nat) (v:UInt32),(dD n f).setIfInBounds k (gV v)=dD n (dn f k v))∧(∀(n:Nat) (f:Nat→UInt64) (k:Nat) (v:UInt64),(bf n f).setIfInBounds k (db v)=bf n (dn f k v)):=
  ⟨fun _ _ _ _=>rfl,fun _ _=>rfl,fun _ _ _ _=>List.setIfInBounds_toArray ..,fun _ _ _ _=>yF,fun _ _ _ _=>xG,fun _ _ _ _=>wX⟩
section
variable {P : Program} {ops : List Oper} {Q : Exit → Act → World → Prop} {r : List PStep} {a : Act} {w : World} {i : Nat} {d : Option Tmp} {ty : TypeId} {pos : String} {af : Array Edge} {x : Operand} {o : Oper} {v : Value}
theorem pp (ho:ops[i]? =some o) (hg:Region.wanted o (yielded ops.toArray a.tmps)=true) (hrun:c7 P o a v) (h:aN P ops.toArray Q r (a.put o.dst v) w):aN P ops.toArray Q (.p i::r) a w:=aI ho hg hrun h
theorem pq (ho:ops[i]? =some o) (hg:Region.wanted o (yielded ops.toArray a.tmps)=true) (hrun:jn P o a w v) (h:aN P ops.toArray Q r (a.put o.dst v) w):aN P ops.toArray Q (.q i::r) a w:=ug ho hg hrun h
theorem pm (h:aN P ops.toArray Q r (a.put d (a.eval x)) w) (ho:ops[i]? =some ⟨d,.move x,ty,pos,af,none⟩:=by rfl):aN P ops.toArray Q (.p i::r) a w:=aI ho rfl aw h
theorem pa (h:aN P ops.toArray Q r (a.put d (a.eval x)) w) (ho:ops[i]? =some ⟨d,.assign x,ty,pos,af,none⟩:=by rfl):aN P ops.toArray Q (.p i::r) a w:=aI ho rfl yb h
theorem pk (n:Nat) {m:Int} (h:aN P ops.toArray Q r (a.put d (bb (n:Nat))) w) (ho:ops[i]? =some ⟨d,.move (.const (.int .i64 m)),ty,pos,af,none⟩:=by rfl) (hm:m=(n:Int):=by rfl):aN P ops.toArray Q (.p i::r) a w:=aI ho rfl (uf n hm) h
theorem ci (n:Nat) {m:Int} (h:aN P ops.toArray Q r (a.put d (bb (n:Nat))) w) (ho:ops[i]? =some ⟨d,.assign (.const (.int .i64 m)),ty,pos,af,none⟩:=by rfl) (hm:m=(n:Int):=by rfl):aN P ops.toArray Q (.p i::r) a w:=aI ho rfl (tE n hm) h
theorem en {id:Nat} {l:List Oper} (pl:List PStep) (h:aN P l.toArray Q pl a w) (hQ:∀c a d v w,Q (.panic c) (a.put d v) w→Q (.panic c) a w:=by(intro _ _ _ _ _ h;first|exact h|exact BP.panic _ _ _ _ _ h))
    (hm:P.follows .mixedOrders=true:=by kernel_rfl) (hsel:Region.noSelect l.toArray=true:=by kernel_rfl) (hlen:(pl.length≤l.toArray.size:Bool)=true:=by kernel_rfl) (hok:gq (dw .any l.toArray) (aK pl) pl []=true:=by kernel_rfl):(Code.region id l.toArray true).wp P Q a w:=
  pY pl hm hsel hlen hok hQ h
theorem ak {id:Nat} {l:List Oper} (pl:List PStep) (h:aN P l.toArray Q pl a w) (hpl:pl.map PStep.idx=List.range l.toArray.size:=by rfl) (hF:noR pl=true:=by rfl):(Code.region id l.toArray false).wp P Q a w:=pA pl hpl h hF
end
theorem dm:(∀(p:Prop) [Decidable p],(decide p=true)=p)∧(∀(p:Prop) [Decidable p],(decide p=false)=¬p)∧(∀(α:Type) [BEq α] [LawfulBEq α] (a b:α),((a==b)=true)=(a=b))∧(∀(α:Type) [BEq α] [LawfulBEq α] (a b:α),((a !=b)=true)=¬(a=b))∧
  (∀(α:Type) [BEq α] [LawfulBEq α] (a b:α),((a==b)=false)=¬(a=b))∧(∀(α:Type) [BEq α] [LawfulBEq α] (a b:α),((a !=b)=false)=(a=b))∧(∀b:Bool,((!b)=true)=(b=false))∧(∀b:Bool,((!b)=false)=(b=true))∧
  (∀a b:Nat,(¬a<b)=(b≤a))∧(∀a b:Nat,(¬a≤b)=(b<a))∧(∀(α:Type) [LT α] (a b:α),(a>b)=(b<a))∧(∀(α:Type) [LE α] (a b:α),(a≥b)=(b≤a)):=by
  refine⟨fun p _=>by simp,fun p _=>by simp,fun α _ _ a b=>by simp,fun α _ _ a b=>by simp,fun α _ _ a b=>by simp,fun α _ _ a b=>by simp,by simp,by simp,fun a b=>by simp,fun a b=>by simp,fun _ _ _ _=>rfl,fun _ _ _ _=>rfl⟩
theorem ga:(∀(tm:List Value) (s:List Nat),gW tm s=s.map fun s=>tm.getD s undef)∧(∀(α β:Type) (f:α→β) (x:α) (xs:List α),(x::xs).map f=f x::xs.map f)∧(∀(α β:Type) (f:α→β),([]:List α).map f=[])∧
  (∀(α:Type) (x:α) (xs:List α) (d:α),(x::xs).getD 0 d=x)∧(∀(α:Type) (x:α) (xs:List α) (n:Nat) (d:α),(x::xs).getD (n+1) d=xs.getD n d):=⟨fun _ _=>rfl,fun _ _ _ _ _=>rfl,fun _ _ _=>rfl,fun _ _ _ _=>rfl,fun _ _ _ _ _=>rfl⟩
theorem fe:(∀(α:Type) (l:List α),l.toArray.size=l.length)∧(∀(α:Type) (x:α) (l:List α),(x::l).length=l.length+1)∧(∀α:Type,([]:List α).length=0)∧(∀(l:List Value) (n:Nat),l.toArray++Array.replicate n undef=(l++List.replicate n undef).toArray)∧
  (∀(α:Type) (n:Nat) (x:α),List.replicate (n+1) x=x::List.replicate n x)∧(∀(α:Type) (x:α),List.replicate 0 x=[])∧(∀(α:Type) (l:List α),[]++l=l)∧(∀(α:Type) (x:α) (l m:List α),(x::l)++m=x::(l++m)):=
  ⟨fun _ _=>List.size_toArray,fun _ _ _=>rfl,fun _=>rfl,sk,fun _ _ _=>rfl,fun _ _=>rfl,fun _ _=>rfl,fun _ _ _ _=>rfl⟩
end Go.Proofs.YtomjbepgbnbgmaaDoor
namespace Go.Proofs.YtomjbepgbnbgmaaDoor
open Go
def Sl (w:World) (v:Value) (l:List UInt8):Prop:=
  ∃ad c,v= .slice ad l.length c∧l.length≤c∧(l≠[]→∃b o,ad=some ⟨b,o,none⟩∧∀i (h:i<l.length),w.cell? ⟨b,o+i,none⟩=some (V8 l[i]))
def Co:Value→Nat
  | .slice (some a) _ _=>a.block
  |_=>0
def CN:Value→Nat
  | .slice (some a) _ _=>a.off
  |_=>0
def ky (v:Value) (lo hi:Nat):Value:=
  match v with
  | .slice ad _ c=> .slice (kr ad lo c 1) (hi - lo) (c - lo)
  |v=>v
theorem Sl.chg {w w':World} {v:Value} {l:List UInt8} (h:Sl w v l) (hc:Chg [] w w'):Sl w' v l:=by
  obtain⟨ad,c,hv,hl,hr⟩:=h;refine⟨ad,c,hv,hl,fun hne=>?_⟩;obtain⟨b,o,ha,hcell⟩:=hr hne;exact⟨b,o,ha,fun i hi=>hc.nil_cell (hcell i hi)⟩
theorem Sl.cell {w:World} {v:Value} {l:List UInt8} (h:Sl w v l) {i:Nat} (hi:i<l.length):w.cell? ⟨Co v,CN v+i,none⟩=some (V8 (l.getD i 0)):=by
  obtain⟨ad,c,rfl,hl,hr⟩:=h;obtain⟨b,o,rfl,hcell⟩:=hr (by intro e;subst e;simp at hi);have:=hcell i hi;simpa [Co,CN,List.getD,hi] using this
theorem Sl.nil {w:World}:Sl w (.slice none 0 0) []:=⟨none,0,rfl,Nat.le_refl _,fun h=>absurd rfl h⟩
theorem Sl.of_eq {w:World} {v:Value} {l l':List UInt8} (h:Sl w v l) (e:l=l'):Sl w v l':=e▸h
theorem Sl.of_blk {w:World} {b o n c T:Nat} {cs:Array Value} {l:List UInt8} (hb:cD w b T cs) (hl:l.length=n) (hn:n≤c) (h:∀i (h:i<l.length),cs[o+i]? =some (V8 l[i])):Sl w (.slice (some ⟨b,o,none⟩) n c) l:=by
  subst hl;exact⟨_,c,rfl,hn,fun _=>⟨b,o,rfl,fun i hi=>hb.cell (h i hi)⟩⟩
theorem Sl.of_arr8 {w:World} {b o n c T m:Nat} {f:Nat→UInt8} (hb:cD w b T (a9 m f)) (hn:n≤c) (hm:o+n≤m):Sl w (.slice (some ⟨b,o,none⟩) n c) ((List.range n).map fun i=>f (o+i)):=
  Sl.of_blk hb (by simp) hn fun i hi=>by simp at hi;rw[bK (by omega)];simp
theorem Sl.len {w:World} {v:Value} {l:List UInt8} (h:Sl w v l):∃ad c,v= .slice ad l.length c∧l.length≤c:=by
  obtain⟨ad,c,hv,hl,_⟩:=h;exact⟨ad,c,hv,hl⟩
theorem nH {ad:Option Addr} {c:Nat}:kr ad 0 c 1=ad:=by
  unfold kr;split
  · rfl
  · cases ad<;>simp[Addr.add]
theorem Sl.cut {w:World} {v:Value} {l:List UInt8} (h:Sl w v l) {lo hi:Nat} (h1:lo≤hi) (h2:hi≤l.length):Sl w (ky v lo hi) ((l.drop lo).take (hi - lo)):=by
  obtain⟨ad,c,rfl,hl,hr⟩:=h;have hlen:((l.drop lo).take (hi - lo)).length=hi - lo:=by simp;omega
  refine⟨kr ad lo c 1,c - lo,by simp only[ky,hlen],by rw[hlen];omega,fun hne=>?_⟩
  have hlt:lo<hi:=by
    rcases Nat.lt_or_ge lo hi with h|h
    · exact h
    · exfalso;apply hne;apply List.eq_nil_of_length_eq_zero;rw[hlen];omega
  obtain⟨b,o,rfl,hcell⟩:=hr (by intro e;subst e;simp at h2;omega);refine⟨b,o+lo,?_,fun i hi'=>?_⟩
  · unfold kr;rw[if_neg (by omega)];simp[dr]
  · rw[hlen]at hi'
    have:=hcell (lo+i) (by omega);rw[show o+lo+i=o+(lo+i)by omega,this];simp
theorem Sl.cutl {w:World} {v:Value} {l:List UInt8} (h:Sl w v l) {lo:Nat} (h1:lo≤l.length):Sl w (ky v lo l.length) (l.drop lo):=by
  have:=h.cut h1 (Nat.le_refl _);rwa [List.take_of_length_le (by simp)]at this
theorem Sl.cuth {w:World} {v:Value} {l:List UInt8} (h:Sl w v l) {hi:Nat} (h1:hi≤l.length):Sl w (ky v 0 hi) (l.take hi):=by
  have:=h.cut (Nat.zero_le _) h1;simpa using this
section
variable {P : Program} {a : Act} {w : World} {d : Option Tmp} {ty : TypeId} {pos : String} {af : Array Edge} {g : Option (Nat × Bool)} {x y : Operand} {t T : TypeId}
theorem aM {e:TypeId} {v:Value} {l:List UInt8} (h:Sl w v l) (hx:a.eval x=v) (hu:P.underlying t=some (.slice e)):c7 P ⟨d,.call ⟨.builtin .len,#[x],#[t]⟩,ty,pos,af,g⟩ a (bb (l.length:Nat)):=by
  obtain⟨ad,c,rfl,hl⟩:=h.len;exact bC hx hu
theorem bR {k:IntKind} {e:TypeId} {i:Nat} {v:Value} {l:List UInt8} (h:Sl w v l) (hx:a.eval x=v) (hy:a.eval y= .int k (i:Int)) (hu:P.underlying t=some (.slice e)) (hs:szc P e=some 1) (hi:i<l.length):
    c7 P ⟨d,.indexAddr t x y,ty,pos,af,g⟩ a (PT (Co v) (CN v+i)):=by
  obtain⟨ad,c,rfl,hl,hr⟩:=h;obtain⟨b,o,rfl,hcell⟩:=hr (by intro e;subst e;simp at hi);exact b5 hx hy hu hs hi
theorem cN {k k':IntKind} {e:TypeId} {lo hi:Nat} {xl xh:Operand} {v:Value} {l:List UInt8} (h:Sl w v l) (hx:a.eval x=v) (hl:a.eval xl= .int k (lo:Int)) (hh:a.eval xh= .int k' (hi:Int))
    (hu:P.underlying t=some (.slice e)) (hs:szc P e=some 1) (h1:lo≤hi) (h2:hi≤l.length):c7 P ⟨d,.slice t x (some xl) (some xh) none,ty,pos,af,g⟩ a (ky v lo hi):=by
  obtain⟨ad,c,rfl,hl'⟩:=h.len;exact sc hx hl hh hu hs h1 (by omega)
theorem dh {k':IntKind} {e:TypeId} {hi:Nat} {xh:Operand} {v:Value} {l:List UInt8} (h:Sl w v l) (hx:a.eval x=v) (hh:a.eval xh= .int k' (hi:Int))
    (hu:P.underlying t=some (.slice e)) (hs:szc P e=some 1) (h2:hi≤l.length):c7 P ⟨d,.slice t x none (some xh) none,ty,pos,af,g⟩ a (ky v 0 hi):=by
  obtain⟨ad,c,rfl,hl'⟩:=h.len;have:=uM (d:=d) (ty:=ty) (pos:=pos) (af:=af) (g:=g) hx hh hu hs (show hi≤c by omega);simpa [ky,nH] using this
theorem cM {k:IntKind} {e:TypeId} {lo:Nat} {xl:Operand} {v:Value} {l:List UInt8} (h:Sl w v l) (hx:a.eval x=v) (hl:a.eval xl= .int k (lo:Int))
    (hu:P.underlying t=some (.slice e)) (hs:szc P e=some 1) (h2:lo≤l.length):c7 P ⟨d,.slice t x (some xl) none none,ty,pos,af,g⟩ a (ky v lo l.length):=by
  obtain⟨ad,c,rfl,hl'⟩:=h.len;exact p9 hx hl hu hs h2
theorem d' {e:TypeId} {m:Nat} {v:Value} {l:List UInt8} (h:Sl w v l) (hx:a.eval x=v) (hu:P.underlying t=some (.array m e)) (hm:0<m) (hl:m≤l.length):c7 P ⟨d,.sliceToArrayPointer t x,ty,pos,af,g⟩ a (PT (Co v) (CN v)):=by
  obtain⟨ad,c,rfl,hl',hr⟩:=h;obtain⟨b,o,rfl,hcell⟩:=hr (by intro e;subst e;simp at hl;omega);exact wz hx hu hl
theorem ea {D:TypeDesc} {n:Nat} {v:Value} {l:List UInt8} (h:Sl w v l) (hx:a.eval x=PT (Co v) (CN v)) (hu:P.underlying t=some D) (hD:dO D=true) (hs:szc P t=some n) (hn:n≤l.length):
    jn P ⟨d,.load t x,ty,pos,af,g⟩ a w (.agg (a9 n fun i=>l.getD i 0)):= .of_l fun w' hw=>by
  refine br (w:=w') ?_;have hc:∀j,j<n→w'.cell? ⟨Co v,CN v+j,none⟩=some (V8 (l.getD j 0)):=fun j hj=>(h.chg hw).cell (by omega);have hl:=run_loadCells (P:=P) w' ⟨Co v,CN v,none⟩ n (fun j=>V8 (l.getD j 0)) (fun j hj=>by rw[dr];exact hc j hj);simp only[hx,Instr.loadAt,Instr.sureAddr,Sem.run_bind,Sem.run_pure,Result.andThen_ok,loadVar,lw hu,hD,if_true,cn hs,hl];rfl
theorem fV {s e:TypeId} {v:Value} {l:List UInt8} (h:Sl w v l) (hx:a.eval x=v) (hs:P.underlying s=some (.slice e)) (he:P.underlying e=some (.int .u8)) (hd:P.underlying t=some .string):
    jn P ⟨d,.convert s t x,ty,pos,af,g⟩ a w (.string ⟨l.toArray⟩):= .of_l fun w' hw=>by
  refine br (w:=w') ?_;have h':=h.chg hw;obtain⟨ad,c,rfl,hl,hr⟩:=h';rw[hx];rw[run_convert_bytes_string w' s t e ad l.length c hs he hd]
  have hcs:∀ad0,ad=some ad0→(loadCells ad0 l.length).run P w'= .ok ((l.map fun z=>(z.toNat:Int)).map (Value.int .u8)).toArray w':=by
    intro ad0 had;by_cases hne:l=[]
    · subst hne;rfl
    · obtain⟨b,o,hb,hcell⟩:=hr hne
      rw[hb]at had;cases had
      have hcs := run_loadCells_list (P := P) w' ⟨b, o, none⟩ (l.map V8) (fun j v hj => by
        rw [dr];rw [List.getElem?_map] at hj;obtain ⟨z, hz, rfl⟩ := Option.map_eq_some_iff.1 hj;obtain ⟨hlt, rfl⟩ := List.getElem?_eq_some_iff.1 hz;exact hcell j hlt)
      simp only[List.length_map]at hcs;rw[hcs];simp[List.map_map,Function.comp_def]
  cases ad with
  |none=>
    have:l=[]:=by
      apply Classical.byContradiction;intro hne;obtain⟨b,o,hb,_⟩:=hr hne;cases hb
    subst this;rfl
  |some ad=>
    rw[run_bytesToString w' ad l.length c _ (hcs ad rfl),foldl_push_bytes];simp[List.map_map,Function.comp_def,ByteArray.empty,ByteArray.emptyWithCapacity];rfl
end
structure OwnC (o:Option Nat) (n cap s:Nat) (cs:Array Value) (xs:List Value):Prop where
  le:n≤cap
  size:cs.size=cap*s
  nil:o=none→cap=0
  len:xs.length=n*s
  at_:∀i,i<n*s→cs[i]? =xs[i]?
def own (o:Option Nat) (n cap:Nat):Value:= .slice (o.map fun b=>⟨b,0,none⟩) n cap
theorem OwnC.start (s:Nat):OwnC none 0 0 s #[] []:=⟨Nat.le_refl _,by simp,fun _=>rfl,by simp,by intro i hi;simp at hi⟩
theorem OwnC.sl {w:World} {S:List Nat} {w0:World} {L:List bU} (hH:Hp S w0 w L) (k:Nat) {o:Option Nat} {t n cap:Nat} {cs:Array Value} (hk:L[k]? =some (o,t,cs)) {l:List UInt8} (h:OwnC o n cap 1 cs (l.map V8)):Sl w (own o n cap) l:=by
  have hlen:l.length=n:=by have:=h.len;simpa using this
  subst hlen;refine⟨_,cap,rfl,h.le,fun hne=>?_⟩;cases o with
  |none=>
    have:=h.nil rfl;have:=h.le;exact absurd (List.eq_nil_of_length_eq_zero (by omega)) hne
  |some b=>
    refine⟨b,0,rfl,fun i hi=>?_⟩;have:=h.at_ i (by omega);refine(hH.blk k hk).cell ?_;rw[Nat.zero_add,this];simp[hi]
def wj (P:Program) (w:World) (v:Value) (s m:Nat) (news:List Value):Prop:=
  (∀w',(Builtin.lenOf v).run P w'= .ok m w')∧news.length=m*s∧(∀x∈news,x.oneCell'=true)∧∀w',Chg [] w w'→(Builtin.firstCells s m v).run P w'= .ok news.toArray w'
theorem Sl.src {P:Program} {w:World} {v:Value} {l:List UInt8} (h:Sl w v l):wj P w v 1 l.length (l.map V8):=by
  refine⟨?_,by simp,?_,?_⟩
  · obtain⟨ad,c,rfl,_⟩:=h.len
    intro w';rfl
  · intro x hx
    obtain⟨z,_,rfl⟩:=List.mem_map.1 hx;rfl
  · intro w' hw
    obtain⟨ad,c,rfl,hl,hr⟩:=h.chg hw;cases ad with
    |none=>
      have:l=[]:=by
        apply Classical.byContradiction;intro hne;obtain⟨b,o,hb,_⟩:=hr hne;cases hb
      subst this;rfl
    |some ad=>
      show(loadCells ad (l.length*1)).run P w'=_;rw[Nat.mul_one];by_cases hne:l=[]
      · subst hne;rfl
      · obtain⟨b,o,hb,hcell⟩:=hr hne
        cases hb
        have hcs := run_loadCells_list (P := P) w' ⟨b, o, none⟩ (l.map V8) (fun j v hj => by
          rw [dr];rw [List.getElem?_map] at hj;obtain ⟨z, hz, rfl⟩ := Option.map_eq_some_iff.1 hj;obtain ⟨hlt, rfl⟩ := List.getElem?_eq_some_iff.1 hz;exact hcell j hlt)
        simp only[List.length_map]at hcs;exact hcs
theorem mp {P:Program} {w:World} (s:ByteArray):wj P w (.string s) 1 s.size (s.data.toList.map V8):=by
  refine⟨fun w'=>rfl,by simp,?_,fun w' _=>?_⟩
  · intro x hx
    obtain⟨z,_,rfl⟩:=List.mem_map.1 hx;rfl
  · have e:s.extract 0 s.size=s:=by simp
    simp only[Builtin.firstCells,e];show Result.ok _ w'=_;congr 1;apply Array.ext';simp
section
variable {P : Program} {ops : List Oper} {Q : Exit → Act → World → Prop} {r : List PStep} {a : Act} {w : World} {i : Nat} {d : Option Tmp} {ty : TypeId} {pos : String} {af : Array Edge} {g : Option (Nat × Bool)} {x y : Operand} {t t' T : TypeId}
  {S:List Nat} {w0:World} {L:List bU}
def eg (P:Program) (t:TypeId):Option Nat:=(P.info? t).map (·.bytes)
theorem nR {P:Program} {w:World} {S:List Nat} {w0:World} {L:List bU} (hH:Hp S w0 w L) (k:Nat) {o:Option Nat} {e n cap s:Nat} {cs:Array Value} {xs:List Value} (hk:L[k]? =some (o,e,cs)) (hO:OwnC o n cap s cs xs):
    (Builtin.firstCells s n (own o n cap)).run P w= .ok xs.toArray w:=by
  cases o with
  |none=>
    have h0:=hO.nil rfl;have:=hO.le;have hn:n=0:=by omega
    subst hn;have:xs=[]:=List.eq_nil_of_length_eq_zero (by have:=hO.len;simpa using this);subst this;rfl
  |some b=>
    show(loadCells ⟨b,0,none⟩ (n*s)).run P w=_
    have hcs := run_loadCells_list (P := P) w ⟨b, 0, none⟩ xs (fun j v hj => by
      rw[dr,Nat.zero_add];have hlt:j<n*s:=by have:=(List.getElem?_eq_some_iff.1 hj).1;have:=hO.len;omega
      exact (hH.blk k hk).cell ((hO.at_ j hlt).trans hj))
    rwa [hO.len]at hcs
theorem bn (k:Nat) {dst:Tmp} {o:Option Nat} {n cap s bts m e:Nat} {cs zc:Array Value} {xs news:List Value} {D:TypeDesc} {vy:Value}
    (ho:ops[i]? =some ⟨some dst,.call ⟨.builtin .append,#[x,y],#[t,t']⟩,ty,pos,af,g⟩) (hg:Region.wanted ⟨some dst,.call ⟨.builtin .append,#[x,y],#[t,t']⟩,ty,pos,af,g⟩ (yielded ops.toArray a.tmps)=true)
    (hH:Hp S w0 w L) (hk:L[k]? =some (o,e,cs)) (hO:OwnC o n cap s cs xs) (hsrc:∀w1,Hp S w0 w1 L→wj P w1 vy s m news) (hx:a.eval x=own o n cap) (hy:a.eval y=vy) (hu:P.underlying t=some (.slice e)) (hu':P.underlying t'=some D) (hD:(∃e2,D= .slice e2)∨D= .string)
    (hs:szc P e=some s) (hb:eg P e=some bts) (hz:dt P e=some zc) (hzs:zc.size=s) (hbd:(n+m)*bts≤140737488355328) (hbd':n+m<9223372036854775808)
    (h:∀o' cap' cs' w',OwnC o' (n+m) cap' s cs' (xs++news)→Hp S w0 w' (L.set k (o',e,cs'))→aN P ops.toArray Q r (a.put (some dst) (own o' (n+m) cap')) w'):aN P ops.toArray Q (.e i::r) a w:=by
  refine rV hH ho hg fun w hH=>?_
  obtain⟨hlen,hnl,hone,hfirst⟩:=hsrc w hH
  have hbts:∃inf,P.info? e=some inf∧inf.bytes=bts∧inf.size=s∧∃z,inf.zero=some z∧z.cells=zc:=by
    unfold eg at hb
    obtain⟨inf,hi,rfl⟩:=Option.map_eq_some_iff.1 hb
    unfold szc at hs
    rw[hi]at hs
    unfold dt at hz
    rw[hi]at hz
    obtain⟨z,hz1,rfl⟩:=Option.map_eq_some_iff.1 hz
    exact⟨inf,hi,rfl,by simpa using hs,z,by simpa using hz1,rfl⟩
  obtain⟨inf,hinf,hib,his,z,hiz,hzc⟩:=hbts
  subst his
  have hle:=hO.le
  have hexec:∀v w',(Builtin.append_ #[t,t'] ty #[own o n cap,vy]).run P w= .ok v w'→(execOp a.eval ⟨some dst,.call ⟨.builtin .append,#[x,y],#[t,t']⟩,ty,pos,af,g⟩).run P w= .ok (.value v) w':=by
    intro v w' hr
    simp only[execOp,resolve,List.map_toArray,List.map_cons,List.map_nil,hx,hy,invoke,builtin,Sem.run_bind,Sem.run_pure,Result.andThen_ok,hr]
  by_cases hroom:n+m≤cap
  ·
    have hsz:n*inf.size+news.length≤cs.size:=by
      rw[hO.size,hnl,←Nat.add_mul];exact Nat.mul_le_mul_right _ hroom
    have hown:OwnC o (n+m) cap inf.size (cR cs (n*inf.size) news.toArray) (xs++news):=by
      refine⟨hroom,by rw[eS (by simpa using hsz),hO.size],hO.nil,by rw[List.length_append,hO.len,hnl,Nat.add_mul],fun j hj=>?_⟩
      rw[Nat.add_mul]at hj
      rw[dP (by simpa using hsz)]
      simp only[List.size_toArray]
      by_cases hjn:j<n*inf.size
      · rw[if_neg (by omega),List.getElem?_append_left (by rw[hO.len];exact hjn)];exact hO.at_ j hjn
      · rw[if_pos ⟨by omega,by omega⟩,List.getElem?_append_right (by rw[hO.len];omega),hO.len];simp
    have hf:=hfirst w (.refl _ _)
    cases o with
    |none=>
      have hc0:=hO.nil rfl
      have hm0:m=0:=by omega
      have hn0:n=0:=by omega
      subst hm0;subst hn0;subst hc0
      have hnews:news=[]:=List.eq_nil_of_length_eq_zero (by simpa using hnl)
      subst hnews
      refine⟨own none (0+0) 0,w,hexec _ _ ?_,h none 0 _ w hown ?_⟩
      · rcases hD with ⟨e2,rfl⟩|rfl<;>simp[Builtin.append_,run_underlying hu,run_underlying hu',own,sizeOf,typeInfo,hinf,hlen,hroom,hf]
      · have hsp:cR cs (0*inf.size) ([]:List Value).toArray=cs:=by unfold cR;simp
        rw[hsp]
        exact hH.say k hk rfl
    |some b=>
      obtain⟨w',hr,hB,hoth,hsz',e1,e2,e3⟩:=cQ (P:=P) news 0 (n*inf.size) w cs (hH.blk k hk) (by simpa using hsz) hone
      refine⟨own (some b) (n+m) cap,w',hexec _ _ ?_,h (some b) cap _ w' hown ?_⟩
      · rcases hD with ⟨e2,rfl⟩|rfl<;>simp[Builtin.append_,run_underlying hu,run_underlying hu',own,sizeOf,typeInfo,hinf,hlen,hroom,hf,dr,hr]
      · refine hH.put k hk ?_ (by simpa using hB) fun k' hk' _=>hoth k' hk'
        refine hH.chg.trans' (T:=[b]) ⟨e1,e2,e3,by omega,fun k' hk' hn=>hoth k' (by simpa using hn)⟩ ?_
        intro z' hz' hlt
        simp only[List.mem_singleton]at hz'
        subst hz'
        rcases hH.mine k hk with h1|h1
        · omega
        · exact h1
  ·
    obtain⟨c,hc,hch⟩:∃c,n+m≤c∧(Question.appendCap (n+m) cap e).cut (w.tape w.drawn (.appendCap (n+m) cap e))=c:=⟨_,by simp[Question.cut],rfl⟩
    have hfc:(Question.appendCap (n+m) cap e).forced=false:=rfl
    have hd:Chg [] w w.drew:=(Chg.refl _ _).drew
    have hf:=hfirst w.drew hd
    have hfo:=nR (P:=P) (hH.call hd) k hk hO
    have hfit:=growslice_fits (bytes:=inf.bytes) (show cap<n+m by omega) (by rw[hib];exact hbd)
    have h48:¬(281474976710656<Builtin.nextslicecap (n+m) cap*inf.bytes):=by omega
    have h63:¬(9223372036854775807<((n:Int)+(m:Int))):=by omega
    have hzl:(Builtin.zeroCells zc (c - (n+m))).size=(c - (n+m))*zc.size:=by simp[Builtin.zeroCells]
    refine⟨own (some w.drew.heap.size) (n+m) c,w.drew.alloc (.cells (xs.toArray++news.toArray++Builtin.zeroCells zc (c - (n+m))) e),hexec _ _ ?_,h (some w.drew.heap.size) c (xs.toArray++news.toArray++Builtin.zeroCells zc (c - (n+m))) _ ⟨hc,?_,(by intro h;cases h),by rw[List.length_append,hO.len,hnl,Nat.add_mul],fun j hj=>?_⟩ ?_⟩
    · rcases hD with ⟨e2,rfl⟩|rfl<;>simp[Builtin.append_,run_underlying hu,run_underlying hu',own,sizeOf,typeInfo,zeroValue,hinf,hiz,hlen,hroom,h63,h48,hfc,hch,hzc,newRow]
      all_goals (simp only[own]at hfo;rw[hfo];simp only[Result.andThen_ok];rw[hf];simp;congr 2;apply Array.ext';simp)
    · simp only[Array.size_append,List.size_toArray,hzl,hO.len,hnl,hzs]
      rw[←Nat.add_mul,←Nat.add_mul];congr 1;omega
    · have:j<(xs++news).length:=by rw[List.length_append,hO.len,hnl,←Nat.add_mul];exact hj
      rw[Array.getElem?_append_left (by simpa using this)]
      simp
    · refine(hH.call hd).turn k hk _ ?_ ?_ ?_ ?_
      · exact hH.chg.trans' (T:=[]) (hd.alloc _) (by simp)
      · intro b hb'
        cases hb'
        exact⟨.inl (by have:=hH.chg.size;exact this),cD.new _ _ _⟩
      · intro b hb';cases hb';exact .inr (Nat.le_refl _)
      · intro k' _ hlt
        exact RowKit.Below.heap_alloc _ _ _ hlt
theorem lp {dst:Tmp} {e n c s bts:Nat} {zc:Array Value} {k k':IntKind} (ho:ops[i]? =some ⟨some dst,.makeSlice t x y,ty,pos,af,g⟩) (hg:Region.wanted ⟨some dst,.makeSlice t x y,ty,pos,af,g⟩ (yielded ops.toArray a.tmps)=true)
    (hH:Hp S w0 w L) (hx:a.eval x= .int k (n:Int)) (hy:a.eval y= .int k' (c:Int)) (hu:P.underlying t=some (.slice e)) (hs:szc P e=some s) (hb:eg P e=some bts) (hz:dt P e=some zc) (hzs:zc.size=s)
    (hnc:n≤c) (hbd:bts*c≤281474976710656) (hc:c<9223372036854775808)
    (h:∀b w',Hp S w0 w' (L++[(some b,e,madeCells zc (c*s))])→aN P ops.toArray Q r (a.put (some dst) (own (some b) n c)) w'):aN P ops.toArray Q (.x i::r) a w:=by
  refine lM hH ho hg fun w hH=>⟨own (some w.heap.size) n c,w.alloc (.cells (madeCells zc (c*s)) e),?_,(Chg.refl _ _).alloc _,h _ _ (hH.alloc e _)⟩
  unfold eg at hb
  obtain⟨inf,hi,rfl⟩:=Option.map_eq_some_iff.1 hb
  unfold szc at hs
  rw[hi]at hs
  unfold dt at hz
  rw[hi]at hz
  obtain⟨z,hz1,rfl⟩:=Option.map_eq_some_iff.1 hz
  have hsz:inf.size=s:=by simpa using hs
  have hbd':(inf.bytes:Int)*c≤281474976710656:=by
    have e:((inf.bytes*c:Nat):Int)=(inf.bytes:Int)*c:=by simp
    omega
  have:=run_make w t e inf z hu hi (by simpa using hz1) k k' n c (by omega) (by omega) hbd' (by omega)
  simp only[execOp,hx,hy,Sem.run_bind,this,Result.andThen_ok]
  rw[hsz]
  rfl
theorem lF {n:Nat}:madeCells #[V8 0] n=a9 n fun _=>0:=by
  refine gM (size_madeCells _ _) fun i hi=>?_;simp[madeCells,hi,Nat.mod_one]
theorem OwnC.made0 {b c s:Nat} {cs:Array Value} (h:cs.size=c*s):OwnC (some b) 0 c s cs []:=⟨Nat.zero_le _,h,(by intro h;cases h),by simp,by intro i hi;simp at hi⟩
theorem OwnC.made {b n:Nat} {f:Nat→UInt8}:OwnC (some b) n n 1 (a9 n f) (((List.range n).map f).map V8):=
  ⟨Nat.le_refl _,by simp,(by intro h;cases h),by simp,fun i hi=>by rw[Nat.mul_one]at hi;rw[bK hi];simp[hi]⟩
theorem OwnC.of_bytes {b n:Nat} {l:List UInt8} (h:l.length=n):OwnC (some b) n n 1 (bytes l) (l.map V8):=
  ⟨Nat.le_refl _,by simp[h],(by intro h;cases h),by simp[h],fun i hi=>by rw[qw];simp⟩
theorem bA {dst:Tmp} {e n:Nat} {cs:Array Value} {parts:List (Nat×Operand)} {vs:List (Nat×Value)} (ho:ops[i]? =some ⟨some dst,.buildSlice t n parts.toArray,ty,pos,af,g⟩) (hg:Region.wanted ⟨some dst,.buildSlice t n parts.toArray,ty,pos,af,g⟩ (yielded ops.toArray a.tmps)=true)
    (hH:Hp S w0 w L) (hu:P.underlying t=some (.slice e)) (hv:(parts.map fun p=>(p.1,a.eval p.2))=vs)
    (hrun:∀w,(Instr.buildSlice t n vs.toArray).run P w= .ok (.slice (some ⟨w.heap.size,0,none⟩) n n) (w.alloc (.cells cs e)))
    (h:∀b w',Hp S w0 w' (L++[(some b,e,cs)])→aN P ops.toArray Q r (a.put (some dst) (own (some b) n n)) w'):aN P ops.toArray Q (.x i::r) a w:=by
  refine lM hH ho hg fun w hH=>⟨own (some w.heap.size) n n,w.alloc (.cells cs e),?_,(Chg.refl _ _).alloc _,h _ _ (hH.alloc e _)⟩
  have hv':(parts.toArray.map fun(p:Nat×Operand)=>(p.1,a.eval p.2))=vs.toArray:=by rw[←hv];simp
  simp only[execOp,Sem.run_bind]
  rw[show(parts.toArray.map fun x=>match x with|(i,x)=>(i,a.eval x))=vs.toArray from hv',hrun w]
  rfl
theorem lu (k:Nat) {e b o dl dc m:Nat} {f:Nat→UInt8} {l:List UInt8} {vy:Value} {dst:Option Tmp}
    (ho:ops[i]? =some ⟨dst,.call ⟨.builtin .copy,#[x,y],#[t,t']⟩,ty,pos,af,g⟩) (hg:Region.wanted ⟨dst,.call ⟨.builtin .copy,#[x,y],#[t,t']⟩,ty,pos,af,g⟩ (yielded ops.toArray a.tmps)=true)
    (hH:Hp S w0 w L) (hk:L[k]? =some (some b,T,a9 m f)) (hsrc:∀w1,Hp S w0 w1 L→(∀w',(Builtin.lenOf vy).run P w'= .ok l.length w')∧∀n,n≤l.length→(Builtin.firstCells 1 n vy).run P w1= .ok (bytes (l.take n)) w1)
    (hx:a.eval x= .slice (some ⟨b,o,none⟩) dl dc) (hy:a.eval y=vy) (hu:P.underlying t=some (.slice e)) (hs:szc P e=some 1) (hfit:o+dl≤m)
    (h:∀w',Hp S w0 w' (L.set k (some b,T,a9 m fun j=>if o≤j∧j<o+min l.length dl then l.getD (j - o) 0 else f j))→aN P ops.toArray Q r (a.put dst (bb (min l.length dl:Nat))) w'):aN P ops.toArray Q (.e i::r) a w:=by
  refine rV hH ho hg fun w hH=>?_
  obtain⟨hlen,hfirst⟩:=hsrc w hH
  have hf:=hfirst (min l.length dl) (Nat.min_le_left _ _)
  have hl2:(bytes (l.take (min l.length dl))).toList.length=min l.length dl:=by simp[bytes]
  obtain ⟨w', hr, hB, hoth, hsz, e1, e2, e3⟩ := cQ (P := P) (bytes (l.take (min l.length dl))).toList 0 o w _ (hH.blk k hk) (by rw [hl2]; simp; omega) (by
    intro v hv
    obtain ⟨z, _, rfl⟩ := List.mem_map.1 (show v ∈ (l.take (min l.length dl)).map V8 from hv); rfl)
  refine⟨bb (min l.length dl:Nat),w',?_,h w' ?_⟩
  · simp only[execOp,resolve,List.map_toArray,List.map_cons,List.map_nil,hx,hy,invoke,builtin,Sem.run_bind,Sem.run_pure,Result.andThen_ok]
    have:(Builtin.copy_ #[t,t'] ty #[.slice (some ⟨b,o,none⟩) dl dc,vy]).run P w= .ok (bb (min l.length dl:Nat)) w':=by
      simp only[Builtin.copy_]
      simp[run_underlying hu,hlen,cn hs]
      have hf':(Builtin.firstCells 1 (min l.length dl) vy).run P w= .ok (bytes (l.take (min l.length dl))) w:=hf
      rw[show Nat.min l.length dl=min l.length dl from rfl,hf']
      simp[hr,goInt]
    rw[this];rfl
  · refine hH.put k hk ?_ ?_ fun k' hk' _=>hoth k' hk'
    · refine hH.chg.trans' (T:=[b]) ⟨e1,e2,e3,by omega,fun k' hk' hn=>hoth k' (by simpa using hn)⟩ ?_
      intro z' hz' hlt
      simp only[List.mem_singleton]at hz'
      subst hz'
      rcases hH.mine k hk with h1|h1
      · omega
      · exact h1
    · have hsp:cR (a9 m f) (o+0) (bytes (l.take (min l.length dl))).toList.toArray=a9 m fun j=>if o≤j∧j<o+min l.length dl then l.getD (j - o) 0 else f j:=by
        refine gM (by rw[eS (by simp;omega)];simp) fun j hj=>?_
        rw[dP (by simp;omega)]
        simp only[Nat.add_zero,Array.toArray_toList,vD,List.length_take]
        by_cases hc:o≤j∧j<o+min (min l.length dl) l.length
        · rw[if_pos hc,if_pos ⟨hc.1,by omega⟩,qw,List.getElem?_take,if_pos (by omega),List.getElem?_eq_getElem (by omega)]
          simp[List.getD,show j - o<l.length by omega]
        · rw[if_neg hc,if_neg (by omega),bK hj]
      rw[←hsp];exact hB
theorem Sl.csrc {v:Value} {l:List UInt8} (h:Sl w v l):(∀w',(Builtin.lenOf v).run P w'= .ok l.length w')∧∀n,n≤l.length→(Builtin.firstCells 1 n v).run P w= .ok (bytes (l.take n)) w:=by
  refine⟨(h.src (P:=P)).1,fun n hn=>?_⟩;have:=((h.cuth hn).src (P:=P)).2.2.2 w (.refl _ _);obtain⟨ad,c,rfl,hc⟩:=h.len;have e:ky (.slice ad l.length c) 0 n= .slice ad n c:=by simp[ky,nH]
  rw[e]at this;have hl:(l.take n).length=n:=by simp;omega
  rw[hl]at this;cases ad<;>exact this
end
end Go.Proofs.YtomjbepgbnbgmaaDoor
namespace Go.Proofs.YtomjbepgbnbgmaaDoor
open Go
theorem aT {P:Program} {a:Act} {d:Option Tmp} {ty:TypeId} {pos:String} {af:Array Edge} {g:Option (Nat×Bool)} {t:TypeId} {parts:List (Nat×Operand)} {vs:List (Nat×Value)} {v:Value}
    (hv:(parts.map fun p=>(p.1,a.eval p.2))=vs) (hrun:∀w,(Instr.build t vs.toArray).run P w= .ok v w):c7 P ⟨d,.build t parts.toArray,ty,pos,af,g⟩ a v:=fun w=>by
  have hv':(parts.toArray.map fun(p:Nat×Operand)=>(p.1,a.eval p.2))=vs.toArray:=by rw[←hv];simp
  simp only[execOp,Sem.run_bind];rw[show(parts.toArray.map fun x=>match x with|(i,x)=>(i,a.eval x))=vs.toArray from hv',hrun w];rfl
section
variable {P : Program} {t e : TypeId} {x y : Operand}
theorem jl {k:IntKind} (he:P.underlying e=some (.int k)) (hc:P.cellsOf e=1) (d n:Nat) (f g:Nat→UInt8) (w:World):∀(is:List Nat),(∀i∈is,i<n)→
    (Op.eqItems (d+1) e (P.cellsOf e) (a9 n f) (a9 n g) is).run P w= .ok (is.all fun i=>f i==g i) w
  |[],_=>rfl
  |i::is,h=>by
    have hp:P.plainKey e=true:=by unfold Program.plainKey;rw[he]
    have hi:i<n:=h i (by simp);rw[hc];unfold Op.eqItems;rw[Nat.mul_one];simp only[Sem.run_bind,run_part_plain w hp (bK hi),Result.andThen_ok];rw[run_equalIn_int w d e .u8 k _ _ he];simp only[Result.andThen_ok,List.all_cons]
    have e1:(((f i).toNat:Int)==((g i).toNat:Int))=(f i==g i):=by
      rw[Bool.eq_iff_iff];simp only[beq_iff_eq];constructor
      · intro h;exact UInt8.toNat_inj.1 (by omega)
      · intro h;rw[h]
    rw[e1];have ih:=jl he hc d n f g w is fun j hj=>h j (by simp[hj]);rw[hc]at ih;cases f i==g i
    · rfl
    · simpa using ih
theorem o5 {k:IntKind} {n:Nat} {f g:Nat→UInt8} (hu:P.underlying t=some (.array n e)) (he:P.underlying e=some (.int k)) (hs:szc P e=some 1) (d:Nat) (w:World):
    (Op.equalIn (d+2) t (.agg (a9 n f)) (.agg (a9 n g))).run P w= .ok ((List.range n).all fun i=>f i==g i) w:=by
  have hc:P.cellsOf e=1:=by unfold szc at hs;unfold Program.cellsOf;rw[hs];rfl
  have hi:∃i,P.info? e=some i:=by
    unfold szc at hs;cases h:P.info? e with
    |none=>rw[h]at hs;cases hs
    |some i=>exact⟨i,rfl⟩
  obtain⟨i,hi⟩:=hi;rw[run_equalIn_array w (d+1) _ _ hu hi];exact jl he hc d n f g w _ fun j hj=>List.mem_range.1 hj
theorem mL {k:IntKind} {n:Nat} {f g:Nat→UInt8} (hu:P.underlying t=some (.array n e)) (he:P.underlying e=some (.int k)) (hs:szc P e=some 1) (hg:P.eqGuardType P.depth t=false):
    fl P .eql t x y (.agg (a9 n f)) (.agg (a9 n g)) (BV ((List.range n).all fun i=>f i==g i)):=fun w=>by
  have h0:=run_eqGuard_agg w .eql t x y (a9 n f) (a9 n g) hg;have h1:=o5 (f:=f) (g:=g) hu he hs 9998 w;rw[Sem.run_bind,h0];simp only[Result.andThen_ok];rw[run_eql_struct];show(Sem.run P (Op.equalIn (9998+2) t _ _) w).andThen _=_;rw[h1];rfl
end
end Go.Proofs.YtomjbepgbnbgmaaDoor
set_option maxRecDepth 100000
set_option maxHeartbeats 4000000
namespace Go.Proofs.YtomjbepgbnbgmaaDoor
open Go
open List (getD_cons_zero getD_cons_succ set_cons_zero set_cons_succ)
theorem sz2:szc Tryd.prog 2=some 1:=by kernel_rfl
theorem fO:szc Tryd.prog 3=some 1:=by kernel_rfl
theorem jf:szc Tryd.prog 4=some 1:=by kernel_rfl
theorem bL:szc Tryd.prog 5=some 1:=by kernel_rfl
theorem cP:szc Tryd.prog 9=some 1:=by kernel_rfl
theorem bp:szc Tryd.prog 22=some 32:=by kernel_rfl
theorem xI:szc Tryd.prog 24=some 101:=by kernel_rfl
theorem sL:szc Tryd.prog 29=some 3:=by kernel_rfl
theorem cW:szc Tryd.prog 31=some 1:=by kernel_rfl
theorem bz:szc Tryd.prog 35=some 1:=by kernel_rfl
theorem cZ:szc Tryd.prog 45=some 101:=by kernel_rfl
theorem oq:szc Tryd.prog 46=some 3:=by kernel_rfl
theorem Ar:szc Tryd.prog 47=some 1:=by kernel_rfl
theorem iT:szc Tryd.prog 49=some 3:=by kernel_rfl
theorem lR:szc Tryd.prog 50=some 9:=by kernel_rfl
theorem dz:szc Tryd.prog 70=some 5:=by kernel_rfl
theorem bq:szc Tryd.prog 72=some 5:=by kernel_rfl
theorem da:szc Tryd.prog 76=some 10:=by kernel_rfl
theorem C9:szc Tryd.prog 110=some 64:=by kernel_rfl
theorem zv:szc Tryd.prog 118=some 1:=by kernel_rfl
theorem gS:szc Tryd.prog 123=some 2:=by kernel_rfl
theorem dF:szc Tryd.prog 125=some 16:=by kernel_rfl
theorem eN:szc Tryd.prog 132=some 1:=by kernel_rfl
theorem jt:szc Tryd.prog 133=some 8:=by kernel_rfl
theorem qH:szc Tryd.prog 138=some 176:=by kernel_rfl
theorem Bm:szc Tryd.prog 142=some 256:=by kernel_rfl
theorem Dj:szc Tryd.prog 150=some 64:=by kernel_rfl
theorem eF:dt Tryd.prog 22=some (a9 32 fun _=>0):=by kernel_rfl
theorem zc70:dt Tryd.prog 70=some (bf 5 fun _=>0):=by kernel_rfl
theorem C2:dt Tryd.prog 110=some (a9 64 fun _=>0):=by kernel_rfl
theorem kL:dt Tryd.prog 125=some (a9 16 fun _=>0):=by kernel_rfl
theorem Bu:dt Tryd.prog 133=some (dD 8 fun _=>0):=by kernel_rfl
theorem Dl:dt Tryd.prog 142=some (a9 256 fun _=>0):=by kernel_rfl
theorem Dy:dt Tryd.prog 150=some (dD 64 fun _=>0):=by kernel_rfl
theorem iW:dt Tryd.prog 5=some #[V8 0]:=by kernel_rfl
theorem iX:eg Tryd.prog 5=some 1:=by kernel_rfl
theorem Dm (x0 x1 x2 x3 x4 x5 x6 x7:UInt32):∀w,(Instr.build 133 [(0,gV x0),(1,gV x1),(2,gV x2),(3,gV x3),(4,gV x4),(5,gV x5),(6,gV x6),(7,gV x7)].toArray).run Tryd.prog w= .ok (.agg (dD 8 fun i=>[x0,x1,x2,x3,x4,x5,x6,x7].getD i 0)) w:=fun w=>by kernel_rfl
theorem bs0:∀w,(Instr.buildSlice 31 0 [].toArray).run Tryd.prog w= .ok (.slice (some ⟨w.heap.size,0,none⟩) 0 0) (w.alloc (.cells (bytes []) 5)):=fun w=>by kernel_rfl
theorem ja (x0:UInt8):∀w,(Instr.buildSlice 31 1 [(0,V8 x0)].toArray).run Tryd.prog w= .ok (.slice (some ⟨w.heap.size,0,none⟩) 1 1) (w.alloc (.cells (bytes [x0]) 5)):=fun w=>by kernel_rfl
theorem bs3 (x0 x1 x2:UInt8):∀w,(Instr.buildSlice 31 3 [(0,V8 x0),(1,V8 x1),(2,V8 x2)].toArray).run Tryd.prog w= .ok (.slice (some ⟨w.heap.size,0,none⟩) 3 3) (w.alloc (.cells (bytes [x0,x1,x2]) 5)):=fun w=>by kernel_rfl
theorem bs4 (x0 x1 x2 x3:UInt8):∀w,(Instr.buildSlice 31 4 [(0,V8 x0),(1,V8 x1),(2,V8 x2),(3,V8 x3)].toArray).run Tryd.prog w= .ok (.slice (some ⟨w.heap.size,0,none⟩) 4 4) (w.alloc (.cells (bytes [x0,x1,x2,x3]) 5)):=fun w=>by kernel_rfl
theorem cf5:aC Tryd.prog 5:=⟨Tryd.f5,Tryd.func5,by kernel_rfl,by kernel_rfl⟩
theorem cf6:aC Tryd.prog 6:=⟨Tryd.f6,Tryd.func6,by kernel_rfl,by kernel_rfl⟩
theorem Bc:aC Tryd.prog 7:=⟨Tryd.f7,Tryd.func7,by kernel_rfl,by kernel_rfl⟩
theorem BG:aC Tryd.prog 8:=⟨Tryd.f8,Tryd.func8,by kernel_rfl,by kernel_rfl⟩
theorem cf9:aC Tryd.prog 9:=⟨Tryd.f9,Tryd.func9,by kernel_rfl,by kernel_rfl⟩
theorem cf10:aC Tryd.prog 10:=⟨Tryd.f10,Tryd.func10,by kernel_rfl,by kernel_rfl⟩
theorem Au:aC Tryd.prog 11:=⟨Tryd.f11,Tryd.func11,by kernel_rfl,by kernel_rfl⟩
theorem cf12:aC Tryd.prog 12:=⟨Tryd.f12,Tryd.func12,by kernel_rfl,by kernel_rfl⟩
theorem cf13:aC Tryd.prog 13:=⟨Tryd.f13,Tryd.func13,by kernel_rfl,by kernel_rfl⟩
theorem wZ:aC Tryd.prog 14:=⟨Tryd.f14,Tryd.func14,by kernel_rfl,by kernel_rfl⟩
theorem cf15:aC Tryd.prog 15:=⟨Tryd.f15,Tryd.func15,by kernel_rfl,by kernel_rfl⟩
theorem wR:aC Tryd.prog 16:=⟨Tryd.f16,Tryd.func16,by kernel_rfl,by kernel_rfl⟩
theorem cf17:aC Tryd.prog 17:=⟨Tryd.f17,Tryd.func17,by kernel_rfl,by kernel_rfl⟩
theorem cf18:aC Tryd.prog 18:=⟨Tryd.f18,Tryd.func18,by kernel_rfl,by kernel_rfl⟩
theorem cf19:aC Tryd.prog 19:=⟨Tryd.f19,Tryd.func19,by kernel_rfl,by kernel_rfl⟩
theorem cf20:aC Tryd.prog 20:=⟨Tryd.f20,Tryd.func20,by kernel_rfl,by kernel_rfl⟩
theorem rU:aC Tryd.prog 21:=⟨Tryd.f21,Tryd.func21,by kernel_rfl,by kernel_rfl⟩
theorem BF:aC Tryd.prog 22:=⟨Tryd.f22,Tryd.func22,by kernel_rfl,by kernel_rfl⟩
theorem oU:aC Tryd.prog 23:=⟨Tryd.f23,Tryd.func23,by kernel_rfl,by kernel_rfl⟩
theorem oZ:aC Tryd.prog 24:=⟨Tryd.f24,Tryd.func24,by kernel_rfl,by kernel_rfl⟩
theorem Am:aC Tryd.prog 25:=⟨Tryd.f25,Tryd.func25,by kernel_rfl,by kernel_rfl⟩
theorem cf26:aC Tryd.prog 26:=⟨Tryd.f26,Tryd.func26,by kernel_rfl,by kernel_rfl⟩
theorem cf27:aC Tryd.prog 27:=⟨Tryd.f27,Tryd.func27,by kernel_rfl,by kernel_rfl⟩
theorem cf28:aC Tryd.prog 28:=⟨Tryd.f28,Tryd.func28,by kernel_rfl,by kernel_rfl⟩
theorem cf29:aC Tryd.prog 29:=⟨Tryd.f29,Tryd.func29,by kernel_rfl,by kernel_rfl⟩
theorem cf30:aC Tryd.prog 30:=⟨Tryd.f30,Tryd.func30,by kernel_rfl,by kernel_rfl⟩
theorem cf31:aC Tryd.prog 31:=⟨Tryd.f31,Tryd.func31,by kernel_rfl,by kernel_rfl⟩
theorem cf32:aC Tryd.prog 32:=⟨Tryd.f32,Tryd.func32,by kernel_rfl,by kernel_rfl⟩
theorem Cw:aC Tryd.prog 33:=⟨Tryd.f33,Tryd.func33,by kernel_rfl,by kernel_rfl⟩
theorem BK:aC Tryd.prog 34:=⟨Tryd.f34,Tryd.func34,by kernel_rfl,by kernel_rfl⟩
theorem cf35:aC Tryd.prog 35:=⟨Tryd.f35,Tryd.func35,by kernel_rfl,by kernel_rfl⟩
theorem cf36:aC Tryd.prog 36:=⟨Tryd.f36,Tryd.func36,by kernel_rfl,by kernel_rfl⟩
theorem dd:aC Tryd.prog 37:=⟨Tryd.f37,Tryd.func37,by kernel_rfl,by kernel_rfl⟩
theorem cf38:aC Tryd.prog 38:=⟨Tryd.f38,Tryd.func38,by kernel_rfl,by kernel_rfl⟩
theorem Ax:aC Tryd.prog 39:=⟨Tryd.f39,Tryd.func39,by kernel_rfl,by kernel_rfl⟩
theorem cf40:aC Tryd.prog 40:=⟨Tryd.f40,Tryd.func40,by kernel_rfl,by kernel_rfl⟩
theorem ns:aC Tryd.prog 41:=⟨Tryd.f41,Tryd.func41,by kernel_rfl,by kernel_rfl⟩
theorem cf42:aC Tryd.prog 42:=⟨Tryd.f42,Tryd.func42,by kernel_rfl,by kernel_rfl⟩
theorem cf43:aC Tryd.prog 43:=⟨Tryd.f43,Tryd.func43,by kernel_rfl,by kernel_rfl⟩
theorem oQ:aC Tryd.prog 44:=⟨Tryd.f44,Tryd.func44,by kernel_rfl,by kernel_rfl⟩
theorem sP:aC Tryd.prog 45:=⟨Tryd.f45,Tryd.func45,by kernel_rfl,by kernel_rfl⟩
theorem p_:aC Tryd.prog 46:=⟨Tryd.f46,Tryd.func46,by kernel_rfl,by kernel_rfl⟩
theorem cf47:aC Tryd.prog 47:=⟨Tryd.f47,Tryd.func47,by kernel_rfl,by kernel_rfl⟩
theorem Ah:aC Tryd.prog 48:=⟨Tryd.f48,Tryd.func48,by kernel_rfl,by kernel_rfl⟩
theorem BQ:aC Tryd.prog 49:=⟨Tryd.f49,Tryd.func49,by kernel_rfl,by kernel_rfl⟩
theorem u4:aC Tryd.prog 50:=⟨Tryd.f50,Tryd.func50,by kernel_rfl,by kernel_rfl⟩
theorem BI:aC Tryd.prog 51:=⟨Tryd.f51,Tryd.func51,by kernel_rfl,by kernel_rfl⟩
theorem sB:aC Tryd.prog 52:=⟨Tryd.f52,Tryd.func52,by kernel_rfl,by kernel_rfl⟩
theorem yk:aC Tryd.prog 53:=⟨Tryd.f53,Tryd.func53,by kernel_rfl,by kernel_rfl⟩
theorem cf54:aC Tryd.prog 54:=⟨Tryd.f54,Tryd.func54,by kernel_rfl,by kernel_rfl⟩
theorem za:aC Tryd.prog 55:=⟨Tryd.f55,Tryd.func55,by kernel_rfl,by kernel_rfl⟩
theorem cf56:aC Tryd.prog 56:=⟨Tryd.f56,Tryd.func56,by kernel_rfl,by kernel_rfl⟩
theorem Ao:aC Tryd.prog 57:=⟨Tryd.f57,Tryd.func57,by kernel_rfl,by kernel_rfl⟩
theorem AC:aC Tryd.prog 58:=⟨Tryd.f58,Tryd.func58,by kernel_rfl,by kernel_rfl⟩
theorem xb:aC Tryd.prog 61:=⟨Tryd.f61,Tryd.func61,by kernel_rfl,by kernel_rfl⟩
theorem cf62:aC Tryd.prog 62:=⟨Tryd.f62,Tryd.func62,by kernel_rfl,by kernel_rfl⟩
theorem uU:aC Tryd.prog 63:=⟨Tryd.f63,Tryd.func63,by kernel_rfl,by kernel_rfl⟩
theorem hU:aC Tryd.prog 64:=⟨Tryd.f64,Tryd.func64,by kernel_rfl,by kernel_rfl⟩
theorem B3:aC Tryd.prog 65:=⟨Tryd.f65,Tryd.func65,by kernel_rfl,by kernel_rfl⟩
theorem BU:aC Tryd.prog 66:=⟨Tryd.f66,Tryd.func66,by kernel_rfl,by kernel_rfl⟩
theorem cf67:aC Tryd.prog 67:=⟨Tryd.f67,Tryd.func67,by kernel_rfl,by kernel_rfl⟩
theorem Cm:aC Tryd.prog 68:=⟨Tryd.f68,Tryd.func68,by kernel_rfl,by kernel_rfl⟩
theorem cf69:aC Tryd.prog 69:=⟨Tryd.f69,Tryd.func69,by kernel_rfl,by kernel_rfl⟩
theorem cf70:aC Tryd.prog 70:=⟨Tryd.f70,Tryd.func70,by kernel_rfl,by kernel_rfl⟩
theorem B6:aC Tryd.prog 71:=⟨Tryd.f71,Tryd.func71,by kernel_rfl,by kernel_rfl⟩
theorem zO:aC Tryd.prog 72:=⟨Tryd.f72,Tryd.func72,by kernel_rfl,by kernel_rfl⟩
theorem B8:aC Tryd.prog 73:=⟨Tryd.f73,Tryd.func73,by kernel_rfl,by kernel_rfl⟩
theorem cf74:aC Tryd.prog 74:=⟨Tryd.f74,Tryd.func74,by kernel_rfl,by kernel_rfl⟩
theorem cf75:aC Tryd.prog 75:=⟨Tryd.f75,Tryd.func75,by kernel_rfl,by kernel_rfl⟩
theorem Az:aC Tryd.prog 76:=⟨Tryd.f76,Tryd.func76,by kernel_rfl,by kernel_rfl⟩
theorem cf77:aC Tryd.prog 77:=⟨Tryd.f77,Tryd.func77,by kernel_rfl,by kernel_rfl⟩
theorem cf78:aC Tryd.prog 78:=⟨Tryd.f78,Tryd.func78,by kernel_rfl,by kernel_rfl⟩
theorem cf79:aC Tryd.prog 79:=⟨Tryd.f79,Tryd.func79,by kernel_rfl,by kernel_rfl⟩
theorem Cr:aC Tryd.prog 80:=⟨Tryd.f80,Tryd.func80,by kernel_rfl,by kernel_rfl⟩
theorem CP:aC Tryd.prog 81:=⟨Tryd.f81,Tryd.func81,by kernel_rfl,by kernel_rfl⟩
theorem Cl:aC Tryd.prog 82:=⟨Tryd.f82,Tryd.func82,by kernel_rfl,by kernel_rfl⟩
theorem cf83:aC Tryd.prog 83:=⟨Tryd.f83,Tryd.func83,by kernel_rfl,by kernel_rfl⟩
theorem cf84:aC Tryd.prog 84:=⟨Tryd.f84,Tryd.func84,by kernel_rfl,by kernel_rfl⟩
theorem cf86:aC Tryd.prog 86:=⟨Tryd.f86,Tryd.func86,by kernel_rfl,by kernel_rfl⟩
theorem B5:aC Tryd.prog 87:=⟨Tryd.f87,Tryd.func87,by kernel_rfl,by kernel_rfl⟩
theorem cf88:aC Tryd.prog 88:=⟨Tryd.f88,Tryd.func88,by kernel_rfl,by kernel_rfl⟩
theorem cf89:aC Tryd.prog 89:=⟨Tryd.f89,Tryd.func89,by kernel_rfl,by kernel_rfl⟩
theorem cf90:aC Tryd.prog 90:=⟨Tryd.f90,Tryd.func90,by kernel_rfl,by kernel_rfl⟩
theorem cf91:aC Tryd.prog 91:=⟨Tryd.f91,Tryd.func91,by kernel_rfl,by kernel_rfl⟩
theorem cf92:aC Tryd.prog 92:=⟨Tryd.f92,Tryd.func92,by kernel_rfl,by kernel_rfl⟩
theorem Cg:aC Tryd.prog 96:=⟨Tryd.f96,Tryd.func96,by kernel_rfl,by kernel_rfl⟩
theorem cf97:aC Tryd.prog 97:=⟨Tryd.f97,Tryd.func97,by kernel_rfl,by kernel_rfl⟩
end Go.Proofs.YtomjbepgbnbgmaaDoor
namespace Go.Proofs.YtomjbepgbnbgmaaDoor
open Go
def zn (n:Nat) (f:Nat→Bool):Array Value:=iU n (fun i=>BV (f i))
@[simp] theorem CT (n:Nat) (f:Nat→Bool):(zn n f).size=n:=by simp[zn]
theorem c_ {n:Nat} {f:Nat→Bool} {k:Nat} {v:Bool}:(zn n f).setIfInBounds k (BV v)=zn n (dn f k v):=by
  unfold zn;rw[kP];congr 1;funext i;unfold dn;split<;>rfl
theorem qz0:type_of% (And.intro @nf (And.intro @nh (@c_))):=And.intro @nf (And.intro @nh (@c_))
theorem Sl.head {w:World} {ad:Option Addr} {n c h:Nat} {l:List UInt8} (hs:Sl w (.slice ad n c) l) (hh:h≤l.length):Sl w (.slice ad h c) (l.take h):=by
  have:=hs.cuth hh;simpa [ky,nH] using this
theorem Hp.callnew2 {S:List Nat} {w0 w w':World} {L:List bU} (h:Hp S w0 w L) (hc:Chg [] w w') {b b':Nat} {t t':TypeId} {cs cs':Array Value} (hb:cD w' b t cs) (hn:w.heap.size≤b) (hb':cD w' b' t' cs') (hn':w.heap.size≤b') (hne:b≠b'):
    Hp S w0 w' (L++[(some b,t,cs),(some b',t',cs')]):=by
  have h1:=h.callnew hc hb hn
  have h2 := h1.add (some b', t', cs') (fun x hx => by cases hx; exact ⟨.inl (Nat.le_trans h.chg.size hn'), hb'⟩) (fun x hx y hy hxy => by
    cases hy;rcases List.mem_append.1 hx with hx|hx
    · have:=h.lt hx hxy;omega
    · simp only [List.mem_singleton] at hx; subst hx; cases hxy; exact hne rfl)
  rwa [List.append_assoc]at h2
theorem Hp.name {S:List Nat} {w0 w:World} {L:List bU} (h:Hp S w0 w L) (i:Nat) {b:Option Nat} {t:TypeId} {cs:Array Value} (hi:L[i]? =some (b,t,cs)):∃z,cs=z∧Hp S w0 w (L.set i (b,t,z)):=⟨cs,rfl,h.say i hi rfl⟩
section
variable {P : Program} {ops : List Oper} {Q : Exit → Act → World → Prop} {r : List PStep} {a : Act} {w : World} {i : Nat} {d : Option Tmp} {ty : TypeId} {pos : String} {af : Array Edge} {g : Option (Nat × Bool)} {x y : Operand} {t t' T : TypeId}
  {S:List Nat} {w0:World} {L:List bU}
theorem AR {R:World→World→Prop} {o:Oper} (hH:Hp S w0 w L) (ho:ops[i]? =some o) (hg:Region.wanted o (yielded ops.toArray a.tmps)=true) (h:∀w1,Hp S w0 w1 L→∃w',(execOp a.eval o).run P w1= .ok .skip w'∧R w1 w'∧aN P ops.toArray Q r (a.put o.dst undef) w'):aN P ops.toArray Q (.s i R::r) a w:=fun w1 hw=>by
  obtain⟨w',hr,hn⟩:=h w1 (hH.call hw);unfold wpOp;simp only[ef ho,hg,if_true];exact .inl (by unfold Oper.wp;rw[hr];exact hn)
theorem mP (n:Nat) {D:List Nat} {b o:Nat} {cs:Array Value} {v:Value} (ho:ops[i]? =some ⟨none,.store t x y,ty,pos,af,g⟩) (hg:Region.wanted ⟨none,.store t x y,ty,pos,af,g⟩ (yielded ops.toArray a.tmps)=true)
    (hH:Hp S w0 w L) (hx:a.eval x=PT b o) (hi:L[n]? =some (some b,T,cs)) (hy:a.eval y=v) (h1:v.oneCell'=true) (hs:szc P t=some 1) (hlt:o<cs.size) (hD:b∈D)
    (h:∀w',Hp S w0 w' (L.set n (some b,T,cs.setIfInBounds o v))→aN P ops.toArray Q r a w'):aN P ops.toArray Q (.s i (Chg D)::r) a w:=by
  refine AR hH ho hg fun w hH=>?_
  have hb:=hH.blk n hi
  have hc:v.cells= #[v]:=by cases v<;>simp_all [Value.cells,Value.oneCell']
  refine⟨w.setCell ⟨b,o,none⟩ v,?_,(Chg.refl D w).setCell (.inr hD) v,h _ (hH.store n hi o v)⟩
  have hst:(store (⟨b,o,none⟩:Addr) v).run P w= .ok () (w.setCell ⟨b,o,none⟩ v):=by
    rw[run_store P w _ v _ h1,hb.cell (Array.getElem?_eq_getElem hlt)]
    simp[hb.free hlt]
  simp[execOp,hx,hy,Instr.storeAt,Instr.sureAddr,storeVar,cn hs,hc,storeCells,Addr.add,hst]
theorem Hp.far {S:List Nat} {w0 w w':World} {L:List bU} (h:Hp S w0 w L) (i:Nat) {D:List Nat} {b:Nat} {t:TypeId} {cs:Array Value} (hi:L[i]? =some (some b,t,cs)) (hc:Chg D w w') (hD:b∉D):cD w' b t cs:=hc.blk (h.blk i hi) hD
theorem bO {D:TypeDesc} {b o n:Nat} {cs:Array Value} (vs:Array Value) (hx:a.eval x=PT b o) (hb:cD w b T cs) (hu:P.underlying t=some D) (hD:dO D=true) (hs:szc P t=some n) (hn:o+n≤cs.size) (he:cs.extract o (o+n)=vs):
    jn P ⟨d,.load t x,ty,pos,af,g⟩ a w (.agg vs):=by
  subst he;exact mF hx hb hu hD hs hn
end
theorem ext2 (vs:List Value) (o:Nat) (a b:Value) (h:(vs.drop o).take 2=[a,b]):vs.toArray.extract o (o+2)= #[a,b]:=by
  rw[List.extract_toArray,List.extract_eq_take_drop,Nat.add_sub_cancel_left,h]
end Go.Proofs.YtomjbepgbnbgmaaDoor
namespace Go.Proofs.YtomjbepgbnbgmaaDoor
open Go
def je (f g:Nat→UInt64):Nat→UInt64:=fun i=>if i<5 then f i else g (i - 5)
theorem l7 {m n o:Nat} {f:Nat→UInt64} (h:o+n≤m):(bf m f).extract o (o+n)=bf n fun j=>f (o+j):=by
  refine gM (by simp;omega) fun i hi=>?_;rw[Array.getElem?_extract,if_pos (by simp;omega),bg (by omega)]
theorem CE (f g:Nat→UInt64):(bf 10 (je f g)).extract 0 (0+5)=bf 5 f:=by
  rw[l7 (by decide)];exact fR fun i hi=>by unfold je;rw[Nat.zero_add,if_pos hi]
theorem CG (f g:Nat→UInt64):(bf 10 (je f g)).extract 5 (5+5)=bf 5 g:=by
  rw[l7 (by decide)];exact fR fun i hi=>by unfold je;rw[if_neg (by omega),Nat.add_sub_cancel_left]
theorem BC (f g h:Nat→UInt64):cR (bf 10 (je f g)) 0 (bf 5 h)=bf 10 (je h g):=by
  have hs:0+(bf 5 h).size≤(bf 10 (je f g)).size:=by simp
  refine gM (by rw[eS hs];simp) fun i hi=>?_;rw[dP hs];by_cases h5:i<5
  · rw[if_pos (by simp;omega),Nat.sub_zero,bg h5]
    simp only[je,if_pos h5]
  · rw[if_neg (by simp;omega),bg hi]
    simp only[je,if_neg h5]
theorem Bz (f g h:Nat→UInt64):cR (bf 10 (je f g)) 5 (bf 5 h)=bf 10 (je f h):=by
  have hs:5+(bf 5 h).size≤(bf 10 (je f g)).size:=by simp
  refine gM (by rw[eS hs];simp) fun i hi=>?_;rw[dP hs];by_cases h5:i<5
  · rw[if_neg (by simp;omega),bg hi]
    simp only[je,if_pos h5]
  · rw[if_pos (by simp;omega),bg (by omega)]
    simp only[je,if_neg h5]
theorem qz3:type_of% (And.intro @nf (And.intro @nh (And.intro @c_ (And.intro @BC (@Bz))))):=And.intro @nf (And.intro @nh (And.intro @c_ (And.intro @BC (@Bz))))
section
variable {P : Program} {a : Act} {w : World} {d : Option Tmp} {ty : TypeId} {pos : String} {af : Array Edge} {g : Option (Nat × Bool)} {x y : Operand} {t T : TypeId} {D : TypeDesc} {b : Nat} {f h : Nat → UInt64}
theorem fx (hx:a.eval x=PT b 0) (hb:cD w b T (bf 10 (je f h))) (hu:P.underlying t=some D) (hD:dO D=true) (hs:szc P t=some 5):jn P ⟨d,.load t x,ty,pos,af,g⟩ a w (.agg (bf 5 f)):=
  bO _ hx hb hu hD hs (by simp) (CE f h)
theorem fi (hx:a.eval x=PT b 5) (hb:cD w b T (bf 10 (je f h))) (hu:P.underlying t=some D) (hD:dO D=true) (hs:szc P t=some 5):jn P ⟨d,.load t x,ty,pos,af,g⟩ a w (.agg (bf 5 h)):=
  bO _ hx hb hu hD hs (by simp) (CG f h)
theorem uA {b:UInt64} (hx:a.eval x=db b):c7 P ⟨d,.unOp .xor t x,ty,pos,af,g⟩ a (db (~~~b)):=fun w=>by
  refine br (w:=w) ?_;rw[hx];have h:=cd (P:=P) (t:=t) (x:=x) (y:=x) 18446744073709551615 b w;rw[Sem.run_bind,g8]at h;rw[show~~~b=18446744073709551615^^^b from UInt64.toBitVec_inj.1 (by rw[UInt64.toBitVec_not,UInt64.toBitVec_xor,BitVec.not_def];rfl)];exact h
theorem uR {fn:FuncId} {args:List Operand} {ats:Array TypeId} {vs:List Value} {v:Value} (hr:∀w',(callFunc fn vs.toArray).run P w'= .ok (.value v) w') (hargs:args.map a.eval=vs):
    jn P ⟨d,.call ⟨.value (.func fn),args.toArray,ats⟩,ty,pos,af,g⟩ a w v:= .of_l fun w' _=>by
  unfold r5;simp only[execOp,resolve,List.map_toArray,hargs,Act.eval,Deferred.ofValue,invoke,Sem.run_bind,Sem.run_pure,Result.andThen_ok,Array.empty_append,Array.append_empty,hr]
theorem BP.retcc {fn:Func} {Post:Value→World→Prop} {tm:List Value} {p q:Tmp} {t2 T2:TypeId} {D2:TypeDesc} {b2 n n2:Nat} {cs cs2:Array Value} (hr:fn.results= #[.cell p t,.cell q t2]) (hp:tm.getD p undef=PT b 0) (hq:tm.getD q undef=PT b2 0) (hb:cD w b T cs) (hb2:cD w b2 T2 cs2)
    (hu:P.underlying t=some D) (hu2:P.underlying t2=some D2) (hD:dO D=true) (hD2:dO D2=true) (hs:szc P t=some n) (hs2:szc P t2=some n2) (hn:cs.size=n) (hn2:cs2.size=n2) (h:Post (.tuple #[.agg cs,.agg cs2]) w):BP P fn Post .ret ⟨tm.toArray,[]⟩ w:=by
  refine .of (v:= .tuple #[.agg cs,.agg cs2]) ?_ rfl h
  have hl := ie (P := P) (w := w) (b := b) (o := 0) (cs := cs) hu hD hs (fun j hj => by
    have hlt:0+j<cs.size:=by omega
    rw [hb.cell (Array.getElem?_eq_getElem hlt), Array.getElem?_eq_getElem hlt]) (by omega)
  rw[show cs.extract 0 (0+n)=cs by rw[Nat.zero_add,←hn];simp]at hl
  have hl2 := ie (P := P) (w := w) (b := b2) (o := 0) (cs := cs2) hu2 hD2 hs2 (fun j hj => by
    have hlt:0+j<cs2.size:=by omega
    rw [hb2.cell (Array.getElem?_eq_getElem hlt), Array.getElem?_eq_getElem hlt]) (by omega)
  rw[show cs2.extract 0 (0+n2)=cs2 by rw[Nat.zero_add,←hn2];simp]at hl2;have hp':tm[p]?.getD undef=PT b 0:=by rw[←hp,List.getD_eq_getElem?_getD]
  have hq':tm[q]?.getD undef=PT b2 0:=by rw[←hq,List.getD_eq_getElem?_getD]
  simp[results,hr,hp',hq',asAddr,hl,hl2]
end
end Go.Proofs.YtomjbepgbnbgmaaDoor
namespace Go.Proofs.YtomjbepgbnbgmaaDoor
open Go
open List (getD_cons_zero getD_cons_succ set_cons_zero set_cons_succ)
theorem cf59:aC Tryd.prog 59:=⟨Tryd.f59,Tryd.func59,by kernel_rfl,by kernel_rfl⟩
theorem cf85:aC Tryd.prog 85:=⟨Tryd.f85,Tryd.func85,by kernel_rfl,by kernel_rfl⟩
theorem qb:aC Tryd.prog 93:=⟨Tryd.f93,Tryd.func93,by kernel_rfl,by kernel_rfl⟩
theorem cf95:aC Tryd.prog 95:=⟨Tryd.f95,Tryd.func95,by kernel_rfl,by kernel_rfl⟩
theorem zc49:dt Tryd.prog 49=some #[.string ⟨#[]⟩,.string ⟨#[]⟩,BV false]:=by kernel_rfl
theorem qN:dt Tryd.prog 123=some #[db 0,db 0]:=by kernel_rfl
theorem yQ:∀w,(Instr.build 22 [].toArray).run Tryd.prog w= .ok (.agg (a9 32 fun _=>0)) w:=fun w=>by kernel_rfl
theorem CH (x:UInt8):∀w,(Instr.build 22 [(0,V8 x)].toArray).run Tryd.prog w= .ok (.agg (a9 32 fun i=>if i=0 then x else 0)) w:=fun w=>by kernel_rfl
theorem Cy (x:UInt64):∀w,(Instr.build 70 [(0,db x)].toArray).run Tryd.prog w= .ok (.agg (bf 5 fun i=>if i=0 then x else 0)) w:=fun w=>by kernel_rfl
theorem iF:dt Tryd.prog 72=some (bf 5 fun _=>0):=by kernel_rfl
theorem BW (f:Nat→UInt64):∀w,(Instr.build 72 [(0,.agg (bf 5 f))].toArray).run Tryd.prog w= .ok (.agg (bf 5 f)) w:=fun w=>by kernel_rfl
theorem fw:dt Tryd.prog 76=some (bf 10 (je (fun _=>0) fun _=>0)):=by kernel_rfl
theorem bB (f g:Nat→UInt64):∀w,(Instr.build 76 [(0,.agg (bf 5 f)),(1,.agg (bf 5 g))].toArray).run Tryd.prog w= .ok (.agg (bf 10 (je f g))) w:=fun w=>by kernel_rfl
theorem pS (x0_0:ByteArray) (x1_0:ByteArray) (x2_0:Bool):∀w,(Instr.build 49 [(0,.string x0_0),(1,.string x1_0),(2,BV x2_0)].toArray).run Tryd.prog w= .ok (.agg #[.string x0_0,.string x1_0,BV x2_0]) w:=fun w=>by kernel_rfl
theorem Cv (x0_0a:Option Addr) (x0_0n x0_0c:Nat):∀w,(Instr.build 66 [(0,.slice x0_0a x0_0n x0_0c)].toArray).run Tryd.prog w= .ok (.agg #[.slice x0_0a x0_0n x0_0c]) w:=fun w=>by kernel_rfl
theorem B7:∀w,(Instr.build 123 [].toArray).run Tryd.prog w= .ok (.agg #[db 0,db 0]) w:=fun w=>by kernel_rfl
theorem nB (x0_0:UInt64) (x1_0:UInt64):∀w,(Instr.build 123 [(0,db x0_0),(1,db x1_0)].toArray).run Tryd.prog w= .ok (.agg #[db x0_0,db x1_0]) w:=fun w=>by kernel_rfl
theorem ym (x0_0:Option Addr) (x1_0:UInt64) (x1_1:UInt64):∀w,(Instr.build 127 [(0,.pointer x0_0),(1,.agg #[db x1_0,db x1_1])].toArray).run Tryd.prog w= .ok (.agg #[.pointer x0_0,db x1_0,db x1_1]) w:=fun w=>by kernel_rfl
end Go.Proofs.YtomjbepgbnbgmaaDoor
namespace Go.Proofs.YtomjbepgbnbgmaaDoor
open Go
open List (getD_cons_zero getD_cons_succ set_cons_zero set_cons_succ)
def Dq:List UInt32:=[1116352408,1899447441,3049323471,3921009573,961987163,1508970993,2453635748,2870763221,3624381080,310598401,607225278,1426881987,1925078388,2162078206,2614888103,3248222580,3835390401,4022224774,264347078,604807628,770255983,1249150122,1555081692,1996064986,2554220882,2821834349,2952996808,3210313671,3336571891,3584528711,113926993,338241895,666307205,773529912,1294757372,1396182291,1695183700,1986661051,2177026350,2456956037,2730485921,2820302411,3259730800,3345764771,3516065817,3600352804,4094571909,275423344,430227734,506948616,659060556,883997877,958139571,1322822218,1537002063,1747873779,1955562222,2024104815,2227730452,2361852424,2428436474,2756734187,3204031479,3329325298]
def CZ:List UInt32:=[1779033703,3144134277,1013904242,2773480762,1359893119,2600822924,528734635,1541459225]
def A0 (i:Nat):UInt32:=Dq.getD i 0
def CO (i:Nat):UInt32:=CZ.getD i 0
def Aa (w:World) (g n:Nat) (f:Nat→UInt32):Prop:=∀i,i<n→w.cell? ⟨g,i,none⟩=some (gV (f i))
theorem Aa.chg {w w':World} {g n:Nat} {f:Nat→UInt32} (h:Aa w g n f) {S:List Nat} (hc:Chg S w w') (hn:g∉S):Aa w' g n f:=fun i hi=>hc.cell (h i hi) hn
theorem Aa.grow {w w':World} {g n:Nat} {f:Nat→UInt32} (h:Aa w g n f) (hc:Chg [] w w'):Aa w' g n f:=h.chg hc (by simp)
def b_ (w:World):Prop:=Aa w 0 8 CO∧Aa w 1 64 A0
theorem b_.grow {w w':World} (h:b_ w) (hc:Chg [] w w'):b_ w':=⟨h.1.grow hc,h.2.grow hc⟩
theorem b_.chg {w w':World} (h:b_ w) {S:List Nat} (hc:Chg S w w') (h0:0∉S) (h1:1∉S):b_ w':=⟨h.1.chg hc h0,h.2.chg hc h1⟩
section
variable {P : Program} {a : Act} {w : World} {d : Option Tmp} {ty : TypeId} {pos : String} {af : Array Edge} {g : Option (Nat × Bool)} {x : Operand} {t : TypeId}
theorem Aj {D:TypeDesc} {b n i:Nat} {f:Nat→UInt32} (h:Aa w b n f) (hx:a.eval x=PT b i) (hu:P.underlying t=some D) (hD:dO D=false) (hi:i<n):jn P ⟨d,.load t x,ty,pos,af,g⟩ a w (gV (f i)):=ah hx hu hD (h i hi)
theorem AP {D:TypeDesc} {b n:Nat} {f:Nat→UInt32} (h:Aa w b n f) (hx:a.eval x=PT b 0) (hu:P.underlying t=some D) (hD:dO D=true) (hs:szc P t=some n):jn P ⟨d,.load t x,ty,pos,af,g⟩ a w (.agg (dD n f)):= .of_l fun w' hw=>by
  refine br (w:=w') ?_;have hl:=ie (P:=P) (w:=w') (b:=b) (o:=0) (cs:=dD n f) hu hD hs (fun j hj=>by rw[Nat.zero_add,(h.grow hw) j hj,cz hj]) (by simp);simp only[hx,Instr.loadAt,Instr.sureAddr,Sem.run_bind,Sem.run_pure,Result.andThen_ok];rw[hl,Nat.zero_add,show(dD n f).extract 0 n=dD n f by rw[←uq n f];simp]
end
def Bf (k:Int):UInt64:=UInt64.ofNat (k%18446744073709551616).toNat&&&31
def mt (x:UInt32) (k:Int):UInt32:=(if(Bf k).toNat<32 then x<<<UInt32.ofNat (Bf k).toNat else 0)|||(if(32 - Bf k).toNat<32 then x>>>UInt32.ofNat (32 - Bf k).toNat else 0)
def rb (p:Nat→UInt8) (i:Nat):UInt32:=(p (4*i)).toUInt32<<<24|||(p (4*i+1)).toUInt32<<<16|||(p (4*i+2)).toUInt32<<<8|||(p (4*i+3)).toUInt32
def eG (p:Nat→UInt8) (n:Nat):UInt32:=
  if n<16 then rb p n
  else eG p (n - 16)+(mt (eG p (n - 15)) (-7)^^^mt (eG p (n - 15)) (-18)^^^eG p (n - 15)>>>3)+eG p (n - 7)+(mt (eG p (n - 2)) (-17)^^^mt (eG p (n - 2)) (-19)^^^eG p (n - 2)>>>10)
termination_by n
decreasing_by all_goals omega
theorem rT (p:Nat→UInt8) {n:Nat} (h:n<16):eG p n=rb p n:=by rw[eG,if_pos h]
theorem rX (p:Nat→UInt8) {n:Nat} (h:¬n<16):eG p n=eG p (n - 16)+(mt (eG p (n - 15)) (-7)^^^mt (eG p (n - 15)) (-18)^^^eG p (n - 15)>>>3)+eG p (n - 7)+(mt (eG p (n - 2)) (-17)^^^mt (eG p (n - 2)) (-19)^^^eG p (n - 2)>>>10):=by
  rw[eG,if_neg h]
def shaT (s:Nat→UInt32) (k x:UInt32):UInt32:=s 7+(mt (s 4) (-6)^^^mt (s 4) (-11)^^^mt (s 4) (-25))+(s 6^^^s 4&&&(s 5^^^s 6))+k+x
def shaU (s:Nat→UInt32):UInt32:=mt (s 0) (-2)^^^mt (s 0) (-13)^^^mt (s 0) (-22)
def shaM (s:Nat→UInt32):UInt32:=s 0&&&s 1|||s 2&&&(s 0|||s 1)
def j1 (r w:Nat→UInt32):Nat→Nat→UInt32
  |0=>r
  |n+1=>fun j=>if j=0 then shaT (j1 r w n) (A0 n) (w n)+(shaU (j1 r w n)+shaM (j1 r w n))else if j=4 then j1 r w n 3+shaT (j1 r w n) (A0 n) (w n)else j1 r w n (j - 1)
def q9 (r:Nat→UInt32) (p:Nat→UInt8) (j:Nat):UInt32:=r j+j1 r (eG p) 64 j
theorem eJ (x:UInt32) (k:Int) (w:World):aZ Tryd.prog 93 #[gV x,bb k] w fun v w'=>v=gV (mt x k)∧Chg [] w w':=by
 refine aZ.enter Tryd.func93 rfl ?_;simp only[Tryd.ntmps93,fe,Nat.reduceAdd,Nat.reduceSub];have hH:=Hp.start [] w;refine wp_seq_k fun K1 hK1=>ak [.p 0] ?_;refine pa ?_;simp only[nf];refine aa hH fun w2 hH=>hK1 _ _ (wp_seq_k fun K3 hK3=>ak [.p 0,.p 1,.p 2,.p 3] ?_);refine pm ?_;simp only[nf];refine pp rfl rfl (bw rfl (by exact q7 Tryd.underlying3 Tryd.underlying54)) ?_;simp only[nf];refine pp rfl rfl (ac rfl rfl (bJ _ 31)) ?_;simp only[nf];refine pa ?_;simp only[nf];refine aa hH fun w4 hH=>hK3 _ _ (wp_seq_k fun K5 hK5=>ak [.p 0,.p 1,.p 2,.p 3,.p 4,.p 5,.p 6,.p 7,.p 8] ?_);refine pm (pm ?_);simp only[nf];refine pp rfl rfl (ac rfl rfl (n4 _ _ _)) ?_;simp only[nf];refine pm (pm ?_);simp only[nf];refine pp rfl rfl (ac rfl rfl (gG 32 _)) ?_;simp only[nf];refine pp rfl rfl (ac rfl rfl (li _ _ _)) ?_;simp only[nf];refine pp rfl rfl (ac rfl rfl (ez _ _)) ?_;simp only[nf];refine pa ?_;simp only[nf];refine aa hH fun w6 hH=>hK5 _ _ (wp_ret ?_);refine BP.ret1 rfl rfl ?_;exact⟨rfl,hH.chg⟩
theorem Du (f:Nat→UInt32) (q:Nat) (h:q<8):[f 0,f 1,f 2,f 3,f 4,f 5,f 6,f 7].getD q 0=f q:=by
  have:q=0∨q=1∨q=2∨q=3∨q=4∨q=5∨q=6∨q=7:=by omega
  rcases this with rfl|rfl|rfl|rfl|rfl|rfl|rfl|rfl<;>rfl
theorem ng (r:Nat→UInt32) (v:Value) (l:List UInt8) (w:World) (hT:b_ w) (hv:Sl w v l) (h64:64≤l.length):aZ Tryd.prog 84 #[.agg (dD 8 r),v] w fun v' w'=>v'= .agg (dD 8 (q9 r (fun i=>l.getD i 0)))∧Chg [] w w':=by
 refine aZ.enter Tryd.func84 rfl ?_;simp only[Tryd.ntmps84,fe,Nat.reduceAdd,Nat.reduceSub];have hH:=Hp.start [] w;refine wp_seq_k fun K1 hK1=>ak [.x 0,.x 1] ?_;refine aX rfl rfl hH rfl ?_;clear hH;intro b2 w3 hH;simp only[qz0,Value.cells]at hH⊢;refine au rfl rfl hH Bu ?_;clear hH;intro b4 w5 hH;simp only[qz0,Value.cells]at hH⊢;refine aa hH fun w6 hH=>hK1 _ _ (wp_seq_k fun K7 hK7=>ak [.x 0] ?_);refine au rfl rfl hH Dy ?_;clear hH;intro b8 w9 hH;simp only[qz0,Value.cells]at hH⊢;refine aa hH fun w10 hH=>hK7 _ _ (wp_seq_k fun K11 hK11=>wp_seq_k fun K12 hK12=>ak [.p 0] ?_);refine pk 0 ?_;simp only[nf];refine aa hH fun w13 hH=>hK12 _ _ (wp_block ?_);obtain⟨kc14,hkc15,hN⟩:=hH.name 1 rfl;replace hH:=hN;clear hN;simp only[List.set_cons_zero,List.set_cons_succ]at hH;refine bd [23] [6,7,8,24,25,26,27,28,29,30,31,32,33,34,35,36,37,38,39,40,41,42,43,44,45,46,47,48,49,50,51,52,53,54,55,56,57,58,59,60,61,62,63,64,65,66,67,68,69,70,71,72,73,74,75,76,77,78,79,80,81,82,83,84,85,86,87,88,89,90,91,92,93,94,95,96,97,98,99,100,101,102] (fun(n16:Nat) (vs:List Value) (w':World)=>∃(i:Nat),vs=[bb (i:Nat)]∧Hp [] w w' [(some b2,133,dD 8 r),(some b4,133,kc14),(some b8,150,dD 64 fun j=>if j<i then eG (fun i=>l.getD i 0) j else 0)]∧n16=64 - i∧i≤64) (64 - 0) (by kernel_rfl) ?_ ?_
 ·simp only[ga];refine⟨0,rfl,?_,rfl,?_⟩
  ·exact hH.say 2 rfl (fh fun j hj=>by rw[if_neg (by omega)])
  · omega
 clear hH;intro n16 vs17 w18 hR19 d0;obtain⟨i,rfl,hH,hn20,hf21⟩:=hR19;simp only[bG,c6,List.set_cons_zero,List.set_cons_succ,Nat.zero_add,Nat.reduceAdd];subst hkc15;refine wp_seq_k fun K22 hK22=>ak [.p 0] ?_;refine pp rfl rfl (ac rfl rfl (by exact aJ (n:=64))) ?_;simp only[nf];refine aa hH fun w23 hH=>hK22 _ _ (wp_seq_k fun K24 hK24=>wp_cond_split rfl (fun hc25=>?_) (fun hc25=>?_))
 ·simp only[dm]at hc25;refine wp_skip (hK24 _ _ (wp_seq_k fun K26 hK26=>wp_block (wp_seq_k fun K27 hK27=>ak [.p 0,.p 1] ?_)));refine pm (pa ?_);simp only[nf];refine aa hH fun w28 hH=>hK27 _ _ (wp_seq_k fun K29 hK29=>wp_seq_k fun K30 hK30=>ak [.p 0,.p 1] ?_);refine pm ?_;simp only[nf];refine pp rfl rfl (ac rfl rfl (by exact aJ (n:=16))) ?_;simp only[nf];refine aa hH fun w31 hH=>hK30 _ _ (wp_cond_split rfl (fun hc32=>?_) (fun hc32=>?_))
  ·simp only[dm]at hc32;refine wp_seq_k fun K33 hK33=>en [.p 0,.p 1,.p 2,.p 3,.p 4,.p 8,.p 9,.p 10,.p 11,.p 12,.p 17,.p 18,.p 19,.p 20,.p 21,.p 26,.p 27,.p 28,.p 29,.p 30,.q 5,.p 6,.p 7,.q 13,.p 14,.p 15,.p 16,.q 22,.p 23,.p 24,.p 25,.q 31,.p 32,.p 33,.p 34,.e 35] ?_;refine pm (pm (pm ?_));simp only[nf];refine pp rfl rfl (ac rfl rfl (by exact dV (m:=4) (by omega))) ?_;simp only[nf];refine pp rfl rfl (bR (hv.chg hH.chg) rfl rfl Tryd.underlying31 bL (by omega)) ?_;simp only[nf];refine pm (pm ?_);simp only[nf];refine pp rfl rfl (ac rfl rfl (by exact dV (m:=4) (by omega))) ?_;simp only[nf];refine pp rfl rfl (ac rfl rfl (by exact aE (n:=1) (by omega))) ?_;simp only[nf];refine pp rfl rfl (bR (hv.chg hH.chg) rfl rfl Tryd.underlying31 bL (by omega)) ?_;simp only[nf];refine pm (pm ?_);simp only[nf];refine pp rfl rfl (ac rfl rfl (by exact dV (m:=4) (by omega))) ?_;simp only[nf];refine pp rfl rfl (ac rfl rfl (by exact aE (n:=2) (by omega))) ?_;simp only[nf];refine pp rfl rfl (bR (hv.chg hH.chg) rfl rfl Tryd.underlying31 bL (by omega)) ?_;simp only[nf];refine pm (pm ?_);simp only[nf];refine pp rfl rfl (ac rfl rfl (by exact dV (m:=4) (by omega))) ?_;simp only[nf];refine pp rfl rfl (ac rfl rfl (by exact aE (n:=3) (by omega))) ?_;simp only[nf];refine pp rfl rfl (bR (hv.chg hH.chg) rfl rfl Tryd.underlying31 bL (by omega)) ?_;simp only[nf];refine pq rfl rfl (ah rfl Tryd.underlying5 rfl (Sl.cell (hv.chg hH.chg) (by omega))) ?_;simp only[nf];refine pp rfl rfl (bw rfl (eV _ Tryd.underlying5 Tryd.underlying132)) ?_;simp only[nf];refine pp rfl rfl (ac rfl rfl (fu 24 24 (by decide) rfl _)) ?_;simp only[nf];refine pq rfl rfl (ah rfl Tryd.underlying5 rfl (Sl.cell (hv.chg hH.chg) (by omega))) ?_;simp only[nf];refine pp rfl rfl (bw rfl (eV _ Tryd.underlying5 Tryd.underlying132)) ?_;simp only[nf];refine pp rfl rfl (ac rfl rfl (fu 16 16 (by decide) rfl _)) ?_;simp only[nf];refine pp rfl rfl (ac rfl rfl (ez _ _)) ?_;simp only[nf];refine pq rfl rfl (ah rfl Tryd.underlying5 rfl (Sl.cell (hv.chg hH.chg) (by omega))) ?_;simp only[nf];refine pp rfl rfl (bw rfl (eV _ Tryd.underlying5 Tryd.underlying132)) ?_;simp only[nf];refine pp rfl rfl (ac rfl rfl (fu 8 8 (by decide) rfl _)) ?_;simp only[nf];refine pp rfl rfl (ac rfl rfl (ez _ _)) ?_;simp only[nf];refine pq rfl rfl (ah rfl Tryd.underlying5 rfl (Sl.cell (hv.chg hH.chg) (by omega))) ?_;simp only[nf];refine pp rfl rfl (bw rfl (eV _ Tryd.underlying5 Tryd.underlying132)) ?_;simp only[nf];refine pp rfl rfl (ac rfl rfl (ez _ _)) ?_;simp only[nf];refine pp rfl rfl (aq rfl rfl Tryd.underlying150 eN (by omega)) ?_;simp only[nf];refine am 2 rfl rfl hH rfl rfl rfl rfl eN (by simp<;>omega) ?_;clear hH;intro w34 hH;simp only[qz0,Value.cells]at hH⊢;refine aa hH fun w35 hH=>hK33 _ _ (wp_exit ?_);simp only[Exit.then,Exit.inBlock,↓reduceIte,Nat.reduceEqDiff];refine hK26 _ _ (ak [.p 0,.p 1] ?_);refine pp rfl rfl (ac rfl rfl (by exact aE (n:=1) (by omega))) ?_;simp only[nf];refine pm ?_;simp only[nf];refine aa hH fun w36 hH=>?_;simp only[Exit.then,Exit.inBlock,↓reduceIte,Nat.reduceEqDiff];refine⟨64 - (i+1),?_,_,rfl,by kernel_rfl,?_⟩
   · omega
   simp only[ga];refine⟨i+1,rfl,?_,rfl,?_⟩
   ·exact hH.say 2 rfl (fh fun j hj=>nM (g:=eG (fun i=>l.getD i 0)) (z:=fun _=>0) (by rw[rT _ (by assumption)];rfl) j)
   · omega
  ·simp only[dm]at hc32;refine wp_skip (hK29 _ _ (wp_seq_k fun K37 hK37=>en [.p 0,.p 1,.p 2,.p 4,.p 5,.p 6,.q 3,.p 8,.q 7,.p 9] ?_));refine pm ?_;simp only[nf];refine pp rfl rfl (ac rfl rfl (by exact cj (n:=15) (by omega) (by omega))) ?_;simp only[nf];refine pp rfl rfl (aq rfl rfl Tryd.underlying150 eN (by omega)) ?_;simp only[nf];refine pm ?_;simp only[nf];refine pp rfl rfl (ac rfl rfl (by exact cj (n:=2) (by omega) (by omega))) ?_;simp only[nf];refine pp rfl rfl (aq rfl rfl Tryd.underlying150 eN (by omega)) ?_;simp only[nf];refine pq rfl rfl (ah rfl Tryd.underlying132 rfl ((hH.blk 2 rfl).cell (cz (by omega)))) ?_;simp only[nf];refine pa ?_;simp only[nf];refine pq rfl rfl (ah rfl Tryd.underlying132 rfl ((hH.blk 2 rfl).cell (cz (by omega)))) ?_;simp only[nf];refine pa ?_;simp only[nf];refine aa hH fun w38 hH=>hK37 _ _ (wp_seq_k fun K39 hK39=>ak [.p 0,.q 1,.p 2,.q 3,.p 4,.p 5,.p 6,.p 7,.p 8] ?_);refine pm ?_;simp only[nf];refine pq rfl rfl (aj qb (fun w' hw=>eJ _ _ w') rfl) ?_;simp only[nf];refine pm ?_;simp only[nf];refine pq rfl rfl (aj qb (fun w' hw=>eJ _ _ w') rfl) ?_;simp only[nf];refine pp rfl rfl (ac rfl rfl (dJ _ _)) ?_;simp only[nf];refine pm ?_;simp only[nf];refine pp rfl rfl (ac rfl rfl (f_ 3 3 (by decide) rfl _)) ?_;simp only[nf];refine pp rfl rfl (ac rfl rfl (dJ _ _)) ?_;simp only[nf];refine pa ?_;simp only[nf];refine aa hH fun w40 hH=>hK39 _ _ (wp_seq_k fun K41 hK41=>ak [.p 0,.q 1,.p 2,.q 3,.p 4,.p 5,.p 6,.p 7,.p 8] ?_);refine pm ?_;simp only[nf];refine pq rfl rfl (aj qb (fun w' hw=>eJ _ _ w') rfl) ?_;simp only[nf];refine pm ?_;simp only[nf];refine pq rfl rfl (aj qb (fun w' hw=>eJ _ _ w') rfl) ?_;simp only[nf];refine pp rfl rfl (ac rfl rfl (dJ _ _)) ?_;simp only[nf];refine pm ?_;simp only[nf];refine pp rfl rfl (ac rfl rfl (f_ 10 10 (by decide) rfl _)) ?_;simp only[nf];refine pp rfl rfl (ac rfl rfl (dJ _ _)) ?_;simp only[nf];refine pa ?_;simp only[nf];refine aa hH fun w42 hH=>hK41 _ _ (en [.p 0,.p 1,.p 2,.p 3,.p 5,.p 7,.p 8,.p 9,.p 12,.q 4,.p 6,.q 10,.p 11,.p 13,.p 14,.e 15] ?_);refine pm (pm ?_);simp only[nf];refine pp rfl rfl (ac rfl rfl (by exact cj (n:=16) (by omega) (by omega))) ?_;simp only[nf];refine pp rfl rfl (aq rfl rfl Tryd.underlying150 eN (by omega)) ?_;simp only[nf];refine pm (pm ?_);simp only[nf];refine pp rfl rfl (ac rfl rfl (by exact cj (n:=7) (by omega) (by omega))) ?_;simp only[nf];refine pp rfl rfl (aq rfl rfl Tryd.underlying150 eN (by omega)) ?_;simp only[nf];refine pm ?_;simp only[nf];refine pq rfl rfl (ah rfl Tryd.underlying132 rfl ((hH.blk 2 rfl).cell (cz (by omega)))) ?_;simp only[nf];refine pp rfl rfl (ac rfl rfl (cU _ _)) ?_;simp only[nf];refine pq rfl rfl (ah rfl Tryd.underlying132 rfl ((hH.blk 2 rfl).cell (cz (by omega)))) ?_;simp only[nf];refine pp rfl rfl (ac rfl rfl (cU _ _)) ?_;simp only[nf];refine pp rfl rfl (ac rfl rfl (cU _ _)) ?_;simp only[nf];refine pp rfl rfl (aq rfl rfl Tryd.underlying150 eN (by omega)) ?_;simp only[nf];refine am 2 rfl rfl hH rfl rfl rfl rfl eN (by simp<;>omega) ?_;clear hH;intro w43 hH;simp only[qz0,Value.cells]at hH⊢;refine aa hH fun w44 hH=>hK26 _ _ (ak [.p 0,.p 1] ?_);refine pp rfl rfl (ac rfl rfl (by exact aE (n:=1) (by omega))) ?_;simp only[nf];refine pm ?_;simp only[nf];refine aa hH fun w45 hH=>?_;simp only[Exit.then,Exit.inBlock,↓reduceIte,Nat.reduceEqDiff];refine⟨64 - (i+1),?_,_,rfl,by kernel_rfl,?_⟩
   · omega
   simp only[ga];refine⟨i+1,rfl,?_,rfl,?_⟩
   ·exact hH.say 2 rfl (fh fun j hj => nM (g := eG (fun i => l.getD i 0)) (z := fun _ => 0) (by
      simp only [show i - 16 < i by omega, show i - 15 < i by omega, show i - 7 < i by omega, show i - 2 < i by omega, if_true];exact (rX _ (by omega)).symm) j)
   · omega
 ·simp only[dm]at hc25;obtain rfl:i=64:=by omega
  replace hH:=hH.say 2 rfl (fh (g:=eG (fun i=>l.getD i 0)) fun j hj=>if_pos hj);simp only[set_cons_zero,set_cons_succ]at hH;refine wp_exit ?_;simp only[Exit.then,Exit.inBlock,↓reduceIte,Nat.reduceEqDiff];refine hK11 _ _ (wp_seq_k fun K46 hK46=>en [.p 0,.p 2,.p 4,.p 6,.p 8,.p 10,.p 12,.p 14,.q 1,.p 16,.q 3,.p 17,.q 5,.p 18,.q 7,.p 19,.q 9,.p 20,.q 11,.p 21,.q 13,.p 22,.q 15,.p 23] ?_);refine pp rfl rfl (aq (i:=0) rfl rfl Tryd.underlying133 eN (by omega)) ?_;simp only[nf];refine pp rfl rfl (aq (i:=1) rfl rfl Tryd.underlying133 eN (by omega)) ?_;simp only[nf];refine pp rfl rfl (aq (i:=2) rfl rfl Tryd.underlying133 eN (by omega)) ?_;simp only[nf];refine pp rfl rfl (aq (i:=3) rfl rfl Tryd.underlying133 eN (by omega)) ?_;simp only[nf];refine pp rfl rfl (aq (i:=4) rfl rfl Tryd.underlying133 eN (by omega)) ?_;simp only[nf];refine pp rfl rfl (aq (i:=5) rfl rfl Tryd.underlying133 eN (by omega)) ?_;simp only[nf];refine pp rfl rfl (aq (i:=6) rfl rfl Tryd.underlying133 eN (by omega)) ?_;simp only[nf];refine pp rfl rfl (aq (i:=7) rfl rfl Tryd.underlying133 eN (by omega)) ?_;simp only[nf];refine pq rfl rfl (ah rfl Tryd.underlying132 rfl ((hH.blk 0 rfl).cell (cz (by omega)))) ?_;simp only[nf];refine pa ?_;simp only[nf];refine pq rfl rfl (ah rfl Tryd.underlying132 rfl ((hH.blk 0 rfl).cell (cz (by omega)))) ?_;simp only[nf];refine pa ?_;simp only[nf];refine pq rfl rfl (ah rfl Tryd.underlying132 rfl ((hH.blk 0 rfl).cell (cz (by omega)))) ?_;simp only[nf];refine pa ?_;simp only[nf];refine pq rfl rfl (ah rfl Tryd.underlying132 rfl ((hH.blk 0 rfl).cell (cz (by omega)))) ?_;simp only[nf];refine pa ?_;simp only[nf];refine pq rfl rfl (ah rfl Tryd.underlying132 rfl ((hH.blk 0 rfl).cell (cz (by omega)))) ?_;simp only[nf];refine pa ?_;simp only[nf];refine pq rfl rfl (ah rfl Tryd.underlying132 rfl ((hH.blk 0 rfl).cell (cz (by omega)))) ?_;simp only[nf];refine pa ?_;simp only[nf];refine pq rfl rfl (ah rfl Tryd.underlying132 rfl ((hH.blk 0 rfl).cell (cz (by omega)))) ?_;simp only[nf];refine pa ?_;simp only[nf];refine pq rfl rfl (ah rfl Tryd.underlying132 rfl ((hH.blk 0 rfl).cell (cz (by omega)))) ?_;simp only[nf];refine pa ?_;simp only[nf];refine aa hH fun w47 hH=>hK46 _ _ (wp_seq_k fun K48 hK48=>wp_seq_k fun K49 hK49=>ak [.q 0,.p 1] ?_);refine pq rfl rfl (aA rfl (hH.blk 2 rfl) Tryd.underlying150 rfl Dj (by simp)) ?_;simp only[nf];refine pk 0 ?_;simp only[nf];refine aa hH fun w50 hH=>hK49 _ _ (wp_block ?_);obtain⟨kc51,hkc52,hN⟩:=hH.name 1 rfl;replace hH:=hN;clear hN;simp only[List.set_cons_zero,List.set_cons_succ]at hH;refine bd [9,10,11,12,13,14,15,16,120] [17,18,19,20,121,122,123,124,125,126,127,128,129,130,131,132,133,134,135,136,137,138,139,140,141,142,143,144,145,146,147,148,149,150,151,152,153,154,155,156,157,158,159,160,161,162,163,164,165,166,167,168,169,170,171,172,173,174,175,176,177,178] (fun(n53:Nat) (vs:List Value) (w':World)=>∃(n:Nat),vs=[gV (j1 r (eG (fun i=>l.getD i 0)) n 0),gV (j1 r (eG (fun i=>l.getD i 0)) n 1),gV (j1 r (eG (fun i=>l.getD i 0)) n 2),gV (j1 r (eG (fun i=>l.getD i 0)) n 3),gV (j1 r (eG (fun i=>l.getD i 0)) n 4),gV (j1 r (eG (fun i=>l.getD i 0)) n 5),gV (j1 r (eG (fun i=>l.getD i 0)) n 6),gV (j1 r (eG (fun i=>l.getD i 0)) n 7),bb (n:Nat)]∧Hp [] w w' [(some b2,133,dD 8 r),(some b4,133,kc51),(some b8,150,dD 64 (eG (fun i=>l.getD i 0)))]∧n53=64 - n∧n≤64) (64 - 0) (by kernel_rfl) ?_ ?_
  ·simp only[ga];refine⟨0,rfl,?_,rfl,?_⟩
   ·exact hH
   · omega
  clear hH;intro n53 vs54 w55 hR56 d1;obtain⟨n,rfl,hH,hn57,hf58⟩:=hR56;simp only[bG,c6,List.set_cons_zero,List.set_cons_succ,Nat.zero_add,Nat.reduceAdd];subst hkc52;refine wp_seq_k fun K59 hK59=>ak [.p 0] ?_;refine pp rfl rfl (ac rfl rfl (by exact aJ (n:=64))) ?_;simp only[nf];refine aa hH fun w60 hH=>hK59 _ _ (wp_seq_k fun K61 hK61=>wp_cond_split rfl (fun hc62=>?_) (fun hc62=>?_))
  ·simp only[dm]at hc62;refine wp_skip (hK61 _ _ (wp_seq_k fun K63 hK63=>wp_block (wp_seq_k fun K64 hK64=>ak [.p 0,.p 1,.p 2,.p 3] ?_)));refine pm ?_;simp only[nf];refine pp rfl rfl (eC rfl rfl Tryd.underlying150 eN (mh Tryd.underlying132 rfl) (by omega) (cz (by omega))) ?_;simp only[nf];refine pa (pa ?_);simp only[nf];refine aa hH fun w65 hH=>hK64 _ _ (wp_seq_k fun K66 hK66=>en [.p 0,.p 1,.p 3,.p 6,.p 10,.p 11,.p 12,.p 13,.p 14,.p 15,.p 16,.p 18,.p 19,.p 22,.q 2,.q 4,.p 5,.q 7,.p 8,.p 9,.p 17,.q 20,.p 21,.p 23,.p 24] ?_);refine pm (pm (pm (pm (pm (pm ?_)))));simp only[nf];refine pm (pm ?_);simp only[nf];refine pp rfl rfl (ac rfl rfl (dJ _ _)) ?_;simp only[nf];refine pp rfl rfl (ac rfl rfl (kS _ _)) ?_;simp only[nf];refine pp rfl rfl (ac rfl rfl (dJ _ _)) ?_;simp only[nf];refine pm ?_;simp only[nf];refine pp rfl rfl (aq rfl rfl Tryd.underlying150 eN (by omega)) ?_;simp only[nf];refine pm ?_;simp only[nf];refine pq rfl rfl (aj qb (fun w' hw=>eJ _ _ w') rfl) ?_;simp only[nf];refine pq rfl rfl (aj qb (fun w' hw=>eJ _ _ w') rfl) ?_;simp only[nf];refine pp rfl rfl (ac rfl rfl (dJ _ _)) ?_;simp only[nf];refine pq rfl rfl (aj qb (fun w' hw=>eJ _ _ w') rfl) ?_;simp only[nf];refine pp rfl rfl (ac rfl rfl (dJ _ _)) ?_;simp only[nf];refine pp rfl rfl (ac rfl rfl (cU _ _)) ?_;simp only[nf];refine pp rfl rfl (ac rfl rfl (cU _ _)) ?_;simp only[nf];refine pq rfl rfl (Aj (hT.grow hH.chg).2 rfl Tryd.underlying132 rfl (by omega)) ?_;simp only[nf];refine pp rfl rfl (ac rfl rfl (cU _ _)) ?_;simp only[nf];refine pp rfl rfl (ac rfl rfl (cU _ _)) ?_;simp only[nf];refine pa ?_;simp only[nf];refine aa hH fun w67 hH=>hK66 _ _ (wp_seq_k fun K68 hK68=>ak [.p 0,.q 1,.p 2,.q 3,.p 4,.p 5,.q 6,.p 7,.p 8,.p 9,.p 10,.p 11,.p 12,.p 13,.p 14,.p 15,.p 16,.p 17,.p 18] ?_);refine pm ?_;simp only[nf];refine pq rfl rfl (aj qb (fun w' hw=>eJ _ _ w') rfl) ?_;simp only[nf];refine pm ?_;simp only[nf];refine pq rfl rfl (aj qb (fun w' hw=>eJ _ _ w') rfl) ?_;simp only[nf];refine pp rfl rfl (ac rfl rfl (dJ _ _)) ?_;simp only[nf];refine pm ?_;simp only[nf];refine pq rfl rfl (aj qb (fun w' hw=>eJ _ _ w') rfl) ?_;simp only[nf];refine pp rfl rfl (ac rfl rfl (dJ _ _)) ?_;simp only[nf];refine pm (pm ?_);simp only[nf];refine pp rfl rfl (ac rfl rfl (kS _ _)) ?_;simp only[nf];refine pm (pm (pm ?_));simp only[nf];refine pp rfl rfl (ac rfl rfl (ez _ _)) ?_;simp only[nf];refine pp rfl rfl (ac rfl rfl (kS _ _)) ?_;simp only[nf];refine pp rfl rfl (ac rfl rfl (ez _ _)) ?_;simp only[nf];refine pp rfl rfl (ac rfl rfl (cU _ _)) ?_;simp only[nf];refine pa ?_;simp only[nf];refine aa hH fun w69 hH=>hK68 _ _ (ak [.p 0,.p 1,.p 2,.p 3,.p 4,.p 5,.p 6,.p 7,.p 8,.p 9,.p 10,.p 11,.p 12,.p 13,.p 14,.p 15,.p 16,.p 17,.p 18,.p 19] ?_);refine pm (pm ?_);simp only[nf];refine pp rfl rfl (ac rfl rfl (cU _ _)) ?_;simp only[nf];refine pm (pm (pm (pm (pm ?_))));simp only[nf];refine pp rfl rfl (ac rfl rfl (cU _ _)) ?_;simp only[nf];refine pm (pm (pm (pa (pa (pa ?_)))));simp only[nf];refine pa (pa (pa (pa (pa ?_))));simp only[nf];refine aa hH fun w70 hH=>hK63 _ _ (ak [.p 0,.p 1] ?_);refine pp rfl rfl (ac rfl rfl (by exact aE (n:=1) (by omega))) ?_;simp only[nf];refine pm ?_;simp only[nf];refine aa hH fun w71 hH=>?_;simp only[Exit.then,Exit.inBlock,↓reduceIte,Nat.reduceEqDiff];refine⟨64 - (n+1),?_,_,rfl,by kernel_rfl,?_⟩
   · omega
   simp only[ga];refine⟨n+1,rfl,?_,rfl,?_⟩
   ·exact hH
   · omega
  ·simp only[dm]at hc62;obtain rfl:n=64:=by omega
   refine wp_exit ?_;simp only[Exit.then,Exit.inBlock,↓reduceIte,Nat.reduceEqDiff];refine hK48 _ _ (wp_seq_k fun K72 hK72=>wp_seq_k fun K73 hK73=>ak [.p 0,.p 1,.p 2,.p 3,.p 4,.p 5,.p 6,.p 7,.p 8,.p 9] ?_);refine pm (pm (pm (pm (pm (pm ?_)))));simp only[nf];refine pm (pm ?_);simp only[nf];refine pp rfl rfl (aT (by rfl) (Dm _ _ _ _ _ _ _ _)) ?_;simp only[nf];refine pk 0 ?_;simp only[nf];refine aa hH fun w74 hH=>hK73 _ _ (wp_block ?_);obtain⟨kc75,hkc76,hN⟩:=hH.name 1 rfl;replace hH:=hN;clear hN;simp only[List.set_cons_zero,List.set_cons_succ]at hH;refine bd [188] [21,22,189,190,191,192,193,194,195,196,197,198] (fun(n77:Nat) (vs:List Value) (w':World)=>∃(q:Nat),vs=[bb (q:Nat)]∧Hp [] w w' [(some b2,133,dD 8 fun j=>if j<q then q9 r (fun i=>l.getD i 0) j else r j),(some b4,133,kc75),(some b8,150,dD 64 (eG (fun i=>l.getD i 0)))]∧n77=8 - q∧q≤8) (8 - 0) (by kernel_rfl) ?_ ?_
   ·simp only[ga];refine⟨0,rfl,?_,rfl,?_⟩
    ·exact hH.say 0 rfl (fh fun j hj=>by rw[if_neg (by omega)])
    · omega
   clear hH;intro n77 vs78 w79 hR80 d2;obtain⟨q,rfl,hH,hn81,hf82⟩:=hR80;simp only[bG,c6,List.set_cons_zero,List.set_cons_succ,Nat.zero_add,Nat.reduceAdd];subst hkc76;refine wp_seq_k fun K83 hK83=>ak [.p 0] ?_;refine pp rfl rfl (ac rfl rfl (by exact aJ (n:=8))) ?_;simp only[nf];refine aa hH fun w84 hH=>hK83 _ _ (wp_seq_k fun K85 hK85=>wp_cond_split rfl (fun hc86=>?_) (fun hc86=>?_))
   ·simp only[dm]at hc86;refine wp_skip (hK85 _ _ (wp_seq_k fun K87 hK87=>wp_block (wp_seq_k fun K88 hK88=>ak [.p 0,.p 1,.p 2,.p 3] ?_)));refine pm ?_;simp only[nf];refine pp rfl rfl (eC rfl rfl Tryd.underlying133 eN (mh Tryd.underlying132 rfl) (by omega) (cz (by omega))) ?_;simp only[nf];refine pa (pa ?_);simp only[nf];refine aa hH fun w89 hH=>hK88 _ _ (ak [.p 0,.p 1,.q 2,.p 3,.p 4,.p 5,.e 6] ?_);refine pm ?_;simp only[nf];refine pp rfl rfl (aq rfl rfl Tryd.underlying133 eN (by omega)) ?_;simp only[nf];refine pq rfl rfl (ah rfl Tryd.underlying132 rfl ((hH.blk 0 rfl).cell (cz (by omega)))) ?_;simp only[nf];refine pm ?_;simp only[nf];refine pp rfl rfl (ac rfl rfl (cU _ _)) ?_;simp only[nf];refine pp rfl rfl (aq rfl rfl Tryd.underlying133 eN (by omega)) ?_;simp only[nf];refine am 0 rfl rfl hH rfl rfl rfl rfl eN (by simp<;>omega) ?_;clear hH;intro w90 hH;simp only[qz0,Value.cells]at hH⊢;refine aa hH fun w91 hH=>hK87 _ _ (ak [.p 0,.p 1] ?_);refine pp rfl rfl (ac rfl rfl (by exact aE (n:=1) (by omega))) ?_;simp only[nf];refine pm ?_;simp only[nf];refine aa hH fun w92 hH=>?_;simp only[Exit.then,Exit.inBlock,↓reduceIte,Nat.reduceEqDiff];refine⟨8 - (q+1),?_,_,rfl,by kernel_rfl,?_⟩
    · omega
    simp only[ga];refine⟨q+1,rfl,?_,rfl,?_⟩
    ·exact hH.say 0 rfl (fh fun j hj=>nM (g:=q9 r (fun i=>l.getD i 0)) (z:=r) (by rw[if_neg (Nat.lt_irrefl _),Du (j1 r (eG (fun i=>l.getD i 0)) 64) q (by assumption)];rfl) j)
    · omega
   ·simp only[dm]at hc86;refine wp_exit ?_;simp only[Exit.then,Exit.inBlock,↓reduceIte,Nat.reduceEqDiff];refine hK72 _ _ (wp_seq_k fun K93 hK93=>ak [.q 0,.e 1] ?_);refine pq rfl rfl (aA rfl (hH.blk 0 rfl) Tryd.underlying133 rfl jt (by simp)) ?_;simp only[nf];refine ao 1 rfl rfl hH rfl rfl rfl lq jt (by simp) (by simp) ?_;clear hH;intro w94 hH;simp only[qz0,Value.cells]at hH⊢;refine aa hH fun w95 hH=>hK93 _ _ (wp_ret ?_);refine BP.retc rfl rfl (hH.blk 1 rfl) Tryd.underlying133 rfl jt (by simp) ?_;obtain rfl:q=8:=by omega
    exact⟨by rw[fh fun i hi=>if_pos hi],hH.chg⟩
end Go.Proofs.YtomjbepgbnbgmaaDoor
namespace Go.Proofs.YtomjbepgbnbgmaaDoor
open Go
structure ChgN (N:Nat) (w w':World):Prop where
  os:w'.os=w.os
  tape:w'.tape=w.tape
  output:w'.output=w.output
  size:w.heap.size≤w'.heap.size
  block:∀k,k<N→k<w.heap.size→w'.heap[k]? =w.heap[k]?
theorem Far.chgN (N:Nat):Far (ChgN N) where
  of w w' h:=⟨h.os,h.tape,h.output,h.size,fun k _ hk=>h.block k hk (by simp)⟩;trans a b c h k:=⟨k.os.trans h.os,k.tape.trans h.tape,k.output.trans h.output,Nat.le_trans h.size k.size,fun i hi hlt=>(k.block i hi (Nat.lt_of_lt_of_le hlt h.size)).trans (h.block i hi hlt)⟩
theorem ChgN.of_chg {N:Nat} {S:List Nat} {w w':World} (h:Chg S w w') (hS:∀b∈S,N≤b):ChgN N w w':=
  ⟨h.os,h.tape,h.output,h.size,fun k hk hlt=>h.block k hlt fun hm=>by have:=hS k hm;omega⟩
theorem ChgN.blk {N:Nat} {w w':World} (h:ChgN N w w') {b:Nat} {t:TypeId} {cs:Array Value} (hb:cD w b t cs) (hN:b<N):cD w' b t cs:=hb.of_heap (h.block b hN hb.lt)
theorem Hp.sizeN {S:List Nat} {w0 w:World} {L:List bU} (h:Hp S w0 w L):∃N,N≤w.heap.size∧∀(i:Nat) (b:Nat) (t:TypeId) (cs:Array Value),L[i]? =some (some b,t,cs)→b<N:=
  ⟨w.heap.size,Nat.le_refl _,fun i b t cs hi=>(h.blk i hi).lt⟩
section
variable {P : Program} {ops : List Oper} {Q : Exit → Act → World → Prop} {r : List PStep} {a : Act} {w : World} {i : Nat} {d : Option Tmp} {ty : TypeId} {pos : String} {af : Array Edge} {g : Option (Nat × Bool)} {x y : Operand} {t t' T : TypeId}
  {S:List Nat} {w0:World} {L:List bU} {N:Nat}
theorem vw (k:Nat) {o:Option Nat} {n cap s bts m e:Nat} {cs zc:Array Value} {xs news:List Value} {D:TypeDesc} {vy:Value}
    (hH:Hp S w0 w L) (hk:L[k]? =some (o,e,cs)) (hO:OwnC o n cap s cs xs) (hsrc:wj P w vy s m news) (hu:P.underlying t=some (.slice e)) (hu':P.underlying t'=some D) (hD:(∃e2,D= .slice e2)∨D= .string)
    (hs:szc P e=some s) (hb:eg P e=some bts) (hz:dt P e=some zc) (hzs:zc.size=s) (hbd:(n+m)*bts≤140737488355328) (hbd':n+m<9223372036854775808):
    ∃o' cap' cs' w',(Builtin.append_ #[t,t'] ty #[own o n cap,vy]).run P w= .ok (own o' (n+m) cap') w'∧OwnC o' (n+m) cap' s cs' (xs++news)∧Hp S w0 w' (L.set k (o',e,cs'))∧Chg o.toList w w'∧∀b,o'=some b→o=some b∨w.heap.size≤b:=by
  obtain⟨hlen,hnl,hone,hfirst⟩:=hsrc
  have hbts:∃inf,P.info? e=some inf∧inf.bytes=bts∧inf.size=s∧∃z,inf.zero=some z∧z.cells=zc:=by
    unfold eg at hb
    obtain⟨inf,hi,rfl⟩:=Option.map_eq_some_iff.1 hb
    unfold szc at hs
    rw[hi]at hs
    unfold dt at hz
    rw[hi]at hz
    obtain⟨z,hz1,rfl⟩:=Option.map_eq_some_iff.1 hz
    exact⟨inf,hi,rfl,by simpa using hs,z,by simpa using hz1,rfl⟩
  obtain⟨inf,hinf,hib,his,z,hiz,hzc⟩:=hbts
  subst his
  have hle:=hO.le
  by_cases hroom:n+m≤cap
  ·
    have hsz:n*inf.size+news.length≤cs.size:=by
      rw[hO.size,hnl,←Nat.add_mul];exact Nat.mul_le_mul_right _ hroom
    have hown:OwnC o (n+m) cap inf.size (cR cs (n*inf.size) news.toArray) (xs++news):=by
      refine⟨hroom,by rw[eS (by simpa using hsz),hO.size],hO.nil,by rw[List.length_append,hO.len,hnl,Nat.add_mul],fun j hj=>?_⟩
      rw[Nat.add_mul]at hj
      rw[dP (by simpa using hsz)]
      simp only[List.size_toArray]
      by_cases hjn:j<n*inf.size
      · rw[if_neg (by omega),List.getElem?_append_left (by rw[hO.len];exact hjn)];exact hO.at_ j hjn
      · rw[if_pos ⟨by omega,by omega⟩,List.getElem?_append_right (by rw[hO.len];omega),hO.len];simp
    have hf:=hfirst w (.refl _ _)
    cases o with
    |none=>
      have hc0:=hO.nil rfl
      have hm0:m=0:=by omega
      have hn0:n=0:=by omega
      subst hm0;subst hn0;subst hc0
      have hnews:news=[]:=List.eq_nil_of_length_eq_zero (by simpa using hnl)
      subst hnews
      refine⟨none,0,_,w,?_,hown,?_,.refl _ _,fun b hb=> .inl hb⟩
      · rcases hD with ⟨e2,rfl⟩|rfl<;>simp[Builtin.append_,run_underlying hu,run_underlying hu',own,sizeOf,typeInfo,hinf,hlen,hroom,hf]
      · have hsp:cR cs (0*inf.size) ([]:List Value).toArray=cs:=by unfold cR;simp
        rw[hsp]
        exact hH.say k hk rfl
    |some b=>
      obtain⟨w',hr,hB,hoth,hsz',e1,e2,e3⟩:=cQ (P:=P) news 0 (n*inf.size) w cs (hH.blk k hk) (by simpa using hsz) hone
      refine⟨some b,cap,_,w',?_,hown,?_,⟨e1,e2,e3,by omega,fun k' hk' hn=>hoth k' (by simpa using hn)⟩,fun b hb=> .inl hb⟩
      · rcases hD with ⟨e2,rfl⟩|rfl<;>simp[Builtin.append_,run_underlying hu,run_underlying hu',own,sizeOf,typeInfo,hinf,hlen,hroom,hf,dr,hr]
      · refine hH.put k hk ?_ (by simpa using hB) fun k' hk' _=>hoth k' hk'
        refine hH.chg.trans' (T:=[b]) ⟨e1,e2,e3,by omega,fun k' hk' hn=>hoth k' (by simpa using hn)⟩ ?_
        intro z' hz' hlt
        simp only[List.mem_singleton]at hz'
        subst hz'
        rcases hH.mine k hk with h1|h1
        · omega
        · exact h1
  ·
    obtain⟨c,hc,hch⟩:∃c,n+m≤c∧(Question.appendCap (n+m) cap e).cut (w.tape w.drawn (.appendCap (n+m) cap e))=c:=⟨_,by simp[Question.cut],rfl⟩
    have hfc:(Question.appendCap (n+m) cap e).forced=false:=rfl
    have hd:Chg [] w w.drew:=(Chg.refl _ _).drew
    have hf:=hfirst w.drew hd
    have hfo:=nR (P:=P) (hH.call hd) k hk hO
    have hfit:=growslice_fits (bytes:=inf.bytes) (show cap<n+m by omega) (by rw[hib];exact hbd)
    have h48:¬(281474976710656<Builtin.nextslicecap (n+m) cap*inf.bytes):=by omega
    have h63:¬(9223372036854775807<((n:Int)+(m:Int))):=by omega
    have hzl:(Builtin.zeroCells zc (c - (n+m))).size=(c - (n+m))*zc.size:=by simp[Builtin.zeroCells]
    refine⟨some w.drew.heap.size,c,xs.toArray++news.toArray++Builtin.zeroCells zc (c - (n+m)),w.drew.alloc (.cells (xs.toArray++news.toArray++Builtin.zeroCells zc (c - (n+m))) e),?_,⟨hc,?_,(by intro h;cases h),by rw[List.length_append,hO.len,hnl,Nat.add_mul],fun j hj=>?_⟩,?_,(hd.alloc _).weak (by simp),fun b hb=> .inr (by cases hb;exact Nat.le_refl _)⟩
    · rcases hD with ⟨e2,rfl⟩|rfl<;>simp[Builtin.append_,run_underlying hu,run_underlying hu',own,sizeOf,typeInfo,zeroValue,hinf,hiz,hlen,hroom,h63,h48,hfc,hch,hzc,newRow]
      all_goals (simp only[own]at hfo;rw[hfo];simp only[Result.andThen_ok];rw[hf];simp;congr 2;apply Array.ext';simp)
    · simp only[Array.size_append,List.size_toArray,hzl,hO.len,hnl,hzs]
      rw[←Nat.add_mul,←Nat.add_mul];congr 1;omega
    · have:j<(xs++news).length:=by rw[List.length_append,hO.len,hnl,←Nat.add_mul];exact hj
      rw[Array.getElem?_append_left (by simpa using this)]
      simp
    · refine(hH.call hd).turn k hk _ ?_ ?_ ?_ ?_
      · exact hH.chg.trans' (T:=[]) (hd.alloc _) (by simp)
      · intro b hb'
        cases hb'
        exact⟨.inl (by have:=hH.chg.size;exact this),cD.new _ _ _⟩
      · intro b hb';cases hb';exact .inr (Nat.le_refl _)
      · intro k' _ hlt
        exact RowKit.Below.heap_alloc _ _ _ hlt
theorem aL {dst:Tmp} {e n:Nat} {cs:Array Value} {parts:List (Nat×Operand)} {vs:List (Nat×Value)} (ho:ops[i]? =some ⟨some dst,.buildSlice t n parts.toArray,ty,pos,af,g⟩) (hg:Region.wanted ⟨some dst,.buildSlice t n parts.toArray,ty,pos,af,g⟩ (yielded ops.toArray a.tmps)=true)
    (hNw:N≤w.heap.size) (hH:Hp S w0 w L) (hu:P.underlying t=some (.slice e)) (hv:(parts.map fun p=>(p.1,a.eval p.2))=vs)
    (hrun:∀w,(Instr.buildSlice t n vs.toArray).run P w= .ok (.slice (some ⟨w.heap.size,0,none⟩) n n) (w.alloc (.cells cs e)))
    (h:∀b w',N≤w'.heap.size→N≤b→Hp S w0 w' (L++[(some b,e,cs)])→aN P ops.toArray Q r (a.put (some dst) (own (some b) n n)) w'):aN P ops.toArray Q (.x i::r) a w:=fun w1 hw=>by
  have hN1:N≤w1.heap.size:=Nat.le_trans hNw hw.size
  have hv':(parts.toArray.map fun(p:Nat×Operand)=>(p.1,a.eval p.2))=vs.toArray:=by rw[←hv];simp
  have hr:(execOp a.eval ⟨some dst,.buildSlice t n parts.toArray,ty,pos,af,g⟩).run P w1= .ok (.value (own (some w1.heap.size) n n)) (w1.alloc (.cells cs e)):=by
    simp only[execOp,Sem.run_bind]
    rw[show(parts.toArray.map fun x=>match x with|(i,x)=>(i,a.eval x))=vs.toArray from hv',hrun w1]
    rfl
  unfold wpOp
  simp only[ef ho,hg,if_true]
  refine .inl ?_
  unfold Oper.wp
  rw[hr]
  exact⟨(Chg.refl _ _).alloc _,h _ _ (Nat.le_trans hN1 ((Chg.refl [] w1).alloc _).size) hN1 ((hH.call hw).alloc e cs)⟩
theorem aG (hNw:N≤w.heap.size) (hH:Hp S w0 w L) (h:∀w',N≤w'.heap.size→Hp S w0 w' L→Q .normal a w'):aN P ops.toArray Q [] a w:=fun w1 hw=>h w1 (Nat.le_trans hNw hw.size) (hH.call hw)
end
section
variable {P : Program} {ops : Array Oper} {Q : Exit → Act → World → Prop} {md : Region.Mode} {E M : List Nat} {R0 : World → World → Prop}
def aP (P:Program) (md:Region.Mode) (ops:Array Oper) (Q:Exit→Act→World→Prop) (E M:List Nat) (R0:World→World→Prop) (n:Nat) (l:List Nat) (a:Act) (w:World):Prop:=
  ∀(fuel:Nat) (L:Array Bool),Rel ops L l→n≤fuel→fK P md ops Q E M R0 fuel L a w
def QK (Q:Exit→Act→World→Prop) (K:Act→World→Prop):Exit→Act→World→Prop
  | .normal=>K
  |e=>Q e
theorem QK.out {K:Act→World→Prop} (h:LetsOut (QK Q K)):LetsOut Q:=h
theorem lJ {K K':Act→World→Prop} {i:Nat} {a:Act} {w:World} (h:wpOp P ops (QK Q K) i K' a w):wpOp P ops Q i K' a w:=by
  unfold wpOp at *;cases hi:ops[i]? with
  |none=>rw[hi]at h;exact h
  |some o=>
    rw[hi]at h;simp only at h⊢;split
    · rename_i hw
      rw[if_pos hw]at h;rcases h with h|h
      · refine .inl ?_
        unfold Oper.wp at *;generalize (execOp a.eval o).run P w=r at *;cases r with
        |ok n w'=>
          cases n<;>exact h
        |halt x w'=>cases x<;>exact h
      · exact .inr h
    · rename_i hw
      rw[if_neg hw]at h;exact h
def idxs:List PStep→List Nat→List Nat
  |[],l=>l
  |s::r,l=>idxs r (s.idx::l)
def iG (T:List Row) (E M:List Nat):List PStep→List Nat→Bool
  |[],_=>true
  | .p i::r,l=>g' T true E l i&&iG T E M r (i::l)
  | .q i::r,l=>g' T false (E++M) l i&&iG T E M r (i::l)
  | .r i _::r,l=>g' T false E l i&&iG T E M r (i::l)
  | .x k::r,l=>dH T l k&&gv l k T 0&&iG T E M r (k::l)
  | .s k _::r,l=>dH T l k&&gv l k T 0&&iG T E M r (k::l)
  | .e k::r,l=>dH T l k&&gv l k T 0&&iG T E M r (k::l)
theorem nO (hR0:Far R0) (hsel:Region.noSelect ops=true) (hQ:∀c a d v w,Q (.panic c) (a.put d v) w→Q (.panic c) a w) (R:World→World→Prop) (hR:Far R) (pure:Bool) (E':List Nat) (hE':∀j,(pure=true∨E'.contains j=false)→∀w w',Bv E M R0 j w w'→R w w')
    (i:Nat) (fuel:Nat) (L:Array Bool) (l:List Nat) (a:Act) (w:World) (o:Oper) (v:Value) (hR':Rel ops L l) (ho:ops[i]? =some o) (hy:Qt P ops o v R w a)
    (hok:g' (dw md ops) pure E' l i=true) (H:fK P md ops Q E M R0 fuel (L.setIfInBounds i true) (a.put o.dst v) w):fK P md ops Q E M R0 (fuel+1) L a w:=by
  simp only[g',fG ho,Bool.and_eq_true,Bool.not_eq_true']at hok
  obtain⟨⟨⟨⟨h0,h1⟩,h2⟩,h3⟩,h4⟩:=hok
  refine mB hR0 hR ho (Region.noSelect_spec hsel) (fun c a w=>hQ c a _ _ w) (fun j=>(nE i (!pure) E' (dw md ops) 0 l).contains j) ?_ fuel L a w ?_ ?_ ?_ hy H
  · intro j oj hoj hji hall
    have:=kR _ 0 h3 j _ (fG hoj) (by simpa using hji) (jN.2 hall)
    simpa using this
  · intro k hk
    rw[hR'.getDf]at hk
    exact ka _ _ _ _ hk
  · intro j oj hoj hji hS hl
    rw[hR'.getDt (cB hoj)]at hl
    have:=k5 _ 0 h4 j _ (fG hoj) (by simpa using hji) (by simpa using hS) (by simpa using hl)
    exact⟨hE' j (by simpa using this.1),this.2⟩
  · exact(dW hR').2 ⟨h0,o,ho,h1⟩
theorem nT {k:Nat} {L:Array Bool} {l:List Nat} (hR:Rel ops L l) (h1:dH (dw md ops) l k=true) (h2:gv l k (dw md ops) 0=true):(∃o,ops[k]? =some o)∧k∈Region.ready md ops L∧∀j∈Region.ready md ops L,j=k:=by
  have hrk:∃o,ops[k]? =some o∧l.contains k=false∧subset (n9 md ops o).after l=true:=by
    unfold dH at h1;cases ht:(dw md ops)[k]? with
    |none=>rw[ht]at h1;cases h1
    |some rr=>
      rw[ht]at h1;obtain⟨o,ho,rfl⟩:=m_ ht;simp only[Bool.and_eq_true,Bool.not_eq_true']at h1;exact⟨o,ho,h1.1,h1.2⟩
  obtain⟨o,ho,hk0,hk1⟩:=hrk;refine⟨⟨o,ho⟩,(dW hR).2 ⟨hk0,o,ho,hk1⟩,fun j hj=>?_⟩;obtain⟨hj0,oj,hoj,hjs⟩:=(dW hR).1 hj;have:=kZ _ 0 h2 j _ (fG hoj) (by simpa using hj0) hjs;omega
def iB (E M:List Nat):PStep→Bool
  | .x _=>true
  | .s k _=>M.contains k
  | .e k=>E.contains k
  |_=>false
theorem pc (hR0:Far R0) {n:Nat} {l:List Nat} {a:Act} {w:World}:∀(s:PStep),iB E M s=true→aY R0 [s]→aN P ops (QK Q (aP P md ops Q E M R0 n (s.idx::l))) [s] a w→
    ∀w1,Chg [] w w1→wpOp P ops Q s.idx (fun a' w'=>Bv E M R0 s.idx w1 w'∧aP P md ops Q E M R0 n (s.idx::l) a' w') a w1
  | .x k,_,_,h,w1,hw=>wpOp_mono (fun a' w' h'=>⟨.grown hR0 h'.1,h'.2 w' (.refl _ _)⟩) (lJ (h w1 hw))
  | .s k R,hk,hA,h,w1,hw=>by
    obtain⟨rfl,_⟩:=hA;have hk:M.contains k=true:=hk;exact wpOp_mono (fun a' w' h'=>⟨⟨fun _=>h'.1,fun _ hc=>(by have hc:M.contains k=false:=hc;rw[hk]at hc;cases hc)⟩,h'.2 w' (.refl _ _)⟩) (lJ (h w1 hw))
  | .e k,hk,_,h,w1,hw=>by
    have hk:E.contains k=true:=hk;exact wpOp_mono (fun a' w' h'=>⟨⟨fun hc=>(by have hc:E.contains k=false:=hc;rw[hk]at hc;cases hc),fun hc=>(by have hc:E.contains k=false:=hc;rw[hk]at hc;cases hc)⟩,h' w' (.refl _ _)⟩) (lJ (h w1 hw))
  | .p _,hk,_,_,_,_=>by cases hk
  | .q _,hk,_,_,_,_=>by cases hk
  | .r _ _,hk,_,_,_,_=>by cases hk
def i8 (l is:List Nat):List Row→Nat→Bool
  |[],_=>true
  |r::rs,j=>(is.contains j||l.contains j|| !subset r.after l)&&i8 l is rs (j+1)
theorem j8 {l is:List Nat}:∀(T:List Row) (n:Nat),i8 l is T n=true→∀j r,T[j]? =some r→l.contains (n+j)=false→subset r.after l=true→is.contains (n+j)=true
  |[],_,_,j,r,h,_,_=>by simp at h
  |x::T,n,hc,j,r,h,hl,hs=>by
    simp only[i8,Bool.and_eq_true,Bool.or_eq_true,Bool.not_eq_true']at hc;cases j with
    |zero=>
      simp at h;subst h;simp only[Nat.add_zero]at hl⊢;rcases hc.1 with (h1|h1)|h1
      · exact h1
      · rw[hl]at h1;cases h1
      · rw[hs]at h1;cases h1
    |succ j=>
      have:=j8 T (n+1) hc.2 j r (by simpa using h) (by rw[show n+1+j=n+(j+1)by omega];exact hl) hs;rw[show n+(j+1)=n+1+j by omega];exact this
theorem aP.fork2 (hR0:Far R0) {n:Nat} {l:List Nat} {a:Act} {w:World} (s1 s2:PStep) (c1:iB E M s1=true) (c2:iB E M s2=true) (A1:aY R0 [s1]) (A2:aY R0 [s2]) (r1:dH (dw md ops) l s1.idx=true) (hall:i8 l [s1.idx,s2.idx] (dw md ops) 0=true)
    (h1:aN P ops (QK Q (aP P md ops Q E M R0 n (s1.idx::l))) [s1] a w) (h2:aN P ops (QK Q (aP P md ops Q E M R0 n (s2.idx::l))) [s2] a w):aP P md ops Q E M R0 (n+1) l a w:=by
  intro fuel L hR hn;obtain⟨fuel,rfl⟩:∃m,fuel=m+1:=⟨fuel - 1,by omega⟩
  have hmem:s1.idx∈Region.ready md ops L:=by
    unfold dH at r1;cases ht:(dw md ops)[s1.idx]? with
    |none=>rw[ht]at r1;cases r1
    |some rr=>
      rw[ht]at r1;obtain⟨o,ho,rfl⟩:=m_ ht;simp only[Bool.and_eq_true,Bool.not_eq_true']at r1;exact(dW hR).2 ⟨r1.1,o,ho,r1.2⟩
  intro w1 hw1;refine⟨fun h0=>(by rw[h0]at hmem;cases hmem),fun j hj=>?_⟩;obtain⟨hj0,oj,hoj,hjs⟩:=(dW hR).1 hj;have hin:=j8 _ 0 hall j _ (fG hoj) (by simpa using hj0) hjs
  have hj2:j=s1.idx∨j=s2.idx:=by
    have:=List.contains_iff_mem.1 hin;simpa using this
  rcases hj2 with rfl|rfl
  · exact wpOp_mono (fun a' w' h'=>⟨h'.1,h'.2 fuel _ (hR.cons (cB hoj)) (by omega)⟩) (pc hR0 s1 c1 A1 h1 w1 hw1)
  · exact wpOp_mono (fun a' w' h'=>⟨h'.1,h'.2 fuel _ (hR.cons (cB hoj)) (by omega)⟩) (pc hR0 s2 c2 A2 h2 w1 hw1)
theorem aP.plan (hR0:Far R0) (hsel:Region.noSelect ops=true) (hQ:∀c a d v w,Q (.panic c) (a.put d v) w→Q (.panic c) a w) {n:Nat}:∀(pl:List PStep) (l:List Nat) (a:Act) (w:World),aY R0 pl→(∀i∈aK pl,E.contains i=true)→(∀i∈aW pl,M.contains i=true)→
    iG (dw md ops) E M pl l=true→aN P ops (QK Q (aP P md ops Q E M R0 n (idxs pl l))) pl a w→aP P md ops Q E M R0 (n+pl.length) l a w:=by
  intro pl
  induction pl with
  |nil=>intro l a w _ _ _ _ h;exact h w (.refl _ _)
  |cons s r ih=>
    intro l a w hA hE hM hok h fuel L hR hn
    simp only[List.length_cons]at hn
    obtain⟨fuel,rfl⟩:∃m,fuel=m+1:=⟨fuel - 1,by omega⟩
    cases s with
    |p i=>
      obtain⟨o,ho,v,hy,hn'⟩:=h
      simp only[iG,Bool.and_eq_true]at hok
      exact nO hR0 hsel hQ Ad .any true E (fun _ _ _ _ _=>trivial) i fuel L l a w o v hR ho hy hok.1 (ih (i::l) _ w hA hE hM hok.2 hn' fuel _ (hR.cons (cB ho)) (by omega))
    |q i=>
      obtain⟨o,ho,v,hy,hn'⟩:=h
      simp only[iG,Bool.and_eq_true]at hok
      refine nO hR0 hsel hQ (Chg []) .grown false (E++M) (fun j hj w w' he=>?_) i fuel L l a w o v hR ho hy hok.1 (ih (i::l) _ w hA hE hM hok.2 hn' fuel _ (hR.cons (cB ho)) (by omega))
      rcases hj with hj|hj
      · cases hj
      · rw[List.contains_eq_mem,decide_eq_false_iff_not,List.mem_append,not_or]at hj
        exact he.2 (by simpa using hj.1) (by simpa using hj.2)
    |r i R=>
      obtain⟨o,ho,v,hy,hn'⟩:=h
      obtain⟨rfl,hA⟩:=hA
      simp only[iG,Bool.and_eq_true]at hok
      refine nO hR0 hsel hQ R hR0 false E (fun j hj w w' he=>?_) i fuel L l a w o v hR ho hy hok.1 (ih (i::l) _ w hA hE hM hok.2 hn' fuel _ (hR.cons (cB ho)) (by omega))
      rcases hj with hj|hj
      · cases hj
      · exact he.1 hj
    |x k=>
      simp only[iG,Bool.and_eq_true]at hok
      obtain⟨⟨o,ho⟩,hmem,hall⟩:=nT hR hok.1.1 hok.1.2
      intro w1 hw1
      refine⟨fun h0=>(by rw[h0]at hmem;cases hmem),fun j hj=>?_⟩
      obtain rfl:=hall j hj
      exact wpOp_mono (fun a' w' h'=>⟨.grown hR0 h'.1,ih (j::l) a' w' hA hE hM hok.2 h'.2 fuel _ (hR.cons (cB ho)) (by omega)⟩) (lJ (h w1 hw1))
    |s k R=>
      obtain⟨rfl,hA⟩:=hA
      simp only[iG,Bool.and_eq_true]at hok
      obtain⟨⟨o,ho⟩,hmem,hall⟩:=nT hR hok.1.1 hok.1.2
      intro w1 hw1
      refine⟨fun h0=>(by rw[h0]at hmem;cases hmem),fun j hj=>?_⟩
      obtain rfl:=hall j hj
      have hMj:=hM j (by simp[aW])
      exact wpOp_mono (fun a' w' h'=>⟨⟨fun _=>h'.1,fun _ hc=>(by rw[hMj]at hc;cases hc)⟩,ih (j::l) a' w' hA hE (fun i hi=>hM i (by simp[aW,hi])) hok.2 h'.2 fuel _ (hR.cons (cB ho)) (by omega)⟩) (lJ (h w1 hw1))
    |e k=>
      simp only[iG,Bool.and_eq_true]at hok
      obtain⟨⟨o,ho⟩,hmem,hall⟩:=nT hR hok.1.1 hok.1.2
      intro w1 hw1
      refine⟨fun h0=>(by rw[h0]at hmem;cases hmem),fun j hj=>?_⟩
      obtain rfl:=hall j hj
      have hEj:=hE j (by simp[aK])
      exact wpOp_mono (fun a' w' h'=>⟨⟨fun hc=>(by rw[hEj]at hc;cases hc),fun hc=>(by rw[hEj]at hc;cases hc)⟩,ih (j::l) a' w' hA (fun i hi=>hE i (by simp[aK,hi])) hM hok.2 h' fuel _ (hR.cons (cB ho)) (by omega)⟩) (lJ (h w1 hw1))
theorem aP.done {n:Nat} {l:List Nat} {a:Act} {w:World} (hok:ij l (dw md ops) 0=true) (h:∀w1,Chg [] w w1→Q .normal a w1):aP P md ops Q E M R0 n l a w:=by
  intro fuel L hR _
  have hr:Region.ready md ops L=[]:=by
    apply List.eq_nil_iff_forall_not_mem.2;intro j hj;obtain⟨h0,o,ho,hs⟩:=(dW hR).1 hj;exact iR _ 0 hok j _ (fG ho) (by simpa using h0) hs
  cases fuel with
  |zero=>exact fun w1 h1=>⟨hr,h w1 h1⟩
  |succ fuel=>exact fun w1 h1=>⟨fun _=>h w1 h1,by rw[hr];simp⟩
theorem bV {id:Nat} {l:List Oper} {a:Act} {w:World} (E M:List Nat) (R0:World→World→Prop) (hm:P.follows .mixedOrders=true) (h:aP P .any l.toArray Q E M R0 l.toArray.size [] a w):(Code.region id l.toArray true).wp P Q a w:=
  wp_region_any hm (l8 _ _ _ _ (fK.grow (h _ _ Rel.start (Nat.le_refl _)) (Chg.drew (.refl _ _))))
end
end Go.Proofs.YtomjbepgbnbgmaaDoor
namespace Go.Proofs.YtomjbepgbnbgmaaDoor
open Go
def fC (o:Option Nat) (off n cap:Nat):Value:= .slice (o.map fun b=>⟨b,off,none⟩) n cap
structure OwnD (o:Option Nat) (off n cap:Nat) (cs:Array Value) (l:List UInt8):Prop where
  le:n≤cap
  fit:off+cap≤cs.size
  nil:o=none→cap=0
  len:l.length=n
  at_:∀i (h:i<l.length),cs[off+i]? =some (V8 l[i])
theorem OwnD.start:OwnD none 0 0 0 #[] []:=⟨Nat.le_refl _,by simp,fun _=>rfl,rfl,fun i h=>by simp at h⟩
theorem OwnC.d {o:Option Nat} {n cap:Nat} {cs:Array Value} {l:List UInt8} (h:OwnC o n cap 1 cs (l.map V8)):OwnD o 0 n cap cs l where
  le:=h.le;fit:=by have:=h.size;omega
  nil:=h.nil;len:=by have:=h.len;simpa using this
  at_ i hi:=by
    have hl:l.length=n:=by have:=h.len;simpa using this
    rw[Nat.zero_add,h.at_ i (by omega)];simp[hi]
theorem OwnD.sl {w:World} {S:List Nat} {w0:World} {L:List bU} (hH:Hp S w0 w L) (k:Nat) {o:Option Nat} {t off n cap:Nat} {cs:Array Value} {l:List UInt8} (hk:L[k]? =some (o,t,cs)) (h:OwnD o off n cap cs l):Sl w (fC o off n cap) l:=by
  have hl:=h.len;subst hl;refine⟨_,cap,rfl,h.le,fun hne=>?_⟩;cases o with
  |none=>
    have:=h.nil rfl;have:=h.le;exact absurd (List.eq_nil_of_length_eq_zero (by omega)) hne
  |some b=>exact⟨b,off,rfl,fun i hi=>(hH.blk k hk).cell (h.at_ i hi)⟩
def oM (off lo cap:Nat):Nat:=if cap=lo then off else off+lo
theorem OwnD.cutl {o:Option Nat} {off n cap:Nat} {cs:Array Value} {l:List UInt8} (h:OwnD o off n cap cs l) {lo:Nat} (h1:lo≤n):OwnD o (oM off lo cap) (n - lo) (cap - lo) cs (l.drop lo) where
  le:=by have:=h.le;omega
  fit:=by have:=h.fit;have:=h.le;unfold oM;split<;>omega
  nil e:=by have:=h.nil e;omega
  len:=by rw[List.length_drop,h.len]
  at_ i hi:=by
    have hle:=h.le;rw[List.length_drop,h.len]at hi;have hc:¬cap=lo:=by omega
    unfold oM;rw[if_neg hc,Nat.add_assoc,h.at_ (lo+i) (by rw[h.len];omega)];simp
section
variable {P : Program} {ops : List Oper} {Q : Exit → Act → World → Prop} {r : List PStep} {a : Act} {w : World} {i : Nat} {d : Option Tmp} {ty : TypeId} {pos : String} {af : Array Edge} {g : Option (Nat × Bool)} {x y : Operand} {t t' T : TypeId}
  {S:List Nat} {w0:World} {L:List bU}
theorem iC {k:IntKind} {e:TypeId} {o:Option Nat} {off n cap lo:Nat} {xl:Operand} (hx:a.eval x=fC o off n cap) (hl:a.eval xl= .int k (lo:Int)) (hu:P.underlying t=some (.slice e)) (hs:szc P e=some 1) (h1:lo≤n):
    c7 P ⟨d,.slice t x (some xl) none none,ty,pos,af,g⟩ a (fC o (oM off lo cap) (n - lo) (cap - lo)):=by
  have:=p9 (d:=d) (ty:=ty) (pos:=pos) (af:=af) (g:=g) (ad:=o.map fun b=>⟨b,off,none⟩) (n:=n) (c:=cap) hx hl hu hs h1
  have e1:kr (o.map fun b=>(⟨b,off,none⟩:Addr)) lo cap 1=o.map fun b=>⟨b,oM off lo cap,none⟩:=by
    unfold kr oM;split
    · rfl
    · cases o<;>simp[dr]
  rw[e1]at this;exact this
theorem vO {k:Nat} {o:Option Nat} {e off n cap:Nat} {cs:Array Value} {l:List UInt8} (hH:Hp S w0 w L) (hk:L[k]? =some (o,e,cs)) (hO:OwnD o off n cap cs l):
    (Builtin.firstCells 1 n (fC o off n cap)).run P w= .ok (l.map V8).toArray w:=by
  have:=(OwnD.sl hH k hk hO).src (P:=P);have h2:=this.2.2.2 w (.refl _ _);rw[hO.len]at h2;exact h2
theorem sO (k:Nat) {o:Option Nat} {off n cap m e:Nat} {cs:Array Value} {l bl:List UInt8} {D:TypeDesc} {vy:Value}
    (hH:Hp S w0 w L) (hk:L[k]? =some (o,e,cs)) (hO:OwnD o off n cap cs l) (hsrc:wj P w vy 1 m (bl.map V8)) (hu:P.underlying t=some (.slice e)) (hu':P.underlying t'=some D) (hD:(∃e2,D= .slice e2)∨D= .string)
    (hs:szc P e=some 1) (hb:eg P e=some 1) (hz:dt P e=some #[V8 0]) (hbd:n+m≤140737488355328):
    ∃o' off' cap' cs' w',(Builtin.append_ #[t,t'] ty #[fC o off n cap,vy]).run P w= .ok (fC o' off' (n+m) cap') w'∧OwnD o' off' (n+m) cap' cs' (l++bl)∧Hp S w0 w' (L.set k (o',e,cs'))∧Chg o.toList w w'∧∀b,o'=some b→o=some b∨w.heap.size≤b:=by
  obtain⟨hlen,hnl,hone,hfirst⟩:=hsrc
  have hbts:∃inf,P.info? e=some inf∧inf.bytes=1∧inf.size=1∧∃z,inf.zero=some z∧z.cells= #[V8 0]:=by
    unfold eg at hb
    obtain⟨inf,hi,hb1⟩:=Option.map_eq_some_iff.1 hb
    unfold szc at hs
    rw[hi]at hs
    unfold dt at hz
    rw[hi]at hz
    obtain⟨z,hz1,hz2⟩:=Option.map_eq_some_iff.1 hz
    exact⟨inf,hi,hb1,by simpa using hs,z,by simpa using hz1,hz2⟩
  obtain⟨inf,hinf,hib,his,z,hiz,hzc⟩:=hbts
  have hle:=hO.le
  have hfit:=hO.fit
  have hll:=hO.len
  have hbl:bl.length=m:=by simpa using hnl
  by_cases hroom:n+m≤cap
  · have hsz:off+n+(bl.map V8).length≤cs.size:=by rw[List.length_map];omega
    have hown:OwnD o off (n+m) cap (cR cs (off+n) (bl.map V8).toArray) (l++bl):=by
      refine⟨hroom,by rw[eS (by simpa using hsz)];exact hfit,hO.nil,by rw[List.length_append];omega,fun j hj=>?_⟩
      rw[dP (by simpa using hsz)]
      simp only[List.size_toArray,List.length_map]
      by_cases hjn:j<n
      · rw[if_neg (by omega),hO.at_ j (by omega),List.getElem_append_left (by omega)]
      · rw[List.length_append]at hj
        rw[if_pos ⟨by omega,by omega⟩,List.getElem_append_right (by omega)]
        simp[show off+j - (off+n)=j - n by omega,hll,show j - n<bl.length by omega]
    have hf:=hfirst w (.refl _ _)
    cases o with
    |none=>
      have hc0:=hO.nil rfl
      have hm0:m=0:=by omega
      have hn0:n=0:=by omega
      have hb0:bl=[]:=List.eq_nil_of_length_eq_zero (by omega)
      subst hb0
      subst hm0;subst hn0;subst hc0
      refine⟨none,off,0,cs,w,?_,by simpa using hO,hH.say k hk rfl,.refl _ _,fun b hb=> .inl hb⟩
      rcases hD with ⟨e2,rfl⟩|rfl<;>simp[Builtin.append_,run_underlying hu,run_underlying hu',fC,sizeOf,typeInfo,hinf,his,hlen,hroom]<;>(have hf':(Builtin.firstCells 1 0 vy).run P w= .ok #[] w:=by simpa using hf)<;>rw[hf']<;>rfl
    |some b=>
      obtain⟨w',hr,hB,hoth,hsz',e1,e2,e3⟩:=cQ (P:=P) (bl.map V8) 0 (off+n) w cs (hH.blk k hk) (by simpa using hsz) hone
      refine⟨some b,off,cap,_,w',?_,hown,?_,⟨e1,e2,e3,by omega,fun k' hk' hn=>hoth k' (by simpa using hn)⟩,fun b hb=> .inl hb⟩
      · have hr':(storeCells (⟨b,off+n,none⟩:Addr) (bl.map V8)).run P w= .ok () w':=hr
        rcases hD with ⟨e2,rfl⟩|rfl<;>simp[Builtin.append_,run_underlying hu,run_underlying hu',fC,sizeOf,typeInfo,hinf,his,hlen,hroom,hf,dr]<;>rw[hr']<;>rfl
      · refine hH.put k hk ?_ (by simpa using hB) fun k' hk' _=>hoth k' hk'
        refine hH.chg.trans' (T:=[b]) ⟨e1,e2,e3,by omega,fun k' hk' hn=>hoth k' (by simpa using hn)⟩ ?_
        intro z' hz' hlt
        simp only[List.mem_singleton]at hz'
        subst hz'
        rcases hH.mine k hk with h1|h1
        · omega
        · exact h1
  · obtain⟨c,hc,hch⟩:∃c,n+m≤c∧(Question.appendCap (n+m) cap e).cut (w.tape w.drawn (.appendCap (n+m) cap e))=c:=⟨_,by simp[Question.cut],rfl⟩
    have hfc:(Question.appendCap (n+m) cap e).forced=false:=rfl
    have hd:Chg [] w w.drew:=(Chg.refl _ _).drew
    have hf:=hfirst w.drew hd
    have hfo:=vO (P:=P) (hH.call hd) hk hO
    have hgs:=growslice_fits (bytes:=1) (show cap<n+m by omega) (by omega)
    have h48:¬(281474976710656<Builtin.nextslicecap (n+m) cap):=by omega
    have h63:¬(9223372036854775807<((n:Int)+(m:Int))):=by omega
    have hzl:(Builtin.zeroCells #[V8 0] (c - (n+m))).size=c - (n+m):=by simp[Builtin.zeroCells]
    refine⟨some w.drew.heap.size,0,c,(l.map V8).toArray++(bl.map V8).toArray++Builtin.zeroCells #[V8 0] (c - (n+m)),w.drew.alloc (.cells ((l.map V8).toArray++(bl.map V8).toArray++Builtin.zeroCells #[V8 0] (c - (n+m))) e),?_,⟨hc,?_,(by intro h;cases h),by rw[List.length_append];omega,fun j hj=>?_⟩,?_,(hd.alloc _).weak (by simp),fun b hb=> .inr (by cases hb;exact Nat.le_refl _)⟩
    · rcases hD with ⟨e2,rfl⟩|rfl<;>simp[Builtin.append_,run_underlying hu,run_underlying hu',fC,sizeOf,typeInfo,zeroValue,hinf,his,hib,hiz,hlen,hroom,h63,h48,hfc,hch,hzc,newRow]
      all_goals (simp only[fC]at hfo;rw[hfo];simp only[Result.andThen_ok];rw[hf];simp;congr 2;apply Array.ext';simp)
    · simp only[Array.size_append,List.size_toArray,hzl,List.length_map];omega
    · rw[Nat.zero_add,Array.getElem?_append_left (by simp;rw[List.length_append]at hj;omega)]
      have e3:(l.map V8).toArray++(bl.map V8).toArray=((l++bl).map V8).toArray:=by simp
      rw[e3,List.getElem?_toArray,List.getElem?_map,List.getElem?_eq_getElem hj];rfl
    · refine(hH.call hd).turn k hk _ ?_ ?_ ?_ ?_
      · exact hH.chg.trans' (T:=[]) (hd.alloc _) (by simp)
      · intro b hb'
        cases hb'
        exact⟨.inl (by have:=hH.chg.size;exact this),cD.new _ _ _⟩
      · intro b hb';cases hb';exact .inr (Nat.le_refl _)
      · intro k' _ hlt
        exact RowKit.Below.heap_alloc _ _ _ hlt
theorem mX (k:Nat) {dst:Tmp} {o:Option Nat} {off n cap m e:Nat} {cs:Array Value} {l bl:List UInt8} {D:TypeDesc} {vy:Value}
    (ho:ops[i]? =some ⟨some dst,.call ⟨.builtin .append,#[x,y],#[t,t']⟩,ty,pos,af,g⟩) (hg:Region.wanted ⟨some dst,.call ⟨.builtin .append,#[x,y],#[t,t']⟩,ty,pos,af,g⟩ (yielded ops.toArray a.tmps)=true)
    (hH:Hp S w0 w L) (hk:L[k]? =some (o,e,cs)) (hO:OwnD o off n cap cs l) (hsrc:∀w1,Hp S w0 w1 L→wj P w1 vy 1 m (bl.map V8)) (hx:a.eval x=fC o off n cap) (hy:a.eval y=vy) (hu:P.underlying t=some (.slice e)) (hu':P.underlying t'=some D) (hD:(∃e2,D= .slice e2)∨D= .string)
    (hs:szc P e=some 1) (hb:eg P e=some 1) (hz:dt P e=some #[V8 0]) (hbd:n+m≤140737488355328)
    (h:∀o' off' cap' cs' w',OwnD o' off' (n+m) cap' cs' (l++bl)→Hp S w0 w' (L.set k (o',e,cs'))→aN P ops.toArray Q r (a.put (some dst) (fC o' off' (n+m) cap')) w'):aN P ops.toArray Q (.e i::r) a w:=by
  refine rV hH ho hg fun w hH=>?_
  obtain⟨o',off',cap',cs',w',hr,hO',hH',_,_⟩:=sO (ty:=ty) k hH hk hO (hsrc w hH) hu hu' hD hs hb hz hbd
  refine⟨_,w',?_,h o' off' cap' cs' w' hO' hH'⟩
  simp only[execOp,resolve,List.map_toArray,List.map_cons,List.map_nil,hx,hy,invoke,builtin,Sem.run_bind,Sem.run_pure,Result.andThen_ok,hr]
end
end Go.Proofs.YtomjbepgbnbgmaaDoor
namespace Go.Proofs.YtomjbepgbnbgmaaDoor
open Go
open List (getD_cons_zero getD_cons_succ set_cons_zero set_cons_succ)
def dbl (x:UInt8):UInt8:=x<<<1^^^x>>>7*27
def CW:List UInt8:=[99,124,119,123,242,107,111,197,48,1,103,43,254,215,171,118,202,130,201,125,250,89,71,240,173,212,162,175,156,164,114,192,183,253,147,38,54,63,247,204,52,165,229,241,113,216,49,21,4,199,35,195,24,150,5,154,7,18,128,226,235,39,178,117,9,131,44,26,27,110,90,160,82,59,214,179,41,227,47,132,83,209,0,237,32,252,177,91,106,203,190,57,74,76,88,207,208,239,170,251,67,77,51,133,69,249,2,127,80,60,159,168,81,163,64,143,146,157,56,245,188,182,218,33,16,255,243,210,205,12,19,236,95,151,68,23,196,167,126,61,100,93,25,115,96,129,79,220,34,42,144,136,70,238,184,20,222,94,11,219,224,50,58,10,73,6,36,92,194,211,172,98,145,149,228,121,231,200,55,109,141,213,78,169,108,86,244,234,101,122,174,8,186,120,37,46,28,166,180,198,232,221,116,31,75,189,139,138,112,62,181,102,72,3,246,14,97,53,87,185,134,193,29,158,225,248,152,17,105,217,142,148,155,30,135,233,206,85,40,223,140,161,137,13,191,230,66,104,65,153,45,15,176,84,187,22]
def us (n:Nat):UInt8:=CW.getD n 0
def kD (f:Nat→UInt8) (o:Nat):Nat→UInt8:=fun i=>
  if i=o then f o^^^(f o^^^f (o+1)^^^f (o+2)^^^f (o+3)^^^dbl (f o^^^f (o+1)))
  else if i=o+1 then f (o+1)^^^(f o^^^f (o+1)^^^f (o+2)^^^f (o+3)^^^dbl (f (o+1)^^^f (o+2)))
  else if i=o+2 then f (o+2)^^^(f o^^^f (o+1)^^^f (o+2)^^^f (o+3)^^^dbl (f (o+2)^^^f (o+3)))
  else if i=o+3 then f (o+3)^^^(f o^^^f (o+1)^^^f (o+2)^^^f (o+3)^^^dbl (f (o+3)^^^f o))
  else f i
theorem Hp.start1 {w:World} {b:Nat} {t:TypeId} {cs:Array Value} (h:cD w b t cs):Hp [b] w w [(some b,t,cs)]:=
  (Hp.start [b] w).add (some b,t,cs) (fun b' hb'=>by cases hb';exact⟨.inr (by simp),h⟩) (by simp)
theorem yO (f:Nat→UInt8) (o k i:Nat) (hk:k<3):
    dn (fun i=>if i<o+k then kD f o i else f i) (o+k)
      ((if o + k < o + k then kD f o (o + k) else f (o + k)) ^^^
        (f o ^^^ f (o + 1) ^^^ f (o + 2) ^^^ f (o + 3) ^^^
          dbl ((if o + k < o + k then kD f o (o + k) else f (o + k)) ^^^ if o + (k + 1) < o + k then kD f o (o + (k + 1)) else f (o + (k + 1))))) i = if i < o + (k + 1) then kD f o i else f i := by
  rw[if_neg (Nat.lt_irrefl _),if_neg (by omega)];simp only[dn];by_cases h:i=o+k
  · subst h
    rw[if_pos rfl,if_pos (by omega)];obtain rfl|rfl|rfl:k=0∨k=1∨k=2:=by omega
    · simp[kD]
    · simp[kD]
    · simp[kD]
  · rw[if_neg h]
    by_cases h1:i<o+k
    · rw[if_pos h1,if_pos (by omega)]
    · rw[if_neg h1,if_neg (by omega)]
theorem yI (f:Nat→UInt8) (o k i:Nat) (hk:3≤k) (hk':k≤3):
    dn (fun i=>if i<o+k then kD f o i else f i) (o+3)
      ((if o + 3 < o + k then kD f o (o + 3) else f (o + 3)) ^^^
        (f o ^^^ f (o + 1) ^^^ f (o + 2) ^^^ f (o + 3) ^^^ dbl ((if o + 3 < o + k then kD f o (o + 3) else f (o + 3)) ^^^ f o))) i = kD f o i := by
  obtain rfl:k=3:=by omega
  rw[if_neg (Nat.lt_irrefl _)];simp only[dn];by_cases h:i=o+3
  · subst h
    simp[kD]
  · rw[if_neg h]
    by_cases h1:i<o+3
    · rw[if_pos h1]
    · rw[if_neg h1]
      unfold kD;rw[if_neg (by omega),if_neg (by omega),if_neg (by omega),if_neg (by omega)]
theorem jS (x:UInt8) (w:World):aZ Tryd.prog 87 #[V8 x] w fun v w'=>v=V8 (dbl x)∧Chg [] w w':=by
 refine aZ.enter Tryd.func87 rfl ?_;simp only[Tryd.ntmps87,fe,Nat.reduceAdd,Nat.reduceSub];have hH:=Hp.start [] w;refine wp_seq_k fun K1 hK1=>ak [.p 0] ?_;refine pa ?_;simp only[nf];refine aa hH fun w2 hH=>hK1 _ _ (wp_seq_k fun K3 hK3=>ak [.p 0,.p 1,.p 2,.p 3,.p 4,.p 5,.p 6] ?_);refine pm (pp rfl rfl (ac rfl rfl (sT 1 1 (by decide) rfl _)) (pm (pp rfl rfl (ac rfl rfl (lk 7 7 (by decide) rfl _)) (pp rfl rfl (ac rfl rfl (ve _ 27)) (pp rfl rfl (ac rfl rfl (ck _ _)) ?_)))));simp only[nf];refine pa ?_;simp only[nf];refine aa hH fun w4 hH=>hK3 _ _ (wp_ret ?_);refine BP.ret1 rfl rfl ?_;exact⟨rfl,hH.chg⟩
theorem qZ (w:World):aZ Tryd.prog 86 #[] w fun v w'=>v= .agg (a9 256 us)∧Chg [] w w':=by
 refine aZ.enter Tryd.func86 rfl ?_;simp only[Tryd.ntmps86,fe,Nat.reduceAdd,Nat.reduceSub];have hH:=Hp.start [] w;refine wp_seq_k fun K1 hK1=>ak [.x 0] ?_;refine au rfl rfl hH Dl ?_;clear hH;intro b2 w3 hH;simp only[nf,nh,Value.cells]at hH⊢;refine aa hH fun w4 hH=>hK1 _ _ (wp_seq_k fun K5 hK5=>ak [.p 0,.e 1] ?_);refine aI (v:= .agg (a9 256 us)) rfl rfl (fun w=>by kernel_rfl) ?_;simp only[nf];refine ao 0 rfl rfl hH rfl rfl rfl bj Bm (by simp) (by simp) ?_;clear hH;intro w6 hH;simp only[nf,nh,Value.cells]at hH⊢;refine aa hH fun w7 hH=>hK5 _ _ (wp_ret ?_);refine BP.retc rfl rfl (hH.blk 0 rfl) Tryd.underlying142 rfl Bm (by simp) ?_;exact⟨rfl,hH.chg⟩
theorem nG (f g:Nat→UInt8) (w:World):aZ Tryd.prog 96 #[.agg (a9 16 f),.agg (a9 16 g)] w fun v w'=>v= .agg (a9 16 fun i=>f i^^^g i)∧Chg [] w w':=by
 refine aZ.enter Tryd.func96 rfl ?_;simp only[Tryd.ntmps96,fe,Nat.reduceAdd,Nat.reduceSub];have hH:=Hp.start [] w;refine wp_seq_k fun K1 hK1=>ak [.x 0,.x 1,.x 2] ?_;refine aX rfl rfl hH rfl ?_;clear hH;intro b2 w3 hH;simp only[nf,nh,Value.cells]at hH⊢;refine aX rfl rfl hH rfl ?_;clear hH;intro b4 w5 hH;simp only[nf,nh,Value.cells]at hH⊢;refine au rfl rfl hH kL ?_;clear hH;intro b6 w7 hH;simp only[nf,nh,Value.cells]at hH⊢;refine aa hH fun w8 hH=>hK1 _ _ (wp_seq_k fun K9 hK9=>wp_seq_k fun K10 hK10=>ak [.p 0] ?_);refine pk 0 ?_;simp only[nf];refine aa hH fun w11 hH=>hK10 _ _ (wp_block (bd [6] [5,7,8,9,10,11,12,13,14,15,16,17] (fun(n12:Nat) (vs:List Value) (w':World)=>∃(k:Nat),vs=[bb (k:Nat)]∧Hp [] w w' [(some b2,125,a9 16 fun i=>if i<k then f i^^^g i else f i),(some b4,125,a9 16 g),(some b6,125,a9 16 fun _=>0)]∧n12=16 - k∧k≤16) (16 - 0) (by kernel_rfl) ?_ ?_))
 ·simp only[ga];refine⟨0,rfl,?_,rfl,?_⟩
  ·exact hH.say 0 rfl (bI fun i hi=>by rw[if_neg (by omega)])
  · omega
 clear hH;intro n12 vs13 w14 hR15 d0;obtain⟨k,rfl,hH,hn16,hf17⟩:=hR15;simp only[bG,c6,List.set_cons_zero,List.set_cons_succ,Nat.zero_add,Nat.reduceAdd];refine wp_seq_k fun K18 hK18=>ak [.p 0] ?_;refine pp rfl rfl (ac rfl rfl (by exact aJ (n:=16))) ?_;simp only[nf];refine aa hH fun w19 hH=>hK18 _ _ (wp_seq_k fun K20 hK20=>wp_cond_split rfl (fun hc21=>?_) (fun hc21=>?_))
 ·simp only[dm]at hc21;refine wp_skip (hK20 _ _ (wp_seq_k fun K22 hK22=>wp_block (wp_seq_k fun K23 hK23=>ak [.p 0,.p 1] ?_)));refine pm (pa ?_);simp only[nf];refine aa hH fun w24 hH=>hK23 _ _ (en [.p 0,.p 1,.p 3,.p 4,.q 2,.q 5,.p 6,.p 7,.e 8] ?_);refine pm ?_;simp only[nf];refine pp rfl rfl (aq rfl rfl Tryd.underlying125 bL (by omega)) ?_;simp only[nf];refine pm ?_;simp only[nf];refine pp rfl rfl (aq rfl rfl Tryd.underlying125 bL (by omega)) ?_;simp only[nf];refine pq rfl rfl (ah rfl Tryd.underlying5 rfl ((hH.blk 0 rfl).cell (bK (by omega)))) ?_;simp only[nf];refine pq rfl rfl (ah rfl Tryd.underlying5 rfl ((hH.blk 1 rfl).cell (bK (by omega)))) ?_;simp only[nf];refine pp rfl rfl (ac rfl rfl (ck _ _)) ?_;simp only[nf];refine pp rfl rfl (aq rfl rfl Tryd.underlying125 bL (by omega)) ?_;simp only[nf];refine am 0 rfl rfl hH rfl rfl rfl rfl bL (by simp<;>omega) ?_;clear hH;intro w25 hH;simp only[nf,nh,Value.cells]at hH⊢;refine aa hH fun w26 hH=>hK22 _ _ (ak [.p 0,.p 1] ?_);refine pp rfl rfl (ac rfl rfl (by exact aE (n:=1) (by omega))) ?_;simp only[nf];refine pm ?_;simp only[nf];refine aa hH fun w27 hH=>?_;simp only[Exit.then,Exit.inBlock,↓reduceIte,Nat.reduceEqDiff];refine⟨16 - (k+1),?_,_,rfl,by kernel_rfl,?_⟩
  · omega
  simp only[ga];refine⟨k+1,rfl,?_,rfl,?_⟩
  ·exact hH.say 0 rfl (bI fun i hi=>nM (g:=fun i=>f i^^^g i) (z:=f) (by rw[if_neg (Nat.lt_irrefl _)]) i)
  · omega
 ·simp only[dm]at hc21;refine wp_exit ?_;simp only[Exit.then,Exit.inBlock,↓reduceIte,Nat.reduceEqDiff];refine hK9 _ _ (wp_seq_k fun K28 hK28=>ak [.q 0,.e 1] ?_);refine pq rfl rfl (aA rfl (hH.blk 0 rfl) Tryd.underlying125 rfl dF (by simp)) ?_;simp only[nf];refine ao 2 rfl rfl hH rfl rfl rfl bj dF (by simp) (by simp) ?_;clear hH;intro w29 hH;simp only[nf,nh,Value.cells]at hH⊢;refine aa hH fun w30 hH=>hK28 _ _ (wp_ret ?_);refine BP.retc rfl rfl (hH.blk 2 rfl) Tryd.underlying125 rfl dF (by simp) ?_;exact⟨by rw[bI fun i hi=>if_pos (by omega)],hH.chg⟩
theorem rN (b o m T c:Nat) (f:Nat→UInt8) (ho:o+4≤m) (w:World) (hb:cD w b T (a9 m f)):
    aZ Tryd.prog 97 #[.slice (some ⟨b,o,none⟩) 4 c] w fun v w'=>v= .tuple #[]∧Chg [b] w w'∧cD w' b T (a9 m (kD f o)):=by
 refine aZ.enter Tryd.func97 rfl ?_;simp only[Tryd.ntmps97,fe,Nat.reduceAdd,Nat.reduceSub];have hH:=Hp.start1 hb;refine wp_seq_k fun K1 hK1=>en [.p 0,.p 1,.p 3,.p 4,.p 7,.p 8,.p 11,.p 12,.p 15,.p 16,.q 2,.q 5,.p 6,.q 9,.p 10,.q 13,.p 14,.p 18,.q 17,.p 19] ?_;refine pm ?_;simp only[nf];refine pp rfl rfl (b5 (i:=0) rfl rfl Tryd.underlying31 bL (by omega)) ?_;simp only[nf];refine pm ?_;simp only[nf];refine pp rfl rfl (b5 (i:=1) rfl rfl Tryd.underlying31 bL (by omega)) ?_;simp only[nf];refine pm ?_;simp only[nf];refine pp rfl rfl (b5 (i:=2) rfl rfl Tryd.underlying31 bL (by omega)) ?_;simp only[nf];refine pm ?_;simp only[nf];refine pp rfl rfl (b5 (i:=3) rfl rfl Tryd.underlying31 bL (by omega)) ?_;simp only[nf];refine pm ?_;simp only[nf];refine pp rfl rfl (b5 (i:=0) rfl rfl Tryd.underlying31 bL (by omega)) ?_;simp only[nf];refine pq rfl rfl (ah rfl Tryd.underlying5 rfl ((hH.blk 0 rfl).cell (bK (by omega)))) ?_;simp only[nf];refine pq rfl rfl (ah rfl Tryd.underlying5 rfl ((hH.blk 0 rfl).cell (bK (by omega)))) ?_;simp only[nf];refine pp rfl rfl (ac rfl rfl (ck _ _)) ?_;simp only[nf];refine pq rfl rfl (ah rfl Tryd.underlying5 rfl ((hH.blk 0 rfl).cell (bK (by omega)))) ?_;simp only[nf];refine pp rfl rfl (ac rfl rfl (ck _ _)) ?_;simp only[nf];refine pq rfl rfl (ah rfl Tryd.underlying5 rfl ((hH.blk 0 rfl).cell (bK (by omega)))) ?_;simp only[nf];refine pp rfl rfl (ac rfl rfl (ck _ _)) ?_;simp only[nf];refine pa ?_;simp only[nf];refine pq rfl rfl (ah rfl Tryd.underlying5 rfl ((hH.blk 0 rfl).cell (bK (by omega)))) ?_;simp only[nf];refine pa ?_;simp only[nf];refine aa hH fun w2 hH=>hK1 _ _ (wp_seq_k fun K3 hK3=>wp_seq_k fun K4 hK4=>ak [.p 0] ?_);refine pk 0 ?_;simp only[nf];refine aa hH fun w5 hH=>hK4 _ _ (wp_block (bd [23] [4,24,25,26,27,28,29,30,31,32,33,34,35,36,37,38,39,40,41,42,43,44,45] (fun(n6:Nat) (vs:List Value) (w':World)=>∃(k:Nat),vs=[bb (k:Nat)]∧Hp [b] w w' [(some b,T,a9 m fun i=>if i<o+k then kD f o i else f i)]∧n6=3 - k∧k≤3) (3 - 0) (by kernel_rfl) ?_ ?_))
 ·simp only[ga];refine⟨0,rfl,?_,rfl,?_⟩
  ·exact hH.say 0 rfl (bI fun i hi=>by split<;>first|rfl|(unfold kD;rw[if_neg (by omega),if_neg (by omega),if_neg (by omega),if_neg (by omega)]))
  · omega
 clear hH;intro n6 vs7 w8 hR9 d0;obtain⟨k,rfl,hH,hn10,hf11⟩:=hR9;simp only[bG,c6,List.set_cons_zero,List.set_cons_succ,Nat.zero_add,Nat.reduceAdd];refine wp_seq_k fun K12 hK12=>ak [.p 0] ?_;refine pp rfl rfl (ac rfl rfl (by exact aJ (n:=3))) ?_;simp only[nf];refine aa hH fun w13 hH=>hK12 _ _ (wp_seq_k fun K14 hK14=>wp_cond_split rfl (fun hc15=>?_) (fun hc15=>?_))
 ·simp only[dm]at hc15;refine wp_skip (hK14 _ _ (wp_seq_k fun K16 hK16=>wp_block (wp_seq_k fun K17 hK17=>ak [.p 0,.p 1] ?_)));refine pm (pa ?_);simp only[nf];refine aa hH fun w18 hH=>hK17 _ _ (en [.p 0,.p 1,.p 2,.p 4,.p 5,.p 6,.p 7,.p 9,.p 10,.p 11,.p 12,.q 3,.q 8,.q 13,.p 14,.q 15,.p 16,.p 17,.p 18,.e 19] ?_);refine pm (pm ?_);simp only[nf];refine pp rfl rfl (b5 rfl rfl Tryd.underlying31 bL (by omega)) ?_;simp only[nf];refine pm (pm (pm ?_));simp only[nf];refine pp rfl rfl (b5 rfl rfl Tryd.underlying31 bL (by omega)) ?_;simp only[nf];refine pm (pm ?_);simp only[nf];refine pp rfl rfl (ac rfl rfl (by exact aE (n:=1) (by omega))) ?_;simp only[nf];refine pp rfl rfl (b5 rfl rfl Tryd.underlying31 bL (by omega)) ?_;simp only[nf];refine pq rfl rfl (ah rfl Tryd.underlying5 rfl ((hH.blk 0 rfl).cell (bK (by omega)))) ?_;simp only[nf];refine pq rfl rfl (ah rfl Tryd.underlying5 rfl ((hH.blk 0 rfl).cell (bK (by omega)))) ?_;simp only[nf];refine pq rfl rfl (ah rfl Tryd.underlying5 rfl ((hH.blk 0 rfl).cell (bK (by omega)))) ?_;simp only[nf];refine pp rfl rfl (ac rfl rfl (ck _ _)) ?_;simp only[nf];refine pq rfl rfl (aj B5 (fun w' hw=>jS _ w') rfl) ?_;simp only[nf];refine pp rfl rfl (ac rfl rfl (ck _ _)) ?_;simp only[nf];refine pp rfl rfl (ac rfl rfl (ck _ _)) ?_;simp only[nf];refine pp rfl rfl (b5 rfl rfl Tryd.underlying31 bL (by omega)) ?_;simp only[nf];refine am 0 rfl rfl hH rfl rfl rfl rfl bL (by simp<;>omega) ?_;clear hH;intro w19 hH;simp only[nf,nh,Value.cells]at hH⊢;refine aa hH fun w20 hH=>hK16 _ _ (ak [.p 0,.p 1] ?_);refine pp rfl rfl (ac rfl rfl (by exact aE (n:=1) (by omega))) ?_;simp only[nf];refine pm ?_;simp only[nf];refine aa hH fun w21 hH=>?_;simp only[Exit.then,Exit.inBlock,↓reduceIte,Nat.reduceEqDiff];refine⟨3 - (k+1),?_,_,rfl,by kernel_rfl,?_⟩
  · omega
  simp only[ga];refine⟨k+1,rfl,?_,rfl,?_⟩
  ·exact hH.say 0 rfl (bI fun i hi=>yO f o k i (by omega))
  · omega
 ·simp only[dm]at hc15;refine wp_exit ?_;simp only[Exit.then,Exit.inBlock,↓reduceIte,Nat.reduceEqDiff];refine hK3 _ _ (en [.p 0,.p 1,.p 3,.p 4,.p 5,.p 7,.q 2,.q 6,.p 8,.q 9,.p 10,.p 11,.p 12,.e 13] ?_);refine pm ?_;simp only[nf];refine pp rfl rfl (b5 (i:=3) rfl rfl Tryd.underlying31 bL (by omega)) ?_;simp only[nf];refine pm (pm ?_);simp only[nf];refine pp rfl rfl (b5 (i:=3) rfl rfl Tryd.underlying31 bL (by omega)) ?_;simp only[nf];refine pm ?_;simp only[nf];refine pq rfl rfl (ah rfl Tryd.underlying5 rfl ((hH.blk 0 rfl).cell (bK (by omega)))) ?_;simp only[nf];refine pq rfl rfl (ah rfl Tryd.underlying5 rfl ((hH.blk 0 rfl).cell (bK (by omega)))) ?_;simp only[nf];refine pp rfl rfl (ac rfl rfl (ck _ _)) ?_;simp only[nf];refine pq rfl rfl (aj B5 (fun w' hw=>jS _ w') rfl) ?_;simp only[nf];refine pp rfl rfl (ac rfl rfl (ck _ _)) ?_;simp only[nf];refine pp rfl rfl (ac rfl rfl (ck _ _)) ?_;simp only[nf];refine pp rfl rfl (b5 (i:=3) rfl rfl Tryd.underlying31 bL (by omega)) ?_;simp only[nf];refine am 0 rfl rfl hH rfl rfl rfl rfl bL (by simp<;>omega) ?_;clear hH;intro w22 hH;simp only[nf,nh,Value.cells]at hH⊢;refine aa hH fun w23 hH=>?_;refine BP.normal ?_;refine BP.ret0 rfl rfl ?_;exact⟨rfl,hH.chg,(hH.say 0 rfl (bI fun i hi=>yI f o k i (by omega) (by omega))).blk 0 rfl⟩
def uW (s:Nat→UInt8):Nat→UInt8:=fun j=>us (s ((j+4*(j%4))%16)).toNat
def wb (t:Nat→UInt8):Nat→(Nat→UInt8)
  |0=>t
  |n+1=>kD (wb t n) (4*n)
def kF (k s:Nat→UInt8):Nat→(Nat→UInt8)
  |0=>fun j=>s j^^^k j
  |n+1=>fun j=>(if n+1<10 then wb (uW (kF k s n)) 4 else uW (kF k s n)) j^^^k ((n+1)*16+j)
theorem qq (k s:Nat→UInt8) (n:Nat):kF k s (n+1)=fun j=>(if n+1<10 then wb (uW (kF k s n)) 4 else uW (kF k s n)) j^^^k ((n+1)*16+j):=rfl
theorem pD (bc:Nat) (kf f:Nat→UInt8) (w:World) (hc:cD w bc 140 (a9 176 kf)):
    aZ Tryd.prog 88 #[PT bc 0,.agg (a9 16 f)] w fun v w'=>v= .agg (a9 16 (kF kf f 10))∧Chg [] w w':=by
 refine aZ.enter Tryd.func88 rfl ?_;simp only[Tryd.ntmps88,fe,Nat.reduceAdd,Nat.reduceSub];have hH:=Hp.start [] w;refine wp_seq_k fun K1 hK1=>ak [.x 0,.x 1] ?_;refine aX rfl rfl hH rfl ?_;clear hH;intro b2 w3 hH;simp only[nf,nh,Value.cells]at hH⊢;refine au rfl rfl hH kL ?_;clear hH;intro b4 w5 hH;simp only[nf,nh,Value.cells]at hH⊢;refine aa hH fun w6 hH=>hK1 _ _ (wp_seq_k fun K7 hK7=>en [.p 1,.p 2,.p 3,.p 4,.q 0,.q 5,.q 6,.x 7,.e 8] ?_);refine pm ?_;simp only[nf];refine pp rfl rfl (ae rfl) ?_;simp only[nf];refine pp rfl rfl (ab 0 rfl Tryd.underlying140 rfl rfl qH) ?_;simp only[nf];refine pp rfl rfl (cu (i:=0) rfl rfl Tryd.underlying138 dF (by omega)) ?_;simp only[nf];refine pq rfl rfl (aA rfl (hH.blk 0 rfl) Tryd.underlying125 rfl dF (by simp)) ?_;simp only[nf];refine pq rfl rfl (oR rfl (hH.chg.nil_blk hc) Tryd.underlying125 rfl dF (by omega)) ?_;simp only[nf];refine pq rfl rfl (aj Cg (fun w' hw=>nG _ _ w') rfl) ?_;simp only[nf];refine au rfl rfl hH kL ?_;clear hH;intro b8 w9 hH;simp only[nf,nh,Value.cells]at hH⊢;refine ao 2 rfl rfl hH rfl rfl rfl bj dF (by simp) (by simp) ?_;clear hH;intro w10 hH;simp only[nf,nh,Value.cells]at hH⊢;refine aa hH fun w11 hH=>hK7 _ _ (wp_seq_k fun K12 hK12=>wp_seq_k fun K13 hK13=>ak [.p 0] ?_);refine ci 1 ?_;simp only[nf];refine aa hH fun w14 hH=>hK13 _ _ (wp_block (bd [6] [7,8,9,17,18,19,20,21,22,23,24,25,26,27,28,29,30,31,32,33,34,35,36,37,38,39,40,41,42,43,44,45,46,47,48,49,50,51,52,53,54,55] (fun(n15:Nat) (vs:List Value) (w':World)=>∃(k:Nat),vs=[bb ((k+1:Nat))]∧Hp [] w w' [(some b2,125,a9 16 f),(some b4,125,a9 16 fun _=>0),(some b8,125,a9 16 (kF kf f k))]∧n15=10 - k∧k≤10) (10 - 0) (by kernel_rfl) ?_ ?_))
 ·simp only[ga];refine⟨0,rfl,?_,rfl,?_⟩
  ·exact hH.say 2 rfl rfl
  · omega
 clear hH;intro n15 vs16 w17 hR18 d0;obtain⟨k,rfl,hH,hn19,hf20⟩:=hR18;simp only[bG,c6,List.set_cons_zero,List.set_cons_succ,Nat.zero_add,Nat.reduceAdd];refine wp_seq_k fun K21 hK21=>wp_seq_k fun K22 hK22=>ak [.p 0,.p 1] ?_;refine pm ?_;simp only[nf];refine pp rfl rfl (ac rfl rfl (by exact jq (n:=10))) ?_;simp only[nf];refine aa hH fun w23 hH=>hK22 _ _ (wp_cond_split rfl (fun hc24=>?_) (fun hc24=>?_))
 ·simp only[dm]at hc24;refine wp_skip (hK21 _ _ (wp_seq_k fun K25 hK25=>wp_block (wp_seq_k fun K26 hK26=>ak [.x 0] ?_)));refine au rfl rfl hH kL ?_;clear hH;intro b27 w28 hH;simp only[nf,nh,Value.cells]at hH⊢;refine aa hH fun w29 hH=>hK26 _ _ (wp_seq_k fun K30 hK30=>wp_seq_k fun K31 hK31=>ak [.p 0] ?_);refine pk 0 ?_;simp only[nf];refine aa hH fun w32 hH=>hK31 _ _ (wp_block (bd [21] [8,22,23,24,25,26,27,28,29,30,31,32,33,34,35,36] (fun(n33:Nat) (vs:List Value) (w':World)=>∃(j:Nat),vs=[bb (j:Nat)]∧Hp [] w w' [(some b2,125,a9 16 f),(some b4,125,a9 16 fun _=>0),(some b8,125,a9 16 (kF kf f k)),(some b27,125,a9 16 fun i=>if i<j then uW (kF kf f k) i else 0)]∧n33=16 - j∧j≤16) (16 - 0) (by kernel_rfl) ?_ ?_))
  ·simp only[ga];refine⟨0,rfl,?_,rfl,?_⟩
   ·exact hH.say 3 rfl (bI fun i hi=>by rw[if_neg (by omega)])
   · omega
  clear hH;intro n33 vs34 w35 hR36 d1;obtain⟨j,rfl,hH,hn37,hf38⟩:=hR36;simp only[bG,c6,List.set_cons_zero,List.set_cons_succ,Nat.zero_add,Nat.reduceAdd];refine wp_seq_k fun K39 hK39=>ak [.p 0] ?_;refine pp rfl rfl (ac rfl rfl (by exact aJ (n:=16))) ?_;simp only[nf];refine aa hH fun w40 hH=>hK39 _ _ (wp_seq_k fun K41 hK41=>wp_cond_split rfl (fun hc42=>?_) (fun hc42=>?_))
  ·simp only[dm]at hc42;refine wp_skip (hK41 _ _ (wp_seq_k fun K43 hK43=>wp_block (wp_seq_k fun K44 hK44=>ak [.p 0,.p 1] ?_)));refine pm (pa ?_);simp only[nf];refine aa hH fun w45 hH=>hK44 _ _ (en [.p 0,.p 2,.p 3,.p 4,.p 5,.p 6,.p 7,.p 8,.q 1,.q 9,.p 10,.p 11,.e 12] ?_);refine pm (pm (pm ?_));simp only[nf];refine pp rfl rfl (ac rfl rfl (by first|exact dM (n:=4) (by omega))) ?_;simp only[nf];refine pp rfl rfl (ac rfl rfl (by exact dV (m:=4) (by omega))) ?_;simp only[nf];refine pp rfl rfl (ac rfl rfl (by exact aE (by omega))) ?_;simp only[nf];refine pp rfl rfl (ac rfl rfl (by first|exact dM (n:=16) (by omega))) ?_;simp only[nf];refine pp rfl rfl (aq rfl rfl Tryd.underlying125 bL (by omega)) ?_;simp only[nf];refine pq rfl rfl (aj cf86 (fun w' hw=>qZ w') rfl) ?_;simp only[nf];refine pq rfl rfl (ah rfl Tryd.underlying5 rfl ((hH.blk 2 rfl).cell (bK (by omega)))) ?_;simp only[nf];refine pp rfl rfl (eC rfl rfl Tryd.underlying142 bL (mh Tryd.underlying5 rfl) (by exact i4 _) (bK (by exact i4 _))) ?_;simp only[nf];refine pp rfl rfl (aq rfl rfl Tryd.underlying125 bL (by omega)) ?_;simp only[nf];refine am 3 rfl rfl hH rfl rfl rfl rfl bL (by simp<;>omega) ?_;clear hH;intro w46 hH;simp only[nf,nh,Value.cells]at hH⊢;refine aa hH fun w47 hH=>hK43 _ _ (ak [.p 0,.p 1] ?_);refine pp rfl rfl (ac rfl rfl (by exact aE (n:=1) (by omega))) ?_;simp only[nf];refine pm ?_;simp only[nf];refine aa hH fun w48 hH=>?_;simp only[Exit.then,Exit.inBlock,↓reduceIte,Nat.reduceEqDiff];refine⟨16 - (j+1),?_,_,rfl,by kernel_rfl,?_⟩
   · omega
   simp only[ga];refine⟨j+1,rfl,?_,rfl,?_⟩
   ·exact hH.say 3 rfl (bI fun i hi=>nM (g:=uW (kF kf f k)) (z:=fun _=>0) rfl i)
   · omega
  ·simp only[dm]at hc42;refine wp_exit ?_;simp only[Exit.then,Exit.inBlock,↓reduceIte,Nat.reduceEqDiff];refine hK30 _ _ (wp_seq_k fun K49 hK49=>wp_seq_k fun K50 hK50=>ak [.p 0,.p 1] ?_);refine pm ?_;simp only[nf];refine pp rfl rfl (ac rfl rfl (by exact aJ (n:=10))) ?_;simp only[nf];refine aa hH fun w51 hH=>hK50 _ _ (wp_cond_split rfl (fun hc52=>?_) (fun hc52=>?_))
   ·simp only[dm]at hc52;refine wp_seq_k fun K53 hK53=>ak [.p 0] ?_;refine ci 0 ?_;simp only[nf];refine aa hH fun w54 hH=>hK53 _ _ (wp_block (bd [9] [39,40,41,42,43,44,45,46,47] (fun(n55:Nat) (vs:List Value) (w':World)=>∃(j:Nat),vs=[bb ((4*j:Nat))]∧Hp [] w w' [(some b2,125,a9 16 f),(some b4,125,a9 16 fun _=>0),(some b8,125,a9 16 (kF kf f k)),(some b27,125,a9 16 (wb (uW (kF kf f k)) j))]∧n55=4 - j∧j≤4) (4 - 0) (by kernel_rfl) ?_ ?_))
    ·simp only[ga];refine⟨0,rfl,?_,rfl,?_⟩
     ·exact hH.say 3 rfl (bI fun i hi=>by rw[if_pos (by omega)];rfl)
     · omega
    clear hH;intro n55 vs56 w57 hR58 d2;obtain⟨j,rfl,hH,hn59,hf60⟩:=hR58;simp only[bG,c6,List.set_cons_zero,List.set_cons_succ,Nat.zero_add,Nat.reduceAdd];refine wp_seq_k fun K61 hK61=>wp_seq_k fun K62 hK62=>ak [.p 0,.p 1] ?_;refine pm ?_;simp only[nf];refine pp rfl rfl (ac rfl rfl (by exact aJ (n:=16))) ?_;simp only[nf];refine aa hH fun w63 hH=>hK62 _ _ (wp_cond_split rfl (fun hc64=>?_) (fun hc64=>?_))
    ·simp only[dm]at hc64;refine wp_skip (hK61 _ _ (wp_seq_k fun K65 hK65=>wp_block (ak [.p 0,.p 1,.p 2,.p 3,.e 4] ?_)));refine pm (pm ?_);simp only[nf];refine pp rfl rfl (ac rfl rfl (by exact aE (n:=4) (by omega))) ?_;simp only[nf];refine pp rfl rfl (nV rfl rfl rfl Tryd.underlying125 bL (by omega) (by omega) (by omega)) ?_;simp only[nf];simp only[Nat.mul_one,Nat.zero_add,Nat.add_sub_cancel_left];refine aB rfl rfl hH cf97 (fun w' hH=>rN _ _ _ _ _ _ (by omega) w' (hH.blk 3 rfl)) rfl ?_;clear hH;intro w66 v67 w68 hH hp69;obtain⟨rfl,hg,hbk⟩:=hp69;replace hH:=hH.callw 3 rfl hg hbk;clear hg hbk;simp only[nf,nh,Value.cells]at hH⊢;refine aa hH fun w70 hH=>hK65 _ _ (ak [.p 0,.p 1,.p 2] ?_);refine pm ?_;simp only[nf];refine pp rfl rfl (ac rfl rfl (by exact aE (n:=4) (by omega))) ?_;simp only[nf];refine pa ?_;simp only[nf];refine aa hH fun w71 hH=>?_;simp only[Exit.then,Exit.inBlock,↓reduceIte,Nat.reduceEqDiff];refine⟨4 - (j+1),?_,_,rfl,by kernel_rfl,?_⟩
     · omega
     simp only[ga];refine⟨j+1,rfl,?_,rfl,?_⟩
     ·exact hH
     · omega
    ·simp only[dm]at hc64;refine wp_exit ?_;simp only[Exit.then,Exit.inBlock,↓reduceIte,Nat.reduceEqDiff];refine hK49 _ _ (en [.p 1,.p 2,.p 3,.p 4,.p 5,.q 0,.q 6,.q 7,.e 8] ?_);refine pm (pm ?_);simp only[nf];refine pp rfl rfl (ae rfl) ?_;simp only[nf];refine pp rfl rfl (ab 0 rfl Tryd.underlying140 rfl rfl qH) ?_;simp only[nf];refine pp rfl rfl (cu rfl rfl Tryd.underlying138 dF (by omega)) ?_;simp only[nf];refine pq rfl rfl (aA rfl (hH.blk 3 rfl) Tryd.underlying125 rfl dF (by simp)) ?_;simp only[nf];refine pq rfl rfl (oR rfl (hH.chg.nil_blk hc) Tryd.underlying125 rfl dF (by omega)) ?_;simp only[nf];refine pq rfl rfl (aj Cg (fun w' hw=>nG _ _ w') rfl) ?_;simp only[nf];refine ao 2 rfl rfl hH rfl rfl rfl bj dF (by simp) (by simp) ?_;clear hH;intro w72 hH;simp only[nf,nh,Value.cells]at hH⊢;refine aa hH fun w73 hH=>hK25 _ _ (ak [.p 0,.p 1,.p 2] ?_);refine pm ?_;simp only[nf];refine pp rfl rfl (ac rfl rfl (by exact aE (n:=1) (by omega))) ?_;simp only[nf];refine pa ?_;simp only[nf];refine aa hH fun w74 hH=>?_;simp only[Exit.then,Exit.inBlock,↓reduceIte,Nat.reduceEqDiff];refine⟨10 - (k+1),?_,_,rfl,by kernel_rfl,?_⟩
     · omega
     simp only[ga];refine⟨k+1,rfl,?_,rfl,?_⟩
     ·obtain rfl:j=4:=by omega
      exact(hH.take 3).say 2 rfl (bI fun i hi=>by rw[qq];rw[if_pos (by omega)])
     · omega
   ·simp only[dm]at hc52;refine wp_skip (hK49 _ _ (en [.p 1,.p 2,.p 3,.p 4,.p 5,.q 0,.q 6,.q 7,.e 8] ?_));refine pm (pm ?_);simp only[nf];refine pp rfl rfl (ae rfl) ?_;simp only[nf];refine pp rfl rfl (ab 0 rfl Tryd.underlying140 rfl rfl qH) ?_;simp only[nf];refine pp rfl rfl (cu rfl rfl Tryd.underlying138 dF (by omega)) ?_;simp only[nf];refine pq rfl rfl (aA rfl (hH.blk 3 rfl) Tryd.underlying125 rfl dF (by simp)) ?_;simp only[nf];refine pq rfl rfl (oR rfl (hH.chg.nil_blk hc) Tryd.underlying125 rfl dF (by omega)) ?_;simp only[nf];refine pq rfl rfl (aj Cg (fun w' hw=>nG _ _ w') rfl) ?_;simp only[nf];refine ao 2 rfl rfl hH rfl rfl rfl bj dF (by simp) (by simp) ?_;clear hH;intro w75 hH;simp only[nf,nh,Value.cells]at hH⊢;refine aa hH fun w76 hH=>hK25 _ _ (ak [.p 0,.p 1,.p 2] ?_);refine pm ?_;simp only[nf];refine pp rfl rfl (ac rfl rfl (by exact aE (n:=1) (by omega))) ?_;simp only[nf];refine pa ?_;simp only[nf];refine aa hH fun w77 hH=>?_;simp only[Exit.then,Exit.inBlock,↓reduceIte,Nat.reduceEqDiff];refine⟨10 - (k+1),?_,_,rfl,by kernel_rfl,?_⟩
    · omega
    simp only[ga];refine⟨k+1,rfl,?_,rfl,?_⟩
    ·exact(hH.take 3).say 2 rfl (bI fun i hi=>by rw[qq];rw[if_neg (by omega:¬k+1<10),if_pos (by omega:i<j)])
    · omega
 ·simp only[dm]at hc24;refine wp_exit ?_;simp only[Exit.then,Exit.inBlock,↓reduceIte,Nat.reduceEqDiff];refine hK12 _ _ (wp_seq_k fun K78 hK78=>ak [.q 0,.e 1] ?_);refine pq rfl rfl (aA rfl (hH.blk 2 rfl) Tryd.underlying125 rfl dF (by simp)) ?_;simp only[nf];refine ao 1 rfl rfl hH rfl rfl rfl bj dF (by simp) (by simp) ?_;clear hH;intro w79 hH;simp only[nf,nh,Value.cells]at hH⊢;refine aa hH fun w80 hH=>hK78 _ _ (wp_ret ?_);refine BP.retc rfl rfl (hH.blk 1 rfl) Tryd.underlying125 rfl dF (by simp) ?_;obtain rfl:k=10:=by omega
  exact⟨rfl,hH.chg⟩
end Go.Proofs.YtomjbepgbnbgmaaDoor
namespace Go.Proofs.YtomjbepgbnbgmaaDoor
open Go
open List (getD_cons_zero getD_cons_succ set_cons_zero set_cons_succ)
def yN:Nat→UInt8
  |0=>1
  |n+1=>dbl (yN n)
def el (key:Nat→UInt8) (n:Nat):UInt8:=
  if n<16 then key n
  else if n%16<4 then el key (n - 16)^^^(us (el key (n - n%16 - 4+(n%16+1)%4)).toNat^^^(if n%16=0 then yN (n/16 - 1)else 0))
  else el key (n - 16)^^^el key (n - 4)
termination_by n
decreasing_by all_goals omega
theorem Ai (key:Nat→UInt8) {n:Nat} (h:n<16):el key n=key n:=by rw[el,if_pos h]
theorem zg (key:Nat→UInt8) {n:Nat} (h:16≤n) (h1:n%16<4):el key n=el key (n - 16)^^^(us (el key (n - n%16 - 4+(n%16+1)%4)).toNat^^^(if n%16=0 then yN (n/16 - 1)else 0)):=by
  rw[el,if_neg (by omega),if_pos h1]
theorem Cj (key:Nat→UInt8) {n:Nat} (h:16≤n) (h1:¬n%16<4):el key n=el key (n - 16)^^^el key (n - 4):=by
  rw[el,if_neg (by omega),if_neg h1]
theorem rx {g:Nat→UInt8} {m m' m'':Nat} {v:UInt8} (h1:m'=m) (h2:m''=m+1) (hv:v=g m) (i:Nat):
    dn (fun n=>if n<m then g n else 0) m' v i=if i<m'' then g i else 0:=by
  subst h1 h2 hv;simp only[dn];by_cases h:i=m'
  · subst h;rw[if_pos rfl,if_pos (by omega)]
  · rw[if_neg h]
    by_cases h1:i<m'
    · rw[if_pos h1,if_pos (by omega)]
    · rw[if_neg h1,if_neg (by omega)]
theorem At (g:Nat→UInt8) (k j:Nat) (hj:j<4) (h0:¬j=0):
    ((if (k + 1 - 1) * 16 + j < 16 * (k + 1) + j then el g ((k + 1 - 1) * 16 + j) else 0) ^^^
      us (if (k + 1 - 1) * 16 + (12 + (j + 1) % 4) < 16 * (k + 1) + j then el g ((k + 1 - 1) * 16 + (12 + (j + 1) % 4)) else 0).toNat) = el g (16 * (k + 1) + j) := by
  rw[if_pos (by omega),if_pos (by omega),zg (n:=16*(k+1)+j) _ (by omega) (by omega),if_neg (by omega),UInt8.xor_zero];rw[show 16*(k+1)+j - 16=(k+1 - 1)*16+j by omega,show 16*(k+1)+j - (16*(k+1)+j)%16 - 4+((16*(k+1)+j)%16+1)%4=(k+1 - 1)*16+(12+(j+1)%4)by omega]
theorem AY (g:Nat→UInt8) (k j:Nat) (h0:j=0):
    ((if (k + 1 - 1) * 16 + j < 16 * (k + 1) + j then el g ((k + 1 - 1) * 16 + j) else 0) ^^^
      (us (if (k + 1 - 1) * 16 + (12 + (j + 1) % 4) < 16 * (k + 1) + j then el g ((k + 1 - 1) * 16 + (12 + (j + 1) % 4)) else 0).toNat ^^^ yN k)) = el g (16 * (k + 1) + j) := by
  subst h0;rw[if_pos (by omega),if_pos (by omega),zg (n:=16*(k+1)+0) _ (by omega) (by omega),if_pos (by omega)];rw[show 16*(k+1)+0 - 16=(k+1 - 1)*16+0 by omega,show 16*(k+1)+0 - (16*(k+1)+0)%16 - 4+((16*(k+1)+0)%16+1)%4=(k+1 - 1)*16+(12+(0+1)%4)by omega,show(16*(k+1)+0)/16 - 1=k by omega]
theorem Av (g:Nat→UInt8) (k j:Nat) (hj:4≤j) (hj':j<16):
    ((if (k + 1 - 1) * 16 + j < 16 * (k + 1) + j then el g ((k + 1 - 1) * 16 + j) else 0) ^^^
      if (k + 1) * 16 + (j - 4) < 16 * (k + 1) + j then el g ((k + 1) * 16 + (j - 4)) else 0) = el g (16 * (k + 1) + j) := by
  rw[if_pos (by omega),if_pos (by omega),Cj (n:=16*(k+1)+j) _ (by omega) (by omega)];rw[show 16*(k+1)+j - 16=(k+1 - 1)*16+j by omega,show 16*(k+1)+j - 4=(k+1)*16+(j - 4)by omega]
theorem x' (key:Value) (l:List UInt8) (w:World) (hk:Sl w key l) (hl:l.length=16):
    aZ Tryd.prog 77 #[key] w fun v w'=>∃b,v= .tuple #[PT b 0,bb (0:Nat)]∧Chg [] w w'∧w.heap.size≤b∧cD w' b 140 (a9 176 (el fun i=>l.getD i 0)):=by
 refine aZ.enter Tryd.func77 rfl ?_;simp only[Tryd.ntmps77,fe,Nat.reduceAdd,Nat.reduceSub];have hH:=Hp.start [] w;refine wp_seq_k fun K1 hK1=>ak [.p 0,.p 1] ?_;refine pa (ci 0 ?_);simp only[nf];refine aa hH fun w2 hH=>hK1 _ _ (wp_seq_k fun K3 hK3=>wp_seq_k fun K4 hK4=>ak [.p 0,.p 1,.p 2] ?_);refine pm ?_;simp only[nf];refine pp rfl rfl (aM (hk.chg hH.chg) rfl Tryd.underlying31) ?_;simp only[nf];refine pp rfl rfl (ac rfl rfl (by exact an (n:=16))) ?_;simp only[nf];refine aa hH fun w5 hH=>hK4 _ _ (wp_cond_false (by show BV _=_;rw[hl];rfl) (wp_skip (hK3 _ _ (wp_seq_k fun K6 hK6=>ak [.p 0,.x 1,.p 2] ?_))));refine aI (v:= .agg (a9 176 fun _=>0)) rfl rfl (fun w=>by kernel_rfl) ?_;simp only[nf];refine aX rfl rfl hH rfl ?_;clear hH;intro b7 w8 hH;simp only[nf,nh,Value.cells]at hH⊢;refine pa ?_;simp only[nf];refine aa hH fun w9 hH=>hK6 _ _ (wp_seq_k fun K10 hK10=>ak [.p 0,.p 1,.p 2,.p 3,.p 4,.p 5,.e 6] ?_);refine pm ?_;simp only[nf];refine pp rfl rfl (ae rfl) ?_;simp only[nf];refine pp rfl rfl (ab 0 rfl Tryd.underlying140 rfl rfl qH) ?_;simp only[nf];refine pp rfl rfl (cu (i:=0) rfl rfl Tryd.underlying138 dF (by omega)) ?_;simp only[nf];refine pp rfl rfl (aR rfl Tryd.underlying125 bL) ?_;simp only[nf];refine pm ?_;simp only[nf];refine lu 0 rfl rfl hH rfl (fun w' hH=>((hk.chg hH.chg)).csrc) rfl rfl Tryd.underlying31 bL (by omega) ?_;clear hH;intro w11 hH;simp only[nf,nh,Value.cells]at hH⊢;refine aa hH fun w12 hH=>hK10 _ _ (wp_seq_k fun K13 hK13=>ak [.p 0] ?_);refine pa ?_;simp only[nf];refine aa hH fun w14 hH=>hK13 _ _ (wp_seq_k fun K15 hK15=>wp_seq_k fun K16 hK16=>ak [.p 0] ?_);refine ci 1 ?_;simp only[nf];refine aa hH fun w17 hH=>hK16 _ _ (wp_block (bd [5,6] [7,8,9,10,23,24,25,26,27,28,29,30,31,32,33,34,35,36,37,38,39,40,41,42,43,44,45,46,47,48,49,50,51,52,53,54,55,56,57,58,59,60,61,62,63,64,65,66,67,68,69,70,71,72,73,74,75,76,77] (fun(n18:Nat) (vs:List Value) (w':World)=>∃(k:Nat),vs=[V8 (yN k),bb ((k+1:Nat))]∧Hp [] w w' [(some b7,140,a9 176 fun n=>if n<16*(k+1)then el (fun i=>l.getD i 0) n else 0)]∧n18=10 - k∧k≤10) (10 - 0) (by kernel_rfl) ?_ ?_))
 ·simp only[ga];refine⟨0,rfl,?_,rfl,?_⟩
  ·refine hH.say 0 rfl (bI fun i hi=>?_);by_cases h:i<16
   · rw[if_pos (by omega),if_pos (by omega),Ai _ h];rfl
   · rw[if_neg (by omega),if_neg (by omega)]
  · omega
 clear hH;intro n18 vs19 w20 hR21 d0;obtain⟨k,rfl,hH,hn22,hf23⟩:=hR21;simp only[bG,c6,List.set_cons_zero,List.set_cons_succ,Nat.zero_add,Nat.reduceAdd];refine wp_seq_k fun K24 hK24=>wp_seq_k fun K25 hK25=>ak [.p 0,.p 1] ?_;refine pm ?_;simp only[nf];refine pp rfl rfl (ac rfl rfl (by exact jq (n:=10))) ?_;simp only[nf];refine aa hH fun w26 hH=>hK25 _ _ (wp_cond_split rfl (fun hc27=>?_) (fun hc27=>?_))
 ·simp only[dm]at hc27;refine wp_skip (hK24 _ _ (wp_seq_k fun K28 hK28=>wp_block (wp_seq_k fun K29 hK29=>en [.p 0,.p 1,.p 2,.p 3,.p 4,.p 5,.p 6,.p 7,.p 8,.p 9,.p 10,.p 11,.p 12] ?_)));refine pm (pm ?_);simp only[nf];refine pp rfl rfl (ac rfl rfl (by exact cj (n:=1) (by omega) (by omega))) ?_;simp only[nf];refine pp rfl rfl (ae rfl) ?_;simp only[nf];refine pp rfl rfl (ab 0 rfl Tryd.underlying140 rfl rfl qH) ?_;simp only[nf];refine pp rfl rfl (cu rfl rfl Tryd.underlying138 dF (by omega)) ?_;simp only[nf];refine pm (pm ?_);simp only[nf];refine pp rfl rfl (ae rfl) ?_;simp only[nf];refine pp rfl rfl (ab 0 rfl Tryd.underlying140 rfl rfl qH) ?_;simp only[nf];refine pp rfl rfl (cu rfl rfl Tryd.underlying138 dF (by omega)) ?_;simp only[nf];refine pa (pa ?_);simp only[nf];refine aa hH fun w30 hH=>hK29 _ _ (wp_seq_k fun K31 hK31=>wp_seq_k fun K32 hK32=>ak [.p 0] ?_);refine pk 0 ?_;simp only[nf];refine aa hH fun w33 hH=>hK32 _ _ (wp_block (bd [38] [9,10,39,40,41,42,43,44,45,46,47,48,49,50,51,52,53,54,55,56,57,58,59,60,61,62,63,64,65,66,67,68,69,70,71,72,73,74,75] (fun(n34:Nat) (vs:List Value) (w':World)=>∃(j:Nat),vs=[bb (j:Nat)]∧Hp [] w w' [(some b7,140,a9 176 fun n=>if n<16*(k+1)+j then el (fun i=>l.getD i 0) n else 0)]∧n34=16 - j∧j≤16) (16 - 0) (by kernel_rfl) ?_ ?_))
  ·simp only[ga];refine⟨0,rfl,?_,rfl,?_⟩
   ·exact hH
   · omega
  clear hH;intro n34 vs35 w36 hR37 d1;obtain⟨j,rfl,hH,hn38,hf39⟩:=hR37;simp only[bG,c6,List.set_cons_zero,List.set_cons_succ,Nat.zero_add,Nat.reduceAdd];refine wp_seq_k fun K40 hK40=>ak [.p 0] ?_;refine pp rfl rfl (ac rfl rfl (by exact aJ (n:=16))) ?_;simp only[nf];refine aa hH fun w41 hH=>hK40 _ _ (wp_seq_k fun K42 hK42=>wp_cond_split rfl (fun hc43=>?_) (fun hc43=>?_))
  ·simp only[dm]at hc43;refine wp_skip (hK42 _ _ (wp_seq_k fun K44 hK44=>wp_block (wp_seq_k fun K45 hK45=>ak [.p 0,.p 1] ?_)));refine pm (pa ?_);simp only[nf];refine aa hH fun w46 hH=>hK45 _ _ (wp_seq_k fun K47 hK47=>ak [.p 0] ?_);refine pa ?_;simp only[nf];refine aa hH fun w48 hH=>hK47 _ _ (wp_seq_k fun K49 hK49=>wp_seq_k fun K50 hK50=>ak [.p 0,.p 1] ?_);refine pm ?_;simp only[nf];refine pp rfl rfl (ac rfl rfl (by exact aJ (n:=4))) ?_;simp only[nf];refine aa hH fun w51 hH=>hK50 _ _ (wp_cond_split rfl (fun hc52=>?_) (fun hc52=>?_))
   ·simp only[dm]at hc52;refine wp_seq_k fun K53 hK53=>en [.p 1,.p 2,.p 3,.p 4,.p 5,.p 6,.p 7,.q 0,.q 8,.p 9,.p 10] ?_;refine pm (pm ?_);simp only[nf];refine pp rfl rfl (ac rfl rfl (by exact aE (n:=1) (by omega))) ?_;simp only[nf];refine pp rfl rfl (ac rfl rfl (by first|exact dM (n:=4) (by omega))) ?_;simp only[nf];refine pp rfl rfl (ac rfl rfl (by exact aE (m:=12) (by omega))) ?_;simp only[nf];refine pp rfl rfl (ae rfl) ?_;simp only[nf];refine pp rfl rfl (aq rfl rfl Tryd.underlying125 bL (by omega)) ?_;simp only[nf];refine pq rfl rfl (aj cf86 (fun w' hw=>qZ w') rfl) ?_;simp only[nf];refine pq rfl rfl (ah rfl Tryd.underlying5 rfl ((hH.blk 0 rfl).cell (bK (by omega)))) ?_;simp only[nf];refine pp rfl rfl (eC rfl rfl Tryd.underlying142 bL (mh Tryd.underlying5 rfl) (by exact i4 _) (bK (by exact i4 _))) ?_;simp only[nf];refine pa ?_;simp only[nf];refine aa hH fun w54 hH=>hK53 _ _ (wp_seq_k fun K55 hK55=>ak [.p 0,.p 1] ?_);refine pm ?_;simp only[nf];refine pp rfl rfl (ac rfl rfl (by exact aS (n:=0))) ?_;simp only[nf];refine aa hH fun w56 hH=>hK55 _ _ (wp_cond_split rfl (fun hc57=>?_) (fun hc57=>?_))
    ·simp only[dm]at hc57;refine ak [.p 0,.p 1,.p 2,.p 3] ?_;refine pm (pm ?_);simp only[nf];refine pp rfl rfl (ac rfl rfl (ck _ _)) ?_;simp only[nf];refine pa ?_;simp only[nf];refine aa hH fun w58 hH=>hK49 _ _ (en [.p 0,.p 1,.p 2,.p 3,.p 4,.p 5,.p 7,.p 9,.q 6,.p 8,.p 10,.e 11] ?_);refine pm (pm (pm (pm ?_)));simp only[nf];refine pp rfl rfl (ae rfl) ?_;simp only[nf];refine pp rfl rfl (aq rfl rfl Tryd.underlying125 bL (by omega)) ?_;simp only[nf];refine pm ?_;simp only[nf];refine pp rfl rfl (ae rfl) ?_;simp only[nf];refine pq rfl rfl (ah rfl Tryd.underlying5 rfl ((hH.blk 0 rfl).cell (bK (by omega)))) ?_;simp only[nf];refine pp rfl rfl (ac rfl rfl (ck _ _)) ?_;simp only[nf];refine pp rfl rfl (aq rfl rfl Tryd.underlying125 bL (by omega)) ?_;simp only[nf];refine am 0 rfl rfl hH rfl rfl rfl rfl bL (by simp<;>omega) ?_;clear hH;intro w59 hH;simp only[nf,nh,Value.cells]at hH⊢;refine aa hH fun w60 hH=>hK44 _ _ (ak [.p 0,.p 1] ?_);refine pp rfl rfl (ac rfl rfl (by exact aE (n:=1) (by omega))) ?_;simp only[nf];refine pm ?_;simp only[nf];refine aa hH fun w61 hH=>?_;simp only[Exit.then,Exit.inBlock,↓reduceIte,Nat.reduceEqDiff];refine⟨16 - (j+1),?_,_,rfl,by kernel_rfl,?_⟩
     · omega
     simp only[ga];refine⟨j+1,rfl,?_,rfl,?_⟩
     ·exact hH.say 0 rfl (bI fun i hi=>rx (by omega) (by omega) (AY _ _ _ (by omega)) i)
     · omega
    ·simp only[dm]at hc57;refine wp_skip (hK49 _ _ (en [.p 0,.p 1,.p 2,.p 3,.p 4,.p 5,.p 7,.p 9,.q 6,.p 8,.p 10,.e 11] ?_));refine pm (pm (pm (pm ?_)));simp only[nf];refine pp rfl rfl (ae rfl) ?_;simp only[nf];refine pp rfl rfl (aq rfl rfl Tryd.underlying125 bL (by omega)) ?_;simp only[nf];refine pm ?_;simp only[nf];refine pp rfl rfl (ae rfl) ?_;simp only[nf];refine pq rfl rfl (ah rfl Tryd.underlying5 rfl ((hH.blk 0 rfl).cell (bK (by omega)))) ?_;simp only[nf];refine pp rfl rfl (ac rfl rfl (ck _ _)) ?_;simp only[nf];refine pp rfl rfl (aq rfl rfl Tryd.underlying125 bL (by omega)) ?_;simp only[nf];refine am 0 rfl rfl hH rfl rfl rfl rfl bL (by simp<;>omega) ?_;clear hH;intro w62 hH;simp only[nf,nh,Value.cells]at hH⊢;refine aa hH fun w63 hH=>hK44 _ _ (ak [.p 0,.p 1] ?_);refine pp rfl rfl (ac rfl rfl (by exact aE (n:=1) (by omega))) ?_;simp only[nf];refine pm ?_;simp only[nf];refine aa hH fun w64 hH=>?_;simp only[Exit.then,Exit.inBlock,↓reduceIte,Nat.reduceEqDiff];refine⟨16 - (j+1),?_,_,rfl,by kernel_rfl,?_⟩
     · omega
     simp only[ga];refine⟨j+1,rfl,?_,rfl,?_⟩
     ·exact hH.say 0 rfl (bI fun i hi=>rx (by omega) (by omega) (At _ _ _ (by omega) (by omega)) i)
     · omega
   ·simp only[dm]at hc52;refine ak [.p 0,.p 1,.p 2,.p 3,.p 4,.q 5,.p 6] ?_;refine pm (pm ?_);simp only[nf];refine pp rfl rfl (ac rfl rfl (by exact cj (n:=4) (by omega) (by omega))) ?_;simp only[nf];refine pp rfl rfl (ae rfl) ?_;simp only[nf];refine pp rfl rfl (aq rfl rfl Tryd.underlying125 bL (by omega)) ?_;simp only[nf];refine pq rfl rfl (ah rfl Tryd.underlying5 rfl ((hH.blk 0 rfl).cell (bK (by omega)))) ?_;simp only[nf];refine pa ?_;simp only[nf];refine aa hH fun w65 hH=>hK49 _ _ (en [.p 0,.p 1,.p 2,.p 3,.p 4,.p 5,.p 7,.p 9,.q 6,.p 8,.p 10,.e 11] ?_);refine pm (pm (pm (pm ?_)));simp only[nf];refine pp rfl rfl (ae rfl) ?_;simp only[nf];refine pp rfl rfl (aq rfl rfl Tryd.underlying125 bL (by omega)) ?_;simp only[nf];refine pm ?_;simp only[nf];refine pp rfl rfl (ae rfl) ?_;simp only[nf];refine pq rfl rfl (ah rfl Tryd.underlying5 rfl ((hH.blk 0 rfl).cell (bK (by omega)))) ?_;simp only[nf];refine pp rfl rfl (ac rfl rfl (ck _ _)) ?_;simp only[nf];refine pp rfl rfl (aq rfl rfl Tryd.underlying125 bL (by omega)) ?_;simp only[nf];refine am 0 rfl rfl hH rfl rfl rfl rfl bL (by simp<;>omega) ?_;clear hH;intro w66 hH;simp only[nf,nh,Value.cells]at hH⊢;refine aa hH fun w67 hH=>hK44 _ _ (ak [.p 0,.p 1] ?_);refine pp rfl rfl (ac rfl rfl (by exact aE (n:=1) (by omega))) ?_;simp only[nf];refine pm ?_;simp only[nf];refine aa hH fun w68 hH=>?_;simp only[Exit.then,Exit.inBlock,↓reduceIte,Nat.reduceEqDiff];refine⟨16 - (j+1),?_,_,rfl,by kernel_rfl,?_⟩
    · omega
    simp only[ga];refine⟨j+1,rfl,?_,rfl,?_⟩
    ·exact hH.say 0 rfl (bI fun i hi=>rx (by omega) (by omega) (Av _ _ _ (by omega) (by omega)) i)
    · omega
  ·simp only[dm]at hc43;refine wp_exit ?_;simp only[Exit.then,Exit.inBlock,↓reduceIte,Nat.reduceEqDiff];refine hK31 _ _ (ak [.p 0,.q 1,.p 2] ?_);refine pm ?_;simp only[nf];refine pq rfl rfl (aj B5 (fun w' hw=>jS _ w') rfl) ?_;simp only[nf];refine pa ?_;simp only[nf];refine aa hH fun w69 hH=>hK28 _ _ (ak [.p 0,.p 1,.p 2] ?_);refine pm ?_;simp only[nf];refine pp rfl rfl (ac rfl rfl (by exact aE (n:=1) (by omega))) ?_;simp only[nf];refine pa ?_;simp only[nf];refine aa hH fun w70 hH=>?_;simp only[Exit.then,Exit.inBlock,↓reduceIte,Nat.reduceEqDiff];refine⟨10 - (k+1),?_,_,rfl,by kernel_rfl,?_⟩
   · omega
   simp only[ga];refine⟨k+1,rfl,?_,rfl,?_⟩
   ·obtain rfl:j=16:=by omega
    exact hH
   · omega
 ·simp only[dm]at hc27;refine wp_exit ?_;simp only[Exit.then,Exit.inBlock,↓reduceIte,Nat.reduceEqDiff];refine hK15 _ _ (wp_seq_k fun K71 hK71=>ak [.p 0,.p 1,.p 2] ?_);refine pm (pa (ci 0 ?_));simp only[nf];refine aa hH fun w72 hH=>hK71 _ _ (wp_ret ?_);refine BP.ret2 rfl rfl rfl ?_;obtain rfl:k=10:=by omega
  refine⟨b7,rfl,hH.chg,(hH.mine 0 rfl).resolve_right (by simp),(hH.say 0 rfl (bI fun i hi=>?_)).blk 0 rfl⟩;exact if_pos (by omega)
theorem xY (key:Value) (l:List UInt8) (w:World) (hk:Sl w key l) (hl:l.length≠16):
    aZ Tryd.prog 77 #[key] w fun v w'=>v= .tuple #[.pointer none,bb (1:Nat)]∧Chg [] w w':=by
 refine aZ.enter Tryd.func77 rfl ?_;simp only[Tryd.ntmps77,fe,Nat.reduceAdd,Nat.reduceSub];have hH:=Hp.start [] w;refine wp_seq_k fun K1 hK1=>ak [.p 0,.p 1] ?_;refine pa (ci 0 ?_);simp only[nf];refine aa hH fun w2 hH=>hK1 _ _ (wp_seq_k fun K3 hK3=>wp_seq_k fun K4 hK4=>ak [.p 0,.p 1,.p 2] ?_);refine pm (pp rfl rfl (aM (hk.chg hH.chg) rfl Tryd.underlying31) (pp rfl rfl (ac rfl rfl (an (n:=16))) ?_));simp only[nf];refine aa hH fun w5 hH=>hK4 _ _ (wp_cond_true (by show BV _=_;rw[bne_iff_ne.mpr hl]) (wp_seq_k fun K6 hK6=>ak [.p 0,.p 1] ?_));refine pa (ci 1 ?_);simp only[nf];refine aa hH fun w7 hH=>hK6 _ _ (wp_ret ?_);simp only[Exit.then,Exit.inBlock,↓reduceIte,Nat.reduceEqDiff];refine BP.ret2 rfl rfl rfl ?_;exact⟨rfl,hH.chg⟩
theorem s5 (bc:Nat) (kf:Nat→UInt8) (b:Value) (l:List UInt8) (w:World) (hc:cD w bc 140 (a9 176 kf)) (hb:Sl w b l) (hl:l.length=16):
    aZ Tryd.prog 78 #[PT bc 0,b] w fun v w'=>∃nb,v= .tuple #[.slice (some ⟨nb,0,none⟩) 16 16,bb (0:Nat)]∧Chg [] w w'∧w.heap.size≤nb∧cD w' nb 125 (a9 16 (kF kf (fun i=>l.getD i 0) 10)):=by
 refine aZ.enter Tryd.func78 rfl ?_;simp only[Tryd.ntmps78,fe,Nat.reduceAdd,Nat.reduceSub];have hH:=Hp.start [] w;refine wp_seq_k fun K1 hK1=>ak [.p 0,.p 1] ?_;refine pa (ci 0 ?_);simp only[nf];refine aa hH fun w2 hH=>hK1 _ _ (wp_seq_k fun K3 hK3=>wp_seq_k fun K4 hK4=>ak [.p 0,.p 1,.p 2,.p 3,.p 4,.p 5,.p 6] ?_);refine pm (pp rfl rfl (ac rfl rfl (bN Tryd.underlying118)) ?_);simp only[nf];refine aI (v:=BV false) rfl rfl (ap rfl) ?_;simp only[nf];refine pp rfl rfl aw (pp rfl rfl (aM (hb.chg hH.chg) rfl Tryd.underlying31) (pp rfl rfl (ac rfl rfl (an (n:=16))) (pp rfl rfl (aO rfl) ?_)));simp only[nf];refine aa hH fun w5 hH=>hK4 _ _ (wp_cond_false (by show BV _=_;rw[hl];rfl) (wp_skip (hK3 _ _ (wp_seq_k fun K6 hK6=>ak [.p 0,.p 1,.p 2,.q 3,.q 4,.x 5,.e 6] ?_))));refine pm (pm (pp rfl rfl (d' (hb.chg hH.chg) rfl Tryd.underlying125 (by decide) (by omega)) (pq rfl rfl (ea (hb.chg hH.chg) rfl Tryd.underlying125 rfl dF (by omega)) (pq rfl rfl (aj cf88 (fun w' hw=>pD _ _ _ w' (hw.nil_blk (hH.chg.nil_blk hc))) rfl) ?_))));simp only[nf];refine au rfl rfl hH kL ?_;clear hH;intro b7 w8 hH;simp only[nf,nh,Value.cells]at hH⊢;refine ao 0 rfl rfl hH rfl rfl rfl bj dF (by simp) (by simp) ?_;clear hH;intro w9 hH;simp only[nf,nh,Value.cells]at hH⊢;refine aa hH fun w10 hH=>hK6 _ _ (wp_seq_k fun K11 hK11=>ak [.p 0,.p 1,.p 2] ?_);refine pp rfl rfl (aR rfl Tryd.underlying125 bL) (pa (ci 0 ?_));simp only[nf];refine aa hH fun w12 hH=>hK11 _ _ (wp_ret ?_);refine BP.ret2 rfl rfl rfl ?_;exact⟨_,rfl,hH.chg,(hH.mine 0 rfl).resolve_right (by simp),hH.blk 0 rfl⟩
end Go.Proofs.YtomjbepgbnbgmaaDoor
namespace Go.Proofs.YtomjbepgbnbgmaaDoor
open Go
open List (getD_cons_zero getD_cons_succ set_cons_zero set_cons_succ)
def yq (c:Nat→UInt8):UInt32:=(c 12).toUInt32<<<24|||(c 13).toUInt32<<<16|||(c 14).toUInt32<<<8|||(c 15).toUInt32
def rp (c:Nat→UInt8) (n:UInt32) (i:Nat):UInt8:=
  if i=12 then(n>>>24).toUInt8 else if i=13 then(n>>>16).toUInt8 else if i=14 then(n>>>8).toUInt8 else if i=15 then n.toUInt8 else c i
def ksF (kf c:Nat→UInt8) (p:Nat):UInt8:=kF kf (rp c (yq c+UInt32.ofNat (p/16))) 10 (p%16)
def kC (kf c:Nat→UInt8) (a:Nat) (l:List UInt8) (n:Nat):List UInt8:=(List.range n).map fun i=>l.getD i 0^^^ksF kf c (a+i)
theorem xf (kf c:Nat→UInt8) (a:Nat) (l:List UInt8) (n:Nat):kC kf c a l (n+1)=kC kf c a l n++[l.getD n 0^^^ksF kf c (a+n)]:=by
  unfold kC;rw[List.range_succ,List.map_append];rfl
theorem AE (c e:Nat→UInt8) (n:UInt32) (he:∀i,i<12→e i=c i):a9 16 (dn (dn (dn (dn e 12 (n>>>24).toUInt8) 13 (n>>>16).toUInt8) 14 (n>>>8).toUInt8) 15 n.toUInt8)=a9 16 (rp c n):=bI fun i hi=>by
  have h:i<12∨i=12∨i=13∨i=14∨i=15:=by omega
  rcases h with h|rfl|rfl|rfl|rfl
  · simp only[dn,rp]
    rw[if_neg (by omega),if_neg (by omega),if_neg (by omega),if_neg (by omega),if_neg (by omega),if_neg (by omega),if_neg (by omega),if_neg (by omega),he i h]
  all_goals rfl
theorem zw (c:Nat→UInt8) (n:UInt32):∀i,i<12→rp c n i=c i:=fun i h=>by
  unfold rp;rw[if_neg (by omega),if_neg (by omega),if_neg (by omega),if_neg (by omega)]
theorem wQ {kf c:Nat→UInt8} {a p m j K:Nat} {n:UInt32} {l:List UInt8} (h:p<l.length→m=(a+p)%16∧n=yq c+UInt32.ofNat ((a+p)/16)) (hK:K≤16 - m) (hK':K≤(l.drop p).length) (hj:j<((l.drop p).take K).length):
    kC kf c a l (p+j)++[((l.drop p).take K).getD j 0^^^kF kf (rp c n) 10 (m+j)]=kC kf c a l (p+(j+1)):=by
  rw[←Nat.add_assoc,xf];simp only[List.length_take,List.length_drop]at hj hK';obtain⟨rfl,rfl⟩:=h (by omega)
  have e:((l.drop p).take K).getD j 0=l.getD (p+j) 0:=by
    simp only[List.getD,List.getElem?_take,List.getElem?_drop];rw[if_pos (by omega)]
  unfold ksF;rw[e,show(a+(p+j))/16=(a+p)/16 by omega,show(a+(p+j))%16=(a+p)%16+j by omega]
theorem yt {c:Nat→UInt8} {a p m K:Nat} {n:UInt32} {l:List UInt8} (h:p<l.length→m=(a+p)%16∧n=yq c+UInt32.ofNat ((a+p)/16)) (hK:K=min (16 - m) (l.drop p).length) (hm:m<16) (h':p+K<l.length):
    0=(a+(p+K))%16∧n+1=yq c+UInt32.ofNat ((a+(p+K))/16):=by
  rw[List.length_drop]at hK;obtain⟨rfl,rfl⟩:=h (by omega);refine⟨by omega,?_⟩;rw[show(a+(p+K))/16=(a+p)/16+1 by omega,UInt32.add_assoc,UInt32.ofNat_add];rfl
theorem jV (bc:Nat) (kf cf:Nat→UInt8) (c:Value) (cl:List UInt8) (a:Nat) (b:Value) (l:List UInt8) (w:World) (hc:cD w bc 140 (a9 176 kf)) (hcl:Sl w c cl) (hl:cl.length=16) (hcf:∀i,i<16→cl.getD i 0=cf i) (hb:Sl w b l) (ha:a<9223372036854775808) (hbl:l.length≤140737488355328):
    aZ Tryd.prog 81 #[PT bc 0,c,bb (a:Nat),b] w fun v w'=>∃o cap cs,v= .tuple #[own o l.length cap,bb (0:Nat)]∧Chg [] w w'∧OwnC o l.length cap 1 cs ((kC kf cf a l l.length).map V8)∧∀bo,o=some bo→w.heap.size≤bo∧cD w' bo 5 cs:=by
 refine aZ.enter Tryd.func81 rfl ?_;simp only[Tryd.ntmps81,fe,Nat.reduceAdd,Nat.reduceSub];have hH:=Hp.start [] w;refine wp_seq_k fun K1 hK1=>ak [.p 0,.p 1] ?_;refine pa (ci 0 ?_);simp only[nf];refine aa hH fun w2 hH=>hK1 _ _ (wp_seq_k fun K3 hK3=>wp_seq_k fun K4 hK4=>ak [.p 0,.p 1,.p 2,.p 3,.p 4,.p 5,.p 6,.p 7,.p 8,.p 9,.p 10] ?_);refine pm ?_;simp only[nf];refine pp rfl rfl (ac rfl rfl (bN Tryd.underlying118)) ?_;simp only[nf];refine aI (v:=BV false) rfl rfl (ap rfl) ?_;simp only[nf];refine pp rfl rfl aw ?_;simp only[nf];refine pp rfl rfl (aM (hcl.chg hH.chg) rfl Tryd.underlying31) ?_;simp only[nf];refine pp rfl rfl (ac rfl rfl (by exact an (n:=16))) ?_;simp only[nf];refine pp rfl rfl (aO rfl) ?_;simp only[nf];refine aI (v:=BV false) rfl rfl (ap (by show BV _=_;rw[hl];rfl)) ?_;simp only[nf];refine pp rfl rfl aw ?_;simp only[nf];refine pp rfl rfl (ac rfl rfl (by exact aJ (n:=0))) ?_;simp only[nf];refine pp rfl rfl (aO rfl) ?_;simp only[nf];refine aa hH fun w5 hH=>hK4 _ _ (wp_cond_false (by show BV _=_;exact congrArg BV (decide_eq_false (by omega))) (wp_skip (hK3 _ _ (wp_seq_k fun K6 hK6=>ak [.p 0,.p 1,.q 2,.x 3,.e 4] ?_))));refine pm ?_;simp only[nf];refine pp rfl rfl (d' (hcl.chg hH.chg) rfl Tryd.underlying125 (by decide) (by omega)) ?_;simp only[nf];refine pq rfl rfl (ea (hcl.chg hH.chg) rfl Tryd.underlying125 rfl dF (by omega)) ?_;simp only[nf];refine au rfl rfl hH kL ?_;clear hH;intro b7 w8 hH;simp only[nf,nh,Value.cells]at hH⊢;refine ao 0 rfl rfl hH rfl rfl rfl bj dF (by simp) (by simp) ?_;clear hH;intro w9 hH;simp only[nf,nh,Value.cells]at hH⊢;refine aa hH fun w10 hH=>hK6 _ _ (wp_seq_k fun K11 hK11=>ak [.p 0,.q 1,.p 2,.p 3,.p 4,.q 5,.p 6,.p 7,.p 8,.p 9,.q 10,.p 11,.p 12,.p 13,.p 14,.q 15,.p 16,.p 17,.p 18] ?_);refine pp rfl rfl (aq (i:=12) rfl rfl Tryd.underlying125 bL (by omega)) ?_;simp only[nf];refine pq rfl rfl (ah rfl Tryd.underlying5 rfl ((hH.blk 0 rfl).cell (bK (by omega)))) ?_;simp only[nf];refine pp rfl rfl (bw rfl (eV _ Tryd.underlying5 Tryd.underlying132)) ?_;simp only[nf];refine pp rfl rfl (ac rfl rfl (fu 24 24 (by decide) rfl _)) ?_;simp only[nf];refine pp rfl rfl (aq (i:=13) rfl rfl Tryd.underlying125 bL (by omega)) ?_;simp only[nf];refine pq rfl rfl (ah rfl Tryd.underlying5 rfl ((hH.blk 0 rfl).cell (bK (by omega)))) ?_;simp only[nf];refine pp rfl rfl (bw rfl (eV _ Tryd.underlying5 Tryd.underlying132)) ?_;simp only[nf];refine pp rfl rfl (ac rfl rfl (fu 16 16 (by decide) rfl _)) ?_;simp only[nf];refine pp rfl rfl (ac rfl rfl (ez _ _)) ?_;simp only[nf];refine pp rfl rfl (aq (i:=14) rfl rfl Tryd.underlying125 bL (by omega)) ?_;simp only[nf];refine pq rfl rfl (ah rfl Tryd.underlying5 rfl ((hH.blk 0 rfl).cell (bK (by omega)))) ?_;simp only[nf];refine pp rfl rfl (bw rfl (eV _ Tryd.underlying5 Tryd.underlying132)) ?_;simp only[nf];refine pp rfl rfl (ac rfl rfl (fu 8 8 (by decide) rfl _)) ?_;simp only[nf];refine pp rfl rfl (ac rfl rfl (ez _ _)) ?_;simp only[nf];refine pp rfl rfl (aq (i:=15) rfl rfl Tryd.underlying125 bL (by omega)) ?_;simp only[nf];refine pq rfl rfl (ah rfl Tryd.underlying5 rfl ((hH.blk 0 rfl).cell (bK (by omega)))) ?_;simp only[nf];refine pp rfl rfl (bw rfl (eV _ Tryd.underlying5 Tryd.underlying132)) ?_;simp only[nf];refine pp rfl rfl (ac rfl rfl (ez _ _)) ?_;simp only[nf];refine pa ?_;simp only[nf];refine aa hH fun w12 hH=>hK11 _ _ (wp_seq_k fun K13 hK13=>ak [.p 0,.p 1,.p 2,.p 3,.p 4,.p 5] ?_);refine pm (pm ?_);simp only[nf];refine pp rfl rfl (ac rfl rfl (by first|exact gz (n:=16) (by omega) (by omega))) ?_;simp only[nf];refine pp rfl rfl (bw rfl (by exact wN Tryd.underlying3 Tryd.underlying132)) ?_;simp only[nf];refine pp rfl rfl (ac rfl rfl (cU _ _)) ?_;simp only[nf];refine pa ?_;simp only[nf];refine aa hH fun w14 hH=>hK13 _ _ (wp_seq_k fun K15 hK15=>ak [.p 0,.p 1,.p 2] ?_);refine pm ?_;simp only[nf];refine pp rfl rfl (ac rfl rfl (by first|exact dM (n:=16) (by omega))) ?_;simp only[nf];refine pa ?_;simp only[nf];refine aa hH fun w16 hH=>hK15 _ _ (wp_seq_k fun K17 hK17=>ak [.p 0,.p 1,.x 2,.p 3] ?_);refine pm ?_;simp only[nf];refine pp rfl rfl (aM (hb.chg hH.chg) rfl Tryd.underlying31) ?_;simp only[nf];refine lp (n:=0) rfl rfl hH rfl rfl Tryd.underlying31 bL iX iW rfl (by omega) (by omega) (by omega) ?_;clear hH;intro b18 w19 hH;simp only[nf]at hH⊢;rw[lF]at hH;simp only[nf,nh,Value.cells]at hH⊢;refine pa ?_;simp only[nf];refine aa hH fun w20 hH=>hK17 _ _ (wp_seq_k fun K21 hK21=>wp_block (bd [2,3,11,12] [13,14,15,16,59,60,61,62,63,64,65,66,67,68,69,70,71,72,73,74,75,76,77,78,79,80,81,82,83,84,85,86,87,88,89,90,91,92,93,94,95,96,97,98,99,100,101,102,103,104,105,106,107,108,109] (fun(n22:Nat) (vs:List Value) (w':World)=>∃(p m:Nat) (n:UInt32) (e:Nat→UInt8) (bv:Value) (o:Option Nat) (cap:Nat) (cs:Array Value),vs=[bb (m:Nat),bv,gV n,own o p cap]∧Hp [] w w' [(some b7,125,a9 16 e),(o,5,cs)]∧n22=l.length - p∧p≤l.length∧m<16∧Sl w bv (l.drop p)∧OwnC o p cap 1 cs ((kC kf cf a l p).map V8)∧(p<l.length→m=(a+p)%16∧n=yq cf+UInt32.ofNat ((a+p)/16))∧(∀i,i<12→e i=cf i)) (l.length - 0) (by kernel_rfl) ?_ ?_))
 ·simp only[ga];refine⟨0,_,_,fun i=>cl.getD i 0,_,_,_,a9 l.length fun _=>0,rfl,?_,rfl,?_,?_,?_,?_,?_,?_⟩
  ·exact hH
  · omega
  · omega
  · (exact hb)
  · (exact OwnC.made0 (by simp))
  · (intro _;unfold yq;rw[←hcf 12 (by omega),←hcf 13 (by omega),←hcf 14 (by omega),←hcf 15 (by omega)];exact⟨rfl,rfl⟩)
  · (exact fun i hi=>hcf i (by omega))
 clear hH;intro n22 vs23 w24 hR25 d0;obtain⟨p,m,n,e,bv,o,cap,cs,rfl,hH,hn26,hf27,hf28,hbv,hO,hpn,he⟩:=hR25;simp only[bG,c6,List.set_cons_zero,List.set_cons_succ,Nat.zero_add,Nat.reduceAdd];refine wp_seq_k fun K29 hK29=>wp_seq_k fun K30 hK30=>ak [.p 0,.p 1,.p 2] ?_;refine pm ?_;simp only[nf];refine pp rfl rfl (aM (hbv.chg hH.chg) rfl Tryd.underlying31) ?_;simp only[nf];refine pp rfl rfl (ac rfl rfl (by exact bZ (n:=0))) ?_;simp only[nf];refine aa hH fun w31 hH=>hK30 _ _ (wp_cond_split rfl (fun hc32=>?_) (fun hc32=>?_))
 ·simp only[dm]at hc32;refine wp_skip (hK29 _ _ (wp_block (wp_seq_k fun K33 hK33=>ak [.p 0,.p 1,.p 2,.p 3,.p 4,.p 5,.p 6,.p 7,.p 8,.p 9,.p 10,.p 11,.e 12,.p 13,.e 14,.p 15,.e 16,.p 17,.e 18] ?_)));refine pm ?_;simp only[nf];refine pp rfl rfl (ac rfl rfl (f_ 24 24 (by decide) rfl _)) ?_;simp only[nf];refine pp rfl rfl (bw rfl (iz _ Tryd.underlying132 Tryd.underlying5)) ?_;simp only[nf];refine pm ?_;simp only[nf];refine pp rfl rfl (ac rfl rfl (f_ 16 16 (by decide) rfl _)) ?_;simp only[nf];refine pp rfl rfl (bw rfl (iz _ Tryd.underlying132 Tryd.underlying5)) ?_;simp only[nf];refine pm ?_;simp only[nf];refine pp rfl rfl (ac rfl rfl (f_ 8 8 (by decide) rfl _)) ?_;simp only[nf];refine pp rfl rfl (bw rfl (iz _ Tryd.underlying132 Tryd.underlying5)) ?_;simp only[nf];refine pm ?_;simp only[nf];refine pp rfl rfl (bw rfl (iz _ Tryd.underlying132 Tryd.underlying5)) ?_;simp only[nf];refine pp rfl rfl (aq (i:=12) rfl rfl Tryd.underlying125 bL (by omega)) ?_;simp only[nf];refine am 0 rfl rfl hH rfl rfl rfl rfl bL (by simp<;>omega) ?_;clear hH;intro w34 hH;simp only[nf,nh,Value.cells]at hH⊢;refine pp rfl rfl (aq (i:=13) rfl rfl Tryd.underlying125 bL (by omega)) ?_;simp only[nf];refine am 0 rfl rfl hH rfl rfl rfl rfl bL (by simp<;>omega) ?_;clear hH;intro w35 hH;simp only[nf,nh,Value.cells]at hH⊢;refine pp rfl rfl (aq (i:=14) rfl rfl Tryd.underlying125 bL (by omega)) ?_;simp only[nf];refine am 0 rfl rfl hH rfl rfl rfl rfl bL (by simp<;>omega) ?_;clear hH;intro w36 hH;simp only[nf,nh,Value.cells]at hH⊢;refine pp rfl rfl (aq (i:=15) rfl rfl Tryd.underlying125 bL (by omega)) ?_;simp only[nf];refine am 0 rfl rfl hH rfl rfl rfl rfl bL (by simp<;>omega) ?_;clear hH;intro w37 hH;simp only[nf,nh,Value.cells]at hH⊢;refine aa hH fun w38 hH=>?_;replace hH:=hH.say 0 rfl (AE cf e n he);simp only[List.set_cons_zero]at hH;refine hK33 _ _ (wp_seq_k fun K39 hK39=>ak [.p 0,.q 1,.q 2,.x 3,.e 4] ?_);refine pm ?_;simp only[nf];refine pq rfl rfl (aA rfl (hH.blk 0 rfl) Tryd.underlying125 rfl dF (by simp)) ?_;simp only[nf];refine pq rfl rfl (aj cf88 (fun w' hw=>pD _ _ _ w' (hw.nil_blk (hH.chg.nil_blk hc))) rfl) ?_;simp only[nf];refine au rfl rfl hH kL ?_;clear hH;intro b40 w41 hH;simp only[nf,nh,Value.cells]at hH⊢;refine ao 2 rfl rfl hH rfl rfl rfl bj dF (by simp) (by simp) ?_;clear hH;intro w42 hH;simp only[nf,nh,Value.cells]at hH⊢;refine aa hH fun w43 hH=>hK39 _ _ (wp_seq_k fun K44 hK44=>ak [.p 0,.p 1,.p 2,.p 3,.p 4,.p 5] ?_);refine pm ?_;simp only[nf];refine pp rfl rfl (ac rfl rfl (by exact cj (m:=16) (by omega) (by omega))) ?_;simp only[nf];refine pm ?_;simp only[nf];refine pp rfl rfl (aM (hbv.chg hH.chg) rfl Tryd.underlying31) ?_;simp only[nf];refine pp rfl rfl (by exact io rfl rfl) ?_;simp only[nf];refine pa ?_;simp only[nf];refine aa hH fun w45 hH=>hK44 _ _ (wp_seq_k fun K46 hK46=>wp_seq_k fun K47 hK47=>ak [.p 0,.p 1,.p 2,.p 3,.p 4] ?_);refine pm (pm ?_);simp only[nf];refine pp rfl rfl (dh (hbv.chg hH.chg) rfl rfl Tryd.underlying31 bL (by omega)) ?_;simp only[nf];refine pp rfl rfl (aM (Sl.cuth (hbv.chg hH.chg) (by omega)) rfl Tryd.underlying31) ?_;simp only[nf];refine pk 0 ?_;simp only[nf];refine aa hH fun w48 hH=>hK47 _ _ (wp_block (bd [12,89] [15,16,90,91,92,93,94,95,96,97,98,99,100,101,102,103,104] (fun(n49:Nat) (vs:List Value) (w':World)=>∃(j:Nat) (o:Option Nat) (cap:Nat) (cs:Array Value),vs=[own o (p+j) cap,bb (j:Nat)]∧Hp [] w w' [(some b7,125,a9 16 (rp cf n)),(o,5,cs),(some b40,125,a9 16 (kF kf (rp cf n) 10))]∧n49=l.length - p - j∧j≤((l.drop p).take (min (16 - m) (l.drop p).length)).length∧OwnC o (p+j) cap 1 cs ((kC kf cf a l (p+j)).map V8)) (l.length - p - 0) (by kernel_rfl) ?_ ?_))
  ·simp only[ga];refine⟨0,o,cap,cs,rfl,?_,rfl,?_,?_⟩
   ·exact hH
   · omega
   · omega
  clear hH;intro n49 vs50 w51 hR52 d1;obtain⟨j,o,cap,cs,rfl,hH,hn53,hf54,hO⟩:=hR52;simp only[bG,c6,List.set_cons_zero,List.set_cons_succ,Nat.zero_add,Nat.reduceAdd];refine wp_seq_k fun K55 hK55=>ak [.p 0] ?_;refine pp rfl rfl (ac rfl rfl (by exact aJ)) ?_;simp only[nf];refine aa hH fun w56 hH=>hK55 _ _ (wp_seq_k fun K57 hK57=>wp_cond_split rfl (fun hc58=>?_) (fun hc58=>?_))
  ·simp only[dm]at hc58;refine wp_skip (hK57 _ _ (wp_seq_k fun K59 hK59=>wp_block (wp_seq_k fun K60 hK60=>ak [.p 0,.p 1,.q 2,.p 3,.p 4] ?_)));refine pm ?_;simp only[nf];refine pp rfl rfl (bR (Sl.cuth (hbv.chg hH.chg) (by omega)) rfl rfl Tryd.underlying31 bL (by omega)) ?_;simp only[nf];refine pq rfl rfl (ah rfl Tryd.underlying5 rfl (Sl.cell (Sl.cuth (hbv.chg hH.chg) (by omega)) (by omega))) ?_;simp only[nf];refine pa (pa ?_);simp only[nf];refine aa hH fun w61 hH=>hK60 _ _ (ak [.p 0,.p 1,.p 2,.p 3,.p 4,.p 5,.q 6,.p 7,.x 8,.e 9,.p 10] ?_);refine pm (pm (pm (pm ?_)));simp only[nf];refine pp rfl rfl (ac rfl rfl (by exact aE (by(simp only[List.length_take,List.length_drop,List.length_cons,List.length_nil]at *;omega)))) ?_;simp only[nf];refine pp rfl rfl (aq rfl rfl Tryd.underlying125 bL (by(simp only[List.length_take,List.length_drop,List.length_cons,List.length_nil]at *;omega))) ?_;simp only[nf];refine pq rfl rfl (ah rfl Tryd.underlying5 rfl ((hH.blk 2 rfl).cell (bK (by(simp only[List.length_take,List.length_drop,List.length_cons,List.length_nil]at *;omega))))) ?_;simp only[nf];refine pp rfl rfl (ac rfl rfl (ck _ _)) ?_;simp only[nf];refine bA rfl rfl hH Tryd.underlying31 (by rfl) (ja _) ?_;clear hH;intro b62 w63 hH;simp only[nf,nh,Value.cells]at hH⊢;refine bn 1 rfl rfl hH rfl hO (fun w' hH=>((OwnC.sl hH 3 rfl (OwnC.of_bytes rfl))).src) rfl rfl Tryd.underlying31 Tryd.underlying31 (.inl ⟨_,rfl⟩) bL iX iW rfl (by simp only[List.length_take,List.length_drop,List.length_cons,List.length_nil]at *;omega) (by simp only[List.length_take,List.length_drop,List.length_cons,List.length_nil]at *;omega) ?_;clear hH;intro o64 cap65 cs66 w67 hO68 hH;simp only[nf]at hH⊢;rw[←List.map_append]at hO68;refine pa ?_;simp only[nf];refine aa hH fun w69 hH=>hK59 _ _ (ak [.p 0,.p 1] ?_);refine pp rfl rfl (ac rfl rfl (by exact aE (n:=1) (by(simp only[List.length_take,List.length_drop,List.length_cons,List.length_nil]at *;omega)))) ?_;simp only[nf];refine pm ?_;simp only[nf];refine aa hH fun w70 hH=>?_;simp only[Exit.then,Exit.inBlock,↓reduceIte,Nat.reduceEqDiff];refine⟨l.length - p - (j+1),?_,_,rfl,by kernel_rfl,?_⟩
   · (simp only[List.length_take,List.length_drop]at *;omega)
   simp only[ga];refine⟨j+1,o64,cap65,cs66,rfl,?_,rfl,?_,?_⟩
   ·exact hH.take 3
   · omega
   · (rw[←wQ hpn (Nat.min_le_left _ _) (Nat.min_le_right _ _) (by assumption)];exact hO68)
  ·simp only[dm]at hc58;obtain rfl:j=min (16 - m) (l.drop p).length:=by simp only[List.length_take,List.length_drop]at *;omega
   refine wp_exit ?_;simp only[Exit.then,Exit.inBlock,↓reduceIte,Nat.reduceEqDiff];refine hK46 _ _ (wp_seq_k fun K71 hK71=>ak [.p 0,.p 1,.p 2,.p 3,.p 4] ?_);refine pm (pm ?_);simp only[nf];refine pp rfl rfl (cM (hbv.chg hH.chg) rfl rfl Tryd.underlying31 bL (by omega)) ?_;simp only[nf];refine pa (ci 0 ?_);simp only[nf];refine aa hH fun w72 hH=>hK71 _ _ (ak [.p 0,.p 1,.p 2] ?_);refine pm ?_;simp only[nf];refine pp rfl rfl (ac rfl rfl (cU _ 1)) ?_;simp only[nf];refine pa ?_;simp only[nf];refine aa hH fun w73 hH=>?_;simp only[Exit.then,Exit.inBlock,↓reduceIte,Nat.reduceEqDiff];refine⟨l.length - (p+min (16 - m) (l.drop p).length),?_,_,rfl,by kernel_rfl,?_⟩
   · (simp only[List.length_drop]at *;omega)
   simp only[ga];refine⟨p+min (16 - m) (l.drop p).length,0,n+1,rp cf n,_,o,cap,cs,rfl,?_,rfl,?_,?_,?_,?_,?_,?_⟩
   ·exact hH.take 2
   · (simp only[List.length_drop]at *;omega)
   · omega
   · (have:=Sl.cutl hbv (lo:=min (16 - m) (l.drop p).length) (by omega);rwa [List.drop_drop]at this)
   · omega
   · (exact yt hpn rfl (by omega))
   · (exact zw cf n)
 ·simp only[dm]at hc32;refine wp_exit ?_;simp only[Exit.then,Exit.inBlock,↓reduceIte,Nat.reduceEqDiff];refine hK21 _ _ (wp_seq_k fun K74 hK74=>ak [.p 0,.p 1,.p 2] ?_);refine pm (pa (ci 0 ?_));simp only[nf];refine aa hH fun w75 hH=>hK74 _ _ (wp_ret ?_);refine BP.ret2 rfl rfl rfl ?_;have hp:p=l.length:=by simp only[List.length_drop]at *;omega
  subst hp;exact⟨_,_,_,rfl,hH.chg,hO,hH.owned 1 rfl⟩
end Go.Proofs.YtomjbepgbnbgmaaDoor
namespace Go.Proofs.YtomjbepgbnbgmaaDoor
open Go
open List (getD_cons_zero getD_cons_succ set_cons_zero set_cons_succ)
theorem kG (K c:Nat→UInt8) (a:Nat) (l:List UInt8) (n:Nat):(kC K c a l n).length=n:=by simp[kC]
theorem Bd (K c:Nat→UInt8) (a:Nat) (l:List UInt8) {n i:Nat} (h:i<n):(kC K c a l n).getD i 0=l.getD i 0^^^ksF K c (a+i):=by
  simp[kC,List.getD,h]
theorem uH (K c:Nat→UInt8) (a:Nat) (l:List UInt8):kC K c a (kC K c a l l.length) l.length=l:=by
  apply List.ext_getElem (by simp[kC]);intro i h1 h2;have:=Bd K c a l h2;simp only[kC,List.getElem_map,List.getElem_range]at this⊢;rw[this,UInt8.xor_assoc,UInt8.xor_self,UInt8.xor_zero];simp[List.getD,h2]
theorem vW (n j:Nat):((List.range n).map fun _=>(0:UInt8)).getD j 0=0:=by
  simp only[List.getD,List.getElem?_map];cases(List.range n)[j]? <;>rfl
theorem fQ (l:List UInt8) {n i:Nat} (h:i<n):(l.take n).getD i 0=l.getD i 0:=by
  simp only[List.getD,List.getElem?_take,h,if_true]
end Go.Proofs.YtomjbepgbnbgmaaDoor
