import Derived.Test.YtibidnaedddfdaaGreatAForms
import Derived.Lib.Mul64
namespace Go.Proofs.YtibidnaedddfdaaGreat
open Go.RowKit
set_option linter.unusedVariables false
set_option linter.unusedSimpArgs false
abbrev Df {α}(x:Option α):Prop:=∃v,x=some v
theorem PO (n:Int):IntKind.u64.wrap n=n%18446744073709551616:=by simp [IntKind.wrap,IntKind.bits,IntKind.signed]
theorem G2 (a:Nat) (h:a<18446744073709551616):IntKind.u64.wrap (a:Int)=a:=by rw[PO];omega
theorem MZ {n:Int}(h:IntKind.u64.has n):IntKind.u64.wrap n=n:=by
 simp [IntKind.has,IntKind.min,IntKind.max,IntKind.bits,IntKind.signed] at h;rw[PO];omega
theorem KO {n:Int}:IntKind.u64.has n↔0≤n∧n≤18446744073709551615:=by simp [IntKind.has,IntKind.min,IntKind.max,IntKind.bits,IntKind.signed]
theorem S7 {n:Int}(h:IntKind.u64.has n):∃a:Nat,n=a∧a<18446744073709551616:=by
 rw[KO] at h
 exact⟨n.toNat,by omega,by omega⟩
theorem Sa (a j:Nat) (hj:j≤64):Ci .u64 (a:Int) j=((a/2^j:Nat):Int):=by
 unfold Ci
 have e:min j IntKind.u64.bits=j:=by simp [IntKind.bits];omega
 rw[e,Int.fdiv_eq_ediv_of_nonneg _ (Int.le_of_lt (Int.pow_pos (by decide)))]
 simp
theorem Yr (a b:Nat) (ha:a<18446744073709551616) (hb:b<18446744073709551616):F8 .and .u64 (a:Int) (b:Int)=((a&&&b:Nat):Int):=by
 have h1:(BitVec.ofInt 64 (a:Int)).toNat=a:=by rw[BitVec.ofInt_natCast,BitVec.toNat_ofNat];exact Nat.mod_eq_of_lt (by omega)
 have h2:(BitVec.ofInt 64 (b:Int)).toNat=b:=by rw[BitVec.ofInt_natCast,BitVec.toNat_ofNat];exact Nat.mod_eq_of_lt (by omega)
 have h3:a&&&b<2^64:=Nat.and_lt_two_pow _ (by omega)
 show IntKind.u64.wrap (((BitVec.ofInt 64 (a:Int))&&&(BitVec.ofInt 64 (b:Int))).toNat:Int)=_
 rw[BitVec.toNat_and,h1,h2,G2 _ (by omega)]
theorem Sr (a:Nat) (ha:a<18446744073709551616):F8 .and .u64 (a:Int) 4294967295=((a%4294967296:Nat):Int):=by
 have h:=Yr a 4294967295 ha (by omega)
 have e:a&&&4294967295=a%4294967296:=Nat.and_two_pow_sub_one_eq_mod a 32
 rw[e] at h
 exact h
theorem Sb (a:Nat):Ci .u64 (a:Int) 32=((a/4294967296:Nat):Int):=Sa a 32 (by omega)
theorem Xe (a b:Nat):(a:Int)*(b:Int)=((a*b:Nat):Int):=(Int.natCast_mul a b).symm
theorem VQ (a b:Nat):(a:Int)+(b:Int)=((a+b:Nat):Int):=(Int.natCast_add a b).symm
theorem Wx (a:Nat):IntKind.u64.wrap (a:Int)=((a%18446744073709551616:Nat):Int):=by rw[PO];omega
theorem Pj (N x y:Nat) (hx:x<18446744073709551616) (hy:y<18446744073709551616):Ec N (x:Int) (y:Int)=some (((x*y/18446744073709551616:Nat):Int),((x*y%18446744073709551616:Nat):Int)):=by
 obtain⟨bd,bt,bw,hhi⟩:=Lib.mul64_hi x y hx hy
 have ba:=Lib.half_mul_le (a:=x/4294967296) (b:=y/4294967296) (by omega) (by omega)
 have bb:=Lib.half_mul_le (a:=x/4294967296) (b:=y%4294967296) (by omega) (by omega)
 have bc:=Lib.half_mul_le (a:=x%4294967296) (b:=y/4294967296) (by omega) (by omega)
 have ba':x/4294967296*(y/4294967296)<18446744073709551616:=by omega
 have bb':x/4294967296*(y%4294967296)<18446744073709551616:=by omega
 have bc':x%4294967296*(y/4294967296)<18446744073709551616:=by omega
 have bh1:x/4294967296*(y/4294967296)+(x/4294967296*(y%4294967296)+x%4294967296*(y%4294967296)/4294967296)/4294967296<18446744073709551616:=by omega
 have bh:x/4294967296*(y/4294967296)+(x/4294967296*(y%4294967296)+x%4294967296*(y%4294967296)/4294967296)/4294967296+((x/4294967296*(y%4294967296)+x%4294967296*(y%4294967296)/4294967296)%4294967296+x%4294967296*(y/4294967296))/4294967296<18446744073709551616:=by omega
 simp only[Ec,Sb,Sr x hx,Sr y hy,Xe,VQ,G2 _ bd,G2 _ bb',G2 _ bt,Sr _ bt,G2 _ bc',G2 _ bw,G2 _ ba',G2 _ bh1,G2 _ bh,Wx (x*y)]
 rw[hhi]
def Ln (x n:Nat):Prop:=1≤n∧2^(n-1)≤x∧x<2^n
theorem Ln.shift {x m s:Nat}(h:Ln (x/2^s) m):Ln x (m+s):=by
 obtain⟨h1,h2,h3⟩:=h
 have hp:0<2^s:=Nat.two_pow_pos s
 refine⟨by omega,?_,?_⟩
 ·have:2^(m-1)*2^s≤x:=(Nat.le_div_iff_mul_le hp).1 h2
  rw[show m+s-1=(m-1)+s by omega,Nat.pow_add];exact this
 ·have:=(Nat.div_lt_iff_lt_mul hp).1 h3
  rw[Nat.pow_add];exact this
set_option maxRecDepth 20000 in
theorem Yb:∀k:Nat,k<256→RJ JM (k:Int)=some (((if k=0 then 0 else k.log2+1:Nat)):Int):=by decide +kernel
theorem UP {k:Nat}(h0:0<k) (h:k<256):∃n:Nat,RJ JM (k:Int)=some (n:Int)∧Ln k n∧n≤8:=by
 have e:=Yb k h
 rw[if_neg (by omega)] at e
 refine⟨_,e,⟨by omega,?_,Nat.lt_log2_self⟩,?_⟩
 ·rw[Nat.add_sub_cancel];exact Nat.log2_self_le (by omega)
 ·have:k.log2<8:=(Nat.log2_lt (by omega)).2 h
  omega
theorem Sv (N:Nat) {x:Nat}(h0:0<x) (hx:x<18446744073709551616):∃n:Nat,FX N (x:Int)=some (n:Int)∧Ln x n∧n≤64:=by
 have w64N:∀a:Nat,a<9223372036854775808→Ar (a:Int)=a:=λa h=>Ka (by unfold AB;omega)
 have u8N:∀a:Nat,a<256→IntKind.u8.wrap (a:Int)=a:=λa h=>by simp [IntKind.wrap,IntKind.bits,IntKind.signed];omega
 have j2:∀a b:Nat,0<a→a<256→b≤56→∃n:Nat,DT N (a:Int) (b:Int)=some ((n+b:Nat):Int)∧Ln a n∧n≤8:=λa b h1 h2 hb=>by
  obtain⟨n,e1,e2,e3⟩:=UP h1 h2
  refine⟨n,?_,e2,e3⟩
  simp only[DT,u8N a h2,e1,Option.bind_some,w64N n (by omega),VQ,Nat.add_comm b n,w64N (n+b) (by omega)]
 have j1:∀a b:Nat,0<a→a<65536→b≤48→∃n:Nat,DU N (a:Int) (b:Int)=some ((n+b:Nat):Int)∧Ln a n∧n≤16:=λa b h1 h2 hb=>by
  unfold DU
  by_cases hc:256≤a
  ·rw[show decide ((256:Int)≤(a:Int))=true by simp;omega,cond_true,Sa a 8 (by omega)]
   have e8:Ar ((b:Int)+8)=((b+8:Nat):Int):=by rw[show ((b:Int)+8)=((b+8:Nat):Int) by omega];exact w64N _ (by omega)
   rw[e8]
   obtain⟨n,e1,e2,e3⟩:=j2 (a/2^8) (b+8) (by omega) (by omega) (by omega)
   exact⟨n+8,by rw[e1,show n+(b+8)=n+8+b by omega],e2.shift,by omega⟩
  ·rw[show decide ((256:Int)≤(a:Int))=false by simp;omega,cond_false]
   obtain⟨n,e1,e2,e3⟩:=j2 a b h1 (by omega) (by omega)
   exact⟨n,e1,e2,by omega⟩
 have j0:∀a b:Nat,0<a→a<4294967296→b≤32→∃n:Nat,DV N (a:Int) (b:Int)=some ((n+b:Nat):Int)∧Ln a n∧n≤32:=λa b h1 h2 hb=>by
  unfold DV
  by_cases hc:65536≤a
  ·rw[show decide ((65536:Int)≤(a:Int))=true by simp;omega,cond_true,Sa a 16 (by omega)]
   have e8:Ar ((b:Int)+16)=((b+16:Nat):Int):=by rw[show ((b:Int)+16)=((b+16:Nat):Int) by omega];exact w64N _ (by omega)
   rw[e8]
   obtain⟨n,e1,e2,e3⟩:=j1 (a/2^16) (b+16) (by omega) (by omega) (by omega)
   exact⟨n+16,by rw[e1,show n+(b+16)=n+16+b by omega],e2.shift,by omega⟩
  ·rw[show decide ((65536:Int)≤(a:Int))=false by simp;omega,cond_false]
   obtain⟨n,e1,e2,e3⟩:=j1 a b h1 (by omega) (by omega)
   exact⟨n,e1,e2,by omega⟩
 unfold FX
 by_cases hc:4294967296≤x
 ·rw[show decide ((4294967296:Int)≤(x:Int))=true by simp;omega,cond_true,Sa x 32 (by omega)]
  obtain⟨n,e1,e2,e3⟩:=j0 (x/2^32) 32 (by omega) (by omega) (by omega)
  exact⟨n+32,by rw[show ((32:Int))=((32:Nat):Int) from rfl,e1],e2.shift,by omega⟩
 ·rw[show decide ((4294967296:Int)≤(x:Int))=false by simp;omega,cond_false]
  obtain⟨n,e1,e2,e3⟩:=j0 x 0 h0 (by omega) (by omega)
  exact⟨n,e1,e2,by omega⟩
theorem Xf (N:Nat) {y:Nat}(h0:0<y) (hy:y<18446744073709551616):∃s:Nat,Cm N (y:Int)=some (s:Int)∧s≤63∧9223372036854775808≤y*2^s∧y*2^s<18446744073709551616:=by
 obtain⟨n,e1,⟨e2,e3,e4⟩,e5⟩:=Sv N h0 hy
 refine⟨64-n,?_,by omega,?_,?_⟩
 ·simp only[Cm,e1,Option.bind_some]
  rw[Ka (by unfold AB;omega)]
  congr 1;omega
 ·have:=Nat.mul_le_mul_right (2^(64-n)) e3
  rw[←Nat.pow_add,show n-1+(64-n)=63 by omega] at this
  exact this
 ·have:=Nat.mul_lt_mul_of_pos_right e4 (Nat.two_pow_pos (64-n))
  rw[←Nat.pow_add,show n+(64-n)=64 by omega] at this
  exact this
end Go.Proofs.YtibidnaedddfdaaGreat
