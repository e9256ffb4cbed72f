import Derived.Test.YtblcgjadhemlbaaGreatUCore26
import Derived.Test.YtblcgjadhemlbaaGreatRows
import Derived.Shelf.GgSortFunc.Whole
import Derived.Shelf.GgSortFunc.Tiny
import Derived.Deep.QuietTactic
import Derived.WalkKit
import Derived.Test.YtblcgjadhemlbaaGreatUSortD
import Derived.Sort.LotA
namespace Go.Proofs.YtblcgjadhemlbaaGreat
open Go.RowKit Go.Shelf
set_option linter.unusedVariables false
def X7:Ren:={ f:=λx=>match x with|6=>108|10=>113|11=>114|12=>115|13=>116|14=>117|24=>127|25=>112|26=>128|27=>129|28=>130|29=>131|30=>132|31=>133|32=>134|33=>135|34=>136|35=>137|36=>138|37=>139|38=>140|39=>141|n=>n,t:=λx=>match x with|20=>20|26=>101|35=>175|0=>0|37=>177|3=>3|41=>164|44=>183|49=>188|51=>154|4=>4|54=>191|53=>190|58=>88|5=>5|9=>9|60=>196|64=>200|66=>202|67=>114|17=>17|32=>172|33=>173|82=>218|12=>12|75=>211|76=>212|77=>213|78=>214|79=>215|80=>216|n=>n,g:=λx=>have n:=x;n}
theorem kN:LaysGg.n6 Tryz.prog X7:={ mixed:=by kernel_rfl,f6:=Tryz.func108,f10:=Tryz.func113,f11:=Tryz.func114,f12:=Tryz.func115,f13:=Tryz.func116,f14:=Tryz.func117,f24:=Tryz.func127,f25:=Tryz.func112,f26:=Tryz.func128,f27:=Tryz.func129,f28:=Tryz.func130,f29:=Tryz.func131,f30:=Tryz.func132,f31:=Tryz.func133,f32:=Tryz.func134,f33:=Tryz.func135,f34:=Tryz.func136,f35:=Tryz.func137,f36:=Tryz.func138,f37:=Tryz.func139,f38:=Tryz.func140,f39:=Tryz.func141,t0:=Tryz.underlying0,a0:=Tryz.isAgg0,z0:=Tryz.sizeOf0,v0:=Tryz.zeroValue0,i0:=by kernel_rfl,t3:=Tryz.underlying3,a3:=Tryz.isAgg3,z3:=Tryz.sizeOf3,v3:=Tryz.zeroValue3,i3:=by kernel_rfl,t4:=Tryz.underlying4,a4:=Tryz.isAgg4,z4:=Tryz.sizeOf4,v4:=Tryz.zeroValue4,i4:=by kernel_rfl,t5:=Tryz.underlying5,a5:=Tryz.isAgg5,z5:=Tryz.sizeOf5,v5:=Tryz.zeroValue5,i5:=by kernel_rfl,t9:=Tryz.underlying9,a9:=Tryz.isAgg9,z9:=Tryz.sizeOf9,v9:=Tryz.zeroValue9,i9:=by kernel_rfl,t12:=Tryz.underlying12,a12:=Tryz.isAgg12,z12:=Tryz.sizeOf12,v12:=Tryz.zeroValue12,i12:=by kernel_rfl,t17:=Tryz.underlying17,a17:=Tryz.isAgg17,z17:=Tryz.sizeOf17,v17:=Tryz.zeroValue17,i17:=by kernel_rfl,t20:=Tryz.underlying20,a20:=Tryz.isAgg20,z20:=Tryz.sizeOf20,v20:=Tryz.zeroValue20,i20:=by kernel_rfl,t26:=Tryz.underlying101,a26:=Tryz.isAgg101,z26:=Tryz.sizeOf101,v26:=Tryz.zeroValue101,i26:=by kernel_rfl,t32:=Tryz.underlying172,a32:=Tryz.isAgg172,z32:=Tryz.sizeOf172,v32:=Tryz.zeroValue172,i32:=by kernel_rfl,t33:=Tryz.underlying173,a33:=Tryz.isAgg173,z33:=Tryz.sizeOf173,v33:=Tryz.zeroValue173,i33:=by kernel_rfl,t35:=Tryz.underlying175,a35:=Tryz.isAgg175,z35:=Tryz.sizeOf175,v35:=Tryz.zeroValue175,i35:=by kernel_rfl,t37:=Tryz.underlying177,a37:=Tryz.isAgg177,z37:=Tryz.sizeOf177,v37:=Tryz.zeroValue177,i37:=by kernel_rfl,t41:=Tryz.underlying164,a41:=Tryz.isAgg164,z41:=Tryz.sizeOf164,v41:=Tryz.zeroValue164,i41:=by kernel_rfl,t44:=Tryz.underlying183,a44:=Tryz.isAgg183,z44:=Tryz.sizeOf183,v44:=Tryz.zeroValue183,i44:=by kernel_rfl,t49:=Tryz.underlying188,a49:=Tryz.isAgg188,z49:=Tryz.sizeOf188,v49:=Tryz.zeroValue188,i49:=by kernel_rfl,t51:=Tryz.underlying154,a51:=Tryz.isAgg154,z51:=Tryz.sizeOf154,v51:=Tryz.zeroValue154,i51:=by kernel_rfl,t53:=Tryz.underlying190,a53:=Tryz.isAgg190,z53:=Tryz.sizeOf190,v53:=Tryz.zeroValue190,i53:=by kernel_rfl,t54:=Tryz.underlying191,a54:=Tryz.isAgg191,z54:=Tryz.sizeOf191,v54:=Tryz.zeroValue191,i54:=by kernel_rfl,t58:=Tryz.underlying88,a58:=Tryz.isAgg88,z58:=Tryz.sizeOf88,v58:=Tryz.zeroValue88,i58:=by kernel_rfl,t60:=Tryz.underlying196,a60:=Tryz.isAgg196,z60:=Tryz.sizeOf196,v60:=Tryz.zeroValue196,i60:=by kernel_rfl,t64:=Tryz.underlying200,a64:=Tryz.isAgg200,z64:=Tryz.sizeOf200,v64:=Tryz.zeroValue200,i64:=by kernel_rfl,t66:=Tryz.underlying202,a66:=Tryz.isAgg202,z66:=Tryz.sizeOf202,v66:=Tryz.zeroValue202,i66:=by kernel_rfl,t67:=Tryz.underlying114,a67:=Tryz.isAgg114,z67:=Tryz.sizeOf114,v67:=Tryz.zeroValue114,i67:=by kernel_rfl,t75:=Tryz.underlying211,a75:=Tryz.isAgg211,z75:=Tryz.sizeOf211,v75:=Tryz.zeroValue211,i75:=by kernel_rfl,t76:=Tryz.underlying212,a76:=Tryz.isAgg212,z76:=Tryz.sizeOf212,v76:=Tryz.zeroValue212,i76:=by kernel_rfl,t77:=Tryz.underlying213,a77:=Tryz.isAgg213,z77:=Tryz.sizeOf213,v77:=Tryz.zeroValue213,i77:=by kernel_rfl,t78:=Tryz.underlying214,a78:=Tryz.isAgg214,z78:=Tryz.sizeOf214,v78:=Tryz.zeroValue214,i78:=by kernel_rfl,t79:=Tryz.underlying215,a79:=Tryz.isAgg215,z79:=Tryz.sizeOf215,v79:=Tryz.zeroValue215,i79:=by kernel_rfl,t80:=Tryz.underlying216,a80:=Tryz.isAgg216,z80:=Tryz.sizeOf216,v80:=Tryz.zeroValue216,i80:=by kernel_rfl,t82:=Tryz.underlying218,a82:=Tryz.isAgg218,z82:=Tryz.sizeOf218,v82:=Tryz.zeroValue218,i82:=by kernel_rfl}
end Go.Proofs.YtblcgjadhemlbaaGreat
namespace Go.Proofs.YtblcgjadhemlbaaGreat
open Go.Shelf Go.RowKit Go.Lib Go.Sort
set_option linter.unusedVariables false
set_option maxHeartbeats 2000000 in
theorem Tl (b1 b2 blk off c size rb ro rc rsize:Nat) (W:World) (G:Nat→Nat) (R:Nat→Int) (ho:W.cell? ⟨b1,0,none⟩=some (.slice (some ⟨blk,off,none⟩) size c)) (hr:W.cell? ⟨b2,0,none⟩=some (.slice (some ⟨rb,ro,none⟩) rsize rc))
  (hc:∀t,t<size→W.cell? ⟨blk,off+t,none⟩=some (.int .i64 (G t:Int))) (hR:∀t,t<rsize→W.cell? ⟨rb,ro+t,none⟩=some (.int .i64 (R t))) (i j:Nat) (hi:i<size) (hj:j<size) (gi:G i<rsize) (gj:G j<rsize):
  Calls Tryz.prog 109 #[.int .i64 i,.int .i64 j,.pointer (some ⟨b1,0,none⟩),.pointer (some ⟨b2,0,none⟩)] W λe w'=>e= .returned (.bool (cond (!decide (R (G i)=R (G j))) (decide (R (G j)<R (G i))) (decide (G i<G j))))∧∃q,w'=W.drewN q:=by
 have ci:=hc i hi
 have cj:=hc j hj
 have ri:=hR _ gi
 have rj:=hR _ gj
 go_enter Tryz.func109,Tryz.ntmps109
 go_wp2
 go_quiet (fail)
 go_wp2
 go_quiet (fail)
 go_wp2
 ·go_quiet (fail)
  go_wp2
  go_ret
  rename_i hne
  have hn:decide (R (G i)=R (G j))=false:=by simpa using hne
  refine⟨by rw[hn];rfl,_,by(try simp only[World.drewN_drewN]);rfl⟩
 ·go_ret
  rename_i hne
  have hn:decide (R (G i)=R (G j))=true:=by simpa using hne
  refine⟨by rw[hn];rfl,_,by(try simp only[World.drewN_drewN]);rfl⟩
end Go.Proofs.YtblcgjadhemlbaaGreat
namespace Go.Proofs.YtblcgjadhemlbaaGreat
open Go.Shelf Go.RowKit Go.Lib Go.Sort
set_option linter.unusedVariables false
theorem WI (R:Nat→Int) {n:Nat}:SWO (λa b:Fin n=>Oq R a b) where
 irrefl x:=by simp [Oq]
 trans x y z h1 h2:=by
  simp only[Oq] at*
  by_cases e1:R x=R y<;>by_cases e2:R y=R z<;>by_cases e3:R x=R z<;>simp_all<;>omega
 ntrans x y z h1 h2:=by
  simp only[Oq] at*
  by_cases e1:R x=R y<;>by_cases e2:R y=R z<;>by_cases e3:R x=R z<;>simp_all<;>omega
theorem VF (R:Nat→Int) (a b:Nat) (h1:Oq R a b=false) (h2:Oq R b a=false):a=b:=by
 simp only[Oq] at*
 by_cases e1:R a=R b
 ·simp_all;omega
 ·have e2:¬R b=R a:=λh=>e1 h.symm
  simp_all;omega
theorem SU (b1 b2 blk off c n rb ro rc:Nat) [NeZero n] (W:World) (R:Nat→Int) (ho:W.cell? ⟨b1,0,none⟩=some (.slice (some ⟨blk,off,none⟩) n c)) (hr:W.cell? ⟨b2,0,none⟩=some (.slice (some ⟨rb,ro,none⟩) n rc))
  (d:Array (Fin n)) (hd:d.size=n) (hH:Holds (λk:Fin n=>Value.int .i64 (k.val:Int)) W blk off d) (hR:∀t,t<n→W.cell? ⟨rb,ro+t,none⟩=some (.int .i64 (R t))) (hb:blk<W.heap.size) (h1:b1<W.heap.size) (h2:b2<W.heap.size) (h3:rb<W.heap.size) (n1:b1≠blk) (n2:b2≠blk) (n3:rb≠blk):
  LessReads Tryz.prog 109 #[.pointer (some ⟨b1,0,none⟩),.pointer (some ⟨b2,0,none⟩)] (λk:Fin n=>Value.int .i64 (k.val:Int)) (λa b:Fin n=>Oq R a b) blk off n W:=by
 intro m os dk hs i j hi hj
 have e:sortWorld (λk:Fin n=>Value.int .i64 (k.val:Int)) W blk off m dk os=putRow (λk:Fin n=>Value.int .i64 (k.val:Int)) (grow (Sort.ahead W m) os) blk off dk:=by
  unfold sortWorld;rw[putRow_grow _ (Sort.ahead W m) _ blk off _ hb]
 have hHg:Holds (λk:Fin n=>Value.int .i64 (k.val:Int)) (grow (Sort.ahead W m) os) blk off d:=holds_grow _ _ _ blk off d hb (holds_ahead _ _ _ _ _ _ hH)
 have other:∀a:Addr,a.block≠blk→a.block<W.heap.size→(sortWorld (λk:Fin n=>Value.int .i64 (k.val:Int)) W blk off m dk os).cell? a=W.cell? a:=λa x y=>by
  rw[e,cell?_putRow_other _ _ blk off dk _ (Or.inl x),cell?_grow (Sort.ahead W m) _ _ y];rfl
 refine Tl b1 b2 blk off c n rb ro rc n _ (λt=>(dk[t]!).val) R ((other _ n1 h1).trans ho) ((other _ n2 h2).trans hr) (λt ht=>?_) (λt ht=>(other _ n3 h3).trans (hR t ht)) i j hi hj (dk[i]!).isLt (dk[j]!).isLt
 rw[e]
 exact cell?_putRow _ _ blk off d dk hHg (hs.trans hd.symm) t (by omega)
end Go.Proofs.YtblcgjadhemlbaaGreat
namespace Go.Proofs.YtblcgjadhemlbaaGreat
open Go.Shelf Go.RowKit Go.Lib Go.Sort
set_option linter.unusedVariables false
noncomputable def kO:TypeInfo:=(Tryz.prog.info? 29).get (by kernel_rfl)
noncomputable def ZM:TypeInfo:=(Tryz.prog.info? 3).get (by kernel_rfl)
theorem siK (n:Nat) (h2:2≤n):Lib.swapperK n ZM 2=5:=by
 have a:ZM.hasPointers=false:=by kernel_rfl
 have b:ZM.bytes=8:=by kernel_rfl
 have c:(n==0)=false:=by simp;omega
 have d:(n==1)=false:=by simp;omega
 simp [Lib.swapperK,a,b,c,d]
theorem ST (b1 b2 blk off c n rb ro rc:Nat) [NeZero n] (W:World) (R:Nat→Int) (ho:W.cell? ⟨b1,0,none⟩=some (.slice (some ⟨blk,off,none⟩) n c)) (hr:W.cell? ⟨b2,0,none⟩=some (.slice (some ⟨rb,ro,none⟩) n rc))
  (d:Array (Fin n)) (hd:d.size=n) (g2:2≤n) (hsz:n<4611686018427387904) (hH:Holds (λk:Fin n=>Value.int .i64 (k.val:Int)) W blk off d) (hR:∀t,t<n→W.cell? ⟨rb,ro+t,none⟩=some (.int .i64 (R t))) (hb:blk<W.heap.size) (h1:b1<W.heap.size) (h2:b2<W.heap.size) (h3:rb<W.heap.size) (n1:b1≠blk) (n2:b2≠blk) (n3:rb≠blk):
  Calls Tryz.prog 108 #[.iface 29 (.slice (some ⟨blk,off,none⟩) n c),.func (.func 109) #[] #[.pointer (some ⟨b1,0,none⟩),.pointer (some ⟨b2,0,none⟩)]] W λe w'=>
   e= .returned (.tuple #[])∧∃d' q os,PermIn 0 d.size d d'∧SortedIn (λa b:Fin n=>Oq R a b) 0 d.size d'∧w'=grow (putRow (λk:Fin n=>Value.int .i64 (k.val:Int)) (Sort.ahead W q) blk off d') os:=by
 have hl:=SU b1 b2 blk off c n rb ro rc W R ho hr d hd hH hR hb h1 h2 h3 n1 n2 n3
 have hS:=Any.sort_Slice_sorted kN 29 3 kO ZM (by kernel_rfl) (by kernel_rfl) (by kernel_rfl) (by kernel_rfl) 2 (λ_=>by kernel_rfl) (by kernel_rfl) (λ_=>by kernel_rfl) (λk:Fin n=>Value.int .i64 (k.val:Int)) (λ_=>rfl) (λa b:Fin n=>Oq R a b) (WI R) 109 _
  (enters_of Tryz.func109 (by kernel_rfl) rfl) blk off c d (by omega) (by omega) 122 (by rw[siK _ (by omega)];kernel_rfl) true
  (λargs W=>run_callFunc_extern Tryz.func122 (by kernel_rfl) (by kernel_rfl) (by kernel_rfl) (e:=Extern.ReflectliteSwapper.swap true) (by kernel_rfl) args W) W (by rw[hd];exact hl) hH hb
 rw[hd] at hS
 change Calls Tryz.prog 108 _ _ _ at hS
 rw[hd]
 exact hS
end Go.Proofs.YtblcgjadhemlbaaGreat
namespace Go.Proofs.YtblcgjadhemlbaaGreat
open Go.Shelf Go.RowKit Go.Lib Go.Sort
set_option linter.unusedVariables false
theorem Q9 {α:Type}[Inhabited α] (enc:α→Value) (W:World) (q g b:Nat) (d:Array α) (os:Array Obj) (hb:b<W.heap.size) (hn:b≠g):(grow (putRow enc (Sort.ahead W q) g 0 d) os).heap[b]? =W.heap[b]? :=by
 show((W.heap.modify g _)++os)[b]? =_
 rw[Array.getElem?_append_left (by simpa using hb),Array.getElem?_modify]
 simp [Ne.symm hn]
theorem RA {α:Type}[Inhabited α] (enc:α→Value) (W:World) (q g:Nat) (d:Array α) (os:Array Obj) {cur:Array Value}{T:TypeId}{fr:Nat×Nat}(hg:W.heap[g]? =some (.cells cur T fr)):(grow (putRow enc (Sort.ahead W q) g 0 d) os).heap[g]? =some (.cells (putCells enc 0 d cur) T fr):=by
 have hlt:g<W.heap.size:=(Array.getElem?_eq_some_iff.1 hg).1
 show((W.heap.modify g _)++os)[g]? =_
 rw[Array.getElem?_append_left (by simpa using hlt),Array.getElem?_modify]
 simp [hg,onCells]
theorem PV {α:Type}[Inhabited α] (enc:α→Value) (W:World) (q g:Nat) (d:Array α) (os:Array Obj):W.heap.size≤(grow (putRow enc (Sort.ahead W q) g 0 d) os).heap.size:=by
 show W.heap.size≤((W.heap.modify g _)++os).size
 simp
end Go.Proofs.YtblcgjadhemlbaaGreat
namespace Go.Proofs.YtblcgjadhemlbaaGreat
open Go.Shelf Go.RowKit Go.Lib Go.Sort
set_option linter.unusedVariables false
set_option linter.unusedSimpArgs false
theorem Oa {lt:Int→Int→Bool}(hi:∀x,lt x x=false) (ht:∀x y z,lt x y=true→lt y z=true→lt x z=true) (hn:∀x y z,lt x y=false→lt y z=false→lt x z=false) (x:Int):∀l:List Int,l.Pairwise (λa b=>lt b a=false)→(QL lt x l).Pairwise λa b=>lt b a=false
 |[],_=>by simp [QL]
 |y::l,h=>by
  have hy:∀z,z∈l→lt z y=false:=λz hz=>List.rel_of_pairwise_cons h hz
  have hl:=h.of_cons
  unfold QL
  cases hc:lt y x with
  |true=>
   refine List.Pairwise.cons (λz hz=>?_) (Oa hi ht hn x l hl)
   rcases List.mem_cons.1 ((Mn lt x l).mem_iff.1 hz) with rfl|hz
   ·cases hq:lt z y with
    |false=>rfl
    |true=>have:=ht _ _ _ hc hq;rw[hi] at this;cases this
   ·exact hy z hz
  |false=>
   refine List.Pairwise.cons (λz hz=>?_) h
   rcases List.mem_cons.1 hz with rfl|hz
   ·exact hc
   ·exact hn _ _ _ (hy z hz) hc
theorem Nj {lt:Int→Int→Bool}(hi:∀x,lt x x=false) (ht:∀x y z,lt x y=true→lt y z=true→lt x z=true) (hn:∀x y z,lt x y=false→lt y z=false→lt x z=false):∀l:List Int,(LP lt l).Pairwise λa b=>lt b a=false
 |[]=> .nil
 |x::l=>Oa hi ht hn x _ (Nj hi ht hn l)
theorem Ta (lr:List Int) (x:Int):OV lr x x=false:=by simp [OV,Oq]
theorem fB (a b c:Int) (x y z:Nat) (h1:cond (!decide (a=b)) (decide (b<a)) (decide (x<y))=true) (h2:cond (!decide (b=c)) (decide (c<b)) (decide (y<z))=true):cond (!decide (a=c)) (decide (c<a)) (decide (x<z))=true:=by
 by_cases e1:a=b<;>by_cases e2:b=c<;>by_cases e3:a=c<;>simp_all<;>omega
theorem fC (a b c:Int) (x y z:Nat) (h1:cond (!decide (a=b)) (decide (b<a)) (decide (x<y))=false) (h2:cond (!decide (b=c)) (decide (c<b)) (decide (y<z))=false):cond (!decide (a=c)) (decide (c<a)) (decide (x<z))=false:=by
 by_cases e1:a=b<;>by_cases e2:b=c<;>by_cases e3:a=c<;>simp_all<;>omega
theorem VG (lr:List Int) (x y z:Int) (h1:OV lr x y=true) (h2:OV lr y z=true):OV lr x z=true:=fB _ _ _ _ _ _ h1 h2
theorem TZ (lr:List Int) (x y z:Int) (h1:OV lr x y=false) (h2:OV lr y z=false):OV lr x z=false:=fC _ _ _ _ _ _ h1 h2
theorem RW (lr:List Int) {l l':List Int}(h0:∀x,x∈l→0≤x) (hp:l'.Perm l) (hs:l'.Pairwise λa b=>OV lr b a=false):l'=LP (OV lr) l:=by
 refine List.Perm.eq_of_pairwise (le:=λx y=>OV lr y x=false) (λa b ha hb h1 h2=>?_) hs (Nj (Ta lr) (VG lr) (TZ lr) l) (hp.trans (Ki _ l).symm)
 have e:=VF _ _ _ h2 h1
 have a0:=h0 a (hp.mem_iff.1 ha)
 have b0:=h0 b ((Ki _ l).mem_iff.1 hb)
 omega
theorem RK {S:Nat→Prop}{h:Av}:∀{l:List Int}{cs:List Value},KK S h AM.int cs l→cs=l.map (Value.int .i64)∧∀x,x∈l→AG x
 |[],cs,k=>⟨k,λx hx=>by cases hx⟩
 |x::l,cs,⟨c1,c2,e,k1,k2⟩=>by
  have a:c1=[.int .i64 x]:=k1.1
  obtain⟨b1,b2⟩:=RK k2
  subst e;subst a;subst b1
  exact⟨rfl,λy hy=>by
   rcases List.mem_cons.1 hy with rfl|hy
   ·exact k1.2
   ·exact b2 y hy⟩
theorem Sd {S:Nat→Prop}{h:Av}:∀{l:List Int},(∀x,x∈l→AG x)→KK S h AM.int (l.map (Value.int .i64)) l
 |[],_=>rfl
 |x::l,k=>⟨[.int .i64 x],_,rfl,⟨rfl,k x (List.mem_cons_self ..)⟩,Sd λy hy=>k y (List.mem_cons_of_mem _ hy)⟩
theorem jK:Lib.swapperK 1 ZM 2=2:=by
 have a:ZM.hasPointers=false:=by kernel_rfl
 have b:ZM.bytes=8:=by kernel_rfl
 simp [Lib.swapperK,a,b]
theorem QG {n:Nat}[NeZero n] (enc:Fin n→Value) (d:Array (Fin n)) (cur:Array Value) (hle:d.size≤cur.size):(putCells enc 0 d cur).toList.take d.size=d.toList.map enc:=by
 apply List.ext_getElem?
 intro i
 rw[List.getElem?_take]
 by_cases hi:i<d.size
 ·rw[if_pos hi,Array.getElem?_toList]
  have hc:i<cur.size:=by omega
  simp [putCells,hi,hc,getElem!_pos]
 ·rw[if_neg hi,List.getElem?_eq_none (by simpa using hi)]
theorem TY {S:Nat→Prop}{L:List HP}{h:Av}{b1 b2:Nat}{v v2:Value}{lo lr lo':List Int}(hs:St S (Bx b1 29 [v]::OS AM.int 3 v lo::Bx b2 29 [v2]::OS AM.int 3 v2 lr::L) h) (E:PZ lo lr=some lo'):
  CG Tryz.prog 108 #[.iface 29 v,.func (.func 109) #[] #[.pointer (some ⟨b1,0,none⟩),.pointer (some ⟨b2,0,none⟩)]] S h (λr S' h'=>r= .tuple #[]∧St S' (Bx b1 29 [v]::OS AM.int 3 v lo'::Bx b2 29 [v2]::OS AM.int 3 v2 lr::L) h'):=by
 unfold PZ at E
 split at E
 ·rename_i hc
  obtain⟨hl,h1,h64,hall⟩:=hc
  cases E
  intro B W hw
  have hrng:∀x,x∈lo→0≤x∧x<lo.length:=λx hx=>by simpa using List.all_eq_true.1 hall x hx
  obtain⟨F1,k1,s1,F2,k2,s2,F3,k3,s3,F4,k4,s4,_⟩:=hs.2
  rcases k2 with ⟨_,e0,_⟩|⟨g,cap,cur,e1,e2,e3,e4,e5,e6,e7⟩
  ·rw[e0] at h1;cases h1
  rcases k4 with ⟨_,e0,_⟩|⟨rb,rcap,rcur,f1,f2,f3,f4,f5,f6,f7⟩
  ·rw[hl,e0] at h1;cases h1
  subst e1;subst f1
  have hn:NeZero lo.length:=⟨by omega⟩
  obtain⟨r1,r2⟩:=RK e7
  obtain⟨q1,q2⟩:=RK f7
  have r1:cur.toList.take lo.length=lo.map (Value.int .i64):=by rw[←r1];congr 1;exact(Nat.mul_one _).symm
  have q1:rcur.toList.take lr.length=lr.map (Value.int .i64):=by rw[←q1];congr 1;exact(Nat.mul_one _).symm
  have e6:cur.size=cap:=by rw[e6];exact Nat.mul_one _
  have cell:∀(b:Nat) (cs:Array Value) (T:TypeId) (t:Nat),h[b]? =some (.cells cs T (0,0))→W.cell? ⟨b,t,none⟩=cs[t]? :=λb cs T t hb=>by
   rw[Jw,hw.heap];simp [H5,hb]
  have n1:b1≠g:=λe=>(s2 g ((e2 g).2 rfl)).2 (by rw[k1.1 g];exact e.symm)
  have n2:b2≠g:=λe=>(s3 b2 ((k3.1 b2).2 rfl)).2 ((e2 b2).2 e)
  have n3:rb≠g:=λe=>(s4 rb ((f2 rb).2 rfl)).1.2 ((e2 rb).2 e)
  have lt:∀(b:Nat) o,h[b]? =some o→b<W.heap.size:=λb o hb=>by rw[hw.heap];exact(Array.getElem?_eq_some_iff.1 hb).1
  have hcur:∀t (ht:t<lo.length),cur[t]? =some (.int .i64 lo[t]):=λt ht=>by
   have:(cur.toList.take lo.length)[t]? =some (.int .i64 lo[t]):=by rw[r1];simp [ht]
   rw[List.getElem?_take_of_lt ht] at this
   simpa using this
  have hrc:∀t,t<lo.length→rcur[t]? =some (.int .i64 (lr.getD t 0)):=λt ht=>by
   have ht':t<lr.length:=by omega
   have:(rcur.toList.take lr.length)[t]? =some (.int .i64 (lr.getD t 0)):=by rw[q1];simp [ht',List.getD_eq_getElem?_getD]
   rw[List.getElem?_take_of_lt ht'] at this
   simpa using this
  by_cases hn2:2≤lo.length
  ·have hd:=λ(i:Fin lo.length)=>(hrng lo[i] (List.getElem_mem _))
   obtain⟨d,ds,hdl⟩:∃d:Array (Fin lo.length),d.size=lo.length∧d.toList.map (λk=>(k.val:Int))=lo:=by
    refine⟨Array.ofFn λi:Fin lo.length=>(⟨(lo[i]).toNat,by have:=hd i;omega⟩:Fin lo.length),by simp,?_⟩
    apply List.ext_getElem?
    intro i
    by_cases hi:i<lo.length
    ·have h9:=(hrng lo[i] (List.getElem_mem _)).1
     simp [hi]
     omega
    ·rw[List.getElem?_eq_none (by simpa using hi),List.getElem?_eq_none (by omega)]
   have hdt:∀t (ht:t<lo.length),((d[t]!).val:Int)=lo[t]:=λt ht=>by
    have a:(d.toList.map (λk=>(k.val:Int)))[t]? =some lo[t]:=by rw[hdl];simp [ht]
    have ht':t<d.size:=by omega
    rw[getElem!_pos d t ht']
    simpa [ht'] using a
   refine(ST b1 b2 g 0 cap lo.length rb 0 rcap W (λt=>lr.getD t 0) ((cell b1 _ _ 0 k1.2).trans rfl) ((cell b2 _ _ 0 k3.2).trans (by rw[hl];rfl)) d ds hn2 (by omega) (λj hj=>⟨?_,?_⟩) (λt ht=>?_) (lt g _ e3) (lt b1 _ k1.2) (lt b2 _ k3.2) (lt rb _ f3) n1 n2 n3).mono ?_
   ·rw[Nat.zero_add,cell g cur 3 j e3,hcur j (by omega)]
    show _=some (Value.int .i64 ((d[j]!).val:Int))
    rw[hdt j (by omega)]
   ·simp [World.frozen?,hw.heap,e3]
   ·rw[Nat.zero_add,cell rb rcur 3 t f3];exact hrc t ht
   rintro e w' ⟨rfl,d',q,os,hp,hso,rfl⟩
   have dsz:d'.size=lo.length:=hp.1.trans ds
   have hpl:(d'.toList.map (λk=>(k.val:Int))).Perm lo:=by
    have a:=hp.2.2
    have e1':d'.extract 0 d.size=d':=by rw[←hp.1];exact Array.extract_size
    rw[e1',Array.extract_size] at a
    have:=a.map (λk:Fin lo.length=>(k.val:Int))
    rwa [hdl] at this
   have hpw:(d'.toList.map (λk=>(k.val:Int))).Pairwise λa b=>OV lr b a=false:=by
    rw[List.pairwise_map,List.pairwise_iff_getElem]
    intro i j hi hj hij
    have hi':i<d'.size:=by simpa using hi
    have hj':j<d'.size:=by simpa using hj
    have:=hso i j (Nat.zero_le _) hij (by omega)
    rw[getElem!_pos d' j hj',getElem!_pos d' i hi'] at this
    simpa [OV] using this
   have hq:=RW lr (λx hx=>(hrng x hx).1) hpl hpw
   rw[←hq]
   have hg':=RA (λk:Fin lo.length=>Value.int .i64 (k.val:Int)) W q g d' os (cur:=cur) (T:=3) (fr:=(0,0)) (by rw[hw.heap];exact e3)
   have hup:=hs.upd (H':=OS AM.int 3 (.slice (some ⟨g,0,none⟩) lo.length cap) (d'.toList.map (λk=>(k.val:Int)))) (h':=(grow (putRow (λk:Fin lo.length=>Value.int .i64 (k.val:Int)) (Sort.ahead W q) g 0 d') os).heap) (.tail .head) (by have:=PV (λk:Fin lo.length=>Value.int .i64 (k.val:Int)) W q g d' os;rw[hw.heap] at this;exact this) (λF m1 m2=>by
    rcases m1 with ⟨_,m1,_⟩|⟨g',cap',cur',m1,m3,_⟩
    ·rw[m1] at h1;cases h1
    ·injection m1 with z1 z2 z3
     injection z1 with z1
     injection z1 with z1
     subst z1
     refine⟨F,.inr ⟨g,cap,_,by simp [dsz],m3,hg',by simpa [dsz] using e4,e5,?_,?_⟩,λ_ hb=> .inl hb,λb hb hb'=>?_⟩
     ·simp only[putCells,Array.size_mapIdx];rw[e6];exact(Nat.mul_one _).symm
     ·have ht:=QG (λk:Fin lo.length=>Value.int .i64 (k.val:Int)) d' cur (by omega)
      rw[show (d'.toList.map (λk=>(k.val:Int))).length*AM.int.sz=d'.size from by simp;exact Nat.mul_one _,ht]
      have:d'.toList.map (λk:Fin lo.length=>Value.int .i64 (k.val:Int))=(d'.toList.map (λk=>(k.val:Int))).map (Value.int .i64):=by rw[List.map_map];rfl
      rw[this]
      exact Sd λx hx=>r2 x (hpl.mem_iff.1 hx)
     ·rw[Q9 _ W q g b d' os (by rw[hw.heap];exact hb) (λe=>hb' ((m3 b).2 e)),hw.heap])
   exact⟨_,S,_,rfl,⟨rfl,hw.os,hw.tape,hw.out⟩,hup.2,rfl,hup.1⟩
  ·have hn1:lo.length=1:=by omega
   obtain⟨x,rfl⟩:∃x,lo=[x]:=List.length_eq_one_iff.1 hn1
   have hT:=Any.sort_Slice_tiny (P:=Tryz.prog) { kN with} 29 3 kO ZM (by kernel_rfl) (by kernel_rfl) (by kernel_rfl) (by kernel_rfl) 2 (λ_=>by kernel_rfl) (some ⟨g,0,none⟩) 1 cap (Nat.le_refl _) 119 (by rw[jK];kernel_rfl) (.func 109) #[] #[.pointer (some ⟨b1,0,none⟩),.pointer (some ⟨b2,0,none⟩)] W
   change Calls Tryz.prog 108 _ _ _ at hT
   refine hT.mono ?_
   rintro e w' ⟨rfl,os,rfl⟩
   have ho:Ep h (grow W os).heap:=⟨by show h.size≤(W.heap++os).size;rw[hw.heap];simp,λb hb=>by show(W.heap++os)[b]? =_;rw[hw.heap,Array.getElem?_append_left hb]⟩
   exact⟨_,S,_,rfl,⟨rfl,hw.os,hw.tape,hw.out⟩,ho.ext hs.1,rfl,ho.st hs⟩
 ·cases E
end Go.Proofs.YtblcgjadhemlbaaGreat
