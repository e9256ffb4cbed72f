import Derived.Test.YtblcgjadhemlbaaGreatQCore26
import Derived.Test.YtblcgjadhemlbaaGreatRows
import Derived.Shelf.GgSortFunc.Whole
import Derived.Shelf.GgSortFunc.Tiny
import Derived.Deep.QuietTactic
import Derived.WalkKit
import Derived.Test.YtblcgjadhemlbaaGreatQSortD
import Derived.Sort.LotA
namespace Go.Proofs.YtblcgjadhemlbaaGreat
set_option linter.unusedSimpArgs false
open Go.RowKit Go.Shelf
set_option linter.unusedVariables false
def WK:Ren:={ f:=λx=>match x with|6=>108|10=>113|11=>114|12=>115|13=>116|14=>117|24=>127|25=>112|26=>128|27=>129|28=>130|29=>131|30=>132|31=>133|32=>134|33=>135|34=>136|35=>137|36=>138|37=>139|38=>140|39=>141|n=>n,t:=λx=>match x with|20=>20|26=>101|35=>175|0=>0|37=>177|3=>3|41=>164|44=>183|49=>188|51=>154|4=>4|54=>191|53=>190|58=>88|5=>5|9=>9|60=>196|64=>200|66=>202|67=>114|17=>17|32=>172|33=>173|82=>218|12=>12|75=>211|76=>212|77=>213|78=>214|79=>215|80=>216|n=>n,g:=λx=>have n:=x;n}
theorem dZ:LaysGg.n6 Tryz.prog WK:={ mixed:=by kernel_rfl,f6:=Tryz.func108,f10:=Tryz.func113,f11:=Tryz.func114,f12:=Tryz.func115,f13:=Tryz.func116,f14:=Tryz.func117,f24:=Tryz.func127,f25:=Tryz.func112,f26:=Tryz.func128,f27:=Tryz.func129,f28:=Tryz.func130,f29:=Tryz.func131,f30:=Tryz.func132,f31:=Tryz.func133,f32:=Tryz.func134,f33:=Tryz.func135,f34:=Tryz.func136,f35:=Tryz.func137,f36:=Tryz.func138,f37:=Tryz.func139,f38:=Tryz.func140,f39:=Tryz.func141,t0:=Tryz.underlying0,a0:=Tryz.isAgg0,z0:=Tryz.sizeOf0,v0:=Tryz.zeroValue0,i0:=by kernel_rfl,t3:=Tryz.underlying3,a3:=Tryz.isAgg3,z3:=Tryz.sizeOf3,v3:=Tryz.zeroValue3,i3:=by kernel_rfl,t4:=Tryz.underlying4,a4:=Tryz.isAgg4,z4:=Tryz.sizeOf4,v4:=Tryz.zeroValue4,i4:=by kernel_rfl,t5:=Tryz.underlying5,a5:=Tryz.isAgg5,z5:=Tryz.sizeOf5,v5:=Tryz.zeroValue5,i5:=by kernel_rfl,t9:=Tryz.underlying9,a9:=Tryz.isAgg9,z9:=Tryz.sizeOf9,v9:=Tryz.zeroValue9,i9:=by kernel_rfl,t12:=Tryz.underlying12,a12:=Tryz.isAgg12,z12:=Tryz.sizeOf12,v12:=Tryz.zeroValue12,i12:=by kernel_rfl,t17:=Tryz.underlying17,a17:=Tryz.isAgg17,z17:=Tryz.sizeOf17,v17:=Tryz.zeroValue17,i17:=by kernel_rfl,t20:=Tryz.underlying20,a20:=Tryz.isAgg20,z20:=Tryz.sizeOf20,v20:=Tryz.zeroValue20,i20:=by kernel_rfl,t26:=Tryz.underlying101,a26:=Tryz.isAgg101,z26:=Tryz.sizeOf101,v26:=Tryz.zeroValue101,i26:=by kernel_rfl,t32:=Tryz.underlying172,a32:=Tryz.isAgg172,z32:=Tryz.sizeOf172,v32:=Tryz.zeroValue172,i32:=by kernel_rfl,t33:=Tryz.underlying173,a33:=Tryz.isAgg173,z33:=Tryz.sizeOf173,v33:=Tryz.zeroValue173,i33:=by kernel_rfl,t35:=Tryz.underlying175,a35:=Tryz.isAgg175,z35:=Tryz.sizeOf175,v35:=Tryz.zeroValue175,i35:=by kernel_rfl,t37:=Tryz.underlying177,a37:=Tryz.isAgg177,z37:=Tryz.sizeOf177,v37:=Tryz.zeroValue177,i37:=by kernel_rfl,t41:=Tryz.underlying164,a41:=Tryz.isAgg164,z41:=Tryz.sizeOf164,v41:=Tryz.zeroValue164,i41:=by kernel_rfl,t44:=Tryz.underlying183,a44:=Tryz.isAgg183,z44:=Tryz.sizeOf183,v44:=Tryz.zeroValue183,i44:=by kernel_rfl,t49:=Tryz.underlying188,a49:=Tryz.isAgg188,z49:=Tryz.sizeOf188,v49:=Tryz.zeroValue188,i49:=by kernel_rfl,t51:=Tryz.underlying154,a51:=Tryz.isAgg154,z51:=Tryz.sizeOf154,v51:=Tryz.zeroValue154,i51:=by kernel_rfl,t53:=Tryz.underlying190,a53:=Tryz.isAgg190,z53:=Tryz.sizeOf190,v53:=Tryz.zeroValue190,i53:=by kernel_rfl,t54:=Tryz.underlying191,a54:=Tryz.isAgg191,z54:=Tryz.sizeOf191,v54:=Tryz.zeroValue191,i54:=by kernel_rfl,t58:=Tryz.underlying88,a58:=Tryz.isAgg88,z58:=Tryz.sizeOf88,v58:=Tryz.zeroValue88,i58:=by kernel_rfl,t60:=Tryz.underlying196,a60:=Tryz.isAgg196,z60:=Tryz.sizeOf196,v60:=Tryz.zeroValue196,i60:=by kernel_rfl,t64:=Tryz.underlying200,a64:=Tryz.isAgg200,z64:=Tryz.sizeOf200,v64:=Tryz.zeroValue200,i64:=by kernel_rfl,t66:=Tryz.underlying202,a66:=Tryz.isAgg202,z66:=Tryz.sizeOf202,v66:=Tryz.zeroValue202,i66:=by kernel_rfl,t67:=Tryz.underlying114,a67:=Tryz.isAgg114,z67:=Tryz.sizeOf114,v67:=Tryz.zeroValue114,i67:=by kernel_rfl,t75:=Tryz.underlying211,a75:=Tryz.isAgg211,z75:=Tryz.sizeOf211,v75:=Tryz.zeroValue211,i75:=by kernel_rfl,t76:=Tryz.underlying212,a76:=Tryz.isAgg212,z76:=Tryz.sizeOf212,v76:=Tryz.zeroValue212,i76:=by kernel_rfl,t77:=Tryz.underlying213,a77:=Tryz.isAgg213,z77:=Tryz.sizeOf213,v77:=Tryz.zeroValue213,i77:=by kernel_rfl,t78:=Tryz.underlying214,a78:=Tryz.isAgg214,z78:=Tryz.sizeOf214,v78:=Tryz.zeroValue214,i78:=by kernel_rfl,t79:=Tryz.underlying215,a79:=Tryz.isAgg215,z79:=Tryz.sizeOf215,v79:=Tryz.zeroValue215,i79:=by kernel_rfl,t80:=Tryz.underlying216,a80:=Tryz.isAgg216,z80:=Tryz.sizeOf216,v80:=Tryz.zeroValue216,i80:=by kernel_rfl,t82:=Tryz.underlying218,a82:=Tryz.isAgg218,z82:=Tryz.sizeOf218,v82:=Tryz.zeroValue218,i82:=by kernel_rfl}
end Go.Proofs.YtblcgjadhemlbaaGreat
namespace Go.Proofs.YtblcgjadhemlbaaGreat
set_option linter.unusedSimpArgs false
open Go.Shelf Go.RowKit Go.Lib Go.Sort
set_option linter.unusedVariables false
set_option maxHeartbeats 2000000 in
theorem SJ (b1 b2 blk off c size rb ro rc rsize:Nat) (W:World) (G:Nat→Nat) (R:Nat→Int) (ho:W.cell? ⟨b1,0,none⟩=some (.slice (some ⟨blk,off,none⟩) size c)) (hr:W.cell? ⟨b2,0,none⟩=some (.slice (some ⟨rb,ro,none⟩) rsize rc))
  (hc:∀t,t<size→W.cell? ⟨blk,off+t,none⟩=some (.int .i64 (G t:Int))) (hR:∀t,t<rsize→W.cell? ⟨rb,ro+t,none⟩=some (.int .i64 (R t))) (i j:Nat) (hi:i<size) (hj:j<size) (gi:G i<rsize) (gj:G j<rsize):
  Calls Tryz.prog 109 #[.int .i64 i,.int .i64 j,.pointer (some ⟨b1,0,none⟩),.pointer (some ⟨b2,0,none⟩)] W λe w'=>e= .returned (.bool (cond (!decide (R (G i)=R (G j))) (decide (R (G j)<R (G i))) (decide (G i<G j))))∧∃q,w'=W.drewN q:=by
 have ci:=hc i hi
 have cj:=hc j hj
 have ri:=hR _ gi
 have rj:=hR _ gj
 go_enter Tryz.func109,Tryz.ntmps109
 go_wp2
 go_quiet (fail)
 go_wp2
 go_quiet (fail)
 go_wp2
 ·go_quiet (fail)
  go_wp2
  go_ret
  rename_i hne
  have hn:decide (R (G i)=R (G j))=false:=by simpa using hne
  refine⟨by rw[hn];rfl,_,by(try simp only[World.drewN_drewN]);rfl⟩
 ·go_ret
  rename_i hne
  have hn:decide (R (G i)=R (G j))=true:=by simpa using hne
  refine⟨by rw[hn];rfl,_,by(try simp only[World.drewN_drewN]);rfl⟩
end Go.Proofs.YtblcgjadhemlbaaGreat
namespace Go.Proofs.YtblcgjadhemlbaaGreat
set_option linter.unusedSimpArgs false
open Go.Shelf Go.RowKit Go.Lib Go.Sort
set_option linter.unusedVariables false
theorem Ug (R:Nat→Int) {n:Nat}:SWO (λa b:Fin n=>OF R a b) where
 irrefl x:=by simp [OF]
 trans x y z h1 h2:=by
  simp only[OF] at*
  by_cases e1:R x=R y<;>by_cases e2:R y=R z<;>by_cases e3:R x=R z<;>simp_all<;>omega
 ntrans x y z h1 h2:=by
  simp only[OF] at*
  by_cases e1:R x=R y<;>by_cases e2:R y=R z<;>by_cases e3:R x=R z<;>simp_all<;>omega
theorem Tk (R:Nat→Int) (a b:Nat) (h1:OF R a b=false) (h2:OF R b a=false):a=b:=by
 simp only[OF] at*
 by_cases e1:R a=R b
 ·simp_all;omega
 ·have e2:¬R b=R a:=λh=>e1 h.symm
  simp_all;omega
theorem RI (b1 b2 blk off c n rb ro rc:Nat) [NeZero n] (W:World) (R:Nat→Int) (ho:W.cell? ⟨b1,0,none⟩=some (.slice (some ⟨blk,off,none⟩) n c)) (hr:W.cell? ⟨b2,0,none⟩=some (.slice (some ⟨rb,ro,none⟩) n rc))
  (d:Array (Fin n)) (hd:d.size=n) (hH:Holds (λk:Fin n=>Value.int .i64 (k.val:Int)) W blk off d) (hR:∀t,t<n→W.cell? ⟨rb,ro+t,none⟩=some (.int .i64 (R t))) (hb:blk<W.heap.size) (h1:b1<W.heap.size) (h2:b2<W.heap.size) (h3:rb<W.heap.size) (n1:b1≠blk) (n2:b2≠blk) (n3:rb≠blk):
  LessReads Tryz.prog 109 #[.pointer (some ⟨b1,0,none⟩),.pointer (some ⟨b2,0,none⟩)] (λk:Fin n=>Value.int .i64 (k.val:Int)) (λa b:Fin n=>OF R a b) blk off n W:=by
 intro m os dk hs i j hi hj
 have e:sortWorld (λk:Fin n=>Value.int .i64 (k.val:Int)) W blk off m dk os=putRow (λk:Fin n=>Value.int .i64 (k.val:Int)) (grow (Sort.ahead W m) os) blk off dk:=by
  unfold sortWorld;rw[putRow_grow _ (Sort.ahead W m) _ blk off _ hb]
 have hHg:Holds (λk:Fin n=>Value.int .i64 (k.val:Int)) (grow (Sort.ahead W m) os) blk off d:=holds_grow _ _ _ blk off d hb (holds_ahead _ _ _ _ _ _ hH)
 have other:∀a:Addr,a.block≠blk→a.block<W.heap.size→(sortWorld (λk:Fin n=>Value.int .i64 (k.val:Int)) W blk off m dk os).cell? a=W.cell? a:=λa x y=>by
  rw[e,cell?_putRow_other _ _ blk off dk _ (Or.inl x),cell?_grow (Sort.ahead W m) _ _ y];rfl
 refine SJ b1 b2 blk off c n rb ro rc n _ (λt=>(dk[t]!).val) R ((other _ n1 h1).trans ho) ((other _ n2 h2).trans hr) (λt ht=>?_) (λt ht=>(other _ n3 h3).trans (hR t ht)) i j hi hj (dk[i]!).isLt (dk[j]!).isLt
 rw[e]
 exact cell?_putRow _ _ blk off d dk hHg (hs.trans hd.symm) t (by omega)
end Go.Proofs.YtblcgjadhemlbaaGreat
namespace Go.Proofs.YtblcgjadhemlbaaGreat
set_option linter.unusedSimpArgs false
open Go.Shelf Go.RowKit Go.Lib Go.Sort
set_option linter.unusedVariables false
noncomputable def eA:TypeInfo:=(Tryz.prog.info? 29).get (by kernel_rfl)
noncomputable def XT:TypeInfo:=(Tryz.prog.info? 3).get (by kernel_rfl)
theorem siK (n:Nat) (h2:2≤n):Lib.swapperK n XT 2=5:=by
 have a:XT.hasPointers=false:=by kernel_rfl
 have b:XT.bytes=8:=by kernel_rfl
 have c:(n==0)=false:=by simp;omega
 have d:(n==1)=false:=by simp;omega
 simp [Lib.swapperK,a,b,c,d]
theorem RH (b1 b2 blk off c n rb ro rc:Nat) [NeZero n] (W:World) (R:Nat→Int) (ho:W.cell? ⟨b1,0,none⟩=some (.slice (some ⟨blk,off,none⟩) n c)) (hr:W.cell? ⟨b2,0,none⟩=some (.slice (some ⟨rb,ro,none⟩) n rc))
  (d:Array (Fin n)) (hd:d.size=n) (g2:2≤n) (hsz:n<4611686018427387904) (hH:Holds (λk:Fin n=>Value.int .i64 (k.val:Int)) W blk off d) (hR:∀t,t<n→W.cell? ⟨rb,ro+t,none⟩=some (.int .i64 (R t))) (hb:blk<W.heap.size) (h1:b1<W.heap.size) (h2:b2<W.heap.size) (h3:rb<W.heap.size) (n1:b1≠blk) (n2:b2≠blk) (n3:rb≠blk):
  Calls Tryz.prog 108 #[.iface 29 (.slice (some ⟨blk,off,none⟩) n c),.func (.func 109) #[] #[.pointer (some ⟨b1,0,none⟩),.pointer (some ⟨b2,0,none⟩)]] W λe w'=>
   e= .returned (.tuple #[])∧∃d' q os,PermIn 0 d.size d d'∧SortedIn (λa b:Fin n=>OF R a b) 0 d.size d'∧w'=grow (putRow (λk:Fin n=>Value.int .i64 (k.val:Int)) (Sort.ahead W q) blk off d') os:=by
 have hl:=RI b1 b2 blk off c n rb ro rc W R ho hr d hd hH hR hb h1 h2 h3 n1 n2 n3
 have hS:=Any.sort_Slice_sorted dZ 29 3 eA XT (by kernel_rfl) (by kernel_rfl) (by kernel_rfl) (by kernel_rfl) 2 (λ_=>by kernel_rfl) (by kernel_rfl) (λ_=>by kernel_rfl) (λk:Fin n=>Value.int .i64 (k.val:Int)) (λ_=>rfl) (λa b:Fin n=>OF R a b) (Ug R) 109 _
  (enters_of Tryz.func109 (by kernel_rfl) rfl) blk off c d (by omega) (by omega) 122 (by rw[siK _ (by omega)];kernel_rfl) true
  (λargs W=>run_callFunc_extern Tryz.func122 (by kernel_rfl) (by kernel_rfl) (by kernel_rfl) (e:=Extern.ReflectliteSwapper.swap true) (by kernel_rfl) args W) W (by rw[hd];exact hl) hH hb
 rw[hd] at hS
 change Calls Tryz.prog 108 _ _ _ at hS
 rw[hd]
 exact hS
end Go.Proofs.YtblcgjadhemlbaaGreat
namespace Go.Proofs.YtblcgjadhemlbaaGreat
set_option linter.unusedSimpArgs false
open Go.Shelf Go.RowKit Go.Lib Go.Sort
set_option linter.unusedVariables false
theorem QE {α:Type}[Inhabited α] (enc:α→Value) (W:World) (q g b:Nat) (d:Array α) (os:Array Obj) (hb:b<W.heap.size) (hn:b≠g):(grow (putRow enc (Sort.ahead W q) g 0 d) os).heap[b]? =W.heap[b]? :=by
 show((W.heap.modify g _)++os)[b]? =_
 rw[Array.getElem?_append_left (by simpa using hb),Array.getElem?_modify]
 simp [Ne.symm hn]
theorem QG {α:Type}[Inhabited α] (enc:α→Value) (W:World) (q g:Nat) (d:Array α) (os:Array Obj) {cur:Array Value}{T:TypeId}{fr:Nat×Nat}(hg:W.heap[g]? =some (.cells cur T fr)):(grow (putRow enc (Sort.ahead W q) g 0 d) os).heap[g]? =some (.cells (putCells enc 0 d cur) T fr):=by
 have hlt:g<W.heap.size:=(Array.getElem?_eq_some_iff.1 hg).1
 show((W.heap.modify g _)++os)[g]? =_
 rw[Array.getElem?_append_left (by simpa using hlt),Array.getElem?_modify]
 simp [hg,onCells]
theorem Oi {α:Type}[Inhabited α] (enc:α→Value) (W:World) (q g:Nat) (d:Array α) (os:Array Obj):W.heap.size≤(grow (putRow enc (Sort.ahead W q) g 0 d) os).heap.size:=by
 show W.heap.size≤((W.heap.modify g _)++os).size
 simp
end Go.Proofs.YtblcgjadhemlbaaGreat
