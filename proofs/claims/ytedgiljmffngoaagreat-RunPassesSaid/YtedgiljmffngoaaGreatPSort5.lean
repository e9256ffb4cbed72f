import Derived.Test.YtedgiljmffngoaaGreatPInst
import Derived.Test.YtedgiljmffngoaaGreatPSortD
import Derived.Test.YtedgiljmffngoaaGreatPForms
import Derived.Test.YtedgiljmffngoaaGreatPCore26
import Derived.Test.YtedgiljmffngoaaGreatRows
import Derived.Shelf.GgSortFunc.Whole
import Derived.Shelf.GgSortFunc.Tiny
import Derived.Deep.QuietTactic
import Derived.WalkKit
import Derived.Sort.LotA
import Derived.Test.YtedgiljmffngoaaGreatPCore30
namespace Go.Proofs.YtedgiljmffngoaaGreat
set_option linter.all false
open Go.RowKit
open Go.Proofs.Tryz
set_option maxRecDepth 10000
variable {N:Nat}{S:Nat→Prop}{L:List HP}{h:AS}
def oQ (x:Value) (w:World):(callFunc 275 #[x]).run prog w= .ok (.value x) w:=vD func275 (by kernel_rfl) (by kernel_rfl) (by kernel_rfl) (by kernel_rfl) x w
def Wa {b:Nat}{p v:Value}(i:p= .pointer none∨p= .pointer (some ⟨b,0,none⟩)) (a:St S (Bx b 269 [p,v]::L) h):
  B6 prog 225 #[.pointer (some ⟨b,0,none⟩)] S h (λw S' h'=>w= .tuple #[]∧St S' (Bx b 269 [.pointer (some ⟨b,0,none⟩),v]::L) h'):=by
 refine A7 (l:=[.pointer (some ⟨b,0,none⟩)]) 20 func225 rfl ntmps225 rfl λB=>?_;rcases i with rfl|rfl
 ·refine C6 ?_;refine I0 (.inl rfl) ?_;refine LC rfl rfl ?_;refine Kh rfl rfl ?_;refine Id rfl Qw.1 rfl ?_;refine N9 (vs:=[.pointer none]) K9 a rfl mh rfl rfl Ug.1 rfl rfl ?_;refine Yp (o:=none) rfl rfl Sj TK rfl ?_;refine Ew (sb 6 rfl (sb 0 rfl Nv)) ?_;refine VH rfl ?_;refine B1 ?_;refine L6 7 ?_;refine LC rfl rfl ?_;refine LC rfl rfl ?_;refine sF a mh rfl Sj aD TK rfl rfl ?_;refine fE rfl rfl (oQ _) rfl ?_;refine sT a mh rfl aD Sj TK oT rfl ?_;refine Kh rfl rfl ?_;refine Id rfl Qw.1 rfl ?_;refine K2 ?_;refine Tg (vs:=[.pointer (some ⟨b,0,none⟩)]) (cs':=[.pointer (some ⟨b,0,none⟩),v]) rfl rfl rfl (CM rfl M8) Ug.1 rfl a .head rfl rfl λn c j=>?_;refine LF.nil Nv ?_;refine WF.nil (λk m d g=>?_);exact JC d rfl g JB rfl j ⟨rfl,c⟩
 ·refine C6 ?_;refine I0 (.inl rfl) ?_;refine LC rfl rfl ?_;refine Kh rfl rfl ?_;refine Id rfl Qw.1 rfl ?_;refine N9 (vs:=[.pointer (some ⟨b,0,none⟩)]) K9 a rfl mh rfl rfl Ug.1 rfl rfl ?_;refine Yp (o:=some ⟨b,0,none⟩) rfl rfl Sj TK rfl ?_;refine Ew (sb 6 rfl (sb 0 rfl Nv)) ?_;refine Tc rfl ?_;refine C6 ?_;refine I0 (.inl rfl) ?_;refine LC rfl rfl ?_;refine Kh rfl rfl ?_;refine Id rfl Qw.1 rfl ?_;refine N9 (vs:=[.pointer (some ⟨b,0,none⟩)]) K9 a rfl mh rfl rfl Ug.1 rfl rfl ?_;refine LC rfl rfl ?_;refine fK rfl rfl Sj TK rfl ?_;refine Ew (sb 19 rfl Nv) ?_;refine Tc rfl ?_;refine F9 ?_;refine WF.nil (λk m d g=>?_);exact JC d rfl g JB rfl (CG.refl S h) ⟨rfl,a⟩
def Kc {a:Nat}{b s:ByteArray}(o:St S (Vc a 269 5 b::L) h) (t:s.size≤maxLen) {r:ByteArray}(E:Ps N b s=some r):
  B6 prog 171 #[.pointer (some ⟨a,0,none⟩),.string s] S h (λv S' h'=>v= .tuple #[.int .i64 s.size,.nilIface]∧St S' (Vc a 269 5 r::L) h'):=by
 refine A7 (l:=[.pointer (some ⟨a,0,none⟩),.string s]) 19 func171 rfl ntmps171 rfl λB=>?_;obtain⟨n,E⟩:=KM E;have i:=lQ n;obtain⟨p,v,w,x,j⟩:=o.bldO;refine C6 ?_;refine I0 (.inl rfl) ?_;refine Mq rfl rfl ?_;refine Mq rfl rfl ?_;refine Ew (sb 1 rfl (sb 0 rfl Nv)) ?_;refine C6 ?_;refine B1 ?_;refine L6 1 ?_;refine LC rfl rfl ?_;refine K2 ?_;refine Ed rfl rfl rfl eK rfl (Wa w j) λu F G y q=>?_;obtain⟨rfl,d⟩:=q;refine LF.nil (sb 1 rfl (sb 0 rfl Nv)) ?_;refine C6 ?_;refine B1 ?_;refine L6 6 ?_;refine LC rfl rfl ?_;refine LC rfl rfl ?_;refine Kh rfl rfl ?_;refine Id rfl Ll.1 rfl ?_;refine N9 (vs:=[v]) K9 d rfl mh rfl rfl Oi.1 rfl rfl ?_;refine LC rfl rfl ?_;refine K2 ?_;refine lB (LL:=λg=>Bx a 269 [.pointer (some ⟨a,0,none⟩),v]::OS RB 5 g (bL b++bL s)::L) rfl rfl O7 MU (by rw[Mm];exact i) (by rw[Mm];exact MJ n) rfl d (λ_=> .tail .head) λg H c z A=>?_;refine L6 2 ?_;refine Kh rfl rfl ?_;refine Id rfl Ll.1 rfl ?_;refine K2 ?_;refine Tg (vs:=[g]) (cs':=[.pointer (some ⟨a,0,none⟩),g]) rfl rfl (c.oscell (.tail _ mh)) (CM (c.osone (.tail _ mh)) M8) Oi.1 rfl c .head rfl rfl λI k C=>?_;refine LF.nil (sb 1 rfl Nv) ?_;refine C6 ?_;refine I0 (.inl rfl) ?_;refine LC rfl rfl ?_;refine MH rfl MU rfl ?_;refine Mq rfl rfl ?_;refine Mq rfl rfl ?_;refine Ew (sb 5 rfl (sb 4 rfl Nv)) ?_;refine B0 (λJ K m D=>?_);cases E;exact JC m rfl D (G4 (IC m (v:=_) rfl) (G4 (IC m (v:=_) rfl) JB)) rfl (y.trans (z.trans C)) ⟨rfl,VJ (.inr rfl) (wJ x A) (by rw[sA];exact k)⟩
def eU {a:Nat}{b:ByteArray}{c:Int}(w:St S (Vc a 269 5 b::L) h) (g:IntKind.has .u8 c) {r:ByteArray}(E:rZ N b c=some r):
  B6 prog 277 #[.pointer (some ⟨a,0,none⟩),.int .u8 c] S h (λv S' h'=>v= .nilIface∧St S' (Vc a 269 5 r::L) h'):=by
 refine A7 (l:=[.pointer (some ⟨a,0,none⟩),.int .u8 c]) 17 func277 rfl ntmps277 rfl λB=>?_;obtain⟨t,E⟩:=KM E;have k:=lQ t;obtain⟨p,v,y,I,m⟩:=w.bldO;refine C6 ?_;refine I0 (.inl rfl) ?_;refine Mq rfl rfl ?_;refine Ew (sb 1 rfl (sb 0 rfl Nv)) ?_;refine C6 ?_;refine B1 ?_;refine L6 1 ?_;refine LC rfl rfl ?_;refine K2 ?_;refine Ed rfl rfl rfl eK rfl (Wa y m) λu J K z q=>?_;obtain⟨rfl,i⟩:=q;refine LF.nil (sb 1 rfl (sb 0 rfl Nv)) ?_;refine C6 ?_;refine B1 ?_;refine L6 6 ?_;refine LC rfl rfl ?_;refine LC rfl rfl ?_;refine Kh rfl rfl ?_;refine Id rfl Ll.1 rfl ?_;refine N9 (vs:=[v]) K9 i rfl mh rfl rfl Oi.1 rfl rfl ?_;refine LC rfl rfl ?_;refine K2 ?_;refine mT (pv:=[(0,.int .u8 c)]) (cs:=[.int .u8 c]) O7 rfl rfl rfl rfl (by simp) rfl i λA M n C=>?_;refine Yy (r:=RB) (l:=bL b) (xs:=[c]) (LL:=λj=>Bx A 5 [.int .u8 c]::Bx a 269 [.pointer (some ⟨a,0,none⟩),v]::OS RB 5 j (bL b++[c])::L) rfl rfl O7 rfl mh ⟨_,_,rfl,⟨rfl,g⟩,rfl⟩ rfl (by rw[Mm];exact k) (by rw[Mm];exact MJ t) rfl n (λ_=> .tail (.tail .head)) λj Q o D=>?_;have d:=o.drop .head;refine L6 2 ?_;refine Kh rfl rfl ?_;refine Id rfl Ll.1 rfl ?_;refine K2 ?_;refine Tg (vs:=[j]) (cs':=[.pointer (some ⟨a,0,none⟩),j]) rfl rfl (d.oscell (.tail _ mh)) (CM (d.osone (.tail _ mh)) M8) Oi.1 rfl d .head rfl rfl λU s F=>?_;refine LF.nil Nv ?_;refine C6 ?_;refine I0 (.inl rfl) ?_;refine Mq rfl rfl ?_;refine Ew (sb 4 rfl Nv) ?_;refine B0 (λV W G H=>?_);cases E;exact UC G H rfl rfl (z.trans (C.trans (D.trans F))) ⟨rfl,VJ (.inr rfl) (λx=>absurd x (by rw[ByteArray.size_push];omega)) (by rw[jO _ _ g];exact s)⟩
def YR {d:Nat}{b:ByteArray}(m:St S (Vc d 269 5 b::L) h) {r:ByteArray}(E:rY N b=some r):
  B6 prog 174 #[.pointer (some ⟨d,0,none⟩)] S h (λv S' h'=>v= .string r∧r.size≤maxLen∧St S' L h'):=by
 refine A7 (l:=[.pointer (some ⟨d,0,none⟩)]) 14 func174 rfl ntmps174 rfl λB=>?_;cases E;obtain⟨p,v,z,n,c⟩:=m.bldO;have j:b.size≤maxLen:=by obtain⟨A,cap,_,q⟩:=c.oslen (.tail _ mh);rwa [Mm] at q
 refine C6 ?_;refine I0 (.inl rfl) ?_;refine Mq rfl rfl ?_;refine Ew (sb 0 rfl Nv) ?_;refine C6 ?_;by_cases h0:b.size=0
 ·obtain rfl:=n h0;have o:b=ByteArray.empty:=ByteArray.ext (Array.eq_empty_of_size_eq_zero h0);subst o;refine YY (λw=>w.heap[d]? =some (.cells ([p,.slice none 0 0]:List Value).toArray 269 (0,0))) mo ?_;refine PR 0 rfl (by kernel_rfl) (λw a=>c.bxW mh a) rfl rfl ?_;refine Yz 1 rfl (by kernel_rfl) (λw a=>c.bxW mh a) rfl rfl ?_;refine QU 2 rfl (by kernel_rfl) (λw a=>c.bxW mh a) rfl Ll.1 rfl ?_;refine OB 3 (vs:=[.slice none 0 0]) rfl (by kernel_rfl) (λw a=>c.bxW mh a) rfl (λw a=>a) rfl rfl Oi.1 rfl rfl ?_;refine gC 4 rfl (by kernel_rfl) (λw a=>c.bxW mh a) rfl (λx=>by cases x) rfl ?_;refine PR 5 rfl (by kernel_rfl) (λw a=>c.bxW mh a) rfl rfl ?_;refine Yz 6 rfl (by kernel_rfl) (λw a=>c.bxW mh a) rfl rfl ?_;refine QU 7 rfl (by kernel_rfl) (λw a=>c.bxW mh a) rfl Ll.1 rfl ?_;refine OB 8 (vs:=[.slice none 0 0]) rfl (by kernel_rfl) (λw a=>c.bxW mh a) rfl (λw a=>a) rfl rfl Oi.1 rfl rfl ?_;refine Y0 9 rfl (by kernel_rfl) (λw a=>c.bxW mh a) rfl RN.1 rfl ?_;refine Zm 10 rfl rfl (by kernel_rfl) ?_;refine fV rfl rfl rfl ?_;refine Uc (λw a=>c.bxW mh a) ?_;refine VS 11 rfl (by kernel_rfl) (λw a=>c.bxW mh a) rfl rfl ?_;refine Sc (by kernel_rfl) (sb 2 rfl Nv) ?_;refine B0 (λs t k a=>?_);exact UC k a rfl rfl (CG.refl S h) ⟨rfl,j,(c.drop .head).drop .head⟩
 ·obtain⟨g,cap,rfl,u⟩:=c.osrow (.tail _ mh) (by rw[Mm];exact h0);rw[Mm] at c u;refine YY (λw=>w.heap[d]? =some (.cells ([p,.slice (some ⟨g,0,none⟩) b.size cap]:List Value).toArray 269 (0,0))) mo ?_;refine PR 0 rfl (by kernel_rfl) (λw a=>c.bxW mh a) rfl rfl ?_;refine Yz 1 rfl (by kernel_rfl) (λw a=>c.bxW mh a) rfl rfl ?_;refine QU 2 rfl (by kernel_rfl) (λw a=>c.bxW mh a) rfl Ll.1 rfl ?_;refine OB 3 (vs:=[.slice (some ⟨g,0,none⟩) b.size cap]) rfl (by kernel_rfl) (λw a=>c.bxW mh a) rfl (λw a=>a) rfl rfl Oi.1 rfl rfl ?_;refine gC 4 rfl (by kernel_rfl) (λw a=>c.bxW mh a) rfl (λ_=>by omega) rfl ?_;refine PR 5 rfl (by kernel_rfl) (λw a=>c.bxW mh a) rfl rfl ?_;refine Yz 6 rfl (by kernel_rfl) (λw a=>c.bxW mh a) rfl rfl ?_;refine QU 7 rfl (by kernel_rfl) (λw a=>c.bxW mh a) rfl Ll.1 rfl ?_;refine OB 8 (vs:=[.slice (some ⟨g,0,none⟩) b.size cap]) rfl (by kernel_rfl) (λw a=>c.bxW mh a) rfl (λw a=>a) rfl rfl Oi.1 rfl rfl ?_;refine Y0 9 rfl (by kernel_rfl) (λw a=>c.bxW mh a) rfl RN.1 rfl ?_;refine Zm 10 rfl rfl (by kernel_rfl) ?_;refine kX (L:=Bx d 269 [p,.slice (some ⟨g,0,none⟩) b.size cap]::L) rfl rfl (c.pick (.tail .head)) h0 nJ yJ rfl λC i y=>?_;refine Uc (λw a=>i.bxW mh a) ?_;refine VS 11 rfl (by kernel_rfl) (λw a=>i.bxW mh a) rfl rfl ?_;refine Sc (by kernel_rfl) (sb 2 rfl Nv) ?_;refine B0 (λs t k a=>?_);exact UC k a rfl rfl y ⟨rfl,j,i.drop .head⟩
def Y4 (d:St S L h) {s:ByteArray}(a:s.size≤maxLen) {r:AT}(E:lJ N s=some r):
  B6 prog 170 #[.string s] S h (λv S' h'=>∃b:Nat,v= .pointer (some ⟨b,0,none⟩)∧r.rest_.size≤maxLen∧St S' (Bx b 315 [.string r.rest_,.bool r.bad]::L) h'):=by
 refine A7 (l:=[.string s]) 6 func170 rfl ntmps170 rfl λB=>?_;cases E;refine C6 ?_;refine I0 (.inl rfl) ?_;refine Mq rfl rfl ?_;refine Ew (sb 0 rfl Nv) ?_;refine C6 ?_;refine B1 ?_;refine L6 2 ?_;refine LC rfl rfl ?_;refine FV (cs:=[.string s,.bool false]) nW rfl rfl rfl ?_;refine K2 ?_;refine PQ rfl rfl rfl d λb k c g=>?_;refine L6 1 ?_;refine Mq rfl rfl ?_;refine K2 ?_;refine LF.nil (sb 2 rfl Nv) ?_;refine B0 (λm n i j=>?_);exact UC i j rfl rfl g ⟨b,rfl,a,c⟩
open Go.RowKit Go.Shelf
def iA:Ren:={ f:=λx=>match x with|6=>291|10=>305|11=>306|12=>307|13=>281|14=>308|24=>301|25=>302|26=>323|27=>324|28=>325|29=>326|30=>327|31=>328|32=>329|33=>330|34=>332|35=>333|36=>334|37=>335|38=>336|39=>337|n=>n,t:=λx=>match x with|20=>20|26=>233|35=>378|0=>0|37=>336|3=>3|41=>186|44=>383|49=>374|51=>176|4=>4|54=>395|53=>394|58=>93|5=>5|9=>9|60=>402|64=>388|66=>405|67=>96|17=>17|32=>348|33=>376|82=>419|12=>12|75=>413|76=>414|77=>415|78=>318|79=>416|80=>417|n=>n,g:=λx=>have n:=x;n}
def zA:LaysGg.n6 prog iA:={ mixed:=by kernel_rfl,f6:=func291,f10:=func305,f11:=func306,f12:=func307,f13:=func281,f14:=func308,f24:=func301,f25:=func302,f26:=func323,f27:=func324,f28:=func325,f29:=func326,f30:=func327,f31:=func328,f32:=func329,f33:=func330,f34:=func332,f35:=func333,f36:=func334,f37:=func335,f38:=func336,f39:=func337,t0:=underlying0,a0:=Tryz.isAgg0,z0:=Tryz.sizeOf0,v0:=Tryz.zeroValue0,i0:=by kernel_rfl,t3:=underlying3,a3:=Tryz.isAgg3,z3:=Tryz.sizeOf3,v3:=Tryz.zeroValue3,i3:=by kernel_rfl,t4:=underlying4,a4:=Tryz.isAgg4,z4:=Tryz.sizeOf4,v4:=Tryz.zeroValue4,i4:=by kernel_rfl,t5:=underlying5,a5:=Tryz.isAgg5,z5:=Tryz.sizeOf5,v5:=Tryz.zeroValue5,i5:=by kernel_rfl,t9:=underlying9,a9:=Tryz.isAgg9,z9:=Tryz.sizeOf9,v9:=Tryz.zeroValue9,i9:=by kernel_rfl,t12:=underlying12,a12:=Tryz.isAgg12,z12:=Tryz.sizeOf12,v12:=Tryz.zeroValue12,i12:=by kernel_rfl,t17:=underlying17,a17:=Tryz.isAgg17,z17:=Tryz.sizeOf17,v17:=Tryz.zeroValue17,i17:=by kernel_rfl,t20:=underlying20,a20:=Tryz.isAgg20,z20:=Tryz.sizeOf20,v20:=Tryz.zeroValue20,i20:=by kernel_rfl,t26:=underlying233,a26:=Tryz.isAgg233,z26:=Tryz.sizeOf233,v26:=Tryz.zeroValue233,i26:=by kernel_rfl,t32:=underlying348,a32:=Tryz.isAgg348,z32:=Tryz.sizeOf348,v32:=Tryz.zeroValue348,i32:=by kernel_rfl,t33:=underlying376,a33:=Tryz.isAgg376,z33:=Tryz.sizeOf376,v33:=Tryz.zeroValue376,i33:=by kernel_rfl,t35:=underlying378,a35:=Tryz.isAgg378,z35:=Tryz.sizeOf378,v35:=Tryz.zeroValue378,i35:=by kernel_rfl,t37:=underlying336,a37:=Tryz.isAgg336,z37:=Tryz.sizeOf336,v37:=Tryz.zeroValue336,i37:=by kernel_rfl,t41:=underlying186,a41:=Tryz.isAgg186,z41:=Tryz.sizeOf186,v41:=Tryz.zeroValue186,i41:=by kernel_rfl,t44:=underlying383,a44:=Tryz.isAgg383,z44:=Tryz.sizeOf383,v44:=Tryz.zeroValue383,i44:=by kernel_rfl,t49:=underlying374,a49:=Tryz.isAgg374,z49:=Tryz.sizeOf374,v49:=Tryz.zeroValue374,i49:=by kernel_rfl,t51:=underlying176,a51:=Tryz.isAgg176,z51:=Tryz.sizeOf176,v51:=Tryz.zeroValue176,i51:=by kernel_rfl,t53:=underlying394,a53:=Tryz.isAgg394,z53:=Tryz.sizeOf394,v53:=Tryz.zeroValue394,i53:=by kernel_rfl,t54:=underlying395,a54:=Tryz.isAgg395,z54:=Tryz.sizeOf395,v54:=Tryz.zeroValue395,i54:=by kernel_rfl,t58:=underlying93,a58:=Tryz.isAgg93,z58:=Tryz.sizeOf93,v58:=Tryz.zeroValue93,i58:=by kernel_rfl,t60:=underlying402,a60:=Tryz.isAgg402,z60:=Tryz.sizeOf402,v60:=Tryz.zeroValue402,i60:=by kernel_rfl,t64:=underlying388,a64:=Tryz.isAgg388,z64:=Tryz.sizeOf388,v64:=Tryz.zeroValue388,i64:=by kernel_rfl,t66:=underlying405,a66:=Tryz.isAgg405,z66:=Tryz.sizeOf405,v66:=Tryz.zeroValue405,i66:=by kernel_rfl,t67:=underlying96,a67:=Tryz.isAgg96,z67:=Tryz.sizeOf96,v67:=Tryz.zeroValue96,i67:=by kernel_rfl,t75:=underlying413,a75:=Tryz.isAgg413,z75:=Tryz.sizeOf413,v75:=Tryz.zeroValue413,i75:=by kernel_rfl,t76:=underlying414,a76:=Tryz.isAgg414,z76:=Tryz.sizeOf414,v76:=Tryz.zeroValue414,i76:=by kernel_rfl,t77:=underlying415,a77:=Tryz.isAgg415,z77:=Tryz.sizeOf415,v77:=Tryz.zeroValue415,i77:=by kernel_rfl,t78:=underlying318,a78:=Tryz.isAgg318,z78:=Tryz.sizeOf318,v78:=Tryz.zeroValue318,i78:=by kernel_rfl,t79:=underlying416,a79:=Tryz.isAgg416,z79:=Tryz.sizeOf416,v79:=Tryz.zeroValue416,i79:=by kernel_rfl,t80:=underlying417,a80:=Tryz.isAgg417,z80:=Tryz.sizeOf417,v80:=Tryz.zeroValue417,i80:=by kernel_rfl,t82:=underlying419,a82:=Tryz.isAgg419,z82:=Tryz.sizeOf419,v82:=Tryz.zeroValue419,i82:=by kernel_rfl}
open Go.Shelf Go.RowKit Go.Lib Go.Sort
set_option maxHeartbeats 2000000 in
def XG (l m g off c b n o u a:Nat) (W:World) (G:Nat→Nat) (R:Nat→Int) (z:W.cell? ⟨l,0,none⟩=some (.slice (some ⟨g,off,none⟩) b c)) (A:W.cell? ⟨m,0,none⟩=some (.slice (some ⟨n,o,none⟩) a u))
  (p:∀t,t<b→W.cell? ⟨g,off+t,none⟩=some (.int .i64 (G t:Int))) (s:∀t,t<a→W.cell? ⟨n,o+t,none⟩=some (.int .i64 (R t))) (i j:Nat) (v:i<b) (w:j<b) (x:G i<a) (y:G j<a):
  Calls Tryz.prog 292 #[.int .i64 i,.int .i64 j,.pointer (some ⟨l,0,none⟩),.pointer (some ⟨m,0,none⟩)] W λe w'=>e= .returned (.bool (cond (!decide (R (G i)=R (G j))) (decide (R (G j)<R (G i))) (decide (G i<G j))))∧∃q,w'=W.drewN q:=by
 have B:=p i v;have C:=p j w;have D:=s _ x;have F:=s _ y;go_enter Tryz.func292,Tryz.ntmps292
 go_wp2
 go_quiet (fail)
 go_wp2
 go_quiet (fail)
 go_wp2
 ·go_quiet (fail)
  go_wp2
  go_ret
  rename_i d;have k:decide (R (G i)=R (G j))=false:=by simpa using d
  refine⟨by rw[k];rfl,_,by(try simp only[World.drewN_drewN]);rfl⟩
 ·go_ret
  rename_i d;have k:decide (R (G i)=R (G j))=true:=by simpa using d
  refine⟨by rw[k];rfl,_,by(try simp only[World.drewN_drewN]);rfl⟩
def bQ (R:Nat→Int) {n:Nat}:SWO (λa b:Fin n=>SH R a b) where
 irrefl x:=by simp [SH]
 trans x y z h1 h2:=by
  simp only[SH] at*;by_cases c:R x=R y<;>by_cases d:R y=R z<;>by_cases g:R x=R z<;>simp_all<;>omega
 ntrans x y z h1 h2:=by
  simp only[SH] at*;by_cases c:R x=R y<;>by_cases d:R y=R z<;>by_cases g:R x=R z<;>simp_all<;>omega
def ZF (R:Nat→Int) (a b:Nat) (d:SH R a b=false) (g:SH R b a=false):a=b:=by
 simp only[SH] at*;by_cases c:R a=R b
 ·simp_all;omega
 ·have i:¬R b=R a:=λj=>c j.symm;simp_all;omega
def Vu (p q g off c n s v z:Nat) [NeZero n] (W:World) (R:Nat→Int) (C:W.cell? ⟨p,0,none⟩=some (.slice (some ⟨g,off,none⟩) n c)) (D:W.cell? ⟨q,0,none⟩=some (.slice (some ⟨s,v,none⟩) n z))
  (d:Array (Fin n)) (hd:d.size=n) (F:Holds (λk:Fin n=>Value.int .i64 (k.val:Int)) W g off d) (G:∀t,t<n→W.cell? ⟨s,v+t,none⟩=some (.int .i64 (R t))) (A:g<W.heap.size) (H:p<W.heap.size) (I:q<W.heap.size) (J:s<W.heap.size) (K:p≠g) (M:q≠g) (Q:s≠g):
  LessReads Tryz.prog 292 #[.pointer (some ⟨p,0,none⟩),.pointer (some ⟨q,0,none⟩)] (λk:Fin n=>Value.int .i64 (k.val:Int)) (λa b:Fin n=>SH R a b) g off n W:=by
 intro m u o U i j V X;have e:sortWorld (λk:Fin n=>Value.int .i64 (k.val:Int)) W g off m o u=putRow (λk:Fin n=>Value.int .i64 (k.val:Int)) (grow (Sort.ahead W m) u) g off o:=by
  unfold sortWorld;rw[putRow_grow _ (Sort.ahead W m) _ g off _ A]
 have w:Holds (λk:Fin n=>Value.int .i64 (k.val:Int)) (grow (Sort.ahead W m) u) g off d:=holds_grow _ _ _ g off d A (holds_ahead _ _ _ _ _ _ F);have l:∀a:Addr,a.block≠g→a.block<W.heap.size→(sortWorld (λk:Fin n=>Value.int .i64 (k.val:Int)) W g off m o u).cell? a=W.cell? a:=λa x y=>by
  rw[e,cell?_putRow_other _ _ g off o _ (Or.inl x),cell?_grow (Sort.ahead W m) _ _ y];rfl
 refine XG p q g off c n s v z n _ (λt=>(o[t]!).val) R ((l _ K H).trans C) ((l _ M I).trans D) (λt B=>?_) (λt B=>(l _ Q J).trans (G t B)) i j V X (o[i]!).isLt (o[j]!).isLt;rw[e];exact cell?_putRow _ _ g off d o w (U.trans hd.symm) t (by omega)
noncomputable def zB:TypeInfo:=(Tryz.prog.info? 29).get (by kernel_rfl)
noncomputable def lP:TypeInfo:=(Tryz.prog.info? 3).get (by kernel_rfl)
def siK (n:Nat) (g:2≤n):Lib.swapperK n lP 2=5:=by
 have a:lP.hasPointers=false:=by kernel_rfl
 have b:lP.bytes=8:=by kernel_rfl
 have c:(n==0)=false:=by simp;omega
 have d:(n==1)=false:=by simp;omega
 simp [Lib.swapperK,a,b,c,d]
def Vt (i j g off c n l o u:Nat) [NeZero n] (W:World) (R:Nat→Int) (x:W.cell? ⟨i,0,none⟩=some (.slice (some ⟨g,off,none⟩) n c)) (y:W.cell? ⟨j,0,none⟩=some (.slice (some ⟨l,o,none⟩) n u))
  (d:Array (Fin n)) (hd:d.size=n) (K:2≤n) (z:n<4611686018427387904) (v:Holds (λk:Fin n=>Value.int .i64 (k.val:Int)) W g off d) (A:∀t,t<n→W.cell? ⟨l,o+t,none⟩=some (.int .i64 (R t))) (w:g<W.heap.size) (B:i<W.heap.size) (C:j<W.heap.size) (D:l<W.heap.size) (F:i≠g) (G:j≠g) (H:l≠g):
  Calls Tryz.prog 291 #[.iface 29 (.slice (some ⟨g,off,none⟩) n c),.func (.func 292) #[] #[.pointer (some ⟨i,0,none⟩),.pointer (some ⟨j,0,none⟩)]] W λe w'=>
   e= .returned (.tuple #[])∧∃p q I,PermIn 0 d.size d p∧SortedIn (λa b:Fin n=>SH R a b) 0 d.size p∧w'=grow (putRow (λk:Fin n=>Value.int .i64 (k.val:Int)) (Sort.ahead W q) g off p) I:=by
 have J:=Vu i j g off c n l o u W R x y d hd v A w B C D F G H;have s:=Any.sort_Slice_sorted zA 29 3 zB lP (by kernel_rfl) (by kernel_rfl) (by kernel_rfl) (by kernel_rfl) 2 (λ_=>by kernel_rfl) (by kernel_rfl) (λ_=>by kernel_rfl) (λk:Fin n=>Value.int .i64 (k.val:Int)) (λ_=>rfl) (λa b:Fin n=>SH R a b) (bQ R) 292 _
  (enters_of Tryz.func292 (by kernel_rfl) rfl) g off c d (by omega) (by omega) 318 (by rw[siK _ (by omega)];kernel_rfl) true
  (λm W=>run_callFunc_extern Tryz.func318 (by kernel_rfl) (by kernel_rfl) (by kernel_rfl) (e:=Extern.ReflectliteSwapper.swap true) (by kernel_rfl) m W) W (by rw[hd];exact J) v w
 rw[hd] at s;change Calls Tryz.prog 291 _ _ _ at s;rw[hd];exact s
def Ui {j:Type}[Inhabited j] (enc:j→Value) (W:World) (q g b:Nat) (d:Array j) (a:Array Obj) (c:b<W.heap.size) (i:b≠g):(grow (putRow enc (Sort.ahead W q) g 0 d) a).heap[b]? =W.heap[b]? :=by
 show((W.heap.modify g _)++a)[b]? =_
 rw[Ad0 (by simpa using c),Array.getElem?_modify];simp [Ne.symm i]
def Uj {i:Type}[Inhabited i] (enc:i→Value) (W:World) (q g:Nat) (d:Array i) (b:Array Obj) {cur:Array Value}{T:TypeId}{fr:Nat×Nat}(c:W.heap[g]? =some (.cells cur T fr)):(grow (putRow enc (Sort.ahead W q) g 0 d) b).heap[g]? =some (.cells (putCells enc 0 d cur) T fr):=by
 have a:g<W.heap.size:=(Abb.1 c).1;show((W.heap.modify g _)++b)[g]? =_
 rw[Ad0 (by simpa using a),Array.getElem?_modify];simp [c,onCells]
def Su {b:Type}[Inhabited b] (enc:b→Value) (W:World) (q g:Nat) (d:Array b) (a:Array Obj):W.heap.size≤(grow (putRow enc (Sort.ahead W q) g 0 d) a).heap.size:=by
 show W.heap.size≤((W.heap.modify g _)++a).size
 simp
def R4 {lt:Int→Int→Bool}(g:∀x,lt x x=false) (i:∀x y z,lt x y=true→lt y z=true→lt x z=true) (j:∀x y z,lt x y=false→lt y z=false→lt x z=false) (x:Int):∀l:List Int,l.Pairwise (λa b=>lt b a=false)→(Tt lt x l).Pairwise λa b=>lt b a=false
 |[],_=>by simp [Tt]
 |y::l,o=>by
  have k:∀z,z∈l→lt z y=false:=λz c=>List.rel_of_pairwise_cons o c;have m:=o.of_cons;unfold Tt;cases d:lt y x with
  |true=>
   refine List.Pairwise.cons (λz c=>?_) (R4 g i j x l m);rcases Aae.1 ((Pd lt x l).mem_iff.1 c) with rfl|c
   ·cases n:lt z y with
    |false=>rfl
    |true=>have:=i _ _ _ d n;rw[g] at this;cases this
   ·exact k z c
  |false=>
   refine List.Pairwise.cons (λz c=>?_) o;rcases Aae.1 c with rfl|c
   ·exact d
   ·exact j _ _ _ (k z c) d
def Qr {lt:Int→Int→Bool}(c:∀x,lt x x=false) (d:∀x y z,lt x y=true→lt y z=true→lt x z=true) (g:∀x y z,lt x y=false→lt y z=false→lt x z=false):∀l:List Int,(Nb lt l).Pairwise λa b=>lt b a=false
 |[]=> .nil
 |x::l=>R4 c d g x _ (Qr c d g l)
def W1 (a:List Int) (x:Int):Ry a x x=false:=by simp [Ry,SH]
def vW (a b c:Int) (x y z:Nat) (d:cond (!decide (a=b)) (decide (b<a)) (decide (x<y))=true) (g:cond (!decide (b=c)) (decide (c<b)) (decide (y<z))=true):cond (!decide (a=c)) (decide (c<a)) (decide (x<z))=true:=by
 by_cases i:a=b<;>by_cases j:b=c<;>by_cases k:a=c<;>simp_all<;>omega
def vX (a b c:Int) (x y z:Nat) (d:cond (!decide (a=b)) (decide (b<a)) (decide (x<y))=false) (g:cond (!decide (b=c)) (decide (c<b)) (decide (y<z))=false):cond (!decide (a=c)) (decide (c<a)) (decide (x<z))=false:=by
 by_cases i:a=b<;>by_cases j:b=c<;>by_cases k:a=c<;>simp_all<;>omega
def ZG (a:List Int) (x y z:Int) (b:Ry a x y=true) (c:Ry a y z=true):Ry a x z=true:=vW _ _ _ _ _ _ b c
def W0 (a:List Int) (x y z:Int) (b:Ry a x y=false) (c:Ry a y z=false):Ry a x z=false:=vX _ _ _ _ _ _ b c
def U3 (c:List Int) {l d:List Int}(h0:∀x,x∈l→0≤x) (g:d.Perm l) (i:d.Pairwise λa b=>Ry c b a=false):d=Nb (Ry c) l:=by
 refine List.Perm.eq_of_pairwise (le:=λx y=>Ry c y x=false) (λa b j k m n=>?_) i (Qr (W1 c) (ZG c) (W0 c) l) (g.trans (Md _ l).symm);have e:=ZF _ _ _ n m;have o:=h0 a (g.mem_iff.1 j);have p:=h0 b ((Md _ l).mem_iff.1 k);omega
def Us {S:Nat→Prop}{o:AS}:∀{l:List Int}{cs:List Value},LQ S o AB cs l→cs=l.map (Value.int .i64)∧∀x,x∈l→AA x
 |[],cs,k=>⟨k,λx d=>by cases d⟩
 |x::l,cs,⟨g,n,e,c,i⟩=>by
  have a:g=[.int .i64 x]:=c.1;obtain⟨j,m⟩:=Us i;subst e;subst a;subst j;exact⟨rfl,λy b=>by
   rcases Aae.1 b with rfl|b
   ·exact c.2
   ·exact m y b⟩
def V3 {S:Nat→Prop}{b:AS}:∀{l:List Int},(∀x,x∈l→AA x)→LQ S b AB (l.map (Value.int .i64)) l
 |[],_=>rfl
 |x::l,k=>⟨[.int .i64 x],_,rfl,⟨rfl,k x (Aax ..)⟩,V3 λy a=>k y (Aa1 _ a)⟩
def xT:Lib.swapperK 1 lP 2=2:=by
 have a:lP.hasPointers=false:=by kernel_rfl
 have b:lP.bytes=8:=by kernel_rfl
 simp [Lib.swapperK,a,b]
def To {n:Nat}[NeZero n] (enc:Fin n→Value) (d:Array (Fin n)) (cur:Array Value) (b:d.size≤cur.size):(putCells enc 0 d cur).toList.take d.size=d.toList.map enc:=by
 apply Abj;intro i;rw[Adt];by_cases a:i<d.size
 ·rw[Aab a,Array.getElem?_toList];have c:i<cur.size:=by omega
  simp [putCells,a,c,getElem!_pos]
 ·rw[zY a,Aa8 (by simpa using a)]
def Wz {S:Nat→Prop}{L:List HP}{h:AS}{A s:Nat}{v Y:Value}{c p G:List Int}(Z:St S (Bx A 29 [v]::OS AB 3 v c::Bx s 29 [Y]::OS AB 3 Y p::L) h) (E:Sw c p=some G):
  B6 Tryz.prog 291 #[.iface 29 v,.func (.func 292) #[] #[.pointer (some ⟨A,0,none⟩),.pointer (some ⟨s,0,none⟩)]] S h (λr S' h'=>r= .tuple #[]∧St S' (Bx A 29 [v]::OS AB 3 v G::Bx s 29 [Y]::OS AB 3 Y p::L) h'):=by
 unfold Sw at E;split at E
 ·rename_i hc;obtain⟨hl,D,am,H⟩:=hc;cases E;intro B W m;have u:∀x,x∈c→0≤x∧x<c.length:=λx I=>by simpa using Aaf.1 H x I
  obtain⟨F1,k1,s1,F2,k2,s2,F3,k3,s3,F4,k4,s4,_⟩:=Z.2;rcases k2 with ⟨_,e0,_⟩|⟨g,cap,cur,e1,e2,e3,e4,e5,e6,e7⟩
  ·rw[e0] at D;cases D
  rcases k4 with ⟨_,e0,_⟩|⟨rb,rcap,rcur,f1,f2,f3,f4,f5,f6,f7⟩
  ·rw[hl,e0] at D;cases D
  subst e1;subst f1;have hn:NeZero c.length:=⟨by omega⟩
  obtain⟨r1,r2⟩:=Us e7;obtain⟨q1,q2⟩:=Us f7;have r1:cur.toList.take c.length=c.map (Value.int .i64):=by rw[←r1];congr 1;exact(Abz _).symm
  have q1:rcur.toList.take p.length=p.map (Value.int .i64):=by rw[←q1];congr 1;exact(Abz _).symm
  have e6:cur.size=cap:=by rw[e6];exact Abz _
  have n:∀(b:Nat) (cs:Array Value) (T:TypeId) (t:Nat),h[b]? =some (.cells cs T (0,0))→W.cell? ⟨b,t,none⟩=cs[t]? :=λb cs T t z=>by
   rw[Iz,m.heap];simp [IQ,z]
  have n1:A≠g:=λe=>(s2 g ((e2 g).2 rfl)).2 (by rw[k1.1 g];exact e.symm);have n2:s≠g:=λe=>(s3 s ((k3.1 s).2 rfl)).2 ((e2 s).2 e);have n3:rb≠g:=λe=>(s4 rb ((f2 rb).2 rfl)).1.2 ((e2 rb).2 e);have lt:∀(b:Nat) o,h[b]? =some o→b<W.heap.size:=λb o z=>by rw[m.heap];exact(Abb.1 z).1
  have J:∀t (w:t<c.length),cur[t]? =some (.int .i64 c[t]):=λt w=>by
   have:(cur.toList.take c.length)[t]? =some (.int .i64 c[t]):=by rw[r1];simp [w]
   rw[Abr w] at this;simpa using this
  have aa:∀t,t<c.length→rcur[t]? =some (.int .i64 (p.getD t 0)):=λt w=>by
   have y:t<p.length:=by omega
   have:(rcur.toList.take p.length)[t]? =some (.int .i64 (p.getD t 0)):=by rw[q1];simp [y,Aa5]
   rw[Abr y] at this;simpa using this
  by_cases ab:2≤c.length
  ·have hd:=λ(i:Fin c.length)=>(u c[i] (Aap _))
   obtain⟨d,ds,K⟩:∃d:Array (Fin c.length),d.size=c.length∧d.toList.map (λk=>(k.val:Int))=c:=by
    refine⟨Array.ofFn λi:Fin c.length=>(⟨(c[i]).toNat,by have:=hd i;omega⟩:Fin c.length),by simp,?_⟩;apply Abj;intro i;by_cases hi:i<c.length
    ·have h9:=(u c[i] (Aap _)).1;simp [hi];omega
    ·rw[Aa8 (by simpa using hi),Aa8 (by omega)]
   have ac:∀t (w:t<c.length),((d[t]!).val:Int)=c[t]:=λt w=>by
    have a:(d.toList.map (λk=>(k.val:Int)))[t]? =some c[t]:=by rw[K];simp [w]
    have y:t<d.size:=by omega
    rw[getElem!_pos d t y];simpa [y] using a
   refine(Vt A s g 0 cap c.length rb 0 rcap W (λt=>p.getD t 0) ((n A _ _ 0 k1.2).trans rfl) ((n s _ _ 0 k3.2).trans (by rw[hl];rfl)) d ds ab (by omega) (λj hj=>⟨?_,?_⟩) (λt w=>?_) (lt g _ e3) (lt A _ k1.2) (lt s _ k3.2) (lt rb _ f3) n1 n2 n3).mono ?_
   ·rw[Aa7,n g cur 3 j e3,J j (by omega)];show _=some (Value.int .i64 ((d[j]!).val:Int))
    rw[ac j (by omega)]
   ·simp [World.frozen?,m.heap,e3]
   ·rw[Aa7,n rb rcur 3 t f3];exact aa t w
   rintro e w' ⟨rfl,l,q,C,hp,ad,rfl⟩;have M:l.size=c.length:=hp.1.trans ds;have Q:(l.toList.map (λk=>(k.val:Int))).Perm c:=by
    have a:=hp.2.2;have ae:l.extract 0 d.size=l:=by rw[←hp.1];exact Array.extract_size
    rw[ae,Array.extract_size] at a;have:=a.map (λk:Fin c.length=>(k.val:Int));rwa [K] at this
   have af:(l.toList.map (λk=>(k.val:Int))).Pairwise λa b=>Ry p b a=false:=by
    rw[List.pairwise_map,Adu];intro i j hi hj ag;have ah:i<l.size:=by simpa using hi
    have ai:j<l.size:=by simpa using hj
    have:=ad i j (Aad _) ag (by omega);rw[getElem!_pos l j ai,getElem!_pos l i ah] at this;simpa [Ry] using this
   have hq:=U3 p (λx I=>(u x I).1) Q af;rw[←hq];have aj:=Uj (λk:Fin c.length=>Value.int .i64 (k.val:Int)) W q g l C (cur:=cur) (T:=3) (fr:=(0,0)) (by rw[m.heap];exact e3);have U:=Z.upd (H':=OS AB 3 (.slice (some ⟨g,0,none⟩) c.length cap) (l.toList.map (λk=>(k.val:Int)))) (h':=(grow (putRow (λk:Fin c.length=>Value.int .i64 (k.val:Int)) (Sort.ahead W q) g 0 l) C).heap) (.tail .head) (by have:=Su (λk:Fin c.length=>Value.int .i64 (k.val:Int)) W q g l C;rw[m.heap] at this;exact this) (λF V m2=>by
    rcases V with ⟨_,V,_⟩|⟨g',cap',cur',V,m3,_⟩
    ·rw[V] at D;cases D
    ·injection V with X z2 z3
     injection X with X
     injection X with X
     subst X;refine⟨F,.inr ⟨g,cap,_,by simp [M],m3,aj,by simpa [M] using e4,e5,?_,?_⟩,λ_ z=> .inl z,λb z ak=>?_⟩
     ·simp only[putCells,Array.size_mapIdx];rw[e6];exact(Abz _).symm
     ·have w:=To (λk:Fin c.length=>Value.int .i64 (k.val:Int)) l cur (by omega);rw[show (l.toList.map (λk=>(k.val:Int))).length*AB.sz=l.size from by simp;exact Abz _,w];have:l.toList.map (λk:Fin c.length=>Value.int .i64 (k.val:Int))=(l.toList.map (λk=>(k.val:Int))).map (Value.int .i64):=by rw[List.map_map];rfl
      rw[this];exact V3 λx I=>r2 x (Q.mem_iff.1 I)
     ·rw[Ui _ W q g b l C (by rw[m.heap];exact z) (λe=>ak ((m3 b).2 e)),m.heap])
   exact⟨_,S,_,rfl,⟨rfl,m.os,m.tape,m.out⟩,U.2,rfl,U.1⟩
  ·have al:c.length=1:=by omega
   obtain⟨x,rfl⟩:∃x,c=[x]:=List.length_eq_one_iff.1 al;have hT:=Any.sort_Slice_tiny (P:=Tryz.prog) { zA with} 29 3 zB lP (by kernel_rfl) (by kernel_rfl) (by kernel_rfl) (by kernel_rfl) 2 (λ_=>by kernel_rfl) (some ⟨g,0,none⟩) 1 cap (Aal _) 315 (by rw[xT];kernel_rfl) (.func 292) #[] #[.pointer (some ⟨A,0,none⟩),.pointer (some ⟨s,0,none⟩)] W;change Calls Tryz.prog 291 _ _ _ at hT;refine hT.mono ?_;rintro e w' ⟨rfl,C,rfl⟩;have ho:DT h (grow W C).heap:=⟨by show h.size≤(W.heap++C).size;rw[m.heap];simp,λb z=>by show(W.heap++C)[b]? =_;rw[m.heap,Ad0 z]⟩
   exact⟨_,S,_,rfl,⟨rfl,m.os,m.tape,m.out⟩,ho.ext Z.1,rfl,ho.st Z⟩
 ·cases E
end Go.Proofs.YtedgiljmffngoaaGreat
