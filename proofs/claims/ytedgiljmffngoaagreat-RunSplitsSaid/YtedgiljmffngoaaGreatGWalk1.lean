import Derived.Test.YtedgiljmffngoaaGreatGInst
import Derived.Test.YtedgiljmffngoaaGreatGSortD
import Derived.Test.YtedgiljmffngoaaGreatGForms
import Derived.Test.YtedgiljmffngoaaGreatGCore31
import Derived.Test.YtedgiljmffngoaaGreatRows
import Derived.Shelf.GgSortFunc.Whole
import Derived.Shelf.GgSortFunc.Tiny
import Derived.Deep.QuietTactic
import Derived.WalkKit
import Derived.Sort.LotA
namespace Go.Proofs.YtedgiljmffngoaaGreat
set_option linter.all false
open Go.RowKit
open Go.Proofs.Tryz
set_option maxRecDepth 10000
variable {N:Nat}{S:Nat→Prop}{L:List HP}{h:AW}
def iW (x:Value) (w:World):(callFunc 275 #[x]).run prog w= .ok (.value x) w:=oR func275 (by kernel_rfl) (by kernel_rfl) (by kernel_rfl) (by kernel_rfl) x w
def VO {b:Nat}{p v:Value}(i:p= .pointer none∨p= .pointer (some ⟨b,0,none⟩)) (a:St S (Bx b 269 [p,v]::L) h):
  B0 prog 225 #[.pointer (some ⟨b,0,none⟩)] S h (λw S' h'=>w= .tuple #[]∧St S' (Bx b 269 [.pointer (some ⟨b,0,none⟩),v]::L) h'):=by
 refine BA (l:=[.pointer (some ⟨b,0,none⟩)]) 20 func225 rfl ntmps225 rfl λB=>?_;rcases i with rfl|rfl
 ·refine Cy ?_;refine Iy (.inl rfl) ?_;refine Kz rfl rfl ?_;refine KV rfl rfl ?_;refine Ig rfl fa_269_0.1 rfl ?_;refine Nl (vs:=[.pointer none]) K9 a rfl mh rfl rfl ty_266.1 rfl rfl ?_;refine XX (o:=none) rfl rfl Rl SA rfl ?_;refine E3 (sb 6 rfl (sb 0 rfl NA)) ?_;refine UF rfl ?_;refine Bw ?_;refine Ku 7 ?_;refine Kz rfl rfl ?_;refine Kz rfl rfl ?_;refine mH a mh rfl Rl Yk SA rfl rfl ?_;refine aT rfl rfl (iW _) rfl ?_;refine mU a mh rfl Yk Rl SA jA rfl ?_;refine KV rfl rfl ?_;refine Ig rfl fa_269_0.1 rfl ?_;refine Ks ?_;refine SZ (vs:=[.pointer (some ⟨b,0,none⟩)]) (cs':=[.pointer (some ⟨b,0,none⟩),v]) rfl rfl rfl (CD rfl Mo) ty_266.1 rfl a .head rfl rfl λn c j=>?_;refine LF.nil NA ?_;refine WF.nil (λk m d g=>?_);exact JC d rfl g JB rfl j ⟨rfl,c⟩
 ·refine Cy ?_;refine Iy (.inl rfl) ?_;refine Kz rfl rfl ?_;refine KV rfl rfl ?_;refine Ig rfl fa_269_0.1 rfl ?_;refine Nl (vs:=[.pointer (some ⟨b,0,none⟩)]) K9 a rfl mh rfl rfl ty_266.1 rfl rfl ?_;refine XX (o:=some ⟨b,0,none⟩) rfl rfl Rl SA rfl ?_;refine E3 (sb 6 rfl (sb 0 rfl NA)) ?_;refine ST rfl ?_;refine Cy ?_;refine Iy (.inl rfl) ?_;refine Kz rfl rfl ?_;refine KV rfl rfl ?_;refine Ig rfl fa_269_0.1 rfl ?_;refine Nl (vs:=[.pointer (some ⟨b,0,none⟩)]) K9 a rfl mh rfl rfl ty_266.1 rfl rfl ?_;refine Kz rfl rfl ?_;refine aZ rfl rfl Rl SA rfl ?_;refine E3 (sb 19 rfl NA) ?_;refine ST rfl ?_;refine Fy ?_;refine WF.nil (λk m d g=>?_);exact JC d rfl g JB rfl (CB.refl S h) ⟨rfl,a⟩
def KO {a:Nat}{b s:ByteArray}(o:St S (UY a 269 5 b::L) h) (t:s.size≤maxLen) {r:ByteArray}(E:PG N b s=some r):
  B0 prog 171 #[.pointer (some ⟨a,0,none⟩),.string s] S h (λv S' h'=>v= .tuple #[.int .i64 s.size,.nilIface]∧St S' (UY a 269 5 r::L) h'):=by
 refine BA (l:=[.pointer (some ⟨a,0,none⟩),.string s]) 19 func171 rfl ntmps171 rfl λB=>?_;obtain⟨n,E⟩:=LA E;have i:=fJ n;obtain⟨p,v,w,x,j⟩:=o.bldO;refine Cy ?_;refine Iy (.inl rfl) ?_;refine MZ rfl rfl ?_;refine MZ rfl rfl ?_;refine E3 (sb 1 rfl (sb 0 rfl NA)) ?_;refine Cy ?_;refine Bw ?_;refine Ku 1 ?_;refine Kz rfl rfl ?_;refine Ks ?_;refine Dh rfl rfl rfl aA rfl (VO w j) λu F G y q=>?_;obtain⟨rfl,d⟩:=q;refine LF.nil (sb 1 rfl (sb 0 rfl NA)) ?_;refine Cy ?_;refine Bw ?_;refine Ku 6 ?_;refine Kz rfl rfl ?_;refine Kz rfl rfl ?_;refine KV rfl rfl ?_;refine Ig rfl fa_269_1.1 rfl ?_;refine Nl (vs:=[v]) K9 d rfl mh rfl rfl ty_267.1 rfl rfl ?_;refine Kz rfl rfl ?_;refine Ks ?_;refine eX (LL:=λg=>Bx a 269 [.pointer (some ⟨a,0,none⟩),v]::OS RB 5 g (bL b++bL s)::L) rfl rfl OX MB (by rw[MW];exact i) (by rw[MW];exact L4 n) rfl d (λ_=> .tail .head) λg H c z A=>?_;refine Ku 2 ?_;refine KV rfl rfl ?_;refine Ig rfl fa_269_1.1 rfl ?_;refine Ks ?_;refine SZ (vs:=[g]) (cs':=[.pointer (some ⟨a,0,none⟩),g]) rfl rfl (c.oscell (.tail _ mh)) (CD (c.osone (.tail _ mh)) Mo) ty_267.1 rfl c .head rfl rfl λI k C=>?_;refine LF.nil (sb 1 rfl NA) ?_;refine Cy ?_;refine Iy (.inl rfl) ?_;refine Kz rfl rfl ?_;refine L0 rfl MB rfl ?_;refine MZ rfl rfl ?_;refine MZ rfl rfl ?_;refine E3 (sb 5 rfl (sb 4 rfl NA)) ?_;refine Bu (λJ K m D=>?_);cases E;exact JC m rfl D (Gw (H7 m (v:=_) rfl) (Gw (H7 m (v:=_) rfl) JB)) rfl (y.trans (z.trans C)) ⟨rfl,UH (.inr rfl) (pX x A) (by rw[mC];exact k)⟩
def aJ {a:Nat}{b:ByteArray}{c:Int}(w:St S (UY a 269 5 b::L) h) (g:IntKind.has .u8 c) {r:ByteArray}(E:mB N b c=some r):
  B0 prog 277 #[.pointer (some ⟨a,0,none⟩),.int .u8 c] S h (λv S' h'=>v= .nilIface∧St S' (UY a 269 5 r::L) h'):=by
 refine BA (l:=[.pointer (some ⟨a,0,none⟩),.int .u8 c]) 17 func277 rfl ntmps277 rfl λB=>?_;obtain⟨t,E⟩:=LA E;have k:=fJ t;obtain⟨p,v,y,I,m⟩:=w.bldO;refine Cy ?_;refine Iy (.inl rfl) ?_;refine MZ rfl rfl ?_;refine E3 (sb 1 rfl (sb 0 rfl NA)) ?_;refine Cy ?_;refine Bw ?_;refine Ku 1 ?_;refine Kz rfl rfl ?_;refine Ks ?_;refine Dh rfl rfl rfl aA rfl (VO y m) λu J K z q=>?_;obtain⟨rfl,i⟩:=q;refine LF.nil (sb 1 rfl (sb 0 rfl NA)) ?_;refine Cy ?_;refine Bw ?_;refine Ku 6 ?_;refine Kz rfl rfl ?_;refine Kz rfl rfl ?_;refine KV rfl rfl ?_;refine Ig rfl fa_269_1.1 rfl ?_;refine Nl (vs:=[v]) K9 i rfl mh rfl rfl ty_267.1 rfl rfl ?_;refine Kz rfl rfl ?_;refine Ks ?_;refine gH (pv:=[(0,.int .u8 c)]) (cs:=[.int .u8 c]) OX rfl rfl rfl rfl (by simp) rfl i λA M n C=>?_;refine Xf (r:=RB) (l:=bL b) (xs:=[c]) (LL:=λj=>Bx A 5 [.int .u8 c]::Bx a 269 [.pointer (some ⟨a,0,none⟩),v]::OS RB 5 j (bL b++[c])::L) rfl rfl OX rfl mh ⟨_,_,rfl,⟨rfl,g⟩,rfl⟩ rfl (by rw[MW];exact k) (by rw[MW];exact L4 t) rfl n (λ_=> .tail (.tail .head)) λj Q o D=>?_;have d:=o.drop .head;refine Ku 2 ?_;refine KV rfl rfl ?_;refine Ig rfl fa_269_1.1 rfl ?_;refine Ks ?_;refine SZ (vs:=[j]) (cs':=[.pointer (some ⟨a,0,none⟩),j]) rfl rfl (d.oscell (.tail _ mh)) (CD (d.osone (.tail _ mh)) Mo) ty_267.1 rfl d .head rfl rfl λU s F=>?_;refine LF.nil NA ?_;refine Cy ?_;refine Iy (.inl rfl) ?_;refine MZ rfl rfl ?_;refine E3 (sb 4 rfl NA) ?_;refine Bu (λV W G H=>?_);cases E;exact TC G H rfl rfl (z.trans (C.trans (D.trans F))) ⟨rfl,UH (.inr rfl) (λx=>absurd x (by rw[ByteArray.size_push];omega)) (by rw[dJ _ _ g];exact s)⟩
def W5 {d:Nat}{b:ByteArray}(m:St S (UY d 269 5 b::L) h) {r:ByteArray}(E:mA N b=some r):
  B0 prog 174 #[.pointer (some ⟨d,0,none⟩)] S h (λv S' h'=>v= .string r∧r.size≤maxLen∧St S' L h'):=by
 refine BA (l:=[.pointer (some ⟨d,0,none⟩)]) 14 func174 rfl ntmps174 rfl λB=>?_;cases E;obtain⟨p,v,z,n,c⟩:=m.bldO;have j:b.size≤maxLen:=by obtain⟨A,cap,_,q⟩:=c.oslen (.tail _ mh);rwa [MW] at q
 refine Cy ?_;refine Iy (.inl rfl) ?_;refine MZ rfl rfl ?_;refine E3 (sb 0 rfl NA) ?_;refine Cy ?_;by_cases h0:b.size=0
 ·obtain rfl:=n h0;have o:b=ByteArray.empty:=ByteArray.ext (Array.eq_empty_of_size_eq_zero h0);subst o;refine XA (λw=>w.heap[d]? =some (.cells ([p,.slice none 0 0]:List Value).toArray 269 (0,0))) mo ?_;refine Ot 0 rfl (by kernel_rfl) (λw a=>c.bxW mh a) rfl rfl ?_;refine Xg 1 rfl (by kernel_rfl) (λw a=>c.bxW mh a) rfl rfl ?_;refine Pr 2 rfl (by kernel_rfl) (λw a=>c.bxW mh a) rfl fa_269_1.1 rfl ?_;refine Nn 3 (vs:=[.slice none 0 0]) rfl (by kernel_rfl) (λw a=>c.bxW mh a) rfl (λw a=>a) rfl rfl ty_267.1 rfl rfl ?_;refine bQ 4 rfl (by kernel_rfl) (λw a=>c.bxW mh a) rfl (λx=>by cases x) rfl ?_;refine Ot 5 rfl (by kernel_rfl) (λw a=>c.bxW mh a) rfl rfl ?_;refine Xg 6 rfl (by kernel_rfl) (λw a=>c.bxW mh a) rfl rfl ?_;refine Pr 7 rfl (by kernel_rfl) (λw a=>c.bxW mh a) rfl fa_269_1.1 rfl ?_;refine Nn 8 (vs:=[.slice none 0 0]) rfl (by kernel_rfl) (λw a=>c.bxW mh a) rfl (λw a=>a) rfl rfl ty_267.1 rfl rfl ?_;refine Xh 9 rfl (by kernel_rfl) (λw a=>c.bxW mh a) rfl sl_267.1 rfl ?_;refine YS 10 rfl rfl (by kernel_rfl) ?_;refine bK rfl rfl rfl ?_;refine Tb (λw a=>c.bxW mh a) ?_;refine UR 11 rfl (by kernel_rfl) (λw a=>c.bxW mh a) rfl rfl ?_;refine Rh (by kernel_rfl) (sb 2 rfl NA) ?_;refine Bu (λs t k a=>?_);exact TC k a rfl rfl (CB.refl S h) ⟨rfl,j,(c.drop .head).drop .head⟩
 ·obtain⟨g,cap,rfl,u⟩:=c.osrow (.tail _ mh) (by rw[MW];exact h0);rw[MW] at c u;refine XA (λw=>w.heap[d]? =some (.cells ([p,.slice (some ⟨g,0,none⟩) b.size cap]:List Value).toArray 269 (0,0))) mo ?_;refine Ot 0 rfl (by kernel_rfl) (λw a=>c.bxW mh a) rfl rfl ?_;refine Xg 1 rfl (by kernel_rfl) (λw a=>c.bxW mh a) rfl rfl ?_;refine Pr 2 rfl (by kernel_rfl) (λw a=>c.bxW mh a) rfl fa_269_1.1 rfl ?_;refine Nn 3 (vs:=[.slice (some ⟨g,0,none⟩) b.size cap]) rfl (by kernel_rfl) (λw a=>c.bxW mh a) rfl (λw a=>a) rfl rfl ty_267.1 rfl rfl ?_;refine bQ 4 rfl (by kernel_rfl) (λw a=>c.bxW mh a) rfl (λ_=>by omega) rfl ?_;refine Ot 5 rfl (by kernel_rfl) (λw a=>c.bxW mh a) rfl rfl ?_;refine Xg 6 rfl (by kernel_rfl) (λw a=>c.bxW mh a) rfl rfl ?_;refine Pr 7 rfl (by kernel_rfl) (λw a=>c.bxW mh a) rfl fa_269_1.1 rfl ?_;refine Nn 8 (vs:=[.slice (some ⟨g,0,none⟩) b.size cap]) rfl (by kernel_rfl) (λw a=>c.bxW mh a) rfl (λw a=>a) rfl rfl ty_267.1 rfl rfl ?_;refine Xh 9 rfl (by kernel_rfl) (λw a=>c.bxW mh a) rfl sl_267.1 rfl ?_;refine YS 10 rfl rfl (by kernel_rfl) ?_;refine eR (L:=Bx d 269 [p,.slice (some ⟨g,0,none⟩) b.size cap]::L) rfl rfl (c.pick (.tail .head)) h0 hO rZ rfl λC i y=>?_;refine Tb (λw a=>i.bxW mh a) ?_;refine UR 11 rfl (by kernel_rfl) (λw a=>i.bxW mh a) rfl rfl ?_;refine Rh (by kernel_rfl) (sb 2 rfl NA) ?_;refine Bu (λs t k a=>?_);exact TC k a rfl rfl y ⟨rfl,j,i.drop .head⟩
def Xm (d:St S L h) {s:ByteArray}(a:s.size≤maxLen) {r:AX}(E:fD N s=some r):
  B0 prog 170 #[.string s] S h (λv S' h'=>∃b:Nat,v= .pointer (some ⟨b,0,none⟩)∧r.rest_.size≤maxLen∧St S' (Bx b 315 [.string r.rest_,.bool r.bad]::L) h'):=by
 refine BA (l:=[.string s]) 6 func170 rfl ntmps170 rfl λB=>?_;cases E;refine Cy ?_;refine Iy (.inl rfl) ?_;refine MZ rfl rfl ?_;refine E3 (sb 0 rfl NA) ?_;refine Cy ?_;refine Bw ?_;refine Ku 2 ?_;refine Kz rfl rfl ?_;refine FV (cs:=[.string s,.bool false]) iB rfl rfl rfl ?_;refine Ks ?_;refine Oq rfl rfl rfl d λb k c g=>?_;refine Ku 1 ?_;refine MZ rfl rfl ?_;refine Ks ?_;refine LF.nil (sb 2 rfl NA) ?_;refine Bu (λm n i j=>?_);exact TC i j rfl rfl g ⟨b,rfl,a,c⟩
open Go.RowKit Go.Shelf
def cI:Ren:={ f:=λx=>match x with|6=>291|10=>305|11=>306|12=>307|13=>281|14=>308|24=>301|25=>302|26=>323|27=>324|28=>325|29=>326|30=>327|31=>328|32=>329|33=>330|34=>332|35=>333|36=>334|37=>335|38=>336|39=>337|n=>n,t:=λx=>match x with|20=>20|26=>233|35=>378|0=>0|37=>336|3=>3|41=>186|44=>383|49=>374|51=>176|4=>4|54=>395|53=>394|58=>93|5=>5|9=>9|60=>402|64=>388|66=>405|67=>96|17=>17|32=>348|33=>376|82=>419|12=>12|75=>413|76=>414|77=>415|78=>318|79=>416|80=>417|n=>n,g:=λx=>have n:=x;n}
def sQ:LaysGg.n6 prog cI:={ mixed:=by kernel_rfl,f6:=func291,f10:=func305,f11:=func306,f12:=func307,f13:=func281,f14:=func308,f24:=func301,f25:=func302,f26:=func323,f27:=func324,f28:=func325,f29:=func326,f30:=func327,f31:=func328,f32:=func329,f33:=func330,f34:=func332,f35:=func333,f36:=func334,f37:=func335,f38:=func336,f39:=func337,t0:=underlying0,a0:=Tryz.isAgg0,z0:=Tryz.sizeOf0,v0:=Tryz.zeroValue0,i0:=by kernel_rfl,t3:=underlying3,a3:=Tryz.isAgg3,z3:=Tryz.sizeOf3,v3:=Tryz.zeroValue3,i3:=by kernel_rfl,t4:=underlying4,a4:=Tryz.isAgg4,z4:=Tryz.sizeOf4,v4:=Tryz.zeroValue4,i4:=by kernel_rfl,t5:=underlying5,a5:=Tryz.isAgg5,z5:=Tryz.sizeOf5,v5:=Tryz.zeroValue5,i5:=by kernel_rfl,t9:=underlying9,a9:=Tryz.isAgg9,z9:=Tryz.sizeOf9,v9:=Tryz.zeroValue9,i9:=by kernel_rfl,t12:=underlying12,a12:=Tryz.isAgg12,z12:=Tryz.sizeOf12,v12:=Tryz.zeroValue12,i12:=by kernel_rfl,t17:=underlying17,a17:=Tryz.isAgg17,z17:=Tryz.sizeOf17,v17:=Tryz.zeroValue17,i17:=by kernel_rfl,t20:=underlying20,a20:=Tryz.isAgg20,z20:=Tryz.sizeOf20,v20:=Tryz.zeroValue20,i20:=by kernel_rfl,t26:=underlying233,a26:=Tryz.isAgg233,z26:=Tryz.sizeOf233,v26:=Tryz.zeroValue233,i26:=by kernel_rfl,t32:=underlying348,a32:=Tryz.isAgg348,z32:=Tryz.sizeOf348,v32:=Tryz.zeroValue348,i32:=by kernel_rfl,t33:=underlying376,a33:=Tryz.isAgg376,z33:=Tryz.sizeOf376,v33:=Tryz.zeroValue376,i33:=by kernel_rfl,t35:=underlying378,a35:=Tryz.isAgg378,z35:=Tryz.sizeOf378,v35:=Tryz.zeroValue378,i35:=by kernel_rfl,t37:=underlying336,a37:=Tryz.isAgg336,z37:=Tryz.sizeOf336,v37:=Tryz.zeroValue336,i37:=by kernel_rfl,t41:=underlying186,a41:=Tryz.isAgg186,z41:=Tryz.sizeOf186,v41:=Tryz.zeroValue186,i41:=by kernel_rfl,t44:=underlying383,a44:=Tryz.isAgg383,z44:=Tryz.sizeOf383,v44:=Tryz.zeroValue383,i44:=by kernel_rfl,t49:=underlying374,a49:=Tryz.isAgg374,z49:=Tryz.sizeOf374,v49:=Tryz.zeroValue374,i49:=by kernel_rfl,t51:=underlying176,a51:=Tryz.isAgg176,z51:=Tryz.sizeOf176,v51:=Tryz.zeroValue176,i51:=by kernel_rfl,t53:=underlying394,a53:=Tryz.isAgg394,z53:=Tryz.sizeOf394,v53:=Tryz.zeroValue394,i53:=by kernel_rfl,t54:=underlying395,a54:=Tryz.isAgg395,z54:=Tryz.sizeOf395,v54:=Tryz.zeroValue395,i54:=by kernel_rfl,t58:=underlying93,a58:=Tryz.isAgg93,z58:=Tryz.sizeOf93,v58:=Tryz.zeroValue93,i58:=by kernel_rfl,t60:=underlying402,a60:=Tryz.isAgg402,z60:=Tryz.sizeOf402,v60:=Tryz.zeroValue402,i60:=by kernel_rfl,t64:=underlying388,a64:=Tryz.isAgg388,z64:=Tryz.sizeOf388,v64:=Tryz.zeroValue388,i64:=by kernel_rfl,t66:=underlying405,a66:=Tryz.isAgg405,z66:=Tryz.sizeOf405,v66:=Tryz.zeroValue405,i66:=by kernel_rfl,t67:=underlying96,a67:=Tryz.isAgg96,z67:=Tryz.sizeOf96,v67:=Tryz.zeroValue96,i67:=by kernel_rfl,t75:=underlying413,a75:=Tryz.isAgg413,z75:=Tryz.sizeOf413,v75:=Tryz.zeroValue413,i75:=by kernel_rfl,t76:=underlying414,a76:=Tryz.isAgg414,z76:=Tryz.sizeOf414,v76:=Tryz.zeroValue414,i76:=by kernel_rfl,t77:=underlying415,a77:=Tryz.isAgg415,z77:=Tryz.sizeOf415,v77:=Tryz.zeroValue415,i77:=by kernel_rfl,t78:=underlying318,a78:=Tryz.isAgg318,z78:=Tryz.sizeOf318,v78:=Tryz.zeroValue318,i78:=by kernel_rfl,t79:=underlying416,a79:=Tryz.isAgg416,z79:=Tryz.sizeOf416,v79:=Tryz.zeroValue416,i79:=by kernel_rfl,t80:=underlying417,a80:=Tryz.isAgg417,z80:=Tryz.sizeOf417,v80:=Tryz.zeroValue417,i80:=by kernel_rfl,t82:=underlying419,a82:=Tryz.isAgg419,z82:=Tryz.sizeOf419,v82:=Tryz.zeroValue419,i82:=by kernel_rfl}
open Go.Shelf Go.RowKit Go.Lib Go.Sort
set_option maxHeartbeats 2000000 in
def Vz (l m g off c b n o u a:Nat) (W:World) (G:Nat→Nat) (R:Nat→Int) (z:W.cell? ⟨l,0,none⟩=some (.slice (some ⟨g,off,none⟩) b c)) (A:W.cell? ⟨m,0,none⟩=some (.slice (some ⟨n,o,none⟩) a u))
  (p:∀t,t<b→W.cell? ⟨g,off+t,none⟩=some (.int .i64 (G t:Int))) (s:∀t,t<a→W.cell? ⟨n,o+t,none⟩=some (.int .i64 (R t))) (i j:Nat) (v:i<b) (w:j<b) (x:G i<a) (y:G j<a):
  Calls Tryz.prog 292 #[.int .i64 i,.int .i64 j,.pointer (some ⟨l,0,none⟩),.pointer (some ⟨m,0,none⟩)] W λe w'=>e= .returned (.bool (cond (!decide (R (G i)=R (G j))) (decide (R (G j)<R (G i))) (decide (G i<G j))))∧∃q,w'=W.drewN q:=by
 have B:=p i v;have C:=p j w;have D:=s _ x;have F:=s _ y;go_enter Tryz.func292,Tryz.ntmps292
 go_wp2
 go_quiet (fail)
 go_wp2
 go_quiet (fail)
 go_wp2
 ·go_quiet (fail)
  go_wp2
  go_ret
  rename_i d;have k:decide (R (G i)=R (G j))=false:=by simpa using d
  refine⟨by rw[k];rfl,_,by(try simp only[World.drewN_drewN]);rfl⟩
 ·go_ret
  rename_i d;have k:decide (R (G i)=R (G j))=true:=by simpa using d
  refine⟨by rw[k];rfl,_,by(try simp only[World.drewN_drewN]);rfl⟩
def Y6 (R:Nat→Int) {n:Nat}:SWO (λa b:Fin n=>RL R a b) where
 irrefl x:=by simp [RL]
 trans x y z h1 h2:=by
  simp only[RL] at*;by_cases c:R x=R y<;>by_cases d:R y=R z<;>by_cases g:R x=R z<;>simp_all<;>omega
 ntrans x y z h1 h2:=by
  simp only[RL] at*;by_cases c:R x=R y<;>by_cases d:R y=R z<;>by_cases g:R x=R z<;>simp_all<;>omega
def Xw (R:Nat→Int) (a b:Nat) (d:RL R a b=false) (g:RL R b a=false):a=b:=by
 simp only[RL] at*;by_cases c:R a=R b
 ·simp_all;omega
 ·have i:¬R b=R a:=λj=>c j.symm;simp_all;omega
def Uq (p q g off c n s v z:Nat) [NeZero n] (W:World) (R:Nat→Int) (C:W.cell? ⟨p,0,none⟩=some (.slice (some ⟨g,off,none⟩) n c)) (D:W.cell? ⟨q,0,none⟩=some (.slice (some ⟨s,v,none⟩) n z))
  (d:Array (Fin n)) (hd:d.size=n) (F:Holds (λk:Fin n=>Value.int .i64 (k.val:Int)) W g off d) (G:∀t,t<n→W.cell? ⟨s,v+t,none⟩=some (.int .i64 (R t))) (A:g<W.heap.size) (H:p<W.heap.size) (I:q<W.heap.size) (J:s<W.heap.size) (K:p≠g) (M:q≠g) (Q:s≠g):
  LessReads Tryz.prog 292 #[.pointer (some ⟨p,0,none⟩),.pointer (some ⟨q,0,none⟩)] (λk:Fin n=>Value.int .i64 (k.val:Int)) (λa b:Fin n=>RL R a b) g off n W:=by
 intro m u o U i j V X;have e:sortWorld (λk:Fin n=>Value.int .i64 (k.val:Int)) W g off m o u=putRow (λk:Fin n=>Value.int .i64 (k.val:Int)) (grow (Sort.ahead W m) u) g off o:=by
  unfold sortWorld;rw[putRow_grow _ (Sort.ahead W m) _ g off _ A]
 have w:Holds (λk:Fin n=>Value.int .i64 (k.val:Int)) (grow (Sort.ahead W m) u) g off d:=holds_grow _ _ _ g off d A (holds_ahead _ _ _ _ _ _ F);have l:∀a:Addr,a.block≠g→a.block<W.heap.size→(sortWorld (λk:Fin n=>Value.int .i64 (k.val:Int)) W g off m o u).cell? a=W.cell? a:=λa x y=>by
  rw[e,cell?_putRow_other _ _ g off o _ (Or.inl x),cell?_grow (Sort.ahead W m) _ _ y];rfl
 refine Vz p q g off c n s v z n _ (λt=>(o[t]!).val) R ((l _ K H).trans C) ((l _ M I).trans D) (λt B=>?_) (λt B=>(l _ Q J).trans (G t B)) i j V X (o[i]!).isLt (o[j]!).isLt;rw[e];exact cell?_putRow _ _ g off d o w (U.trans hd.symm) t (by omega)
noncomputable def sR:TypeInfo:=(Tryz.prog.info? 29).get (by kernel_rfl)
noncomputable def fI:TypeInfo:=(Tryz.prog.info? 3).get (by kernel_rfl)
def siK (n:Nat) (g:2≤n):Lib.swapperK n fI 2=5:=by
 have a:fI.hasPointers=false:=by kernel_rfl
 have b:fI.bytes=8:=by kernel_rfl
 have c:(n==0)=false:=by simp;omega
 have d:(n==1)=false:=by simp;omega
 simp [Lib.swapperK,a,b,c,d]
def Up (i j g off c n l o u:Nat) [NeZero n] (W:World) (R:Nat→Int) (x:W.cell? ⟨i,0,none⟩=some (.slice (some ⟨g,off,none⟩) n c)) (y:W.cell? ⟨j,0,none⟩=some (.slice (some ⟨l,o,none⟩) n u))
  (d:Array (Fin n)) (hd:d.size=n) (K:2≤n) (z:n<4611686018427387904) (v:Holds (λk:Fin n=>Value.int .i64 (k.val:Int)) W g off d) (A:∀t,t<n→W.cell? ⟨l,o+t,none⟩=some (.int .i64 (R t))) (w:g<W.heap.size) (B:i<W.heap.size) (C:j<W.heap.size) (D:l<W.heap.size) (F:i≠g) (G:j≠g) (H:l≠g):
  Calls Tryz.prog 291 #[.iface 29 (.slice (some ⟨g,off,none⟩) n c),.func (.func 292) #[] #[.pointer (some ⟨i,0,none⟩),.pointer (some ⟨j,0,none⟩)]] W λe w'=>
   e= .returned (.tuple #[])∧∃p q I,PermIn 0 d.size d p∧SortedIn (λa b:Fin n=>RL R a b) 0 d.size p∧w'=grow (putRow (λk:Fin n=>Value.int .i64 (k.val:Int)) (Sort.ahead W q) g off p) I:=by
 have J:=Uq i j g off c n l o u W R x y d hd v A w B C D F G H;have s:=Any.sort_Slice_sorted sQ 29 3 sR fI (by kernel_rfl) (by kernel_rfl) (by kernel_rfl) (by kernel_rfl) 2 (λ_=>by kernel_rfl) (by kernel_rfl) (λ_=>by kernel_rfl) (λk:Fin n=>Value.int .i64 (k.val:Int)) (λ_=>rfl) (λa b:Fin n=>RL R a b) (Y6 R) 292 _
  (enters_of Tryz.func292 (by kernel_rfl) rfl) g off c d (by omega) (by omega) 318 (by rw[siK _ (by omega)];kernel_rfl) true
  (λm W=>run_callFunc_extern Tryz.func318 (by kernel_rfl) (by kernel_rfl) (by kernel_rfl) (e:=Extern.ReflectliteSwapper.swap true) (by kernel_rfl) m W) W (by rw[hd];exact J) v w
 rw[hd] at s;change Calls Tryz.prog 291 _ _ _ at s;rw[hd];exact s
def Th {j:Type}[Inhabited j] (enc:j→Value) (W:World) (q g b:Nat) (d:Array j) (a:Array Obj) (c:b<W.heap.size) (i:b≠g):(grow (putRow enc (Sort.ahead W q) g 0 d) a).heap[b]? =W.heap[b]? :=by
 show((W.heap.modify g _)++a)[b]? =_
 rw[yT (by simpa using c),Array.getElem?_modify];simp [Ne.symm i]
def Ti {i:Type}[Inhabited i] (enc:i→Value) (W:World) (q g:Nat) (d:Array i) (b:Array Obj) {cur:Array Value}{T:TypeId}{fr:Nat×Nat}(c:W.heap[g]? =some (.cells cur T fr)):(grow (putRow enc (Sort.ahead W q) g 0 d) b).heap[g]? =some (.cells (putCells enc 0 d cur) T fr):=by
 have a:g<W.heap.size:=(uH.1 c).1;show((W.heap.modify g _)++b)[g]? =_
 rw[yT (by simpa using a),Array.getElem?_modify];simp [c,onCells]
def Rr {b:Type}[Inhabited b] (enc:b→Value) (W:World) (q g:Nat) (d:Array b) (a:Array Obj):W.heap.size≤(grow (putRow enc (Sort.ahead W q) g 0 d) a).heap.size:=by
 show W.heap.size≤((W.heap.modify g _)++a).size
 simp
def Q6 {lt:Int→Int→Bool}(g:∀x,lt x x=false) (i:∀x y z,lt x y=true→lt y z=true→lt x z=true) (j:∀x y z,lt x y=false→lt y z=false→lt x z=false) (x:Int):∀l:List Int,l.Pairwise (λa b=>lt b a=false)→(Sn lt x l).Pairwise λa b=>lt b a=false
 |[],_=>by simp [Sn]
 |y::l,o=>by
  have k:∀z,z∈l→lt z y=false:=λz c=>List.rel_of_pairwise_cons o c;have m:=o.of_cons;unfold Sn;cases d:lt y x with
  |true=>
   refine List.Pairwise.cons (λz c=>?_) (Q6 g i j x l m);rcases uA.1 ((O0 lt x l).mem_iff.1 c) with rfl|c
   ·cases n:lt z y with
    |false=>rfl
    |true=>have:=i _ _ _ d n;rw[g] at this;cases this
   ·exact k z c
  |false=>
   refine List.Pairwise.cons (λz c=>?_) o;rcases uA.1 c with rfl|c
   ·exact d
   ·exact j _ _ _ (k z c) d
def QA {lt:Int→Int→Bool}(c:∀x,lt x x=false) (d:∀x y z,lt x y=true→lt y z=true→lt x z=true) (g:∀x y z,lt x y=false→lt y z=false→lt x z=false):∀l:List Int,(ND lt l).Pairwise λa b=>lt b a=false
 |[]=> .nil
 |x::l=>Q6 c d g x _ (QA c d g l)
def Vo (a:List Int) (x:Int):Q0 a x x=false:=by simp [Q0,RL]
def pH (a b c:Int) (x y z:Nat) (d:cond (!decide (a=b)) (decide (b<a)) (decide (x<y))=true) (g:cond (!decide (b=c)) (decide (c<b)) (decide (y<z))=true):cond (!decide (a=c)) (decide (c<a)) (decide (x<z))=true:=by
 by_cases i:a=b<;>by_cases j:b=c<;>by_cases k:a=c<;>simp_all<;>omega
def pI (a b c:Int) (x y z:Nat) (d:cond (!decide (a=b)) (decide (b<a)) (decide (x<y))=false) (g:cond (!decide (b=c)) (decide (c<b)) (decide (y<z))=false):cond (!decide (a=c)) (decide (c<a)) (decide (x<z))=false:=by
 by_cases i:a=b<;>by_cases j:b=c<;>by_cases k:a=c<;>simp_all<;>omega
def Xx (a:List Int) (x y z:Int) (b:Q0 a x y=true) (c:Q0 a y z=true):Q0 a x z=true:=pH _ _ _ _ _ _ b c
def Vn (a:List Int) (x y z:Int) (b:Q0 a x y=false) (c:Q0 a y z=false):Q0 a x z=false:=pI _ _ _ _ _ _ b c
def Ty (c:List Int) {l d:List Int}(h0:∀x,x∈l→0≤x) (g:d.Perm l) (i:d.Pairwise λa b=>Q0 c b a=false):d=ND (Q0 c) l:=by
 refine List.Perm.eq_of_pairwise (le:=λx y=>Q0 c y x=false) (λa b j k m n=>?_) i (QA (Vo c) (Xx c) (Vn c) l) (g.trans (ML _ l).symm);have e:=Xw _ _ _ n m;have o:=h0 a (g.mem_iff.1 j);have p:=h0 b ((ML _ l).mem_iff.1 k);omega
def Tr {S:Nat→Prop}{o:AW}:∀{l:List Int}{cs:List Value},LB S o AB cs l→cs=l.map (Value.int .i64)∧∀x,x∈l→AA x
 |[],cs,k=>⟨k,λx d=>by cases d⟩
 |x::l,cs,⟨g,n,e,c,i⟩=>by
  have a:g=[.int .i64 x]:=c.1;obtain⟨j,m⟩:=Tr i;subst e;subst a;subst j;exact⟨rfl,λy b=>by
   rcases uA.1 b with rfl|b
   ·exact c.2
   ·exact m y b⟩
def U0 {S:Nat→Prop}{b:AW}:∀{l:List Int},(∀x,x∈l→AA x)→LB S b AB (l.map (Value.int .i64)) l
 |[],_=>rfl
 |x::l,k=>⟨[.int .i64 x],_,rfl,⟨rfl,k x (uN ..)⟩,U0 λy a=>k y (uR _ a)⟩
def rJ:Lib.swapperK 1 fI 2=2:=by
 have a:fI.hasPointers=false:=by kernel_rfl
 have b:fI.bytes=8:=by kernel_rfl
 simp [Lib.swapperK,a,b]
def Sh {n:Nat}[NeZero n] (enc:Fin n→Value) (d:Array (Fin n)) (cur:Array Value) (b:d.size≤cur.size):(putCells enc 0 d cur).toList.take d.size=d.toList.map enc:=by
 apply vG;intro i;rw[yC];by_cases a:i<d.size
 ·rw[tT a,Array.getElem?_toList];have c:i<cur.size:=by omega
  simp [putCells,a,c,getElem!_pos]
 ·rw[tQ a,uW (by simpa using a)]
def Vm {S:Nat→Prop}{L:List HP}{h:AW}{A s:Nat}{v Y:Value}{c p G:List Int}(Z:St S (Bx A 29 [v]::OS AB 3 v c::Bx s 29 [Y]::OS AB 3 Y p::L) h) (E:Rs c p=some G):
  B0 Tryz.prog 291 #[.iface 29 v,.func (.func 292) #[] #[.pointer (some ⟨A,0,none⟩),.pointer (some ⟨s,0,none⟩)]] S h (λr S' h'=>r= .tuple #[]∧St S' (Bx A 29 [v]::OS AB 3 v G::Bx s 29 [Y]::OS AB 3 Y p::L) h'):=by
 unfold Rs at E;split at E
 ·rename_i hc;obtain⟨hl,D,am,H⟩:=hc;cases E;intro B W m;have u:∀x,x∈c→0≤x∧x<c.length:=λx I=>by simpa using tS.1 H x I
  obtain⟨F1,k1,s1,F2,k2,s2,F3,k3,s3,F4,k4,s4,_⟩:=Z.2;rcases k2 with ⟨_,e0,_⟩|⟨g,cap,cur,e1,e2,e3,e4,e5,e6,e7⟩
  ·rw[e0] at D;cases D
  rcases k4 with ⟨_,e0,_⟩|⟨rb,rcap,rcur,f1,f2,f3,f4,f5,f6,f7⟩
  ·rw[hl,e0] at D;cases D
  subst e1;subst f1;have hn:NeZero c.length:=⟨by omega⟩
  obtain⟨r1,r2⟩:=Tr e7;obtain⟨q1,q2⟩:=Tr f7;have r1:cur.toList.take c.length=c.map (Value.int .i64):=by rw[←r1];congr 1;exact(wE _).symm
  have q1:rcur.toList.take p.length=p.map (Value.int .i64):=by rw[←q1];congr 1;exact(wE _).symm
  have e6:cur.size=cap:=by rw[e6];exact wE _
  have n:∀(b:Nat) (cs:Array Value) (T:TypeId) (t:Nat),h[b]? =some (.cells cs T (0,0))→W.cell? ⟨b,t,none⟩=cs[t]? :=λb cs T t z=>by
   rw[I1,m.heap];simp [IK,z]
  have n1:A≠g:=λe=>(s2 g ((e2 g).2 rfl)).2 (by rw[k1.1 g];exact e.symm);have n2:s≠g:=λe=>(s3 s ((k3.1 s).2 rfl)).2 ((e2 s).2 e);have n3:rb≠g:=λe=>(s4 rb ((f2 rb).2 rfl)).1.2 ((e2 rb).2 e);have lt:∀(b:Nat) o,h[b]? =some o→b<W.heap.size:=λb o z=>by rw[m.heap];exact(uH.1 z).1
  have J:∀t (w:t<c.length),cur[t]? =some (.int .i64 c[t]):=λt w=>by
   have:(cur.toList.take c.length)[t]? =some (.int .i64 c[t]):=by rw[r1];simp [w]
   rw[vU w] at this;simpa using this
  have aa:∀t,t<c.length→rcur[t]? =some (.int .i64 (p.getD t 0)):=λt w=>by
   have y:t<p.length:=by omega
   have:(rcur.toList.take p.length)[t]? =some (.int .i64 (p.getD t 0)):=by rw[q1];simp [y,vO]
   rw[vU y] at this;simpa using this
  by_cases ab:2≤c.length
  ·have hd:=λ(i:Fin c.length)=>(u c[i] (uE _))
   obtain⟨d,ds,K⟩:∃d:Array (Fin c.length),d.size=c.length∧d.toList.map (λk=>(k.val:Int))=c:=by
    refine⟨Array.ofFn λi:Fin c.length=>(⟨(c[i]).toNat,by have:=hd i;omega⟩:Fin c.length),by simp,?_⟩;apply vG;intro i;by_cases hi:i<c.length
    ·have h9:=(u c[i] (uE _)).1;simp [hi];omega
    ·rw[uW (by simpa using hi),uW (by omega)]
   have ac:∀t (w:t<c.length),((d[t]!).val:Int)=c[t]:=λt w=>by
    have a:(d.toList.map (λk=>(k.val:Int)))[t]? =some c[t]:=by rw[K];simp [w]
    have y:t<d.size:=by omega
    rw[getElem!_pos d t y];simpa [y] using a
   refine(Up A s g 0 cap c.length rb 0 rcap W (λt=>p.getD t 0) ((n A _ _ 0 k1.2).trans rfl) ((n s _ _ 0 k3.2).trans (by rw[hl];rfl)) d ds ab (by omega) (λj hj=>⟨?_,?_⟩) (λt w=>?_) (lt g _ e3) (lt A _ k1.2) (lt s _ k3.2) (lt rb _ f3) n1 n2 n3).mono ?_
   ·rw[uT,n g cur 3 j e3,J j (by omega)];show _=some (Value.int .i64 ((d[j]!).val:Int))
    rw[ac j (by omega)]
   ·simp [World.frozen?,m.heap,e3]
   ·rw[uT,n rb rcur 3 t f3];exact aa t w
   rintro e w' ⟨rfl,l,q,C,hp,ad,rfl⟩;have M:l.size=c.length:=hp.1.trans ds;have Q:(l.toList.map (λk=>(k.val:Int))).Perm c:=by
    have a:=hp.2.2;have ae:l.extract 0 d.size=l:=by rw[←hp.1];exact Array.extract_size
    rw[ae,Array.extract_size] at a;have:=a.map (λk:Fin c.length=>(k.val:Int));rwa [K] at this
   have af:(l.toList.map (λk=>(k.val:Int))).Pairwise λa b=>Q0 p b a=false:=by
    rw[List.pairwise_map,yQ];intro i j hi hj ag;have ah:i<l.size:=by simpa using hi
    have ai:j<l.size:=by simpa using hj
    have:=ad i j (tU _) ag (by omega);rw[getElem!_pos l j ai,getElem!_pos l i ah] at this;simpa [Q0] using this
   have hq:=Ty p (λx I=>(u x I).1) Q af;rw[←hq];have aj:=Ti (λk:Fin c.length=>Value.int .i64 (k.val:Int)) W q g l C (cur:=cur) (T:=3) (fr:=(0,0)) (by rw[m.heap];exact e3);have U:=Z.upd (H':=OS AB 3 (.slice (some ⟨g,0,none⟩) c.length cap) (l.toList.map (λk=>(k.val:Int)))) (h':=(grow (putRow (λk:Fin c.length=>Value.int .i64 (k.val:Int)) (Sort.ahead W q) g 0 l) C).heap) (.tail .head) (by have:=Rr (λk:Fin c.length=>Value.int .i64 (k.val:Int)) W q g l C;rw[m.heap] at this;exact this) (λF V m2=>by
    rcases V with ⟨_,V,_⟩|⟨g',cap',cur',V,m3,_⟩
    ·rw[V] at D;cases D
    ·injection V with X z2 z3
     injection X with X
     injection X with X
     subst X;refine⟨F,.inr ⟨g,cap,_,by simp [M],m3,aj,by simpa [M] using e4,e5,?_,?_⟩,λ_ z=> .inl z,λb z ak=>?_⟩
     ·simp only[putCells,Array.size_mapIdx];rw[e6];exact(wE _).symm
     ·have w:=Sh (λk:Fin c.length=>Value.int .i64 (k.val:Int)) l cur (by omega);rw[show (l.toList.map (λk=>(k.val:Int))).length*AB.sz=l.size from by simp;exact wE _,w];have:l.toList.map (λk:Fin c.length=>Value.int .i64 (k.val:Int))=(l.toList.map (λk=>(k.val:Int))).map (Value.int .i64):=by rw[List.map_map];rfl
      rw[this];exact U0 λx I=>r2 x (Q.mem_iff.1 I)
     ·rw[Th _ W q g b l C (by rw[m.heap];exact z) (λe=>ak ((m3 b).2 e)),m.heap])
   exact⟨_,S,_,rfl,⟨rfl,m.os,m.tape,m.out⟩,U.2,rfl,U.1⟩
  ·have al:c.length=1:=by omega
   obtain⟨x,rfl⟩:∃x,c=[x]:=List.length_eq_one_iff.1 al;have hT:=Any.sort_Slice_tiny (P:=Tryz.prog) { sQ with} 29 3 sR fI (by kernel_rfl) (by kernel_rfl) (by kernel_rfl) (by kernel_rfl) 2 (λ_=>by kernel_rfl) (some ⟨g,0,none⟩) 1 cap (tX _) 315 (by rw[rJ];kernel_rfl) (.func 292) #[] #[.pointer (some ⟨A,0,none⟩),.pointer (some ⟨s,0,none⟩)] W;change Calls Tryz.prog 291 _ _ _ at hT;refine hT.mono ?_;rintro e w' ⟨rfl,C,rfl⟩;have ho:C5 h (grow W C).heap:=⟨by show h.size≤(W.heap++C).size;rw[m.heap];simp,λb z=>by show(W.heap++C)[b]? =_;rw[m.heap,yT z]⟩
   exact⟨_,S,_,rfl,⟨rfl,m.os,m.tape,m.out⟩,ho.ext Z.1,rfl,ho.st Z⟩
 ·cases E
set_option maxHeartbeats 2000000
def N5 (hs:St S L h) {r:AF}(E:Jr N=some r):
 B0 prog 95 #[] S h (λv S' h'=>Rd S' h' BO v r∧St S' (L) h'):=by
 refine BA 24 func95 O ntmps95 O λB=>?_;rw[Jr] at E;refine AU ?_;refine CO eZ O hs λb1 h2 ad e4=>AU ?_;refine FV (cs:=[vI 0,vI 0]) Y1 O O O (FV (cs:=[vI 100,vI 200]) Y1 O O O (AU ?_));refine FO (cs:=[vI 0,vI 0,vI 100,vI 200]) pB O O O O O O O ad λg h6 ae e8=>AU ?_;have af:=ae.bxos (r:=B3) (l:=([(⟨0,0⟩:BS),(⟨100,200⟩:BS)]:List BS)) .head ⟨_,_,O,⟨O,⟨(iq (n:=0) O),(iq (n:=0) O)⟩⟩,⟨_,_,O,⟨O,⟨(iq (n:=100) O),(iq (n:=200) O)⟩⟩,O⟩⟩ (by simp [maxLen]);obtain⟨ay,i,az,b⟩:=af.pubs .head;refine AU ?_;refine FO (cs:=[vI 60]) IU O O O O O O O i λj a0 k a1=>AU ?_;have m:=k.bxos (r:=AB) (l:=([60]:List Int)) .head ⟨_,_,O,⟨O,(iq (n:=60) O)⟩,O⟩ (by simp [maxLen]);obtain⟨a2,o,a3,ag⟩:=m.pubs .head;refine FV (cs:=[.string (ByteArray.mk #[116,111,112]),vI 0,vI 0,vI 100,(.slice (some ⟨g,0,none⟩) 2 2),(.slice (some ⟨j,0,none⟩) 1 1),vI 1,vI 10,vI 1,vI 0,vI 0,vN]) Vj O O O (AU ?_);refine CO Mw O o λa4 a5 p a6=>?_;refine Cu O O O O ty_101.1 O p .head O λa7 q a8=>AU ?_;refine FO (cs:=[vI 20]) IU O O O O O O O q λs a9 t ba=>AU ?_;have u:=t.bxos (r:=AB) (l:=([20]:List Int)) .head ⟨_,_,O,⟨O,(iq (n:=20) O)⟩,O⟩ (by simp [maxLen]);obtain⟨bb,w,bc,ah⟩:=u.pubs .head;refine FV (cs:=[.string (ByteArray.mk #[109,105,100]),vI 0,vI 1,vI 100,(.slice (some ⟨g,0,none⟩) 2 2),(.slice (some ⟨s,0,none⟩) 1 1),vI 0,vI 0,vI 2,vI 1,vI 0,vN]) Vj O O O (AU ?_);refine CO Mw O w λbe bf y bg=>?_;refine Cu O O O O ty_101.1 O y .head O λbh z bi=>AU ?_;refine FO (cs:=[vI 30]) IU O O O O O O O z λA bj C bk=>AU ?_;have D:=C.bxos (r:=AB) (l:=([30]:List Int)) .head ⟨_,_,O,⟨O,(iq (n:=30) O)⟩,O⟩ (by simp [maxLen]);obtain⟨bl,F,bm,ai⟩:=D.pubs .head;refine FV (cs:=[.string (ByteArray.mk #[108,111,119]),vI 0,vI 2,vI 30,(.slice (some ⟨g,0,none⟩) 2 2),(.slice (some ⟨A,0,none⟩) 1 1),vI 1,vI 2,vI (-1),vI 0,vI 0,vN]) Vj O O O (AU ?_);refine CO Mw O F λbn bo G bp=>?_;refine Cu O O O O ty_101.1 O G .head O λbq H br=>AU ?_;refine FO (cs:=[.string (ByteArray.mk #[112,117,98,108,105,99])]) pE O O O O O O O H λaj bs I bt=>AU ?_;refine FO (cs:=[.string (ByteArray.mk #[116,111,112]),vI 0,vI 0,vI 100,(.slice (some ⟨g,0,none⟩) 2 2),(.slice (some ⟨j,0,none⟩) 1 1),vI 1,vI 10,vI 1,vI 0,vI 0,vN,.string (ByteArray.mk #[109,105,100]),vI 0,vI 1,vI 100,(.slice (some ⟨g,0,none⟩) 2 2),(.slice (some ⟨s,0,none⟩) 1 1),vI 0,vI 0,vI 2,vI 1,vI 0,vN,.string (ByteArray.mk #[108,111,119]),vI 0,vI 2,vI 30,(.slice (some ⟨g,0,none⟩) 2 2),(.slice (some ⟨A,0,none⟩) 1 1),vI 1,vI 2,vI (-1),vI 0,vI 0,vN]) pD O O O O O O O I λak bu J bv=>FO (cs:=[vI 1000,vI 1000,vI 1000]) IU O O O O O O O J λam bw K bx=>AU ?_
 have M:=K.bxos (r:=A7.str) (l:=Oy) (.tail (.tail .head)) ⟨_,_,O,⟨O,(by decide)⟩,O⟩ (by simp [maxLen,Oy]);obtain⟨bz,Q,b0,an⟩:=M.pubs (.tail (.tail .head));have ao:=b.nw;have ap:=ai.nw;have aq:=b.nw;have ar:=ah.nw;have au:=b.nw;have av:=ag.nw;have U:=Q.bxos (r:=B9) (l:=Ox) (.tail .head) ⟨_,_,O,⟨_,_,_,O,(by decide),(iq (n:=0) O),(iq (n:=0) O),(iq (n:=100) O),au,av,(iq (n:=1) O),(iq (n:=10) O),(iq (n:=1) O),(iq (n:=0) O),(iq (n:=0) O),(.inl ⟨O,O⟩)⟩,⟨_,_,O,⟨_,_,_,O,(by decide),(iq (n:=0) O),(iq (n:=1) O),(iq (n:=100) O),aq,ar,(iq (n:=0) O),(iq (n:=0) O),(iq (n:=2) O),(iq (n:=1) O),(iq (n:=0) O),(.inl ⟨O,O⟩)⟩,⟨_,_,O,⟨_,_,_,O,(by decide),(iq (n:=0) O),(iq (n:=2) O),(iq (n:=30) O),ao,ap,(iq (n:=1) O),(iq (n:=2) O),(iq (n:=(-1)) O),(iq (n:=0) O),(iq (n:=0) O),(.inl ⟨O,O⟩)⟩,O⟩⟩⟩ (by simp [maxLen,Ox]);obtain⟨b2,V,b3,aw⟩:=U.pubs (.tail .head);have W:=V.bxos (r:=AB) (l:=([1000,1000,1000]:List Int)) .head ⟨_,_,O,⟨O,(iq (n:=1000) O)⟩,⟨_,_,O,⟨O,(iq (n:=1000) O)⟩,⟨_,_,O,⟨O,(iq (n:=1000) O)⟩,O⟩⟩⟩ (by simp [maxLen]);obtain⟨b4,X,b6,ax⟩:=W.pubs .head;refine FV (cs:=[.string (ByteArray.mk #[120]),(.slice (some ⟨aj,0,none⟩) 1 1),vI 0,(.slice (some ⟨ak,0,none⟩) 3 3),vN,vN,vN,vN,vN,(.slice (some ⟨am,0,none⟩) 3 3),vI 0]) nS O O O (AU ?_);refine Cu O O O O ty_31.1 O X (.tail (.tail (.tail .head))) O λb7 c Y=>AU ?_;refine Bu (λaa ww hf hw=>?_);have a:=c.sel [3] 3 O;have Z:=an.nw;have ab:=aw.nw;have ac:=ax.mono' Y;have d:=a.drop .head;cases E;exact JC hf O hw (Gw (Tj hf hw a O mh ty_31.1 O) JB) O EX ⟨(BO.mk (x:=(⟨(ByteArray.mk #[120]),Oy,0,Ox,[],[],[],[],[],([1000,1000,1000]:List Int),0⟩:AF)) (by decide) Z (iq (n:=0) O) ab (.inl ⟨O,O⟩) (.inl ⟨O,O⟩) (.inl ⟨O,O⟩) (.inl ⟨O,O⟩) (.inl ⟨O,O⟩) ac (iq (n:=0) O)),d⟩
def Dj (k:St S L h) {b:Value}{c:(List Int)}(a:Sl S h AB b c) {r:(List Int)}(E:CX N c=some r):
 B0 prog 116 #[b] S h (λv S' h'=>St S' (OS AB 3 v r::L) h'):=by
 refine BA 8 func116 O ntmps116 O λB=>?_;rw[CX] at E;rcases a.cases with ⟨rfl,rfl⟩|⟨n,m,rfl,a⟩
 ·have s:(some ([]:List Int))=some r:=by simpa [chk,IX] using E
  refine AU ?_;refine XY O O O Ym (AU ?_);refine UF O (AU ?_);have d:=k.nil AB 3;cases E;exact KU d O O EX
 refine AU ?_;refine bH O O O Ym (AU ?_);refine ST O (AU ?_);refine Sb (r:=AB) IU O O k λv1 t g o=>AU ?_;have p:=a.mono' o;obtain⟨i,E⟩:=LA E;refine H4 (r:=AB) (l:=([]:List Int)) (xs:=c) O O IU O (Sl.src p) O i O g (λ_=> .head) λu w j q=>AU ?_;cases E;exact KU j O O EX
def Ro (hs:St S L h) {ab:Value}{c:AF}(ap:Rd S h BO ab c) {d:Int}(ba:AA d) {r:AE}(E:Nc N c d=some r):
 B0 prog 41 #[ab,vI d] S h (λv S' h'=>Rd S' h' AM v r∧St S' (L) h'):=by
 refine BA 47 func41 O ntmps41 O λB=>?_;rw[Nc] at E;refine AU ?_;refine By O ap CE O hs λq1 S2 h3 eg e5 k6=>CO L8 O eg λb7 h8 j hl=>AU ?_;obtain⟨b5,E⟩:=LA E;obtain⟨b6,E⟩:=LA E;obtain⟨b8,E⟩:=LA E;obtain⟨b9,E⟩:=LA E;obtain⟨ca,E⟩:=LA E;refine dP (m:=[(4,vP b7 0),(2,q1),(1,vI d)]) [23] [] [4,8,12,16,20,22] ⟨[(21,[8,12,16,20,24,28])],λi l=>match i,l with|21,[some a8,some eh,some ei,some ej,some ek,some el]=>some (.agg ([a8]++[eh]++[ei]++[(vN:Value)]++[ej]++[ek]++[el]).toArray)|_,_=>none⟩ (by kernel_rfl) (by kernel_rfl) (λi v t=>match i with|0=>v=vI d∧AA d|1=>Pt S2 t (A7.sl B9) v c.A|2=>Sl S2 t B9 v c.A|3=>v=vI (↑c.A.length:Int)∧AA (↑c.A.length:Int)|4=>YQ S2 h8 (A7.sl AB) 29 (List.replicate ((↑c.A.length:Int):Int).toNat ([]:(List Int))) v t|5=>Pt S2 t (A7.sl B9) v c.A|6=>Sl S2 t B9 v c.A|7=>v=vI (↑c.A.length:Int)∧AA (↑c.A.length:Int)|8=>YQ S2 h8 AB 3 (List.replicate ((↑c.A.length:Int):Int).toNat (0:Int)) v t|9=>Pt S2 t (A7.sl BZ) v c.E|10=>Sl S2 t BZ v c.E|11=>v=vI (↑c.E.length:Int)∧AA (↑c.E.length:Int)|12=>YQ S2 h8 BL 106 (List.replicate ((↑c.E.length:Int):Int).toNat ((⟨0,0,false,false⟩:AT):AT)) v t|13=>Pt S2 t (A7.sl A7.str) v c.H|14=>Sl S2 t A7.str v c.H|15=>v=vI (↑c.H.length:Int)∧AA (↑c.H.length:Int)|16=>YQ S2 h8 AB 3 (List.replicate ((↑c.H.length:Int):Int).toNat (0:Int)) v t|17=>Pt S2 t (A7.sl A7.str) v c.H|18=>Sl S2 t A7.str v c.H|19=>v=vI (↑c.H.length:Int)∧AA (↑c.H.length:Int)|20=>YQ S2 h8 AB 3 (List.replicate ((↑c.H.length:Int):Int).toNat (0:Int)) v t|21=>True|22=>Xj h8 36 [vI 0,vN,vN,vN,vN,vN,vN] v t|_=>False) [[],[],[(1,9)],[(2,10)],[(3,11)],[],[(5,13)],[(6,14)],[(7,15)],[],[(9,17)],[(10,18)],[(11,19)],[],[(13,21)],[(14,22)],[(15,23)],[],[(17,25)],[(18,26)],[(19,27)],[(0,8),(4,12),(8,16),(12,20),(16,24),(20,28)],[],[]] [(0,8),(4,12),(8,16),(12,20),(16,24),(20,28),(21,29),(22,5)] mo (by kernel_rfl) [4,2,1] O (by kernel_rfl) (by kernel_rfl) (by kernel_rfl) O (kp [4,2,1] O) (λi v h1 h2 o1 o2 C=>?_) (by kernel_rfl) (Oi O (Oi O (Oi O (Oi O (Oi O (dM (T:=36) O mF)))))) ?_ ?_ ?_
 ·match i,C with
   |0,C|3,C|7,C|11,C|15,C|19,C|21,C=>exact C
   |1,C|5,C|9,C|13,C|17,C=>exact Mb.mono C (o2.ext λb hb=>tZ (j.1 b hb) o1.siz)
   |2,C|6,C|10,C|14,C|18,C=>exact Sl.mono' C (o2.ext λb hb=>tZ (j.1 b hb) o1.siz)
   |4,C|8,C|12,C|16,C|20,C=>exact C.mono j.1 o2
   |22,C=>exact C.mono o2
   |_+23,C=>exact C.elim
 ·exact trivial
 ·refine DT.cons O O O EH (DT.cons O O O ?_ ?_)
  ·intro U t o;have q:=o.st j;have em:=k6.nw;have en:=em.fl B4;refine AU ?_;exact AS en
  refine DT.cons O O O ?_ ?_
  ·intro U t o;intro eo bb;have q:=o.st j;have bb:Pt _ _ (A7.sl B9) eo c.A:=bb;obtain⟨hm,_,ep⟩:=bb.ll;refine AU ?_;exact AS ep
  refine DT.cons O O O ?_ ?_
  ·intro U t o;intro eq bc;have q:=o.st j;have bc:Sl _ _ B9 eq c.A:=bc;have er:=bc.le;refine AU ?_;exact AS ⟨O,(Je er)⟩
  refine DT.nw O O O (λ_ _ o _ es=>by obtain⟨rfl,hn⟩:=es;exact Sa (r:=(A7.sl AB)) (zx:=[]) Ms O ⟨_,O,.inl ⟨O,O⟩⟩ O O b5 O O o j.1 λv' h' o' r' f'=>A9 o' ⟨r',f'⟩) ?_;refine DT.cons O O O ?_ ?_
  ·intro U t o;have q:=o.st j;have eu:=k6.nw;have ev:=eu.fl B4;refine AU ?_;exact AS ev
  refine DT.cons O O O ?_ ?_
  ·intro U t o;intro ew be;have q:=o.st j;have be:Pt _ _ (A7.sl B9) ew c.A:=be;obtain⟨ho,_,ey⟩:=be.ll;refine AU ?_;exact AS ey
  refine DT.cons O O O ?_ ?_
  ·intro U t o;intro ez bf;have q:=o.st j;have bf:Sl _ _ B9 ez c.A:=bf;have e0:=bf.le;refine AU ?_;exact AS ⟨O,(Je e0)⟩
  refine DT.nw O O O (λ_ _ o _ e1=>by obtain⟨rfl,hp⟩:=e1;exact Sa (r:=AB) (zx:=0) IU O ⟨O,by unfold AA;omega⟩ O O b6 O O o j.1 λv' h' o' r' f'=>A9 o' ⟨r',f'⟩) ?_;refine DT.cons O O O ?_ ?_
  ·intro U t o;have q:=o.st j;have e2:=k6.nw;have e3:=e2.fl Gh;refine AU ?_;exact AS e3
  refine DT.cons O O O ?_ ?_
  ·intro U t o;intro e4 bg;have q:=o.st j;have bg:Pt _ _ (A7.sl BZ) e4 c.E:=bg;obtain⟨hq,_,e6⟩:=bg.ll;refine AU ?_;exact AS e6
  refine DT.cons O O O ?_ ?_
  ·intro U t o;intro e7 bh;have q:=o.st j;have bh:Sl _ _ BZ e7 c.E:=bh;have e8:=bh.le;refine AU ?_;exact AS ⟨O,(Je e8)⟩
  refine DT.nw O O O (λ_ _ o _ e9=>by obtain⟨rfl,ht⟩:=e9;exact Sa (r:=BL) (zx:=(⟨0,0,false,false⟩:AT)) VJ O ⟨O,by unfold AT.ok AA;simp [IntKind.has,IntKind.min,IntKind.max,IntKind.bits,IntKind.signed]⟩ O O b8 O O o j.1 λv' h' o' r' f'=>A9 o' ⟨r',f'⟩) ?_;refine DT.cons O O O ?_ ?_
  ·intro U t o;have q:=o.st j;have fa:=k6.nw;have fb:=fa.fl HW;refine AU ?_;exact AS fb
  refine DT.cons O O O ?_ ?_
  ·intro U t o;intro fc bi;have q:=o.st j;have bi:Pt _ _ (A7.sl A7.str) fc c.H:=bi;obtain⟨hu,_,fd⟩:=bi.ll;refine AU ?_;exact AS fd
  refine DT.cons O O O ?_ ?_
  ·intro U t o;intro fe ad;have q:=o.st j;have ad:Sl _ _ A7.str fe c.H:=ad;have cb:=ad.le;refine AU ?_;exact AS ⟨O,(Je cb)⟩
  refine DT.nw O O O (λ_ _ o _ cc=>by obtain⟨rfl,fg⟩:=cc;exact Sa (r:=AB) (zx:=0) IU O ⟨O,by unfold AA;omega⟩ O O b9 O O o j.1 λv' h' o' r' f'=>A9 o' ⟨r',f'⟩) ?_;refine DT.cons O O O ?_ ?_
  ·intro U t o;have q:=o.st j;have cd:=k6.nw;have ce:=cd.fl HW;refine AU ?_;exact AS ce
  refine DT.cons O O O ?_ ?_
  ·intro U t o;intro cf af;have q:=o.st j;have af:Pt _ _ (A7.sl A7.str) cf c.H:=af;obtain⟨fh,_,cg⟩:=af.ll;refine AU ?_;exact AS cg
  refine DT.cons O O O ?_ ?_
  ·intro U t o;intro ch ag;have q:=o.st j;have ag:Sl _ _ A7.str ch c.H:=ag;have ci:=ag.le;refine AU ?_;exact AS ⟨O,(Je ci)⟩
  refine DT.nw O O O (λ_ _ o _ cj=>by obtain⟨rfl,fi⟩:=cj;exact Sa (r:=AB) (zx:=0) IU O ⟨O,by unfold AA;omega⟩ O O ca O O o j.1 λv' h' o' r' f'=>A9 o' ⟨r',f'⟩) ?_;refine DT.z [8,12,16,20,24,28] O O O (by kernel_rfl) ?_ ?_
  ·intro U t o;intro fj ck fk ay fm az fn a0 fo a1 fp a2;have q:=o.st j;obtain⟨rfl,fq⟩:=ck;obtain⟨cl,aq,rfl,ay⟩:=ay;obtain⟨cm,ar,rfl,az⟩:=az;obtain⟨cn,au,rfl,a0⟩:=a0;obtain⟨co,av,rfl,a1⟩:=a1;obtain⟨cp,aw,rfl,a2⟩:=a2;refine AU ?_;refine FV (cs:=[vI d,(.slice (some ⟨cl,0,none⟩) (List.replicate ((↑c.A.length:Int):Int).toNat ([]:(List Int))).length aq),(.slice (some ⟨cm,0,none⟩) (List.replicate ((↑c.A.length:Int):Int).toNat (0:Int)).length ar),vN,(.slice (some ⟨cn,0,none⟩) (List.replicate ((↑c.E.length:Int):Int).toNat ((⟨0,0,false,false⟩:AT):AT)).length au),(.slice (some ⟨co,0,none⟩) (List.replicate ((↑c.H.length:Int):Int).toNat (0:Int)).length av),(.slice (some ⟨cp,0,none⟩) (List.replicate ((↑c.H.length:Int):Int).toNat (0:Int)).length aw)]) fG O O O (AU ?_);exact AS ⟨trivial,O,O⟩
  exact DT.al O L8 O O (DT.skip (by kernel_rfl) (trivial))
 intro fr cq fs cr ft ct fu cu fv cv fw cw fx cx cy fy f0 cz g bj;obtain⟨J,u,rfl,c0,c1,c2⟩:=ct;obtain⟨V,D,rfl,c3,c4,c5⟩:=cu;obtain⟨W,F,rfl,c6,c7,c8⟩:=cv;obtain⟨X,G,rfl,c9,da,db⟩:=cw;obtain⟨Y,I,rfl,dc,dd,de⟩:=cx;obtain⟨K,rfl,df,dg,dh⟩:=cz;have bk:=(VT.cons (NT (NT (NT (NT (NT (VT.nil j cq) c0 c1 c2 uL) c3 c4 c5 (Vx (g.of_ (s:=16) (s':=12) (by kernel_rfl) O O O O) uL)) c6 c7 c8 (Vx (g.of_ (s:=20) (s':=16) (by kernel_rfl) O O O O) (Vx (g.of_ (s:=20) (s':=12) (by kernel_rfl) O O O O) uL))) c9 da db (Vx (g.of_ (s:=24) (s':=20) (by kernel_rfl) O O O O) (Vx (g.of_ (s:=24) (s':=16) (by kernel_rfl) O O O O) (Vx (g.of_ (s:=24) (s':=12) (by kernel_rfl) O O O O) uL)))) dc dd de (Vx (g.of_ (s:=28) (s':=24) (by kernel_rfl) O O O O) (Vx (g.of_ (s:=28) (s':=20) (by kernel_rfl) O O O O) (Vx (g.of_ (s:=28) (s':=16) (by kernel_rfl) O O O O) (Vx (g.of_ (s:=28) (s':=12) (by kernel_rfl) O O O O) uL))))) df dg dh (Vx (g.of_ (s:=5) (s':=28) (by kernel_rfl) O O O O) (Vx (g.of_ (s:=5) (s':=24) (by kernel_rfl) O O O O) (Vx (g.of_ (s:=5) (s':=20) (by kernel_rfl) O O O O) (Vx (g.of_ (s:=5) (s':=16) (by kernel_rfl) O O O O) (Vx (g.of_ (s:=5) (s':=12) (by kernel_rfl) O O O O) uL)))))).st;obtain⟨rfl,di⟩:=cr;obtain rfl:cy=Value.agg #[vI d,(.slice (some ⟨J,0,none⟩) (List.replicate ((↑c.A.length:Int):Int).toNat ([]:(List Int))).length u),(.slice (some ⟨V,0,none⟩) (List.replicate ((↑c.A.length:Int):Int).toNat (0:Int)).length D),vN,(.slice (some ⟨W,0,none⟩) (List.replicate ((↑c.E.length:Int):Int).toNat ((⟨0,0,false,false⟩:AT):AT)).length F),(.slice (some ⟨X,0,none⟩) (List.replicate ((↑c.H.length:Int):Int).toNat (0:Int)).length G),(.slice (some ⟨Y,0,none⟩) (List.replicate ((↑c.H.length:Int):Int).toNat (0:Int)).length I)]:=(tN (bj _ uN 29 _ (by kernel_rfl) O O)).symm;refine Cu O O O O ty_36.1 O bk .head O λah bl f1=>?_;have dj:=k6.nw;have dk:=dj.fl B4;obtain⟨a3,_,dl⟩:=dk.ll;refine AU ?_;refine AO (λa w=>∃(ac:List (List Int)),IV B S2 ah (47,[]) a w [(5,vP K 0),(4,vP b7 0)] (Bx K 36 [vI d,(.slice (some ⟨J,0,none⟩) (List.replicate ((↑c.A.length:Int):Int).toNat ([]:(List Int))).length u),(.slice (some ⟨V,0,none⟩) (List.replicate ((↑c.A.length:Int):Int).toNat (0:Int)).length D),vN,(.slice (some ⟨W,0,none⟩) (List.replicate ((↑c.E.length:Int):Int).toNat ((⟨0,0,false,false⟩:AT):AT)).length F),(.slice (some ⟨X,0,none⟩) (List.replicate ((↑c.H.length:Int):Int).toNat (0:Int)).length G),(.slice (some ⟨Y,0,none⟩) (List.replicate ((↑c.H.length:Int):Int).toNat (0:Int)).length I)]::OS AB 3 (.slice (some ⟨Y,0,none⟩) (List.replicate ((↑c.H.length:Int):Int).toNat (0:Int)).length I) (List.replicate ((↑c.H.length:Int):Int).toNat (0:Int))::OS AB 3 (.slice (some ⟨X,0,none⟩) (List.replicate ((↑c.H.length:Int):Int).toNat (0:Int)).length G) (List.replicate ((↑c.H.length:Int):Int).toNat (0:Int))::OS BL 106 (.slice (some ⟨W,0,none⟩) (List.replicate ((↑c.E.length:Int):Int).toNat ((⟨0,0,false,false⟩:AT):AT)).length F) (List.replicate ((↑c.E.length:Int):Int).toNat ((⟨0,0,false,false⟩:AT):AT))::OS AB 3 (.slice (some ⟨V,0,none⟩) (List.replicate ((↑c.A.length:Int):Int).toNat (0:Int)).length D) (List.replicate ((↑c.A.length:Int):Int).toNat (0:Int))::OS (A7.sl AB) 29 (.slice (some ⟨J,0,none⟩) (List.replicate ((↑c.A.length:Int):Int).toNat ([]:(List Int))).length u) ac::Bx b7 36 [vI 0,vN,vN,vN,vN,vN,vN]::L) λ_ _=>J9 N c d ac=some r) ?_ ?_
 ·refine A4 (λn1=>λa w=>∃(y:Int) (M:List (List Int)),IV B S2 ah (47,[]) a w [(32,vI (↑c.A.length:Int)),(31,a3),(5,vP K 0),(4,vP b7 0),(33,vI y)] (Bx K 36 [vI d,(.slice (some ⟨J,0,none⟩) (List.replicate ((↑c.A.length:Int):Int).toNat ([]:(List Int))).length u),(.slice (some ⟨V,0,none⟩) (List.replicate ((↑c.A.length:Int):Int).toNat (0:Int)).length D),vN,(.slice (some ⟨W,0,none⟩) (List.replicate ((↑c.E.length:Int):Int).toNat ((⟨0,0,false,false⟩:AT):AT)).length F),(.slice (some ⟨X,0,none⟩) (List.replicate ((↑c.H.length:Int):Int).toNat (0:Int)).length G),(.slice (some ⟨Y,0,none⟩) (List.replicate ((↑c.H.length:Int):Int).toNat (0:Int)).length I)]::OS AB 3 (.slice (some ⟨Y,0,none⟩) (List.replicate ((↑c.H.length:Int):Int).toNat (0:Int)).length I) (List.replicate ((↑c.H.length:Int):Int).toNat (0:Int))::OS AB 3 (.slice (some ⟨X,0,none⟩) (List.replicate ((↑c.H.length:Int):Int).toNat (0:Int)).length G) (List.replicate ((↑c.H.length:Int):Int).toNat (0:Int))::OS BL 106 (.slice (some ⟨W,0,none⟩) (List.replicate ((↑c.E.length:Int):Int).toNat ((⟨0,0,false,false⟩:AT):AT)).length F) (List.replicate ((↑c.E.length:Int):Int).toNat ((⟨0,0,false,false⟩:AT):AT))::OS AB 3 (.slice (some ⟨V,0,none⟩) (List.replicate ((↑c.A.length:Int):Int).toNat (0:Int)).length D) (List.replicate ((↑c.A.length:Int):Int).toNat (0:Int))::OS (A7.sl AB) 29 (.slice (some ⟨J,0,none⟩) (List.replicate ((↑c.A.length:Int):Int).toNat ([]:(List Int))).length u) M::Bx b7 36 [vI 0,vN,vN,vN,vN,vN,vN]::L) λ_ _=>AA y∧JE N c (J9 N c d) n1 y M=some r) N ?_ ?_ ?_
  ·intro aa ww hf hw;exact⟨0,(List.replicate ((↑c.A.length:Int):Int).toNat ([]:(List Int))),_,_,hf.sub (kp [32,31,5,4,33] O),hw,bl,(CB.refl S2 ah),(iq (n:=0) O),E⟩
  ·rintro aa ww ⟨_,_,_,_,_,_,_,_,_,E⟩;rw[JE] at E;cases E
  rintro n1 aa ww ⟨y,M,a4,f2,hf,hw,ai,a5,f3,E⟩;refine AJ ?_ hf hw;clear hf hw ww aa;rw[JE] at E;refine AU ?_;refine AH O E (λdm E=>?_) (λdm E=>?_)
  ·refine AU ?_;refine A5 (AU ?_);have dn:=dl.mono' a5;refine AZ E O O dn sl_23.1 O λa6 E f4 dp=>?_;obtain⟨f5,_,dq⟩:=dp.lv;refine AU ?_;refine CO Mw O ai λa7 f6 bm dr=>AU ?_;have ds:=dq.mono dr;obtain⟨f7,f8,f9,rfl,ga,gb,gc,gd,ge,dt,gf,gg,gh,gi,gj,gl⟩:=B9.ex ds;refine Dk O O O ON ty_101.1 O bm .head O λa9 Q gm=>AU ?_;refine SR (kp [6,7,32,31,5,4,33] O) ?_;obtain⟨aj,bn,E⟩:=bd E;obtain⟨gn,bo,E⟩:=bd E;refine Mt (m:=[(6,vI y),(7,vP a7 0),(32,vI (↑c.A.length:Int)),(31,a3),(5,vP K 0),(4,vP b7 0),(33,vI y)]) 7 (λi v t=>match i with|0=>v=vP K 1|1=>v=(.slice (some ⟨J,0,none⟩) (List.replicate ((↑c.A.length:Int):Int).toNat ([]:(List Int))).length u)|2=>v=vI y∧AA y|3=>v=vP a7 5|4=>Sl a4 t AB v a6.Be|5=>Sl (SN a4 a9 t) t AB v aj|6=>EP (.slice (some ⟨J,0,none⟩) (List.replicate ((↑c.A.length:Int):Int).toNat ([]:(List Int))).length u) (y.toNat*((A7.sl AB)).sz+0) v|_=>False) [[],[(0,38)],[],[],[(3,41)],[(4,42)],[(1,39),(2,40)]] [(5,43),(6,44)] mo (by kernel_rfl) [6,7,32,31,5,4,33] O (by kernel_rfl) (by kernel_rfl) (by kernel_rfl) (kp [6,7,32,31,5,4,33] O) MO ?_ ?_
   ·refine AQ.cons O EH (AQ.cons O EH (AQ.cons O EH (AQ.cons O EH (AQ.cons O ?_ ?_))))
    ·intro U t o;intro gp du;have q:=o.st Q;cases du;refine AU ?_;have dv:=dt.nw;exact AS dv
    refine AQ.cons O ?_ ?_
    ·intro U t o;intro dw Z;have q:=SN.st Q o;have Z:=Sl.sn a9 Z;have Z:Sl _ _ AB dw a6.Be:=Z;have ax:=q.fz;refine E6 O O O Pk O ax (Dj (St.all _) (Z.mono ax.ea.1 ax.ea.2) bn) λgq gr gs ff gt dx p=>?_;have bp:=p;have ak:=ax.join dx bp ⟨OS.flat (λ{_ _ _ _ _ _} k=>k),trivial⟩;simp only[uV,uK] at ak;obtain⟨gu,bq,gv,dy⟩:=ak.pubs .head;have am:=Fz.done o EX bq;exact A9 am.1 (Sl.mono' dy am.2)
    refine AQ.cons O ?_ ?_
    ·intro U t o;intro gw dz gx d0;have q:=o.st Q;cases dz;obtain⟨rfl,gy⟩:=d0;refine AU ?_;refine BR q (mt (mt (mt (mt (mt (mt mh)))))) O O sl_32.1 bo O λgz br=>AU ?_;exact AS br
    exact trivial
   intro g0 d1 d2 an g1 d3;have bs:=SN.st Q d1;have an:Sl _ _ AB d2 aj:=an;obtain⟨d4,bt,E⟩:=bd E;refine FM (r:=(A7.sl AB)) (l:=M) (i:=y) (x:=d4) O O (O5 an) d3 bt NM.id ty_29.1 (λ_=>rfl) bs (.tail (.tail (.tail (.tail (.tail (.tail .head)))))) λg2 bu g3=>AU ?_;refine BE (AU ?_);refine WF.nil (λaa ww hf hw=>?_);have bv:=bu.sel [1,1,1,1,1,1,1] 1 O;exact⟨(BD (y+1)),(upd M y aj),_,_,hf.sub (kp [32,31,5,4,33] O),hw,bv,EX,(BI _),E⟩
  refine BC O (λaa ww hf hw=>?_);exact⟨M,_,_,hf.sub (kp [5,4] O),hw,ai,a5,E⟩
 rintro aa ww ⟨ac,g4,g5,hf,hw,bw,g6,E⟩;refine AJ ?_ hf hw;clear hf hw ww aa;rw[J9] at E;refine AU ?_;refine Cu O O O O ty_36.1 O bw (.tail (.tail (.tail (.tail (.tail (.tail .head)))))) O λg7 bx g8=>AU ?_;refine Bu (λaa ww hf hw=>?_);obtain⟨g9,bz,ha,d5⟩:=bx.pubs (.tail (.tail (.tail (.tail (.tail .head)))));obtain⟨hc,b0,hd,d6⟩:=bz.pubs (.tail (.tail (.tail (.tail .head))));obtain⟨he,b1,hg,d7⟩:=b0.pubs (.tail (.tail (.tail .head)));obtain⟨hi,b2,hj,d8⟩:=b1.pubs (.tail (.tail .head));obtain⟨hk,b3,d9,eb⟩:=b2.pubs (.tail .head);have ao:=b3.sel [1] 1 O;have ec:=d5.nw;have ed:=d6.nw;have ee:=d7.nw;have ef:=d8.mono' d9;have b4:=ao.drop .head;cases E;exact JC hf O hw (Gw (Tj hf hw ao O mh ty_36.1 O) JB) O EX ⟨(AM.mk (x:=(⟨d,ac,(List.replicate ((↑c.A.length:Int):Int).toNat (0:Int)),[],(List.replicate ((↑c.E.length:Int):Int).toNat ((⟨0,0,false,false⟩:AT):AT)),(List.replicate ((↑c.H.length:Int):Int).toNat (0:Int)),(List.replicate ((↑c.H.length:Int):Int).toNat (0:Int))⟩:AE)) di ec ed (.inl ⟨O,O⟩) ee ef eb),b4⟩
def H8 (k:St S L h) {b:Value}{c:(List AT)}(a:Sl S h BL b c) {r:(List AT)}(E:CI N c=some r):
 B0 prog 157 #[b] S h (λv S' h'=>St S' (OS BL 106 v r::L) h'):=by
 refine BA 8 func157 O ntmps157 O λB=>?_;rw[CI] at E;rcases a.cases with ⟨rfl,rfl⟩|⟨n,m,rfl,a⟩
 ·have s:(some ([]:List AT))=some r:=by simpa [chk,IX] using E
  refine AU ?_;refine XY O O O Yl (AU ?_);refine UF O (AU ?_);have d:=k.nil BL 106;cases E;exact KU d O O EX
 refine AU ?_;refine bH O O O Yl (AU ?_);refine ST O (AU ?_);refine Sb (r:=BL) VJ O O k λv1 t g o=>AU ?_;have p:=a.mono' o;obtain⟨i,E⟩:=LA E;refine H4 (r:=BL) (l:=([]:List AT)) (xs:=c) O O VJ O (Sl.src p) O i O g (λ_=> .head) λu w j q=>AU ?_;cases E;exact KU j O O EX
def RJ (hs:St S L h) {z:Value}{b:AE}(ad:Rd S h AM z b) {r:AE}(E:Jx N b=some r):
 B0 prog 78 #[z] S h (λv S' h'=>∃w1 w2 w3 w4 w5 w6:Value,v= .agg #[vI r.B,w1,w2,w3,w4,w5,w6]∧AA r.B∧Sl S' h' A3 w3 r.G∧St S' (OO AB 3 29 w1 r.D::OS AB 3 w2 r.L::OS BL 106 w4 r.M::OS AB 3 w5 r.N::OS AB 3 w6 r.K::L) h'):=by
 refine BA 43 func78 O ntmps78 O λB=>?_;rw[Jx] at E;refine AU ?_;obtain⟨v3,v5,v7,v9,U,Q,rfl,r2,k4,k6,k8,bm,bn,bo⟩:=AM.ex ad;refine Oq O O O hs λae cp az bp=>CO L8 O az λaf cq a0 cr=>?_;have cs:=k4.nw;refine AU ?_;obtain⟨a1,E⟩:=LA E;refine eV AB 3 Ms O O a1 O O a0 λag an a2 ct=>?_;have bq:=k4.nw;refine AU ?_;refine AO (λa w=>∃(m:List (List Int)),IV B S an (43,[]) a w [(3,ag),(2,vP af 0),(1,vP ae 0)] (OO AB 3 29 ag m::Bx af 36 [vI 0,vN,vN,vN,vN,vN,vN]::Bx ae 36 [vI b.B,v3,v5,v7,v9,U,Q]::L) λ_ _=>FC N b m=some r) ?_ ?_
 ·refine A4 (λn1=>λa w=>∃(s:Int) (V:List (List Int)),IV B S an (43,[]) a w [(12,vI (↑b.D.length:Int)),(11,v3),(3,ag),(2,vP af 0),(1,vP ae 0),(13,vI s)] (OO AB 3 29 ag V::Bx af 36 [vI 0,vN,vN,vN,vN,vN,vN]::Bx ae 36 [vI b.B,v3,v5,v7,v9,U,Q]::L) λ_ _=>AA s∧FB N b (FC N b) n1 s V=some r) N ?_ ?_ ?_
  ·intro aa ww A C;exact⟨0,(List.replicate ((↑b.D.length:Int):Int).toNat ([]:(List Int))),_,_,A.sub (kp [12,11,3,2,1,13] O),C,a2,(CB.refl S an),(iq (n:=0) O),E⟩
  ·rintro aa ww ⟨_,_,_,_,_,_,_,_,_,E⟩;rw[FB] at E;cases E
  rintro n1 aa ww ⟨s,V,cu,cv,A,C,o,a3,cw,E⟩;refine AJ ?_ A C;clear A C ww aa;rw[FB] at E;refine AU ?_;refine AH O E (λbr E=>?_) (λbr E=>?_)
  ·refine AU ?_;refine A5 (AU ?_);have bs:=bq.mono' a3;refine AZ E O O bs sl_32.1 O λcx E cy bt=>?_;obtain⟨cz,_,bu⟩:=bt.ll;refine AU ?_;refine Bw (AU ?_);refine Cc E O O O Pk O o (λa4 a5=>Dj (St.all _) (bu.mono o.ea.1 o.ea.2) a5) λa4 E c0 c1 c2 b3 c3 bv p=>?_;have a6:=p;have W:=o.join bv a6 ⟨OS.flat (λ{_ _ _ _ _ _} k=>k),trivial⟩;simp only[uV,uK] at W;refine AU ?_;obtain⟨c4,a7,E⟩:=bd E;refine QL (r:=AB) W (mt mh) O O sl_32.1 a7 O λc5 a8=>AU ?_;obtain⟨c6,a9,E⟩:=bd E;refine Xe (r:=AB) (i:=s) O O a8 a9 ty_29.1 W λc7 ba c8=>AU ?_;refine BE (AU ?_);refine WF.nil (λaa ww A C=>?_);exact⟨(BD (s+1)),(upd V s a4),_,_,A.sub (kp [12,11,3,2,1,13] O),C,ba,EX,(BI _),E⟩
  refine BC O (λaa ww A C=>?_);exact⟨V,_,_,A.sub (kp [3,2,1] O),C,o,a3,E⟩
 rintro aa ww ⟨m,c9,da,A,C,aj,db,E⟩;refine AJ ?_ A C;clear A C ww aa;rw[FC] at E;refine AU ?_;obtain⟨q,c,rfl,dc⟩:=aj.oolen mh;refine E5 (cs':=[vI b.B,(.slice q m.length c),v5,v7,v9,U,Q]) O O O O ty_32.1 O aj (.tail (.tail .head)) O O λdd F de=>AU ?_;refine Bw (AU ?_);have bw:=k6.nw;refine Cc E O O O Pk O F (λX bb=>Dj (St.all _) (bw.mono F.ea.1 F.ea.2) bb) λX E df dg dh b4 di bx p=>?_;have bc:=p;have Y:=F.join bx bc ⟨OS.flat (λ{_ _ _ _ _ _} k=>k),trivial⟩;simp only[uV,uK] at Y;refine AU ?_;obtain⟨H,d,rfl,dj⟩:=Y.oslen mh;refine E5 (cs':=[vI b.B,(.slice q m.length c),(.slice H X.length d),v7,v9,U,Q]) O O O O ty_29.1 O Y (.tail (.tail (.tail .head))) O O λdk I dl=>AU ?_;refine Bw (AU ?_);have bz:=bm.nw;refine Cc E O O O lR O I (λah be=>H8 (St.all _) (bz.mono I.ea.1 I.ea.2) be) λah E dm dn b5 b0 b6 bf p=>?_;have ao:=p;have t:=I.join bf ao ⟨OS.flat (λ{_ _ _ _ _ _} k=>k),trivial⟩;simp only[uV,uK] at t;refine AU ?_;obtain⟨u,g,rfl,b7⟩:=t.oslen mh;refine E5 (cs':=[vI b.B,(.slice q m.length c),(.slice H X.length d),v7,(.slice u ah.length g),U,Q]) O O O O ty_34.1 O t (.tail (.tail (.tail (.tail .head)))) O O λb8 j b9=>AU ?_;refine Bw (AU ?_);have bg:=bn.nw;refine Cc E O O O Pk O j (λZ ap=>Dj (St.all _) (bg.mono j.ea.1 j.ea.2) ap) λZ E ca cb cc b1 cd bh p=>?_;have aq:=p;have x:=j.join bh aq ⟨OS.flat (λ{_ _ _ _ _ _} k=>k),trivial⟩;simp only[uV,uK] at x;refine AU ?_;obtain⟨ab,J,rfl,ce⟩:=x.oslen mh;refine E5 (cs':=[vI b.B,(.slice q m.length c),(.slice H X.length d),v7,(.slice u ah.length g),(.slice ab Z.length J),Q]) O O O O ty_29.1 O x (.tail (.tail (.tail (.tail (.tail .head))))) O O λcf l cg=>AU ?_;refine Bw (AU ?_);have bi:=bo.nw;refine Cc E O O O Pk O l (λak ar=>Dj (St.all _) (bi.mono l.ea.1 l.ea.2) ar) λak E ch ci cj b2 ck bj p=>?_;have au:=p;have y:=l.join bj au ⟨OS.flat (λ{_ _ _ _ _ _} k=>k),trivial⟩;simp only[uV,uK] at y;refine AU ?_;obtain⟨av,ai,rfl,cl⟩:=y.oslen mh;refine E5 (cs':=[vI b.B,(.slice q m.length c),(.slice H X.length d),v7,(.slice u ah.length g),(.slice ab Z.length J),(.slice av ak.length ai)]) O O O O ty_29.1 O y (.tail (.tail (.tail (.tail (.tail (.tail .head)))))) O O λcm aw cn=>AU ?_;have bk:=k8.nw;refine Dk O O O ON ty_36.1 O aw (.tail (.tail (.tail (.tail (.tail .head))))) O λco ax am=>AU ?_;refine Bu (λaa ww A C=>?_);have ac:=ax.sel [4,3,2,1,0,0] 1 O;have bl:=bk.mono' am;have ay:=ac.drop (.tail (.tail (.tail (.tail (.tail .head)))));cases E;exact JC A O C (Gw (Tj A C ac O (mt (mt (mt (mt (mt mh))))) ty_36.1 O) JB) O ((((((bp.trans EX).trans EX).trans EX).trans EX).trans EX).trans am) ⟨_,_,_,_,_,_,O,r2,bl,ay⟩
def HD (g:St S L h) {b:Int}(d:AA b) {a:Int}(c:AA a) {r:Bool}(E:GY N b a=some r):
 B0 prog 158 #[vI b,vI a] S h (λv S' h'=>v= .bool r∧St S' (L) h'):=by
 refine BA 12 func158 O ntmps158 O λB=>?_;rw[GY] at E;exact RT
def SB (hs:St S L h) {i:Value}{l:BM}(p:Rd S h BZ i l) {j:Value}{b:AT}(q:Rd S h BL j b) {c:Int}(y:AA c) {r:AT}(E:He N l b c=some r):
 B0 prog 159 #[i,j,vI c] S h (λv S' h'=>v= .agg #[vI r.V,vI r.W,.bool r.At,.bool r.Ai]∧AT.ok r∧St S' (L) h'):=by
 refine BA 24 func159 O ntmps159 O λB=>?_;rw[He] at E;refine AU ?_;refine By O p CE O hs λq1 S2 h3 Q e5 k6=>?_;have k7:=q.mono e5;obtain⟨rfl,⟨r9,U⟩⟩:=BL.ex k7;refine Oq O O O Q λs af D ag=>CO PU O D λt u k ah=>AU ?_;refine AO (λa w=>∃(z:Bool) (A:Bool),IV B S2 u (24,[]) a w [(6,vP t 0),(4,vP s 0)] (Bx t 106 [vI 0,vI 0,.bool false,.bool false]::Bx s 106 [vI b.V,vI b.W,.bool z,.bool A]::L) λ_ _=>Fx N b z A=some r) ?_ ?_
 ·refine AU ?_;refine AH O E (λX E=>?_) (λX E=>?_)
  ·refine AU ?_;refine E5 (cs':=[vI b.V,vI b.W,.bool true,.bool b.Ai]) O O O O ty_4.1 O k (.tail .head) O O λai F Y=>AU ?_;refine WF.nil (λm n d g=>?_);exact⟨true,b.Ai,_,_,d.sub (kp [6,4] O),g,F,Y,E⟩
  refine AU ?_;refine AH O E (λZ E=>?_) (λZ E=>?_)
  ·refine AU ?_;refine E5 (cs':=[vI b.V,vI b.W,.bool false,.bool b.Ai]) O O O O ty_4.1 O k (.tail .head) O O λaj G ab=>AU ?_;refine WF.nil (λm n d g=>?_);exact⟨false,b.Ai,_,_,d.sub (kp [6,4] O),g,G,ab,E⟩
  refine AU ?_;refine Gq (λa w=>∃(C:Bool),IV B S2 u (24,[]) a w [(6,vP t 0),(4,vP s 0),(3,q1),(2,vI c),(14,.bool C)] (Bx t 106 [vI 0,vI 0,.bool false,.bool false]::Bx s 106 [vI b.V,vI b.W,.bool b.At,.bool b.Ai]::L) λ_ _=>Gp N l b c (Fx N b) C=some r) ?_ ?_
  ·refine AH O E (λac E=>?_) (λac E=>?_)
   ·refine AU ?_;refine WF.nil (λm n d g=>?_);exact⟨(decide (c=2)),_,_,d.sub (kp [6,4,3,2,14] O),g,k,(CB.refl S2 u),E⟩
   refine AU ?_;refine WF.nil (λm n d g=>?_);exact⟨(decide (c=3)),_,_,d.sub (kp [6,4,3,2,14] O),g,k,(CB.refl S2 u),E⟩
  rintro m n ⟨C,ak,am,d,g,o,H,E⟩;refine AJ ?_ d g;clear d g n m;rw[Gp] at E;refine AH O E (λad E=>?_) (λad E=>?_)
  ·have an:=k6.nw;refine AU ?_;refine AH O E (λae E=>?_) (λae E=>?_)
   ·refine AU ?_;refine E5 (cs':=[vI b.V,vI b.W,.bool b.At,.bool (decide (c=2))]) O O O O ty_4.1 O o (.tail .head) O O λao I ap=>AU ?_;refine WF.nil (λm n d g=>?_);exact⟨b.At,(decide (c=2)),_,_,d.sub (kp [6,4] O),g,I,EX,E⟩
   refine AU ?_;refine WF.nil (λm n d g=>?_);exact⟨b.At,b.Ai,_,_,d.sub (kp [6,4] O),g,o,H,E⟩
  refine AU ?_;refine WF.nil (λm n d g=>?_);exact⟨b.At,b.Ai,_,_,d.sub (kp [6,4] O),g,o,H,E⟩
 rintro m n ⟨z,A,aq,ar,d,g,J,au,E⟩;refine AJ ?_ d g;clear d g n m;rw[Fx] at E;refine AU ?_;refine Cu O O O O ty_106.1 O J .head O λav K aw=>AU ?_;refine Bu (λm n d g=>?_);have x:=K.drop (.tail .head);have M:=x.drop .head;cases E;exact JC d O g (Gw (Tj d g x O mh ty_106.1 O) JB) O EX ⟨O,⟨r9,U⟩,M⟩
def KC (l:St S L h) {c:Int}(i:AA c) {b:Int}(g:AA b) {a:Int}(d:AA a) {r:Int}(E:Hl N c b a=some r):
 B0 prog 205 #[vI c,vI b,vI a] S h (λv S' h'=>v=vI r∧AA r∧St S' (L) h'):=by
 refine BA 16 func205 O ntmps205 O λB=>?_;rw[Hl] at E;refine AU ?_;refine AH O E (λj E=>?_) (λj E=>?_)
 ·exact RT
 refine AU ?_;refine AH O E (λk E=>?_) (λk E=>?_)
 ·exact RT
 exact RT
def T0 (hs:St S L h) {g:Value}{s:BM}(k:Rd S h BZ g s) {j:Value}{b:AT}(l:Rd S h BL j b) {c:Int}(d:AA c) {r:AT}(E:I7 N s b c=some r):
 B0 prog 142 #[g,j,vI c] S h (λv S' h'=>v= .agg #[vI r.V,vI r.W,.bool r.At,.bool r.Ai]∧AT.ok r∧St S' (L) h'):=by
 refine BA 16 func142 O ntmps142 O λB=>?_;rw[I7] at E;refine AU ?_;refine By O k CE O hs λq1 S2 h3 Q e5 k6=>?_;have k7:=l.mono e5;obtain⟨rfl,⟨r9,U⟩⟩:=BL.ex k7;refine Oq O O O Q λy af z ag=>CO PU O z λA C t ah=>?_;have X:=k6.nw;refine AU ?_;refine Gq (λa w=>∃(m:Int),IV B S2 C (16,[]) a w [(6,vP A 0),(4,vP y 0)] (Bx A 106 [vI 0,vI 0,.bool false,.bool false]::Bx y 106 [vI b.V,vI m,.bool b.At,.bool b.Ai]::L) λ_ _=>AA m∧LS N b m=some r) ?_ ?_
 ·refine AH O E (λY E=>?_) (λY E=>?_)
  ·refine Bw ?_;have Z:=X.fl Fe;have ab:=Z.i;refine AU ?_;refine Cc E O O O T7 O t (λx D=>KC (St.all _) d (iq (n:=0) O) ab D) λx E ai aj ak F am an p=>?_;obtain⟨rfl,ac,ae⟩:=p;refine AU ?_;refine E5 (cs':=[vI b.V,vI x,.bool b.At,.bool b.Ai]) O O O O ty_3.1 O F (.tail .head) O O λao G ap=>AU ?_;refine WF.nil (λK M o q=>?_);exact⟨x,_,_,o.sub (kp [6,4] O),q,G,EX,ac,E⟩
  refine AU ?_;refine WF.nil (λK M o q=>?_);exact⟨b.W,_,_,o.sub (kp [6,4] O),q,t,(CB.refl S2 C),U,E⟩
 rintro K M ⟨m,aq,ar,o,q,H,au,ad,E⟩;refine AJ ?_ o q;clear o q M K;rw[LS] at E;refine AU ?_;refine Cu O O O O ty_106.1 O H .head O λav I aw=>AU ?_;refine Bu (λK M o q=>?_);have u:=I.drop (.tail .head);have J:=u.drop .head;cases E;exact JC o O q (Gw (Tj o q u O mh ty_106.1 O) JB) O EX ⟨O,⟨r9,ad⟩,J⟩
def JK (j:St S L h) {a:Int}(c:AA a) {b:Int}(d:AA b) {r:Int}(E:GK N a b=some r):
 B0 prog 111 #[vI a,vI b] S h (λv S' h'=>v=vI r∧AA r∧St S' (L) h'):=by
 refine BA 24 func111 O ntmps111 O λB=>?_;rw[GK] at E;refine AU ?_;refine AH O E (λg E=>?_) (λg E=>?_)
 ·exact RT
 refine AU ?_;refine AH O E (λi E=>?_) (λi E=>?_)
 ·exact RT
 exact RT
def Ho (j:St S L h) {a:Int}(c:AA a) {b:Int}(d:AA b) {r:Int}(E:Fb N a b=some r):
 B0 prog 70 #[vI a,vI b] S h (λv S' h'=>v=vI r∧AA r∧St S' (L) h'):=by
 refine BA 24 func70 O ntmps70 O λB=>?_;rw[Fb] at E;refine AU ?_;refine AH O E (λg E=>?_) (λg E=>?_)
 ·exact RT
 refine AU ?_;refine AH O E (λi E=>?_) (λi E=>?_)
 ·exact RT
 exact RT
def Sr (hs:St S L h) {b:Value}{j:BM}(d:Rd S h BZ b j) {c:Value}{a:AT}(g:Rd S h BL c a) {r:AT}(E:Hk N j a=some r):
 B0 prog 160 #[b,c] S h (λv S' h'=>v= .agg #[vI r.V,vI r.W,.bool r.At,.bool r.Ai]∧AT.ok r∧St S' (L) h'):=by
 refine BA 26 func160 O ntmps160 O λB=>?_;rw[Hk] at E;refine AU ?_;refine By O d CE O hs λq1 S2 h3 M e5 k6=>?_;have k7:=g.mono e5;obtain⟨rfl,⟨Q,q⟩⟩:=BL.ex k7;refine Oq O O O M λao ap s aq=>CO PU O s λar au k av=>AU ?_;refine AH O E (λU E=>?_) (λU E=>?_)
 ·refine AU ?_;refine Cu O O O O ty_106.1 O k .head O λaw t ax=>AU ?_;refine Bu (λaa ww u w=>?_);have l:=t.drop (.tail .head);have x:=l.drop .head;cases E;exact JC u O w (Gw (Tj u w l O mh ty_106.1 O) JB) O EX ⟨O,⟨Q,q⟩,x⟩
 refine AU ?_;refine BX (.inr ⟨mo,by kernel_rfl⟩) k (AU ?_);refine CA E O O O Qp O (λX y h' o=>JK (St.all h') q Q y) λX E Y=>?_;have Z:=Y;have z:=k6.nw;have ab:=z.fl J7;have ac:=ab.i;refine AU ?_;refine CA E O O O Qp O (λad A h' o=>JK (St.all h') (iq (n:=0) O) ac A) λad E ae=>?_;have af:=ae;have ag:=z.fl J7;have ah:=ag.i;refine AU ?_;refine CA E O O O T7 O (λai C h' o=>KC (St.all h') Z af ah C) λai E aj=>?_;have ak:=aj;refine AU ?_;refine BK (kp [5,4,3] O) λay D az=>AU ?_;refine Bw (AU ?_);refine Cc E O O O Q9 O D (λF G=>Ho (St.all _) Q ak G) λF E a0 a1 a2 H a3 a4 p=>?_;obtain⟨rfl,am,an⟩:=p;refine AU ?_;refine E5 (cs':=[vI F,vI a.W,.bool a.At,.bool a.Ai]) O O O O ty_3.1 O H (.tail .head) O O λa5 I a6=>AU ?_;refine Cu O O O O ty_106.1 O I .head O λa7 J a8=>AU ?_;refine Bu (λaa ww u w=>?_);have m:=J.drop (.tail .head);have K:=m.drop .head;cases E;exact JC u O w (Gw (Tj u w m O mh ty_106.1 O) JB) O EX ⟨O,⟨am,q⟩,K⟩
def PC {y:Nat}{p0_w:AN}{U:Value}{V:Value}{Q:Value}{W:Value}{X:Value}{Y:Value}{ab:Value}{ac:Value}{z:Value}{t:Value}{u:Value}{C:Value}{F:Value}{c:Value}{d:Value}{J:Value}{q:Value}{g:Value}{j:Value}{k:Value}{m:Value}{p:Value}(hs:St S (Bx y 160 [.string p0_w.b.I,U,vI p0_w.b.O,V,Q,W,X,Y,ab,ac,vI p0_w.b.R,z,t,u,C,F,vI p0_w.s.B,c,d,J,q,g,j,k,m,p]::OO AB 3 29 c p0_w.s.D::OS AB 3 d p0_w.s.L::OS BL 106 q p0_w.s.M::OS AB 3 g p0_w.s.N::OS AB 3 j p0_w.s.K::OS BB 74 k p0_w.moves::OS AB 3 m p0_w.peaks::OS A3 121 p p0_w.sent::L) h) (b4:p0_w.b.I.size≤maxLen) (b5:Sl S h A7.str U p0_w.b.H) (b6:AA p0_w.b.O) (b7:Sl S h B9 V p0_w.b.A) (ad:Sl S h BZ Q p0_w.b.E) (b8:Sl S h HL W p0_w.b.Ab) (b9:Sl S h Eu X p0_w.b.Ad) (ca:Sl S h Gr Y p0_w.b.Ae) (cb:Sl S h DB ab p0_w.b.Ag) (cc:Sl S h AB ac p0_w.b.Ak) (a2:AA p0_w.b.R) (a3:Sl S h AB z p0_w.in_.Z) (aj:Sl S h Gf t p0_w.in_.Ah) (ak:Sl S h Jp u p0_w.in_.Aj) (a4:Sl S h Ge C p0_w.in_.Aa) (a5:Sl S h HV F p0_w.in_.Aq) (a6:AA p0_w.s.B) (a7:Sl S h A3 J p0_w.s.G) {r:(List AT)}(E:GZ N p0_w=some r):
 B0 prog 79 #[vP y 0] S h (λv S' h'=>∃ao:Value,v= .tuple #[]∧St S' (Bx y 160 [.string p0_w.b.I,U,vI p0_w.b.O,V,Q,W,X,Y,ab,ac,vI p0_w.b.R,z,t,u,C,F,vI p0_w.s.B,c,d,J,ao,g,j,k,m,p]::OO AB 3 29 c p0_w.s.D::OS AB 3 d p0_w.s.L::OS BL 106 ao r::OS AB 3 g p0_w.s.N::OS AB 3 j p0_w.s.K::OS BB 74 k p0_w.moves::OS AB 3 m p0_w.peaks::OS A3 121 p p0_w.sent::L) h'):=by
 refine BA 135 func79 O ntmps79 O λB=>?_;rw[GZ] at E;refine AU ?_;refine AO (λa w=>∃(l2:List AT),IV B S h (135,[]) a w [(0,vP y 0)] (Bx y 160 [.string p0_w.b.I,U,vI p0_w.b.O,V,Q,W,X,Y,ab,ac,vI p0_w.b.R,z,t,u,C,F,vI p0_w.s.B,c,d,J,q,g,j,k,m,p]::OO AB 3 29 c p0_w.s.D::OS AB 3 d p0_w.s.L::OS BL 106 q l2::OS AB 3 g p0_w.s.N::OS AB 3 j p0_w.s.K::OS BB 74 k p0_w.moves::OS AB 3 m p0_w.peaks::OS A3 121 p p0_w.sent::L) λ_ _=>Cj N p0_w l2=some r) ?_ ?_
 ·refine A4 (λn1=>λa w=>∃(i6:Int) (l8:List AT),IV B S h (135,[]) a w [(13,vI (↑p0_w.in_.Ah.length:Int)),(12,t),(0,vP y 0),(14,vI i6)] (Bx y 160 [.string p0_w.b.I,U,vI p0_w.b.O,V,Q,W,X,Y,ab,ac,vI p0_w.b.R,z,t,u,C,F,vI p0_w.s.B,c,d,J,q,g,j,k,m,p]::OO AB 3 29 c p0_w.s.D::OS AB 3 d p0_w.s.L::OS BL 106 q l8::OS AB 3 g p0_w.s.N::OS AB 3 j p0_w.s.K::OS BB 74 k p0_w.moves::OS AB 3 m p0_w.peaks::OS A3 121 p p0_w.sent::L) λ_ _=>AA i6∧CR N p0_w (Cj N p0_w) n1 i6 l8=some r) N ?_ ?_ ?_
  ·intro aa ww hf hw;exact⟨0,p0_w.s.M,_,_,hf.sub (kp [13,12,0,14] O),hw,hs,(CB.refl S h),(iq (n:=0) O),E⟩
  ·rintro aa ww ⟨_,_,_,_,_,_,_,_,_,E⟩;rw[CR] at E;cases E
  rintro n1 aa ww ⟨i6,l8,S9,eg,hf,hw,ax,cd,r7,E⟩;refine AJ ?_ hf hw;clear hf hw ww aa;rw[CR] at E;refine AU ?_;refine AH O E (λeh E=>?_) (λeh E=>?_)
  ·refine AU ?_;refine AO (λa w=>∃(au:List AT),IV B S9 eg (135,[]) a w [(13,vI (↑p0_w.in_.Ah.length:Int)),(12,t),(0,vP y 0),(14,vI i6)] (Bx y 160 [.string p0_w.b.I,U,vI p0_w.b.O,V,Q,W,X,Y,ab,ac,vI p0_w.b.R,z,t,u,C,F,vI p0_w.s.B,c,d,J,q,g,j,k,m,p]::OO AB 3 29 c p0_w.s.D::OS AB 3 d p0_w.s.L::OS BL 106 q au::OS AB 3 g p0_w.s.N::OS AB 3 j p0_w.s.K::OS BB 74 k p0_w.moves::OS AB 3 m p0_w.peaks::OS A3 121 p p0_w.sent::L) λ_ _=>GE N i6 (CR N p0_w (Cj N p0_w) n1) au=some r) ?_ ?_
   ·refine AU ?_;have ei:=aj.mono' cd;refine AZ E O O ei sl_55.1 O λce E gl ej=>?_;obtain⟨gm,_,ek⟩:=ej.lv;refine AU ?_;refine CO gR O ax λgn gp cf el=>?_;have em:=ek.mono el;obtain⟨rfl,⟨en,eo⟩⟩:=Gf.ex em;refine Cu O O O O ty_232.1 O cf .head O λgq cg gr=>AU ?_;refine BX (.inr ⟨mo,by kernel_rfl⟩) cg ?_;have ep:=ad.nw;have eq:=ep.le;refine AU ?_;refine A8 E O O O Oa O (λer ch h' o=>HD (St.all h') eo (Je eq) ch) λer E=>BK (kp [26,3,13,12,0,14] O) λgs ag gt=>AH O E (λes E=>?_) (λes E=>?_)
    ·refine Lo 29 mo (by kernel_rfl) O ag (AU ?_);have eu:=ad.nw;refine AZ E O O eu sl_24.1 O λgu E gv ev=>?_;obtain⟨gw,_,ew⟩:=ev.lv;refine AU ?_;obtain⟨gx,ci,E⟩:=bd E;refine BR ag (mt (mt (mt (mt mh)))) O O sl_34.1 ci O λgy cj=>?_;obtain⟨gz,ck,E⟩:=bd E;have ey:=ag.epAt (mt (mt (mt (mt mh)))) ck FW.id cj;refine Nv NI (λ_ x=>x) O ey ty_106.1 CE O λg0 ez=>AU ?_;refine CA E O O O lQ O (λa8 cl h' o=>SB (St.all h') (ew.mono (o.all ag.1)) (ez.mono (o.all ag.1)) en cl) λa8 E e0=>?_;obtain⟨e1,e2⟩:=e0;obtain⟨g1,cm,E⟩:=bd E;refine BR ag (mt (mt (mt (mt mh)))) O O sl_34.1 cm O λg2 cn=>KD λg3 co g4=>?_;obtain⟨e3,cp,E⟩:=bd E;refine FM (r:=BL) (l:=l8) (i:=ce.As) (x:=e3) O O (BL.mk (x:=a8) ⟨e1,e2⟩) cn cp NM.id ty_106.1 CE co (.tail (.tail (.tail (.tail .head)))) λg5 cq g6=>AU ?_;refine WF.nil (λaa ww hf hw=>?_);have cr:=cq.sel [1,1,1,1,1,1,1,1,1] 1 O;exact⟨(upd l8 ce.As a8),_,_,hf.sub (kp [13,12,0,14] O),hw,cr,EX,E⟩
    refine AU ?_;refine WF.nil (λaa ww hf hw=>?_);have cs:=ag.sel [1,1,1,1,1,1,1,1,1] 1 O;exact⟨l8,_,_,hf.sub (kp [13,12,0,14] O),hw,cs,EX,E⟩
   rintro aa ww ⟨au,g7,g8,hf,hw,ct,g9,E⟩;refine AJ ?_ hf hw;clear hf hw ww aa;rw[GE] at E;refine AU ?_;refine WF.nil (λaa ww hf hw=>?_);exact⟨(BD (i6+1)),au,_,_,hf.sub (kp [13,12,0,14] O),hw,ct,EX,(BI _),E⟩
  refine BC O (λaa ww hf hw=>?_);exact⟨l8,_,_,hf.sub (kp [0] O),hw,ax,cd,E⟩
 rintro aa ww ⟨l2,a9,ba,hf,hw,cu,e4,E⟩;refine AJ ?_ hf hw;clear hf hw ww aa;rw[Cj] at E;have e5:=ak.mono' e4;refine AU ?_;refine AO (λa w=>∃(av:List AT),IV B a9 ba (135,[]) a w [(0,vP y 0)] (Bx y 160 [.string p0_w.b.I,U,vI p0_w.b.O,V,Q,W,X,Y,ab,ac,vI p0_w.b.R,z,t,u,C,F,vI p0_w.s.B,c,d,J,q,g,j,k,m,p]::OO AB 3 29 c p0_w.s.D::OS AB 3 d p0_w.s.L::OS BL 106 q av::OS AB 3 g p0_w.s.N::OS AB 3 j p0_w.s.K::OS BB 74 k p0_w.moves::OS AB 3 m p0_w.peaks::OS A3 121 p p0_w.sent::L) λ_ _=>Ci N p0_w av=some r) ?_ ?_
 ·refine A4 (λn4=>λa w=>∃(am:Int) (an:List AT),IV B a9 ba (135,[]) a w [(62,vI (↑p0_w.in_.Aj.length:Int)),(61,u),(0,vP y 0),(63,vI am)] (Bx y 160 [.string p0_w.b.I,U,vI p0_w.b.O,V,Q,W,X,Y,ab,ac,vI p0_w.b.R,z,t,u,C,F,vI p0_w.s.B,c,d,J,q,g,j,k,m,p]::OO AB 3 29 c p0_w.s.D::OS AB 3 d p0_w.s.L::OS BL 106 q an::OS AB 3 g p0_w.s.N::OS AB 3 j p0_w.s.K::OS BB 74 k p0_w.moves::OS AB 3 m p0_w.peaks::OS A3 121 p p0_w.sent::L) λ_ _=>AA am∧CQ N p0_w (Ci N p0_w) n4 am an=some r) N ?_ ?_ ?_
  ·intro aa ww hf hw;exact⟨0,l2,_,_,hf.sub (kp [62,61,0,63] O),hw,cu,(CB.refl a9 ba),(iq (n:=0) O),E⟩
  ·rintro aa ww ⟨_,_,_,_,_,_,_,_,_,E⟩;rw[CQ] at E;cases E
  rintro n4 aa ww ⟨am,an,e6,e7,hf,hw,ay,cv,ha,E⟩;refine AJ ?_ hf hw;clear hf hw ww aa;rw[CQ] at E;refine AU ?_;refine AH O E (λe8 E=>?_) (λe8 E=>?_)
  ·refine AU ?_;refine AO (λa w=>∃(aw:List AT),IV B e6 e7 (135,[]) a w [(62,vI (↑p0_w.in_.Aj.length:Int)),(61,u),(0,vP y 0),(63,vI am)] (Bx y 160 [.string p0_w.b.I,U,vI p0_w.b.O,V,Q,W,X,Y,ab,ac,vI p0_w.b.R,z,t,u,C,F,vI p0_w.s.B,c,d,J,q,g,j,k,m,p]::OO AB 3 29 c p0_w.s.D::OS AB 3 d p0_w.s.L::OS BL 106 q aw::OS AB 3 g p0_w.s.N::OS AB 3 j p0_w.s.K::OS BB 74 k p0_w.moves::OS AB 3 m p0_w.peaks::OS A3 121 p p0_w.sent::L) λ_ _=>GD N am (CQ N p0_w (Ci N p0_w) n4) aw=some r) ?_ ?_
   ·refine AU ?_;have e9:=e5.mono' cv;refine AZ E O O e9 sl_56.1 O λcw E hb fa=>?_;obtain⟨fb,_,cx⟩:=fa.lv;refine AU ?_;refine CO gT O ay λfc fd bb cy=>?_;have cz:=cx.mono cy;obtain⟨rfl,⟨c0,c1⟩⟩:=Jp.ex cz;refine Cu O O O O ty_210.1 O bb .head O λfe bc ff=>AU ?_;refine BX (.inr ⟨mo,by kernel_rfl⟩) bc ?_;have c2:=ad.nw;have c3:=c2.le;refine AU ?_;refine A8 E O O O Oa O (λc4 be h' o=>HD (St.all h') c0 (Je c3) be) λc4 E=>BK (kp [75,5,62,61,0,63] O) λfg af fh=>AH O E (λc5 E=>?_) (λc5 E=>?_)
    ·refine Lo 29 mo (by kernel_rfl) O af (AU ?_);have c6:=ad.nw;refine AZ E O O c6 sl_24.1 O λfi E fj c7=>?_;obtain⟨fk,_,c8⟩:=c7.lv;refine AU ?_;obtain⟨fl,bf,E⟩:=bd E;refine BR af (mt (mt (mt (mt mh)))) O O sl_34.1 bf O λfm bg=>?_;obtain⟨fn,bh,E⟩:=bd E;have c9:=af.epAt (mt (mt (mt (mt mh)))) bh FW.id bg;refine Nv NI (λ_ x=>x) O c9 ty_106.1 CE O λfo da=>AU ?_;refine CA E O O O lT O (λap bi h' o=>T0 (St.all h') (c8.mono (o.all af.1)) (da.mono (o.all af.1)) c1 bi) λap E db=>?_;obtain⟨dc,dd⟩:=db;obtain⟨fp,bj,E⟩:=bd E;refine BR af (mt (mt (mt (mt mh)))) O O sl_34.1 bj O λfq bk=>KD λfr bl fs=>?_;obtain⟨de,bm,E⟩:=bd E;refine FM (r:=BL) (l:=an) (i:=cw.As) (x:=de) O O (BL.mk (x:=ap) ⟨dc,dd⟩) bk bm NM.id ty_106.1 CE bl (.tail (.tail (.tail (.tail .head)))) λft bn fu=>AU ?_;refine WF.nil (λaa ww hf hw=>?_);have bo:=bn.sel [1,1,1,1,1,1,1,1,1] 1 O;exact⟨(upd an cw.As ap),_,_,hf.sub (kp [62,61,0,63] O),hw,bo,EX,E⟩
    refine AU ?_;refine WF.nil (λaa ww hf hw=>?_);have bp:=af.sel [1,1,1,1,1,1,1,1,1] 1 O;exact⟨an,_,_,hf.sub (kp [62,61,0,63] O),hw,bp,EX,E⟩
   rintro aa ww ⟨aw,fv,fw,hf,hw,bq,fx,E⟩;refine AJ ?_ hf hw;clear hf hw ww aa;rw[GD] at E;refine AU ?_;refine WF.nil (λaa ww hf hw=>?_);exact⟨(BD (am+1)),aw,_,_,hf.sub (kp [62,61,0,63] O),hw,bq,EX,(BI _),E⟩
  refine BC O (λaa ww hf hw=>?_);exact⟨an,_,_,hf.sub (kp [0] O),hw,ay,cv,E⟩
 rintro aa ww ⟨av,az,a0,hf,hw,br,fy,E⟩;refine AJ ?_ hf hw;clear hf hw ww aa;rw[Ci] at E;have df:=ad.nw;refine AU ?_;refine A5 (A4 (λn6=>λa w=>∃(ah:Int) (ai:List AT),IV B az a0 (135,[]) a w [(111,vI (↑p0_w.b.E.length:Int)),(110,Q),(0,vP y 0),(112,vI ah)] (Bx y 160 [.string p0_w.b.I,U,vI p0_w.b.O,V,Q,W,X,Y,ab,ac,vI p0_w.b.R,z,t,u,C,F,vI p0_w.s.B,c,d,J,q,g,j,k,m,p]::OO AB 3 29 c p0_w.s.D::OS AB 3 d p0_w.s.L::OS BL 106 q ai::OS AB 3 g p0_w.s.N::OS AB 3 j p0_w.s.K::OS BB 74 k p0_w.moves::OS AB 3 m p0_w.peaks::OS A3 121 p p0_w.sent::L) λ_ _=>AA ah∧C7 N p0_w n6 ah ai=some r) N ?_ ?_ ?_)
 ·intro aa ww hf hw;exact⟨0,av,_,_,hf.sub (kp [111,110,0,112] O),hw,br,(CB.refl az a0),(iq (n:=0) O),E⟩
 ·rintro aa ww ⟨_,_,_,_,_,_,_,_,_,E⟩;rw[C7] at E;cases E
 rintro n6 aa ww ⟨ah,ai,fz,f0,hf,hw,aq,dg,f1,E⟩;refine AJ ?_ hf hw;clear hf hw ww aa;rw[C7] at E;refine AU ?_;refine AH O E (λdh E=>?_) (λdh E=>?_)
 ·refine AU ?_;refine A5 (AU ?_);have di:=df.mono' dg;refine AZ E O O di sl_24.1 O λdj E f2 dk=>?_;obtain⟨f3,_,dl⟩:=dk.lv;refine AU ?_;refine CO OD O aq λf4 f5 bs dm=>AU ?_;have dn:=dl.mono dm;obtain⟨f6,f7,f8,rfl,dp,dq,dr,ds,dt,du,dv,dw,dx,dy,dz,d0,d1,d2,d3,d4,d5,d6⟩:=BZ.ex dn;refine Dk O O O ON ty_117.1 O bs .head O λf9 ae ar=>AU ?_;refine Lo 17 mo (by kernel_rfl) O ae (AU ?_);obtain⟨ga,bt,E⟩:=bd E;refine BR ae (mt (mt (mt (mt mh)))) O O sl_34.1 bt O λgb bu=>?_;obtain⟨gc,bv,E⟩:=bd E;have d7:=ae.epAt (mt (mt (mt (mt mh)))) bv FW.id bu;refine Nv NI (λ_ x=>x) O d7 ty_106.1 CE O λgd d8=>?_;have d9:=dt.mono' ar;have ea:=du.mono' ar;have eb:=dv.mono' ar;obtain⟨a1,bw,E⟩:=bd E;refine Pq O O O lP O (λh' o=>Sr (St.all h') (BZ.mk (x:=dj) dp dq dr ds (d9.mono' (o.all ae.1)) (ea.mono' (o.all ae.1)) (eb.mono' (o.all ae.1)) dw dx dy dz d0 d1 d2 d3 d4 d5 d6) (d8.mono (o.all ae.1)) bw) λec=>?_;obtain⟨ed,ee⟩:=ec;obtain⟨ge,bx,E⟩:=bd E;refine BR ae (mt (mt (mt (mt mh)))) O O sl_34.1 bx O λgf bz=>KD λgg b0 gh=>?_;obtain⟨ef,b1,E⟩:=bd E;refine FM (r:=BL) (l:=ai) (i:=ah) (x:=ef) O O (BL.mk (x:=a1) ⟨ed,ee⟩) bz b1 NM.id ty_106.1 CE b0 (.tail (.tail (.tail (.tail .head)))) λgi b2 gj=>AU ?_;refine BE (AU ?_);refine WF.nil (λaa ww hf hw=>?_);have b3:=b2.sel [1,1,1,1,1,1,1,1,1] 1 O;exact⟨(BD (ah+1)),(upd ai ah a1),_,_,hf.sub (kp [111,110,0,112] O),hw,b3,EX,(BI _),E⟩
 refine J6 O (WF.nil (λaa ww hf hw=>?_));cases E;exact JC hf O hw JB O EX ⟨_,O,aq⟩
def P6 (s:St S L h) {c:Value}{g:(List Int)}(d:Sl S h AB c g) {a:Int}(j:AA a) {r:Int}(E:KM N g a=some r):
 B0 prog 213 #[c,vI a] S h (λv S' h'=>v=vI r∧AA r∧St S' (L) h'):=by
 refine BA 24 func213 O ntmps213 O λB=>?_;rw[KM] at E;refine AU ?_;obtain⟨m,b,E⟩:=bd E;refine AY 6 19 (.bool m) ?_ ?_
 ·cases l:((decide (a<0))||(decide ((↑g.length:Int)≤a)))
  ·have b:=GW l b;refine AU ?_;refine AZ b O O d sl_29.1 O λt b u w=>AU ?_;cases b;exact A0 O
  have b:=GV l b;cases b;exact BF O O
 refine AU ?_;refine AH O E (λn E=>?_) (λn E=>?_)
 ·exact RT
 refine AU ?_;refine AZ E O O d sl_29.1 O λo E p k=>?_;have q:=k.i;exact RT
def Sj (hs:St S L h) {n:Value}{c:(List Int)}(j:Sl S h AB n c) {b:Int}(m:AA b) {d:Int}(F:AA d) {g:Int}(s:AA g) {r:(List Int)}(E:Ld N c b d g=some r):
 B0 prog 161 #[n,vI b,vI d,vI g] S h (λv S' h'=>St S' (OS AB 3 v r::L) h'):=by
 refine BA 56 func161 O ntmps161 O λB=>?_;rw[Ld] at E;refine AU ?_;obtain⟨ag,E⟩:=LA E;refine Jt (r:=AB) (zx:=0) IU O ⟨O,by unfold AA;omega⟩ O O ag O O hs λv3 h4 ah e6=>AU ?_;have k7:=j.mono' e6;refine UQ (r:=AB) (l:=(List.replicate ((↑c.length:Int):Int).toNat (0:Int))) (xs:=c) O O sl_29.1 (Sl.src k7) O ah .head λh8 G av=>AU ?_;refine BX (.inl O) G (AU ?_);have ai:=j.nw;refine CA E O O O aB O (λt H h' o=>P6 (St.all h') (ai.mono' (o.all G.1)) m H) λt E aj=>?_;have ak:=aj;refine WD O O O (AU ?_);refine BK (kp [10,9,0,1,2] O) λI k aw=>?_;have ax:=j.nw;refine AU ?_;refine Gq (λa w=>∃(y:List Int),IV B S I (56,[]) a w [(9,v3)] (OS AB 3 v3 y::L) λ_ _=>Kl N y=some r) ?_ ?_
 ·refine AH O E (λal E=>?_) (λal E=>?_)
  ·refine AU ?_;obtain⟨ay,J,E⟩:=bd E;refine BR k mh O O sl_29.1 J O λaz K=>?_;obtain⟨z,M,E⟩:=bd E;have am:=k.epAt mh M FW.id K;refine F8 K9 (λ_ x=>x) O am ty_3.1 O λa0=>AU ?_;obtain⟨a1,Q,E⟩:=bd E;refine BR k mh O O sl_29.1 Q O λa2 U=>AU ?_;obtain⟨an,V,E⟩:=bd E;refine FM (r:=AB) (l:=(O2 (List.replicate ((↑c.length:Int):Int).toNat (0:Int)) c)) (i:=b) (x:=an) O O (⟨_,O,O,(BI _)⟩:Rd _ _ AB _ (BD (z-(min g t)))) U V NM.id ty_3.1 (λ_=>rfl) k .head λa3 q a4=>AU ?_;refine Bw (AU ?_);obtain⟨a5,W,E⟩:=bd E;refine BR q mh O O sl_29.1 W O λa6 X=>?_;obtain⟨a7,Y,E⟩:=bd E;have ao:=q.epAt mh Y FW.id X;refine F8 K9 (λ_ x=>x) O ao ty_3.1 O λap=>AU ?_;refine Cc E O O O Q9 O q (λA Z=>Ho (St.all _) ap (NF s ak) Z) λA E a8 a9 ba u bb bc p=>?_;obtain⟨rfl,aq,au⟩:=p;refine AU ?_;obtain⟨be,ab,E⟩:=bd E;refine BR u mh O O sl_29.1 ab O λbf ac=>AU ?_;obtain⟨ar,ad,E⟩:=bd E;refine FM (r:=AB) (l:=(upd (O2 (List.replicate ((↑c.length:Int):Int).toNat (0:Int)) c) b (BD (z-(min g t))))) (i:=d) (x:=ar) O O (⟨_,O,O,aq⟩:Rd _ _ AB _ A) ac ad NM.id ty_3.1 (λ_=>rfl) u .head λbg ae bh=>AU ?_;refine WF.nil (λaa ww C D=>?_);exact⟨(upd (upd (O2 (List.replicate ((↑c.length:Int):Int).toNat (0:Int)) c) b (BD (z-(min g t)))) d A),_,_,C.sub (kp [9] O),D,ae,EX,E⟩
  refine AU ?_;refine WF.nil (λaa ww C D=>?_);exact⟨(O2 (List.replicate ((↑c.length:Int):Int).toNat (0:Int)) c),_,_,C.sub (kp [9] O),D,k,(CB.refl S I),E⟩
 rintro aa ww ⟨y,bi,bj,C,D,af,bk,E⟩;refine AJ ?_ C D;clear C D ww aa;rw[Kl] at E;refine AU ?_;cases E;exact KU af O O EX
end Go.Proofs.YtedgiljmffngoaaGreat
