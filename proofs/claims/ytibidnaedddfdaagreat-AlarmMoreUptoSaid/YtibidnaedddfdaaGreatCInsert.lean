import Derived.Test.YtibidnaedddfdaaGreatCFacts
import Derived.Test.YtibidnaedddfdaaGreatCForms
namespace Go.Proofs.YtibidnaedddfdaaGreat
open Go.RowKit Go.Lib
set_option linter.unusedVariables false
set_option linter.unusedSimpArgs false
set_option maxRecDepth 10000 in
set_option maxHeartbeats 4000000 in
theorem LX {N:Nat}{S:Nat→Prop}{L:List HP}{h:AX}{v_s v_v:Value}{s l:List Az}(hs:St S (OS BS 93 v_s s::OS BS 93 v_v l::L) h) {i:Int}(h_i:AB i) {r:List Az}(E:Gw N s i l=some r):
  Bf Tryz.prog 125 #[v_s,.int .i64 i,v_v] S h (λv S' h'=>St S' (OS BS 93 v r::L) h'):=by
 unfold Gw at E
 obtain⟨j,x,rfl,hj,rfl,hroom,rfl⟩:=SY E
 have hrm:=MK hroom
 rcases (hs.pick (.tail .head)).osbx with ⟨_,q⟩|⟨gv,cv,csv,rfl,hv1,hv2,hv3,hv4,hs1⟩
 ·cases q
 have hv1:1≤cv:=hv1
 have hv3:csv.length=cv*4:=hv3
 have hv4:H1 S h BS (csv.take 4) [x]:=by have q:=hv4;simp only[List.length_singleton,Nat.one_mul] at q;exact q
 have hsrc:X7 S h BS (.slice (some ⟨gv,0,none⟩) 1 cv) [x]:= .inr ⟨⟨gv,0,none⟩,cv,csv.take 4,rfl,by simp [maxLen],hv4,λq u hq=>by
  rw[JE,Ka (IJ hs1 (.head _)),Nat.zero_add]
  rw[List.getElem?_take] at hq
  split at hq
  ·exact hq
  ·cases hq⟩
 obtain⟨ad,cap,rfl,hmx⟩:=hs1.oslen (.tail _ (.head _))
 have hroom2:room (s.length+[x].length) 32=true:=hroom
 obtain⟨n,hn⟩:∃n,n=s.length:=⟨_,rfl⟩
 rw[←hn] at hs1 hj hrm ⊢
 refine Ab (l:=[.slice ad n cap,.int .i64 (j:Int),.slice (some ⟨gv,0,none⟩) 1 cv]) 95 Tryz.func125 rfl Tryz.ntmps125 rfl λB=>?_
 refine WF.seq ?_
 refine WF.rp (.inl rfl) ?_
 refine QF.as_ rfl rfl ?_
 refine AA (sb 0 rfl (sb 1 rfl (sb 2 rfl JH))) ?_
 refine WF.seq ?_
 refine WF.rp (.inl rfl) ?_
 refine QF.mv rfl rfl ?_
 refine QF.mv rfl rfl ?_
 refine U8 rfl rfl Fc (by omega) (by omega) rfl λu1=>?_
 refine AA (sb 0 rfl (sb 1 rfl (sb 2 rfl JH))) ?_
 refine WF.seq ?_
 refine WF.rp (.inl rfl) ?_
 refine QF.mv rfl rfl ?_
 refine QF.lenr rfl Fc rfl ?_
 refine QF.as_ rfl rfl ?_
 refine AA (sb 7 rfl (sb 0 rfl (sb 1 rfl (sb 2 rfl JH)))) ?_
 refine WF.seq ?_
 refine WF.seq ?_
 refine WF.rp (.inl rfl) ?_
 refine QF.mv rfl rfl ?_
 refine QF.eql rfl rfl rfl ?_
 refine AA (sb 16 rfl (sb 7 rfl (sb 0 rfl (sb 1 rfl (sb 2 rfl JH))))) ?_
 refine WF.if_ rfl (λc1=>?_) (λc1=>?_)
 ·exact absurd (of_decide_eq_true c1) (by omega)
 refine WF.skip ?_
 refine WF.seq ?_
 refine WF.rp (.inl rfl) ?_
 refine QF.mv rfl rfl ?_
 refine QF.lenr rfl Fc rfl ?_
 refine QF.as_ rfl rfl ?_
 refine AA (sb 8 rfl (sb 7 rfl (sb 0 rfl (sb 1 rfl (sb 2 rfl JH))))) ?_
 refine WF.seq ?_
 refine WF.seq ?_
 refine WF.rp (.inl rfl) ?_
 refine QF.mv rfl rfl ?_
 refine QF.mv rfl rfl ?_
 refine QF.eql rfl rfl rfl ?_
 refine AA (sb 22 rfl (sb 8 rfl (sb 7 rfl (sb 0 rfl (sb 1 rfl (sb 2 rfl JH)))))) ?_
 refine WF.if_ rfl (λc2=>?_) (λc2=>?_)
 ·have hjn:j=n:=by have:=of_decide_eq_true c2;omega
  have hss:s.take j++[x]++s.drop j=s++[x]:=by rw[hjn,hn,List.take_length,List.drop_length,List.append_nil]
  refine WF.seq ?_
  refine WF.rl ?_
  refine LF.q 2 ?_
  refine QF.mv rfl rfl ?_
  refine QF.mv rfl rfl ?_
  refine AG ?_
  refine PN (r:=BS) (l:=s) (xs:=[x]) rfl rfl QB rfl hsrc rfl hroom2 rfl hs1 (λ_=> .tail .head) λv h' hs2 e2=>?_
  refine LF.q 1 ?_
  refine QF.as_ rfl rfl ?_
  refine AG ?_
  refine LF.nil (sb 6 rfl JH) ?_
  refine WF.ret (λaa ww hf hw=>?_)
  exact HQ hf rfl hw (Gk (Jj hf (v:=_) rfl) HC) rfl e2 (by rw[hss];exact hs2.drop .head)
 have hjn:j<n:=by have:=of_decide_eq_false c2;omega
 rcases (hs1.pick (.tail .head)).osbx with ⟨q1,q2⟩|⟨g,cap',cs,q1,b1,b2,b3,b4,hs2⟩
 ·exact absurd (show n=0 by rw[hn,q2];rfl) (by omega)
 injection q1 with q1 q2 q3
 subst q1;subst q3
 unfold maxLen at b2
 have b3:cs.length=cap*4:=b3
 have b4:H1 S h BS (cs.take (n*4)) s:=by rw[hn];exact b4
 obtain⟨hne,hg,hgv⟩:=hs2.bxne
 have hcg:=IJ hs2 (.head _)
 have hcv:=IJ hs2 (.tail _ (.head _))
 obtain⟨M,hM⟩:∃M,M=(cs.drop (j*4)).take ((n-j)*4):=⟨_,rfl⟩
 have hMl:M.length=(n-j)*4:=by rw[hM];simp;omega
 have hMd:M=(cs.take (n*4)).drop (j*4):=by rw[hM,List.drop_take];congr 1;omega
 have hMr:H1 S h BS M (s.drop j):=by rw[hMd];exact b4.drop j
 have hM1:∀u∈M,u.oneCell'=true:=λu hu=>hMr.one u hu
 have hMc':∀(h3:AX),h3[g]? =some (.cells cs.toArray 93 (0,0))→∀q u,M[q]? =some u→FO h3 ((⟨g,0+j*4,none⟩:Addr).add q)=some u:=λh3 h3c q u hq=>by
  rw[JE,Ka h3c]
  rw[hM,List.getElem?_take] at hq
  split at hq
  ·rw[List.getElem?_drop] at hq;rwa [Nat.zero_add]
  ·cases hq
 have hMc:=hMc' h hcg
 have hNl:(csv.take 4).length=4:=by rw[List.length_take];omega
 have hN1:∀u∈csv.take 4,u.oneCell'=true:=λu hu=>hv4.one u (by simpa using hu)
 have hNc:∀(h3:AX),h3[gv]? =some (.cells csv.toArray 93 (0,0))→∀q u,(csv.take 4)[q]? =some u→FO h3 ((⟨gv,0,none⟩:Addr).add q)=some u:=λh3 h3c q u hq=>by
  rw[JE,Ka h3c,Nat.zero_add]
  rw[List.getElem?_take] at hq
  split at hq
  ·exact hq
  ·cases hq
 have hlen:(s.take j++[x]++s.drop j).length=n+1:=by simp;omega
 refine WF.skip ?_
 refine WF.seq ?_
 refine WF.seq ?_
 refine WF.rp (.inl rfl) ?_
 refine QF.mv rfl rfl ?_
 refine QF.mv rfl rfl ?_
 refine QF.addz (z:=(((n+1):Nat):Int)) rfl rfl rfl (SH (by omega)) ?_
 refine QF.mv rfl rfl ?_
 refine WC rfl Fc rfl ?_
 refine QF.gtr rfl rfl rfl ?_
 refine AA (sb 31 rfl (sb 8 rfl (sb 7 rfl (sb 0 rfl (sb 1 rfl (sb 2 rfl JH)))))) ?_
 refine WF.if_ rfl (λc3=>?_) (λc3=>?_)
 ·have hcap:cap<n+1:=by have:=of_decide_eq_true c3;omega
  have hcs:∀q u,(cs.take (j*4))[q]? =some u→FO h ⟨g,0+q,none⟩=some u:=λq u hq=>by
   rw[Ka hcg,Nat.zero_add]
   rw[List.getElem?_take] at hq
   split at hq
   ·exact hq
   ·cases hq
  refine WF.seq ?_
  refine WF.rl ?_
  refine LF.q 8 ?_
  refine QF.mv rfl rfl ?_
  refine QF.mv rfl rfl ?_
  refine Q8 (j:=j) rfl rfl rfl Fc (by omega) rfl ?_
  refine QF.mv rfl rfl ?_
  refine QF.mv rfl rfl ?_
  refine QF.addz (z:=(((n+1):Nat):Int)) rfl rfl rfl (SH (by omega)) ?_
  refine QF.mv rfl rfl ?_
  refine QF.subz (z:=((((n+1)-j):Nat):Int)) rfl rfl rfl (Z3 (by omega)) ?_
  refine AG ?_
  refine YI (j:=((n+1)-j)) (olds:=cs.take (j*4)) rfl rfl rfl QB Z4 (by simp;omega) (λq u hq=>hcs q u hq) (by omega) (by omega) (by omega) (by omega) rfl hs2 λc' cs' h' a1 a2 a3 a4 hs3 e3 same3=>?_
  have hmn:M.length=Nat.min (n-j) ((j+(n+1-j))-(j+1))*4:=by rw[hMl];congr 1;simp only[Nat.min_def];split<;>omega
  have hnn:(csv.take 4).length=Nat.min 1 ((j+(n+1-j))-j)*4:=by rw[hNl];simp only[Nat.min_def];split<;>omega
  have hfinG:∀h4,St S (Bx h.size 93 (EX (EX cs' (0+j*4) (csv.take 4)) (0+(j+1)*4) M)::Bx g 93 cs::Bx gv 93 csv::L) h4→Bc S h S h4→St S (OS BS 93 (.slice (some ⟨h.size,0,none⟩) (j+(n+1-j)) c') (s.take j++[x]++s.drop j)::L) h4:=λh4 hs4 e=>by
   have hs5:=(hs4.drop (.tail .head)).drop (.tail .head)
   have q:=hs5.bxosc (r:=BS) (cap:=c') (l:=s.take j++[x]++s.drop j) (by rw[hlen];omega) a2 (by show _=c'*4;rw[Hq (by rw[hMl,Hq (by rw[hNl];omega)];omega),Hq (by rw[hNl];omega)];exact a3) (by
    have e1:=Q2 (cs:=cs') (M:=M) (nv:=csv.take 4) (A:=j*4) (B:=4) (C:=(n-j)*4) hMl hNl (by omega)
    have e2:(s.take j++[x]++s.drop j).length*4=j*4+4+(n-j)*4:=by rw[hlen];omega
    show H1 S h4 _ (List.take (_*4) _) _
    rw[e2,Nat.zero_add,Nat.zero_add,show(j+1)*4=j*4+4 by omega,e1,a4]
    have b5:=b4.take j
    have e3:(cs.take (n*4)).take (j*BS.sz)=cs.take (j*4):=by show(cs.take (n*4)).take (j*4)=_;rw[List.take_take];congr 1;omega
    rw[e3] at b5
    exact((b5.append (by simpa using hv4)).append hMr).mono e.sub e.same)
   rw[hlen] at q
   rw[show j+(n+1-j)=n+1 by omega]
   exact q
  refine LF.q 1 ?_
  refine QF.as_ rfl rfl ?_
  refine AG ?_
  refine LF.nil (sb 9 rfl (sb 7 rfl (sb 0 rfl (sb 1 rfl (sb 2 rfl JH))))) ?_
  refine WF.seq ?_
  refine WF.rl ?_
  refine LF.q 4 ?_
  refine QF.mv rfl rfl ?_
  refine QF.mv rfl rfl ?_
  refine KP (j:=j) rfl rfl rfl Fc (by omega) (by omega) rfl ?_
  refine QF.mv rfl rfl ?_
  refine AG ?_
  refine PM (cs':=_) rfl rfl Fc (news:=csv.take 4) hnn (λq u hq=>hNc h' (IJ hs3 (.tail _ (.tail _ (.head _)))) q u hq) (by rw[hNl];omega) hN1 rfl rfl hs3 .head λh4 hs4 e4 same4=>?_
  refine LF.nil (sb 9 rfl (sb 7 rfl (sb 0 rfl (sb 1 rfl JH)))) ?_
  refine WF.seq ?_
  refine Nr 8 mo (by kernel_rfl) rfl ?_
  refine QF.mv rfl rfl ?_
  refine QF.mv rfl rfl ?_
  refine QF.mv rfl rfl ?_
  refine QF.addz (z:=(((j+1):Nat):Int)) rfl rfl rfl (SH (by omega)) ?_
  refine KP (j:=(j+1)) rfl rfl rfl Fc (by omega) (by omega) rfl ?_
  refine QF.mv rfl rfl ?_
  refine QF.mv rfl rfl ?_
  refine KP (j:=j) rfl rfl rfl Fc (by omega) (by omega) rfl ?_
  refine AG ?_
  refine PM (cs':=_) rfl rfl Fc (news:=M) hmn (λq u hq=>hMc' h4 (IJ hs4 (.tail _ (.head _))) q u hq) (by rw[hMl,Hq (by rw[hNl];omega)];omega) hM1 rfl rfl hs4 .head λh5 hs5 e5 same5=>?_
  refine LF.nil (sb 9 rfl JH) ?_
  refine WF.seq ?_
  refine WF.rp (.inl rfl) ?_
  refine QF.mv rfl rfl ?_
  refine QF.as_ rfl rfl ?_
  refine AA (sb 6 rfl JH) ?_
  refine WF.ret (λaa ww hf hw=>?_)
  exact HQ hf rfl hw (Gk (Jj hf (v:=_) rfl) HC) rfl (e3.trans (e4.trans e5)) (hfinG h5 hs5 (e3.trans (e4.trans e5)))
 have hcap:n+1≤cap:=by have:=of_decide_eq_false c3;omega
 have hmn:M.length=Nat.min (n+1-j) (n+1-(j+1))*4:=by rw[hMl];congr 1;simp only[Nat.min_def];split<;>omega
 have hnn:(csv.take 4).length=Nat.min 1 (n+1-j)*4:=by rw[hNl];simp only[Nat.min_def];split<;>omega
 have hov:∀w,Wd B h w→(callFunc 155 #[.slice (some ⟨gv,0,none⟩) 1 cv,.slice (some ⟨g,0+(j+1)*4,none⟩) (n+1-(j+1)) (cap-(j+1))]).run Tryz.prog w= .ok (.value (.bool false)) w:=λw hw=>by
  have w1:w.heap[g]? =some (.cells cs.toArray 93 (0,0)):=by rw[hw.heap];exact hcg
  have w2:w.heap[gv]? =some (.cells csv.toArray 93 (0,0)):=by rw[hw.heap];exact hcv
  rw[run_callFunc_extern Tryz.func155 (by kernel_rfl) (by kernel_rfl) (by kernel_rfl) (e:=Extern.SlicesOverlaps.overlaps #[33,33] #[4]) (by kernel_rfl),
   Lib.run_overlaps_apart w 33 4 93 Tryz.underlying33 4 (λw=>(J1 Fc).2 w) ⟨gv,0,none⟩ ⟨g,0+(j+1)*4,none⟩ 1 cv _ _ (λe=>hne e.symm) 93 93 csv.length cs.length (by simp [World.shape?,w2]) (by simp [World.shape?,w1]) (by omega) (by simp [World.frozen?,w2]) (by simp [World.frozen?,w2])]
  rfl
 have hfin:∀h4,St S (Bx g 93 (EX (EX cs (0+(j+1)*4) M) (0+j*4) (csv.take 4))::Bx gv 93 csv::L) h4→Bc S h S h4→St S (OS BS 93 (.slice (some ⟨g,0,none⟩) (n+1) cap) (s.take j++[x]++s.drop j)::L) h4:=λh4 hs4 e=>by
  have hs5:=hs4.drop (.tail .head)
  have q:=hs5.bxosc (r:=BS) (cap:=cap) (l:=s.take j++[x]++s.drop j) (by rw[hlen];exact hcap) (by unfold maxLen;omega) (by show _=cap*4;rw[Hq (by rw[hNl,Hq (by rw[hMl];omega)];omega),Hq (by rw[hMl];omega)];exact b3) (by
   have e1:=QJ (cs:=cs) (M:=M) (nv:=csv.take 4) (A:=j*4) (B:=4) (C:=(n-j)*4) hMl hNl (by omega)
   have e2:(s.take j++[x]++s.drop j).length*4=j*4+4+(n-j)*4:=by rw[hlen];omega
   show H1 S h4 _ (List.take (_*4) _) _
   rw[e2,Nat.zero_add,Nat.zero_add,show(j+1)*4=j*4+4 by omega,e1]
   have b5:=b4.take j
   have e3:(cs.take (n*4)).take (j*BS.sz)=cs.take (j*4):=by show(cs.take (n*4)).take (j*4)=_;rw[List.take_take];congr 1;omega
   rw[e3] at b5
   exact((b5.append (by simpa using hv4)).append hMr).mono e.sub e.same)
  rw[hlen] at q
  exact q
 refine WF.skip ?_
 refine WF.seq ?_
 refine WF.rp (.inl rfl) ?_
 refine QF.mv rfl rfl ?_
 refine QF.mv rfl rfl ?_
 refine QF.mv rfl rfl ?_
 refine QF.addz (z:=(((n+1):Nat):Int)) rfl rfl rfl (SH (by omega)) ?_
 refine Q8 (j:=(n+1)) rfl rfl rfl Fc (by omega) rfl ?_
 refine QF.as_ rfl rfl ?_
 refine AA (sb 0 rfl (sb 8 rfl (sb 7 rfl (sb 1 rfl (sb 2 rfl JH))))) ?_
 refine WF.seq ?_
 refine WF.seq ?_
 refine WF.rp (.inl rfl) ?_
 refine QF.mv rfl rfl ?_
 refine QF.mv rfl rfl ?_
 refine QF.mv rfl rfl ?_
 refine QF.mv rfl rfl ?_
 refine QF.addz (z:=(((j+1):Nat):Int)) rfl rfl rfl (SH (by omega)) ?_
 refine KP (j:=(j+1)) rfl rfl rfl Fc (by omega) (by omega) rfl ?_
 refine WB rfl rfl rfl (λw hw=>hov w hw) ?_
 refine QF.not rfl rfl ?_
 refine AA (sb 68 rfl (sb 0 rfl (sb 8 rfl (sb 7 rfl (sb 1 rfl (sb 2 rfl JH)))))) ?_
 refine WF.ifT rfl ?_
 refine WF.seq ?_
 refine Nr 8 mo (by kernel_rfl) rfl ?_
 refine QF.mv rfl rfl ?_
 refine QF.mv rfl rfl ?_
 refine QF.mv rfl rfl ?_
 refine QF.addz (z:=(((j+1):Nat):Int)) rfl rfl rfl (SH (by omega)) ?_
 refine KP (j:=(j+1)) rfl rfl rfl Fc (by omega) (by omega) rfl ?_
 refine QF.mv rfl rfl ?_
 refine QF.mv rfl rfl ?_
 refine KP (j:=j) rfl rfl rfl Fc (by omega) (by omega) rfl ?_
 refine AG ?_
 refine PM (cs':=_) rfl rfl Fc (news:=M) hmn hMc (by rw[hMl];omega) hM1 rfl rfl hs2 .head λh3 hs3 e3 same3=>?_
 refine LF.nil (sb 0 rfl (sb 1 rfl (sb 2 rfl JH))) ?_
 refine WF.seq ?_
 refine WF.rl ?_
 refine LF.q 4 ?_
 refine QF.mv rfl rfl ?_
 refine QF.mv rfl rfl ?_
 refine KP (j:=j) rfl rfl rfl Fc (by omega) (by omega) rfl ?_
 refine QF.mv rfl rfl ?_
 refine AG ?_
 refine PM (cs':=_) rfl rfl Fc (news:=csv.take 4) hnn (λq u hq=>hNc h3 (IJ hs3 (.tail _ (.head _))) q u hq) (by rw[hNl,Hq (by rw[hMl];omega)];omega) hN1 rfl rfl hs3 .head λh4 hs4 e4 same4=>?_
 refine LF.nil (sb 0 rfl JH) ?_
 refine WF.seq ?_
 refine WF.rp (.inl rfl) ?_
 refine QF.mv rfl rfl ?_
 refine QF.as_ rfl rfl ?_
 refine AA (sb 6 rfl JH) ?_
 refine WF.ret (λaa ww hf hw=>?_)
 exact HQ hf rfl hw (Gk (Jj hf (v:=_) rfl) HC) rfl (e3.trans e4) (hfin h4 hs4 (e3.trans e4))
end Go.Proofs.YtibidnaedddfdaaGreat
