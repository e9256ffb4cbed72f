import Derived.Test.YtibidnaedddfdaaGreatDFacts
import Derived.Test.YtibidnaedddfdaaGreatDForms
namespace Go.Proofs.YtibidnaedddfdaaGreat
set_option linter.all false
open Go.RowKit Go.Lib
open Go.Proofs.Tryz
set_option maxRecDepth 10000 in
set_option maxHeartbeats 4000000 in
def NP {N:Nat}{S:Nat→Prop}{L:List HP}{h:BB}{af ag:Value}{s l:List B9}(hs:St S (OS Ce 93 af s::OS Ce 93 ag l::L) h) {i:Int}(a0:AD i) {r:List B9}(E:IW N s i l=some r):
  Ct prog 125 #[af,.int .i64 i,ag] S h (λv S' h'=>St S' (OS Ce 93 v r::L) h'):=by
 unfold IW at E
 obtain⟨j,x,rfl,hj,rfl,t,rfl⟩:=Uu E
 have U:=OC t
 have ap:=U.le
 rcases (hs.pick (.tail .head)).osbx with ⟨_,q⟩|⟨gv,cv,csv,rfl,ah,hv2,ai,p,hs1⟩
 ·cases q
 have ah:1≤cv:=ah
 have ai:csv.length=cv*4:=ai
 have p:Jd S h Ce (csv.take 4) [x]:=by have q:=p;simp only[List.length_singleton,Nat.one_mul] at q;exact q
 have aj:aX S h Ce (.slice (some ⟨gv,0,none⟩) 1 cv) [x]:= .inr ⟨⟨gv,0,none⟩,cv,csv.take 4,rfl,by simp [maxLen],p,λq u a=>by
  rw[Ks,MQ (Ju hs1 (.head _)),jR]
  rw[lZ] at a
  split at a
  ·exact a
  ·cases a⟩
 obtain⟨ad,cap,rfl,a5⟩:=hs1.oslen (.tail _ (.head _))
 have G:room (s.length+[x].length) 32=true:=t
 obtain⟨n,hn⟩:∃n,n=s.length:=⟨_,rfl⟩
 rw[←hn] at hs1 hj ap U ⊢
 refine BO (l:=[.slice ad n cap,.int .i64 (j:Int),.slice (some ⟨gv,0,none⟩) 1 cv]) 95 func125 rfl ntmps125 rfl λB=>?_
 refine AC ?_
 refine CL (.inl rfl) ?_
 refine LG rfl rfl ?_
 refine AL (sb 0 rfl (sb 1 rfl (sb 2 rfl Kv))) ?_
 refine AC ?_
 refine CL (.inl rfl) ?_
 refine E8 rfl rfl ?_
 refine E8 rfl rfl ?_
 refine XH rfl rfl G8 (by omega) (by omega) rfl λu1=>?_
 refine AL (sb 0 rfl (sb 1 rfl (sb 2 rfl Kv))) ?_
 refine AC ?_
 refine CL (.inl rfl) ?_
 refine E8 rfl rfl ?_
 refine Ra rfl G8 rfl ?_
 refine LG rfl rfl ?_
 refine AL (sb 7 rfl (sb 0 rfl (sb 1 rfl (sb 2 rfl Kv)))) ?_
 refine AC ?_
 refine AC ?_
 refine CL (.inl rfl) ?_
 refine E8 rfl rfl ?_
 refine Te rfl rfl rfl ?_
 refine AL (sb 16 rfl (sb 7 rfl (sb 0 rfl (sb 1 rfl (sb 2 rfl Kv))))) ?_
 refine RQ rfl (λc1=>?_) (λc1=>?_)
 ·exact absurd (lK c1) (by omega)
 refine AQ ?_
 refine AC ?_
 refine CL (.inl rfl) ?_
 refine E8 rfl rfl ?_
 refine Ra rfl G8 rfl ?_
 refine LG rfl rfl ?_
 refine AL (sb 8 rfl (sb 7 rfl (sb 0 rfl (sb 1 rfl (sb 2 rfl Kv))))) ?_
 refine AC ?_
 refine AC ?_
 refine CL (.inl rfl) ?_
 refine E8 rfl rfl ?_
 refine E8 rfl rfl ?_
 refine Te rfl rfl rfl ?_
 refine AL (sb 22 rfl (sb 8 rfl (sb 7 rfl (sb 0 rfl (sb 1 rfl (sb 2 rfl Kv)))))) ?_
 refine RQ rfl (λc2=>?_) (λc2=>?_)
 ·have ak:j=n:=by have:=lK c2;omega
  have aq:s.take j++[x]++s.drop j=s++[x]:=by rw[ak,hn,mG,List.drop_length,jW]
  refine AC ?_
  refine Gf ?_
  refine A5 2 ?_
  refine E8 rfl rfl ?_
  refine E8 rfl rfl ?_
  refine A6 ?_
  refine Rf (r:=Ce) (l:=s) (xs:=[x]) rfl rfl SV rfl aj rfl G rfl hs1 (λ_=> .tail .head) λv h' m e2=>?_
  refine A5 1 ?_
  refine LG rfl rfl ?_
  refine A6 ?_
  refine AS (sb 6 rfl Kv) ?_
  refine WF.ret (λaa ww J F=>?_)
  exact I1 J rfl F (IH (LV J (v:=_) rfl) Io) rfl e2 (by rw[aq];exact m.drop .head)
 have ak:j<n:=by have:=mX c2;omega
 rcases (hs1.pick (.tail .head)).osbx with ⟨q1,q2⟩|⟨g,cap',cs,q1,b1,b2,b3,b4,m⟩
 ·exact absurd (show n=0 by rw[hn,q2];rfl) (by omega)
 injection q1 with q1 q2 q3
 subst q1;subst q3
 unfold maxLen at b2
 have b3:cs.length=cap*4:=b3
 have b4:Jd S h Ce (cs.take (n*4)) s:=by rw[hn];exact b4
 obtain⟨ar,hg,a6⟩:=m.bxne
 have V:=Ju m (.head _)
 have au:=Ju m (.tail _ (.head _))
 obtain⟨M,hM⟩:∃M,M=(cs.drop (j*4)).take ((n-j)*4):=⟨_,rfl⟩
 have b:M.length=(n-j)*4:=by rw[hM];simp;omega
 have av:M=(cs.take (n*4)).drop (j*4):=by rw[hM,List.drop_take];congr 1;omega
 have W:Jd S h Ce M (s.drop j):=by rw[av];exact b4.drop j
 have al:∀u∈M,u.oneCell'=true:=λu hu=>W.one u hu
 have K:∀(H:BB),H[g]? =some (.cells cs.toArray 93 (0,0))→∀q u,M[q]? =some u→Gt H ((⟨g,0+j*4,none⟩:Addr).add q)=some u:=λH X q u a=>by
  rw[Ks,MQ X]
  rw[hM,lZ] at a
  split at a
  ·rw[lD] at a;rwa [jR]
  ·cases a
 have aw:=K h V
 have c:(csv.take 4).length=4:=by rw[kH];omega
 have am:∀u∈csv.take 4,u.oneCell'=true:=λu hu=>p.one u (by simpa using hu)
 have an:∀(H:BB),H[gv]? =some (.cells csv.toArray 93 (0,0))→∀q u,(csv.take 4)[q]? =some u→Gt H ((⟨gv,0,none⟩:Addr).add q)=some u:=λH X q u a=>by
  rw[Ks,MQ X,jR]
  rw[lZ] at a
  split at a
  ·exact a
  ·cases a
 have d:(s.take j++[x]++s.drop j).length=n+1:=by simp;omega
 refine AQ ?_
 refine AC ?_
 refine AC ?_
 refine CL (.inl rfl) ?_
 refine E8 rfl rfl ?_
 refine E8 rfl rfl ?_
 refine Mc (z:=(((n+1):Nat):Int)) rfl rfl rfl (Ug (by omega)) ?_
 refine E8 rfl rfl ?_
 refine YZ rfl G8 rfl ?_
 refine XM rfl rfl rfl ?_
 refine AL (sb 31 rfl (sb 8 rfl (sb 7 rfl (sb 0 rfl (sb 1 rfl (sb 2 rfl Kv)))))) ?_
 refine RQ rfl (λc3=>?_) (λc3=>?_)
 ·have Q:cap<n+1:=by have:=lK c3;omega
  have ax:∀q u,(cs.take (j*4))[q]? =some u→Gt h ⟨g,0+q,none⟩=some u:=λq u a=>by
   rw[MQ V,jR]
   rw[lZ] at a
   split at a
   ·exact a
   ·cases a
  refine AC ?_
  refine Gf ?_
  refine A5 8 ?_
  refine E8 rfl rfl ?_
  refine E8 rfl rfl ?_
  refine Tc (j:=j) rfl rfl rfl G8 (by omega) rfl ?_
  refine E8 rfl rfl ?_
  refine E8 rfl rfl ?_
  refine Mc (z:=(((n+1):Nat):Int)) rfl rfl rfl (Ug (by omega)) ?_
  refine E8 rfl rfl ?_
  refine YS (z:=((((n+1)-j):Nat):Int)) rfl rfl rfl (gF (by omega)) ?_
  refine A6 ?_
  refine bP (j:=((n+1)-j)) (olds:=cs.take (j*4)) rfl rfl rfl SV gG (by simp;omega) (λq u a=>ax q u a) (by omega) (by omega) (by rw[show j+(n+1-j)=n+1 by omega];exact U) (by omega) rfl m λc' cs' h' a1 a2 a3 a4 y I Y=>?_
  have Z:M.length=Nat.min (n-j) ((j+(n+1-j))-(j+1))*4:=by rw[b];congr 1;simp only[Nat.min_def];split<;>omega
  have ab:(csv.take 4).length=Nat.min 1 ((j+(n+1-j))-j)*4:=by rw[c];simp only[Nat.min_def];split<;>omega
  have ac:∀o,St S (Bx h.size 93 (Fs (Fs cs' (0+j*4) (csv.take 4)) (0+(j+1)*4) M)::Bx g 93 cs::Bx gv 93 csv::L) o→Cm S h S o→St S (OS Ce 93 (.slice (some ⟨h.size,0,none⟩) (j+(n+1-j)) c') (s.take j++[x]++s.drop j)::L) o:=λo k e=>by
   have D:=(k.drop (.tail .head)).drop (.tail .head)
   have q:=D.bxosc (r:=Ce) (cap:=c') (l:=s.take j++[x]++s.drop j) (by rw[d];omega) a2 (by show _=c'*4;rw[JR (by rw[b,JR (by rw[c];omega)];omega),JR (by rw[c];omega)];exact a3) (by
    have e1:=TX (cs:=cs') (M:=M) (nv:=csv.take 4) (A:=j*4) (B:=4) (C:=(n-j)*4) b c (by omega)
    have e2:(s.take j++[x]++s.drop j).length*4=j*4+4+(n-j)*4:=by rw[d];omega
    show Jd S o _ (List.take (_*4) _) _
    rw[e2,jR,jR,show(j+1)*4=j*4+4 by omega,e1,a4]
    have b5:=b4.take j
    have I:(cs.take (n*4)).take (j*Ce.sz)=cs.take (j*4):=by show(cs.take (n*4)).take (j*4)=_;rw[lP];congr 1;omega
    rw[I] at b5
    exact((b5.append (by simpa using p)).append W).mono e.sub e.same)
   rw[d] at q
   rw[show j+(n+1-j)=n+1 by omega]
   exact q
  refine A5 1 ?_
  refine LG rfl rfl ?_
  refine A6 ?_
  refine AS (sb 9 rfl (sb 7 rfl (sb 0 rfl (sb 1 rfl (sb 2 rfl Kv))))) ?_
  refine AC ?_
  refine Gf ?_
  refine A5 4 ?_
  refine E8 rfl rfl ?_
  refine E8 rfl rfl ?_
  refine MF (j:=j) rfl rfl rfl G8 (by omega) (by omega) rfl ?_
  refine E8 rfl rfl ?_
  refine A6 ?_
  refine Re (cs':=_) rfl rfl G8 (news:=csv.take 4) ab (λq u a=>an h' (Ju y (.tail _ (.tail _ (.head _)))) q u a) (by rw[c];omega) am rfl rfl y .head λo k e4 ae=>?_
  refine AS (sb 9 rfl (sb 7 rfl (sb 0 rfl (sb 1 rfl Kv)))) ?_
  refine AC ?_
  refine Po 8 mo (by kernel_rfl) rfl ?_
  refine E8 rfl rfl ?_
  refine E8 rfl rfl ?_
  refine E8 rfl rfl ?_
  refine Mc (z:=(((j+1):Nat):Int)) rfl rfl rfl (Ug (by omega)) ?_
  refine MF (j:=(j+1)) rfl rfl rfl G8 (by omega) (by omega) rfl ?_
  refine E8 rfl rfl ?_
  refine E8 rfl rfl ?_
  refine MF (j:=j) rfl rfl rfl G8 (by omega) (by omega) rfl ?_
  refine A6 ?_
  refine Re (cs':=_) rfl rfl G8 (news:=M) Z (λq u a=>K o (Ju k (.tail _ (.head _))) q u a) (by rw[b,JR (by rw[c];omega)];omega) al rfl rfl k .head λh5 D e5 ay=>?_
  refine AS (sb 9 rfl Kv) ?_
  refine AC ?_
  refine CL (.inl rfl) ?_
  refine E8 rfl rfl ?_
  refine LG rfl rfl ?_
  refine AL (sb 6 rfl Kv) ?_
  refine WF.ret (λaa ww J F=>?_)
  exact I1 J rfl F (IH (LV J (v:=_) rfl) Io) rfl (I.trans (e4.trans e5)) (ac h5 D (I.trans (e4.trans e5)))
 have Q:n+1≤cap:=by have:=mX c3;omega
 have Z:M.length=Nat.min (n+1-j) (n+1-(j+1))*4:=by rw[b];congr 1;simp only[Nat.min_def];split<;>omega
 have ab:(csv.take 4).length=Nat.min 1 (n+1-j)*4:=by rw[c];simp only[Nat.min_def];split<;>omega
 have az:∀w,Wd B h w→(callFunc 155 #[.slice (some ⟨gv,0,none⟩) 1 cv,.slice (some ⟨g,0+(j+1)*4,none⟩) (n+1-(j+1)) (cap-(j+1))]).run prog w= .ok (.value (.bool false)) w:=λw F=>by
  have w1:w.heap[g]? =some (.cells cs.toArray 93 (0,0)):=by rw[F.heap];exact V
  have w2:w.heap[gv]? =some (.cells csv.toArray 93 (0,0)):=by rw[F.heap];exact au
  rw[run_callFunc_extern func155 (by kernel_rfl) (by kernel_rfl) (by kernel_rfl) (e:=Extern.SlicesOverlaps.overlaps #[33,33] #[4]) (by kernel_rfl),
   Lib.run_overlaps_apart w 33 4 93 underlying33 4 (λw=>(Kh G8).2 w) ⟨gv,0,none⟩ ⟨g,0+(j+1)*4,none⟩ 1 cv _ _ (λe=>ar e.symm) 93 93 csv.length cs.length (by simp [World.shape?,w2]) (by simp [World.shape?,w1]) (by omega) (by simp [World.frozen?,w2]) (by simp [World.frozen?,w2])]
  rfl
 have ao:∀o,St S (Bx g 93 (Fs (Fs cs (0+(j+1)*4) M) (0+j*4) (csv.take 4))::Bx gv 93 csv::L) o→Cm S h S o→St S (OS Ce 93 (.slice (some ⟨g,0,none⟩) (n+1) cap) (s.take j++[x]++s.drop j)::L) o:=λo k e=>by
  have D:=k.drop (.tail .head)
  have q:=D.bxosc (r:=Ce) (cap:=cap) (l:=s.take j++[x]++s.drop j) (by rw[d];exact Q) (by unfold maxLen;omega) (by show _=cap*4;rw[JR (by rw[c,JR (by rw[b];omega)];omega),JR (by rw[b];omega)];exact b3) (by
   have e1:=Sd (cs:=cs) (M:=M) (nv:=csv.take 4) (A:=j*4) (B:=4) (C:=(n-j)*4) b c (by omega)
   have e2:(s.take j++[x]++s.drop j).length*4=j*4+4+(n-j)*4:=by rw[d];omega
   show Jd S o _ (List.take (_*4) _) _
   rw[e2,jR,jR,show(j+1)*4=j*4+4 by omega,e1]
   have b5:=b4.take j
   have I:(cs.take (n*4)).take (j*Ce.sz)=cs.take (j*4):=by show(cs.take (n*4)).take (j*4)=_;rw[lP];congr 1;omega
   rw[I] at b5
   exact((b5.append (by simpa using p)).append W).mono e.sub e.same)
  rw[d] at q
  exact q
 refine AQ ?_
 refine AC ?_
 refine CL (.inl rfl) ?_
 refine E8 rfl rfl ?_
 refine E8 rfl rfl ?_
 refine E8 rfl rfl ?_
 refine Mc (z:=(((n+1):Nat):Int)) rfl rfl rfl (Ug (by omega)) ?_
 refine Tc (j:=(n+1)) rfl rfl rfl G8 (by omega) rfl ?_
 refine LG rfl rfl ?_
 refine AL (sb 0 rfl (sb 8 rfl (sb 7 rfl (sb 1 rfl (sb 2 rfl Kv))))) ?_
 refine AC ?_
 refine AC ?_
 refine CL (.inl rfl) ?_
 refine E8 rfl rfl ?_
 refine E8 rfl rfl ?_
 refine E8 rfl rfl ?_
 refine E8 rfl rfl ?_
 refine Mc (z:=(((j+1):Nat):Int)) rfl rfl rfl (Ug (by omega)) ?_
 refine MF (j:=(j+1)) rfl rfl rfl G8 (by omega) (by omega) rfl ?_
 refine YX rfl rfl rfl (λw F=>az w F) ?_
 refine XI rfl rfl ?_
 refine AL (sb 68 rfl (sb 0 rfl (sb 8 rfl (sb 7 rfl (sb 1 rfl (sb 2 rfl Kv)))))) ?_
 refine ND rfl ?_
 refine AC ?_
 refine Po 8 mo (by kernel_rfl) rfl ?_
 refine E8 rfl rfl ?_
 refine E8 rfl rfl ?_
 refine E8 rfl rfl ?_
 refine Mc (z:=(((j+1):Nat):Int)) rfl rfl rfl (Ug (by omega)) ?_
 refine MF (j:=(j+1)) rfl rfl rfl G8 (by omega) (by omega) rfl ?_
 refine E8 rfl rfl ?_
 refine E8 rfl rfl ?_
 refine MF (j:=j) rfl rfl rfl G8 (by omega) (by omega) rfl ?_
 refine A6 ?_
 refine Re (cs':=_) rfl rfl G8 (news:=M) Z aw (by rw[b];omega) al rfl rfl m .head λH y I Y=>?_
 refine AS (sb 0 rfl (sb 1 rfl (sb 2 rfl Kv))) ?_
 refine AC ?_
 refine Gf ?_
 refine A5 4 ?_
 refine E8 rfl rfl ?_
 refine E8 rfl rfl ?_
 refine MF (j:=j) rfl rfl rfl G8 (by omega) (by omega) rfl ?_
 refine E8 rfl rfl ?_
 refine A6 ?_
 refine Re (cs':=_) rfl rfl G8 (news:=csv.take 4) ab (λq u a=>an H (Ju y (.tail _ (.head _))) q u a) (by rw[c,JR (by rw[b];omega)];omega) am rfl rfl y .head λo k e4 ae=>?_
 refine AS (sb 0 rfl Kv) ?_
 refine AC ?_
 refine CL (.inl rfl) ?_
 refine E8 rfl rfl ?_
 refine LG rfl rfl ?_
 refine AL (sb 6 rfl Kv) ?_
 refine WF.ret (λaa ww J F=>?_)
 exact I1 J rfl F (IH (LV J (v:=_) rfl) Io) rfl (I.trans e4) (ao o k (I.trans e4))
end Go.Proofs.YtibidnaedddfdaaGreat
