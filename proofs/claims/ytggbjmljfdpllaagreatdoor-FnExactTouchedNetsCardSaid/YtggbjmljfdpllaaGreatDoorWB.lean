/- Plain facts on marks: how many there are, what the held ones say. -/
import Derived.Test.YtggbjmljfdpllaaGreatDoorXK
import Derived.Test.YtggbjmljfdpllaaGreatDoorXF
import Derived.Test.YtggbjmljfdpllaaGreatDoorWA
import Derived.Test.YtggbjmljfdpllaaGreatDoorGC1
set_option maxHeartbeats 0
section
namespace Go.Proofs.Xd
open Go Go.Proofs.Xl Go.Proofs.Xv
def wd:Ty->Nat
 | .pr a b=>wd a+wd b
 | .sl e=>wd e
 | .pt _=>0
 | _=>1
theorem cntM_le:∀(t:Ty) (x:den t),cntM t x<=wd t*(1+cnt t x)
 | .int _,_=>by simp[cntM,wd]
 | .bool,_=>by simp[cntM,wd]
 | .str,_=>by simp[cntM,wd]
 | .pt _,_=>by simp[cntM]
 | .sl e,xs=>by
   have key:∀l:List (den e),(l.map (cntM e)).sum<=wd e*(l.length+(l.map (cnt e)).sum):=by
    intro l
    induction l with
    | nil=>exact Nat.zero_le _
    | cons a r ih =>
      have h1:=cntM_le e a;rw[List.map_cons,List.sum_cons,List.map_cons,List.sum_cons,List.length_cons];have e1:wd e*(r.length+1+(cnt e a+(r.map (cnt e)).sum))=wd e*(1+cnt e a)+wd e*(r.length+(r.map (cnt e)).sum):=by
       rw[<- Nat.mul_add]; congr 1; omega
      omega
   refine Nat.le_trans (key xs) ?_;show _<=wd e*(1+(xs.length+(xs.map (cnt e)).sum));exact Nat.mul_le_mul_left _ (by omega)
 | .pr a b,x=>by
   have h1:=cntM_le a x.1;have h2:=cntM_le b x.2;show cntM a x.1+cntM b x.2<=(wd a+wd b)*(1+(cnt a x.1+cnt b x.2));have h3:wd a*(1+cnt a x.1)<=wd a*(1+(cnt a x.1+cnt b x.2)):=Nat.mul_le_mul_left _ (by omega);have h4:wd b*(1+cnt b x.2)<=wd b*(1+(cnt a x.1+cnt b x.2)):=Nat.mul_le_mul_left _ (by omega);rw[Nat.add_mul];omega
theorem cntM_bd{t:Ty}{x:den t}{k:Nat}(h:cnt t x<=1048576)(hw:wd t<=k):(cntM t x:Int)<=(k*1048577:Nat):=by
 have h1:=cntM_le t x;have h2:wd t*(1+cnt t x)<=k*1048577:=Nat.mul_le_mul hw (by omega);omega
theorem mkI_get:∀(m:Nat) (k:Int) (i:Nat),i<m->(mkI k m).getD i 0=k+(i:Int)
 | m+1,k,0,_=>by simp[mkI]
 | m+1,k,i+1,h=>by
   rw[mkI,List.getD_cons_succ,mkI_get m (k+1) i (by omega)];omega
theorem fold_one:∀n:Nat,fN (fun _ (v:Int)=>v+1) n 1=1+((1*n:Nat):Int)
 | 0=>rfl
 | n+1=>by rw[fN,fold_one n]; omega
end Go.Proofs.Xd
end
section
namespace Go.Proofs.YtggbjmljfdpllaaGreatDoor
open Go Go.Proofs Go.Proofs.Sv Go.Proofs.Xv Go.Proofs.Xl Go.Proofs.Xd
theorem r55(xs:List Int)(h:xs.length<=1048576):u55 xs=some xs:=gP ⟨oo,trivial⟩
theorem any_mem(l:List Int)(x:Int):((List.range l.length).any fun j=>l.getD j 0==x)=decide (x∈l):=by
 rw[Bool.eq_iff_iff,List.any_eq_true,dq];constructor
 ·rintro⟨j,hj,e⟩;have hj:=List.mem_range.1 hj;have e:=beq_iff_eq.1 e;rw[<- e]; exact getD_mem hj
 ·intro h;obtain⟨k,hk,e⟩:=List.mem_iff_getElem.1 h;exact⟨k,List.mem_range.2 hk,by rw[beq_iff_eq,gq,List.getElem?_eq_getElem hk]; exact e⟩
theorem r23(l:List Int)(x:Int)(hl:l.length<=9223372036854775807):u23 l x=some (decide (x∈l)):=by
 have key:=lp_all hl (fun j=>l.getD j 0==x) (some true) (e:=some false) (F:=u23L1 l x) (fun g i hi=>by
  have e3:((i:Int)).toNat=i:=rfl;refine(if_pos (decide_eq_true (by omega))).trans ((gP ⟨oo,trivial⟩).trans ?_);rw[e3];by_cases h:(l.getD i 0==x)=true
  ·rw[if_pos h,if_pos h]
  ·rw[if_neg h,if_neg h];exact gP ⟨oo,trivial⟩) (fun g=>if_neg (by simp))
 refine key.trans ?_;rw[<- any_mem];cases(List.range l.length).any fun j=>l.getD j 0==x <;> rfl
theorem inRow_fold(l:List Int):∀m,fN (fun i (s:List Int)=>if decide ((i:Int)∈l)=true then s++[(i:Int)] else s) m []=inRow m l
 | 0=>rfl
 | m+1=>by
   show(if decide ((m:Int)∈l)=true then fN _ m []++[(m:Int)] else fN _ m [])=_;rw[inRow_fold l m];unfold inRow;rw[List.range_succ,List.filter_append,List.map_append]
   grind
section
variable {b:Y51} {e:Y55}
theorem r22(hw:wf y51 b)(h:EOk b e):u22 b e=some (tnL b e):=by
 have o:=b_ok h.hb;have on:=o.nets;have n30:=o.n30;have n14:=o.df.fac.ni14;unfold u22 tnL;rw[r47 b.2.1 hw.2.1 o.df.fac.ni14 o.df.fac.np8 o.df.pin,vS];refine(gP ⟨rfl,trivial⟩).trans ?_;rw[lE];by_cases h1:(e.1==1)=true
 ·have k1:e.1=1:=beq_iff_eq.1 h1;rw[if_pos h1,if_pos h1];have p:=h.place (.inl k1);exact gP ⟨p.1,p.2.1,(h.inst k1).1,trivial⟩
 rw[if_neg h1,if_neg h1];by_cases h2:(e.1==2)=true
 ·have k1:e.1=2:=beq_iff_eq.1 h2;rw[if_pos h2,if_pos h2];have p:=h.place (.inr (.inl k1));exact gP ⟨p.1,p.2.1,trivial⟩
 rw[if_neg h2,if_neg h2];by_cases h3:(e.1==3)=true
 ·have k1:e.1=3:=beq_iff_eq.1 h3;rw[if_pos h3,if_pos h3];obtain⟨h4,h5⟩:=h.last k1;have e1:((b.2.1.1.length:Int)-1).toNat=b.2.1.1.length-1:=by omega
  rw[e1];exact gP ⟨oo,oo,⟨by omega,by show(0:Int) < ((lastX b).2.2.length:Int); omega⟩,trivial⟩
 rw[if_neg h3,if_neg h3];by_cases h4:(e.1==4)=true
 ·have k1:e.1=4:=beq_iff_eq.1 h4;rw[if_pos h4,if_pos h4];have p:=h.place (.inr (.inr k1));exact gP ⟨p.1,p.2.1,trivial⟩
 rw[if_neg h4,if_neg h4]
theorem srt_cmp(h:EOk b e){l:List Int}(hl:l=tnL b e):gd ((s58 l).isSome=true/\True) (lt (vl (s58 l)) fun v=>gd ((s59 v).isSome=true/\True) (lt (vl (s59 v)) fun v=>some v))=some (inRow (b.2.2.length+1) (tnL b e)):=by
 subst hl;have o:=b_ok h.hb;have hin:=tn_in h;have hlen:(tnL b e).length<=5:=by
  unfold tnL;split
  ·rename_i h1;exact(o.df.pin _ (h.inst (beq_iff_eq.1 h1)).2).2
  repeat' split
  all_goals (simp only[List.length_cons,List.length_nil]; omega)
 have es:s58 (tnL b e)=some ((tnL b e).mergeSort fun x y=>decide (x<=y)):=by
  unfold s58;exact if_pos (by omega)
 have ec:s59 ((tnL b e).mergeSort fun x y=>decide (x<=y))=some (inRow (b.2.2.length+1) (tnL b e)):=by
  unfold s59 cmpF;rw[if_pos (by rw[List.length_mergeSort]; omega),sort_compact hin]
 rw[es,vS];refine(gP ⟨rfl,trivial⟩).trans ?_;rw[lE,ec,vS];exact gP ⟨rfl,trivial⟩
theorem r29(hw:wf y51 b)(h:EOk b e):u29 e b=some (inRow (b.2.2.length+1) (tnL b e)):=by
 have o:=b_ok h.hb;have on:=o.nets;have n30:=o.n30;have n14:=o.df.fac.ni14;have hk:=h.kind;have eS:u57 b.2.1.2.1=some (b.2.2.length:Int):=by rw[on]; rfl
 have ep:u56 b.2.1=some (plcs b.2.1):=r56 b.2.1 hw.2.1 o.df.fac.ni14 o.df.fac.np8 o.df.pin;have hs:=srt_cmp h rfl;unfold u29;by_cases h1:(e.1==1)=true
 ·have k1:e.1=1:=beq_iff_eq.1 h1;have p:=h.place (.inl k1);have q:=(o.df.pin _ (h.inst k1).2);have e1:tnL b e=(insOf b.2.1 (plE b e).1.toNat).2.2:=if_pos h1;have ec:u55 (insOf b.2.1 (plE b e).1.toNat).2.2=some (insOf b.2.1 (plE b e).1.toNat).2.2:=r55 _ (by omega);have is:(u55 (insOf b.2.1 (plE b e).1.toNat).2.2).isSome=true:=by rw[ec]; rfl
  rw[if_pos h1,ep,vS];refine(gP ⟨rfl,p.1,p.2.1,(h.inst k1).1,is,trivial⟩).trans ?_;rw[lE];exact srt_cmp h ((congrArg vl ec).trans e1.symm)
 rw[if_neg h1];by_cases h2:(e.1==2)=true
 ·have k1:e.1=2:=beq_iff_eq.1 h2;have p:=h.place (.inr (.inl k1));have e1:tnL b e=[(plE b e).2.2.1,(b.2.2.length:Int)]:=(if_neg h1).trans (if_pos h2);rw[if_pos h2,ep,vS,eS,vS];refine(gP ⟨rfl,p.1,p.2.1,rfl,trivial⟩).trans ?_;rw[lE];exact srt_cmp h e1.symm
 rw[if_neg h2];by_cases h3:(e.1==3)=true
 ·have k1:e.1=3:=beq_iff_eq.1 h3;obtain⟨h4,h5⟩:=h.last k1;have e0:((b.2.1.1.length:Int)-1).toNat=b.2.1.1.length-1:=by omega
  have e1:tnL b e=[(lastX b).2.2.getD 0 0]:=(if_neg h1).trans ((if_neg h2).trans (if_pos h3));rw[if_pos h3,e0];refine(gP ⟨oo,oo,⟨by omega,by show(0:Int) < ((lastX b).2.2.length:Int); omega⟩,trivial⟩).trans ?_;rw[lE];exact srt_cmp h e1.symm
 rw[if_neg h3];by_cases h4:(e.1==4)=true
 ·have k1:e.1=4:=beq_iff_eq.1 h4;have p:=h.place (.inr (.inr k1));have e1:tnL b e=[(plE b e).2.2.1,e.2.2.2.1]:=(if_neg h1).trans ((if_neg h2).trans ((if_neg h3).trans (if_pos h4)));rw[if_pos h4,ep,vS];refine(gP ⟨rfl,p.1,p.2.1,trivial⟩).trans ?_;rw[lE];exact srt_cmp h e1.symm
 rw[if_neg h4];have k1:e.1=5:=by
  simp only[beq_iff_eq] at h1 h2 h3 h4;omega
 have e1:tnL b e=[e.2.2.2.1]:=(if_neg h1).trans ((if_neg h2).trans ((if_neg h3).trans (if_neg h4)));rw[if_pos (by rw[k1]; rfl)];exact srt_cmp h e1.symm
end
theorem inRow_len(n:Nat)(l:List Int):(inRow n l).length<=n:=by
 unfold inRow;rw[List.length_map];exact Nat.le_trans (List.length_filter_le _ _) (by rw[List.length_range]; exact Nat.le_refl _)
theorem touV_len{b:Y51}{e:Y55}:(touV b e).length<=31:=by
 unfold touV;split
 ·rename_i h;have:=(b_ok (e_ok h).hb).n30;have:=inRow_len (b.2.2.length+1) (tnL b e);omega
 ·exact Nat.zero_le _
theorem r6(b:Y51)(hw:wf y51 b)(hm:cnt y51 b<=1048576)(e:Y55)(he:wf y55 e)(hme:cnt y55 e<=1048576):u6 b e=some (touV b e,codeV b e):=by
 unfold u6 touV;rw[r21 b hw hm e he hme,vS];refine(gP ⟨rfl,trivial⟩).trans ?_;rw[lE];by_cases hc:codeV b e=0
 ·rw[if_pos hc,hc];refine(if_neg (by simp)).trans ?_;have h:=e_ok hc;have n30:=(b_ok h.hb).n30;rw[r22 hw h,vS];refine(gP ⟨rfl,trivial⟩).trans ?_;rw[lE,<- inRow_fold];have hlen:(tnL b e).length<=9223372036854775807:=by
   have o:=b_ok h.hb;unfold tnL;split
   ·rename_i h1;have:=(o.df.pin _ (h.inst (beq_iff_eq.1 h1)).2).2;omega
   repeat' split
   all_goals (simp only[List.length_cons,List.length_nil]; omega)
  refine lF (n:=b.2.2.length+1) (by omega) (fun(k:Nat) (s:List Int)=>((k:Int),s)) (fun i s=>if decide ((i:Int)∈tnL b e)=true then s++[(i:Int)] else s) (fun k s=>s.length<=k) (J:=u6J0) (F:=u6L1 (tnL b e) b) (fun g k s hk hI=>?_) (fun k s hk hI=>?_) (fun g s _=>if_neg (by rw[dq]; omega)) [] (Nat.le_refl _)
  ·have hI:s.length<=k:=hI;refine(if_pos (decide_eq_true (by omega))).trans ?_;rw[r23 _ _ hlen,vS];refine(gP ⟨rfl,trivial⟩).trans ?_;cases hl:decide ((k:Int)∈tnL b e) with
   | false =>
     refine(if_neg (by simp)).trans ?_;exact gP ⟨oo,trivial⟩
   | true =>
     refine(if_pos rfl).trans ?_;refine(gP ⟨⟨by show s.length+1<=_; omega,by show(s.length+1)*8<=_; omega⟩,trivial⟩).trans ?_;exact gP ⟨oo,trivial⟩
  ·have hI:s.length<=k:=hI;split
   ·rw[List.length_append];show s.length+1<=k+1;omega
   ·omega
 ·rw[if_neg hc];exact if_pos (by simp[hc])
theorem r9(b:Y51)(hw:wf y51 b)(hm:cnt y51 b<=1048576)(e:Y55)(he:wf y55 e):u9 b e=some (touV b e,codeV b e):=by
 unfold u9 touV;rw[r28 b hw hm e he,vS];refine(gP ⟨rfl,trivial⟩).trans ?_;rw[lE];by_cases hc:codeV b e=0
 ·rw[if_pos hc,hc];refine(if_neg (by simp)).trans ?_;rw[r29 hw (e_ok hc),vS];exact gP ⟨rfl,trivial⟩
 ·rw[if_neg hc];exact if_pos (by simp[hc])
theorem r16(n:Nat)(hn:n<=4611686018427387904):u16 (mkI 1 n) (1:Int)=some (1+((1*n:Nat):Int)):=by
 have hl:=mkI_len n 1;rw[<- fold_one n];refine lF (n:=n) (by omega) (fun i (s:Int)=>(s,(i:Int))) (fun _ s=>s+1) (fun i s=>s=1+(i:Int)) (J:=u16J0) (F:=u16L1 (mkI 1 n)) (fun g i s hi hs=>?_) (fun i s hi hs=>by subst hs; omega) (fun g s _=>if_neg (by rw[hl]; simp)) _ rfl;subst hs;refine(if_pos (decide_eq_true (by rw[hl]; omega))).trans ?_;refine(gP ⟨⟨by omega,by rw[hl]; omega⟩,trivial⟩).trans ?_;have e:(i:Int).toNat=i:=rfl;rw[e,mkI_get n 1 i hi];refine(if_neg (by simp)).trans ?_;refine(gP ⟨oo,trivial⟩).trans ?_;exact gP ⟨oo,trivial⟩
theorem cnt_of_len{br:List Int}(h:br.length<=1048576):cnt (.sl (.int .i64)) br<=1048576:=by
 have e:cnt (.sl (.int .i64)) br=br.length+0:=cnt_ints;omega
theorem sz_le{n:Nat}{l:Int}(h1:l<=1048576):szN n l<=1048576:=by
 unfold szN;split <;> omega
theorem sz_pos{n:Nat}{l:Int}(h1:l<=1048576)(h:0<=szN n l):n<=1048576:=by
 unfold szN at h;split at h <;> omega
theorem r3(b:Y32)(e:Y37)(hw:wf y32 b)(he:wf y37 e):GL3 b e:=by
 refine⟨_,z4 b 1048576 hw (by decide) (by decide),sz_le (by decide),fun h0=>?_⟩;have hm:=sz_pos (by decide) h0;have a1:=sz_le (n:=cnt y32 b) (l:=1048576) (by decide);generalize szN (cnt y32 b) 1048576=l0 at h0 a1;refine⟨_,z5 e _ he h0 (by omega),sz_le a1,fun h1=>?_⟩;have hme:=sz_pos a1 h1;have hr:(touV b e).length<=31:=touV_len;have hwi:cnt y53 e.2.2.2.2.2.2<=1048576:=cS (cS (cS (cS (cS (cS hme)))));have k1:=cntM_bd (t:=y51) (x:=b) (k:=64) hm (by decide);have k2:=cntM_bd (t:=y53) (x:=e.2.2.2.2.2.2) (k:=64) hwi (by decide);exact⟨touV b e,codeV b e,⟨w7 b hm,w8 e hme,r6 b hw hm e he hme,r9 b hw hm e he,e10 _ (cnt_of_len (by omega)),e11 b hm,e12 e hme,by omega,by omega,by omega,r16 _ (by omega)⟩⟩
end Go.Proofs.YtggbjmljfdpllaaGreatDoor
end
