/- The drawn broken links and nodes; the draws of the laws on orders and links. -/
import Derived.Test.YtphnknndgfgepaaGreatDoorWB
import Derived.Test.YtphnknndgfgepaaGreatDoorWF
section
namespace Go.Proofs.YtphnknndgfgepaaGreatDoor
open Go Go.Proofs Go.Proofs.Sv Go.Proofs.Xv Go.Proofs.Xl Go.Proofs.Xd
theorem brkJ_ok{M:List Y48}(hM:M.length<=6000){l:List Int}{s:Y152}(h:Sd s)(hl:l.length<=6000) :
  (∃r,u55J0 M (s.1,s.2.1,s.2.2,l)=some r/\(Sd r.2/\r.1.length<=6001))/\∃r,u55J3 M (s.1,s.2.1,s.2.2,l)=some r/\(Sd r.2/\r.1.length<=6001):=by
 obtain⟨v,s0,e0,hs0,-,-,-⟩:=nxt_ok (n:=12) h (by omega);obtain⟨q,s1,e1,hs1,qa,qb,-⟩:=nxt_ok (n:=2) hs0 (by omega);have qb:=qb (by omega);have hin:in64 ((M.length:Int)*q):=by
  have h1:(M.length:Int)*q<=6000*1:=Int.mul_le_mul (by omega) (by omega) qa (by omega);have h2:0<=(M.length:Int)*q:=Int.mul_nonneg (by omega) qa;exact oo
 constructor
 ·unfold u55J0;simp only[e0,vS,Option.isSome_some];refine gd_ex ⟨trivial,trivial⟩ (lt_ex ?_);dsimp only;split
  ·simp only[e1,vS,Option.isSome_some];refine gd_ex ⟨trivial,hin,⟨by rw[List.length_singleton]; omega,by rw[List.length_singleton]; omega⟩,trivial⟩ (lt_ex ?_);exact⟨_,rfl,hs1,by simp only[List.length_append,List.length_singleton]; omega⟩
  ·exact⟨_,rfl,hs0,by simp only; omega⟩
 ·unfold u55J3;simp only[e0,vS,Option.isSome_some];refine gd_ex ⟨trivial,trivial⟩ (lt_ex ?_);dsimp only;split
  ·simp only[e1,vS,Option.isSome_some];refine gd_ex ⟨trivial,hin,⟨by rw[List.length_singleton]; omega,by rw[List.length_singleton]; omega⟩,trivial⟩ (lt_ex ?_);exact⟨_,rfl,hs1,by simp only[List.length_append,List.length_singleton]; omega⟩
  ·exact⟨_,rfl,hs0,by simp only; omega⟩
theorem brk_ok{s:Y152}(h:Sd s){b:Y34}(hw:wf y34 b)(hm:cnt y34 b<=20000):∃r,u55 s b=some r/\(Sd r.2/\r.1.length<=6001):=by
 unfold u55;simp only[r23 b hw (Nat.le_trans hm (by decide)),vS,Option.isSome_some];cases hb:blockOk b with
 | false =>
   refine gd_ex ⟨trivial,trivial⟩ ?_;rw[if_pos (by decide)];refine gd_ex trivial ?_;rw[if_pos (by decide)];exact⟨_,rfl,h,by simp⟩
 | true =>
   have hM:=links_len hb;obtain⟨v,s0,e0,hs0,-,-,-⟩:=nxt_ok (n:=3) h (by omega);obtain⟨v1,s1,e1,hs1,a1,b1,-⟩:=nxt_ok (n:=8) hs0 (by omega);have b1:=b1 (by omega);obtain⟨v2,s2,e2,hs2,a2,b2,-⟩:=nxt_ok (n:=1+v1) hs1 (by omega);have b2:=b2 (by omega);refine gd_ex ⟨trivial,trivial⟩ ?_;rw[if_neg (by decide)];simp only[e0,vS,Option.isSome_some];refine gd_ex ⟨⟨trivial,trivial⟩,trivial⟩ ?_;split
   ·exact lt_ex ⟨_,rfl,hs0,by simp⟩
   ·simp only[r59 b hw hb,vS,Option.isSome_some];refine gd_ex ⟨trivial,trivial⟩ (lt_ex ?_);dsimp only;simp only[e1,vS,Option.isSome_some];refine gd_ex ⟨trivial,oo,trivial⟩ (lt_ex ?_);dsimp only;simp only[e2,vS,Option.isSome_some];refine gd_ex ⟨trivial,trivial⟩ (lt_ex ?_);dsimp only;refine lp_ex (fun x=>(7000-x.1).toNat) (fun x=>Sd (x.2.1,x.2.2.1,x.2.2.2.1)/\0<=x.1/\x.1<=6100/\(x.2.2.2.2.length:Int)<=x.1/\x.2.2.2.2.length<=6000) ?_ ⟨hs2,by simp only; omega,by simp only; omega,by simp; omega,by simp⟩ (by simp only; omega);rintro g ⟨i,c,at0,sd0,l⟩ ⟨i1,i2,i3,i4,i5⟩ ih;simp only at i1 i2 i3 i4 i5;unfold u55L4;dsimp only;split
    ·rename_i hc;have hc:=of_decide_eq_true hc;obtain⟨v3,s3,e3,hs3,a3,b3,-⟩:=nxt_ok (n:=1+v1) i1 (by omega);have b3:=b3 (by omega);refine gd_ex ⟨⟨by rw[List.length_singleton]; omega,by rw[List.length_singleton]; omega⟩,trivial⟩ ?_;simp only[e3,vS,Option.isSome_some];refine gd_ex ⟨trivial,oo,oo,trivial⟩ (lt_ex ?_);exact ih _ ⟨hs3,by simp only; omega,by simp only; omega,by simp only[List.length_append,List.length_singleton]; omega,by simp only[List.length_append,List.length_singleton]; omega⟩ (by simp only; omega)
    ·exact(brkJ_ok hM (s:=(c,at0,sd0)) i1 i5).2
theorem nodeJ_ok{s:Y152}(h:Sd s){n:Int}(h0:n<=9223372036854775807):∃r,u64J0 s n=some r/\Sd r.2:=by
 obtain⟨v,s0,e0,hs0,-,-,-⟩:=nxt_ok (n:=16) h (by omega);obtain⟨q,s1,e1,hs1,qa,qb,-⟩:=nxt_ok (n:=2) hs0 (by omega);have qb:=qb (by omega);obtain⟨q2,s2,e2,hs2,-,-,-⟩:=nxt_ok (n:=n) hs0 h0;unfold u64J0;simp only[e0,vS,Option.isSome_some];refine gd_ex ⟨trivial,trivial⟩ (lt_ex ?_);dsimp only;split
 ·simp only[e1,vS,Option.isSome_some];exact gd_ex ⟨trivial,⟨qa,by simp; omega⟩,by simp; omega,trivial⟩ (lt_ex ⟨_,rfl,hs1⟩)
 ·simp only[e2,vS,Option.isSome_some];exact gd_ex ⟨trivial,trivial⟩ (lt_ex ⟨_,rfl,hs2⟩)
theorem node_ok{s:Y152}(h:Sd s){b:Y34}(hw:wf y34 b)(hm:cnt y34 b<=20000):∃r,u64 s b=some r/\Sd r.2:=by
 unfold u64;simp only[r23 b hw (Nat.le_trans hm (by decide)),vS,Option.isSome_some];cases hb:blockOk b with
 | false =>
   refine gd_ex ⟨trivial,trivial⟩ ?_;rw[if_neg (by decide)];exact nodeJ_ok h (by omega)
 | true =>
   refine gd_ex ⟨trivial,trivial⟩ ?_;have hN:=nod_le b hb;rw[if_pos rfl];simp only[r61 b hw hb,vS,Option.isSome_some];exact gd_ex ⟨trivial,trivial⟩ (lt_ex (nodeJ_ok h (by omega)))
theorem wf9{v:Y34×Y152}(h:wfA (R54 v)):wf y34 v.1:=⟨h.1,⟨h.2.1,h.2.2.1,h.2.2.2.1⟩,h.2.2.2.2.1⟩
section
variable [Alw]
theorem dfrom_ok{c:List Int}(h:wf (.sl (.int .u8)) c):u20 c=some ():=by
 obtain⟨s,e,hs⟩:=from_ok h;refine u_of ?_;unfold u20;simp only[e,vS,Option.isSome_some];refine gd_ex ⟨trivial,trivial⟩ (lt_ex ?_);refine gd_ex ⟨trivial,hs.1⟩ (alp_ex ?_);intro v1 ⟨⟨t1,t2⟩,hw,hz⟩;obtain⟨r,e2,hr,hl⟩:=brk_ok (s:=Z54 v1) (b:=v1.1) (Sd_of hz t1) (wf9 hw) t2;obtain⟨q,e3,hq⟩:=node_ok (s:=r.2) (b:=v1.1) hr (wf9 hw) t2;refine u_of (gd_ex trivial ?_);simp only[e2,e3,vS,Option.isSome_some];exact gd_ex ⟨trivial,trivial,trivial⟩ (lt_ex (gd_ex ⟨t2,by show r.1.length<=20000; omega⟩ ⟨_,rfl,trivial⟩))
theorem k20:K20:=e20 k54 fun x hw _=>dfrom_ok hw.1
end
section
variable {b:Y34}
end
def codeN(b:Y34)(br:List Int)(a:Int):Int:=if codeG b br=0 then(if inB a 0 ((nodN b:Int)-1)=true then 0 else 4) else codeG b br
theorem codeN_ok{b:Y34}{br:List Int}{a:Int}(h:codeN b br a=0):codeG b br=0/\inB a 0 ((nodN b:Int)-1)=true:=by
 unfold codeN at h;split at h
 ·rename_i hc;split at h
  ·rename_i hr; exact⟨hc,hr⟩
  ·cases h
 ·contradiction
theorem r135{b:Y34}(hb:blockOk b=true)(a:Int):u135 (viewV b) a=some (inB a 0 ((nodN b:Int)-1)):=by
 have hN:=nod_le b hb;unfold u135;rw[r115 b hb,vS];refine(gP ⟨rfl,oo,rfl,trivial⟩).trans ?_;rw[r150,vS]
theorem r72(b:Y34)(hw:wf y34 b)(hm:cnt y34 b<=1048576)(br:List Int)(hl:br.length<=1048576)(a:Int):u72 b br a=some (if codeN b br a=0 then .inr ((viewV b,liveV (lV b).length br),0) else .inl (codeN b br a)):=by
 unfold u72 codeN;rw[r56 b hw hm br hl];by_cases h:codeG b br=0
 ·obtain⟨hb,hr⟩:=codeG_ok h;rw[if_pos h,if_pos h];refine(if_neg (by simp[isL])).trans ((gP ⟨rfl,trivial⟩).trans ?_);show gd (((((0:Int)==0)=true/\True->(u135 (viewV b) a).isSome=true)/\True)) (if(((0:Int)==0)&&!vl (u135 (viewV b) a))=true then _ else _)=_;rw[r135 hb,vS];refine(gP ⟨fun _=>rfl,trivial⟩).trans ?_;cases inB a 0 ((nodN b:Int)-1) <;> rfl
 ·rw[if_neg h,if_neg h];refine(if_pos rfl).trans ((gP ⟨rfl,trivial⟩).trans ?_);refine(if_neg (by show ¬((codeG b br==0)=true); simp[h])).trans ?_;rw[if_neg h];rfl
theorem live_get{M:Nat}(br:List Int){i:Nat}(h:i<M):(liveV M br).getD i false=!hasB br (i:Int):=appF_get _ _ _ _ h
section
variable {b:Y34}
theorem r116c137(hb:blockOk b=true){lv:List Bool}(hlv:lv.length=(lV b).length)(a:Nat):u116c137 (viewV b,lv) (a:Int)=some (idxV (fun i=>lv.getD i false&&toN b i==a) (lV b).length):=by
 have hM:=links_len hb;refine(lF (n:=(lV b).length) (by omega) (fun i (s:List Int)=>(s,(i:Int))) (fun i s=>if(lv.getD i false&&toN b i==a)=true then s++[(i:Int)] else s) (fun i s=>s.length<=i) (J:=fun s=>some s) (F:=u116c137L1 (viewV b,lv) (a:Int)) (fun g i s hi hs=>?_) (fun i s _ hs=>?_) (fun g s _=>if_neg (by simp[viewV])) [] (Nat.le_refl _)).trans (congrArg some (idxV_fold _ _))
 ·have e3:((i:Int)).toNat=i:=rfl;have hx:ix (i:Int) (viewV b).2.2.1.length:=⟨by omega,by show(i:Int) < ((lV b).length:Int); omega⟩;refine(if_pos (decide_eq_true hx.2)).trans ((gP ⟨hx,trivial⟩).trans ?_);rw[lE];refine(gP ⟨⟨by omega,by show(i:Int) < (lv.length:Int); omega⟩,(fun _=>rfl),trivial⟩).trans ?_;obtain⟨_,f2,_⟩:=frto b hb hi;have ef:(((lV b).getD i (dflt y48)).2.1==(a:Int))=(toN b i==a):=by
   rw[f2,Bool.eq_iff_iff,beq_iff_eq,beq_iff_eq]; omega
  show(if(lv.getD i false&&(((lV b).getD i (dflt y48)).2.1==(a:Int)))=true then _ else _)=_;rw[ef];by_cases h:(lv.getD i false&&toN b i==a)=true
  ·rw[if_pos h,if_pos h];refine(gP ⟨⟨by simp only[List.length_singleton]; omega,by simp only[List.length_singleton]; omega⟩,trivial⟩).trans ?_;exact gP ⟨oo,trivial⟩
  ·rw[if_neg h,if_neg h];exact gP ⟨oo,trivial⟩
 ·show(if(lv.getD i false&&toN b i==a)=true then s++[(i:Int)] else s).length<=i+1;split
  ·rw[List.length_append,List.length_singleton]; omega
  ·omega
theorem r74(hb:blockOk b=true){lv:List Bool}(hlv:lv.length=(lV b).length)(a:Nat):u74 (viewV b,lv) (a:Int)=some (idxV (fun i=>lv.getD i false&&toN b i==a) (lV b).length):=by
 unfold u74;rw[r116c137 hb hlv,vS,gP ⟨rfl,trivial⟩,lE]
end
theorem nat_of{a x:Int}(h:inB a 0 x=true):a=(a.toNat:Int):=by
 unfold inB at h;simp only[ba,dq] at h;omega
theorem wf_nil{e:Ty}:wf (.sl e) []:=⟨Nat.zero_le _,fun _ h=>nomatch h⟩
structure OGood(M N:Nat)(fr to:Nat->Nat)(lv:Nat->Bool)(out:List Nat):Prop where
 nd:out.Nodup
 lt:∀v∈out,v<N
 bef:∀i,i<M->lv i=true->∀q,q<out.length->out.getD q 0=to i->∃p,p<q/\out.getD p 0=fr i
theorem r18(l:List Int)(x:Int)(hl:l.length<=9223372036854775807):u18 l x=some (hasB l x):=by
 have key:=lp_all hl (fun j=>l.getD j 0==x) (some true) (e:=some false) (F:=u18L1 l x) (fun g i hi=>by
  have e3:((i:Int)).toNat=i:=rfl;refine(if_pos (decide_eq_true (by omega))).trans ((gP ⟨oo,trivial⟩).trans ?_);rw[e3];by_cases h:(l.getD i 0==x)=true
  ·rw[if_pos h,if_pos h]
  ·rw[if_neg h,if_neg h];exact gP ⟨oo,trivial⟩) (fun g=>if_neg (by simp))
 refine key.trans ?_;unfold hasB;cases(List.range l.length).any fun j=>l.getD j 0==x <;> rfl
theorem n17(b:Y34)(hw:wf y34 b)(hm:cnt y34 b<=1048576)(hb:blockOk b=true):u17 b=some (nodN b:Int):=by
 unfold u17;rw[r23 b hw hm,vS,hb,r61 b hw hb,vS,gP ⟨rfl,trivial⟩];exact(if_neg (by decide)).trans (gP ⟨rfl,trivial⟩)
theorem n19(b:Y34)(hw:wf y34 b)(hm:cnt y34 b<=1048576)(hb:blockOk b=true):u19 b=some (lV b,0):=by
 unfold u19;rw[r23 b hw hm,vS,hb,r59 b hw hb,vS,gP ⟨rfl,trivial⟩];exact(if_neg (by decide)).trans (gP ⟨rfl,trivial⟩)
def selF(b:Y34)(br:List Int)(a:Int)(f:Nat->Nat):List Int×Int:=if codeN b br a=0 then(idxV (fun i=>(liveV (lV b).length br).getD i false&&f i==a.toNat) (lV b).length,0) else([],codeN b br a)
theorem r24(b:Y34)(hw:wf y34 b)(hm:cnt y34 b<=1048576)(br:List Int)(hl:br.length<=1048576)(a:Int):u24 b br a=some (selF b br a (frN b)):=by
 unfold u24 selF;rw[r72 b hw hm br hl];by_cases h:codeN b br a=0
 ·obtain⟨hc,hi⟩:=codeN_ok h;obtain⟨hb,hr⟩:=codeG_ok hc;rw[if_pos h,if_pos h];refine(if_neg (by simp[isL])).trans ((gP ⟨rfl,trivial⟩).trans ?_);rw[lE,vR_some];refine(if_neg (by simp)).trans ?_;rw[nat_of hi,r73 hb (live_len _ _),vS,gP ⟨rfl,trivial⟩,lE];rfl
 ·rw[if_neg h,if_neg h];refine(if_pos rfl).trans ((gP ⟨rfl,trivial⟩).trans ?_);exact if_pos (by show(codeN b br a != 0)=true; simp[h])
theorem r25(b:Y34)(hw:wf y34 b)(hm:cnt y34 b<=1048576)(br:List Int)(hl:br.length<=1048576)(a:Int):u25 b br a=some (selF b br a (toN b)):=by
 unfold u25 selF;rw[r72 b hw hm br hl];by_cases h:codeN b br a=0
 ·obtain⟨hc,hi⟩:=codeN_ok h;obtain⟨hb,hr⟩:=codeG_ok hc;rw[if_pos h,if_pos h];refine(if_neg (by simp[isL])).trans ((gP ⟨rfl,trivial⟩).trans ?_);rw[lE,vR_some];refine(if_neg (by simp)).trans ?_;rw[nat_of hi,r74 hb (live_len _ _),vS,gP ⟨rfl,trivial⟩,lE];rfl
 ·rw[if_neg h,if_neg h];refine(if_pos rfl).trans ((gP ⟨rfl,trivial⟩).trans ?_);exact if_pos (by show(codeN b br a != 0)=true; simp[h])
theorem nodup_le{α:Type}[BEq α][LawfulBEq α]:∀(a b:List α),a.Nodup->(∀x∈a,x∈b)->a.length<=b.length
 | [],b,_,_=>Nat.zero_le _
 | x :: r,b,hd,h=>by
   rw[List.nodup_cons] at hd;have hx:=h x (by simp);have h1:=nodup_le r (b.erase x) hd.2 (fun y hy=>(List.mem_erase_of_ne (fun(e:y=x)=>hd.1 (by rw[<- e]; exact hy))).2 (h y (by simp[hy])));have:=List.length_erase_of_mem hx;have:0<b.length:=List.length_pos_of_mem hx;rw[List.length_cons];omega
theorem inc_step{l:List Int}(h:incB l=true):∀k j,j<k->k<l.length->l.getD j 0<l.getD k 0:=by
 unfold incB at h;rw[Bool.not_eq_true',List.any_eq_false] at h;intro k
 induction k with
 | zero=>intro j hj; omega
 | succ k ih =>
   intro j hj hk;have h1:=h (k+1) (List.mem_range.2 hk);have e:k+1-1=k:=rfl;simp only[ba,dq,e,not_and] at h1;have h1:=h1 (by omega);by_cases c:j=k
   ·subst c; omega
   ·have:=ih j (by omega) (by omega);omega
theorem brok_cnt{M:Nat}{br:List Int}(h:brokB M br=true):(List.range M).countP (fun i:Nat=>hasB br (i:Int))=br.length:=by
 unfold brokB at h;rw[ba] at h;have hin:∀j,j<br.length->0<=br.getD j 0/\br.getD j 0 < (M:Int):=fun j hj=>by
  have:=inB_iff.1 (all_getD h.1 hj);omega
 rw[List.countP_eq_length_filter];have hnd:(br.map Int.toNat).Nodup:=List.pairwise_iff_getElem.2 fun i j hi hj hij=>by
  rw[List.length_map] at hi hj;have:=inc_step h.2 j i hij hj;rw[gq,List.getElem?_eq_getElem hi,gq,List.getElem?_eq_getElem hj] at this;have h1:=hin i hi;rw[gq,List.getElem?_eq_getElem hi] at h1;simp only[List.getElem_map,Option.getD_some] at this h1 ⊢;omega
 have hmem:∀i:Nat,i∈br.map Int.toNat↔i<M/\hasB br (i:Int)=true:=fun i=>by
  unfold hasB;rw[List.mem_map,List.any_eq_true];constructor
  ·rintro⟨x,hx,rfl⟩;obtain⟨j,hj,e⟩:=List.getElem_of_mem hx;have e2:br.getD j 0=x:=by rw[gq,List.getElem?_eq_getElem hj]; exact e
   have:=hin j hj;rw[e2] at this;exact⟨by omega,j,List.mem_range.2 hj,by rw[e2,beq_iff_eq]; omega⟩
  ·rintro⟨_,j,hj,e⟩;have hj:=List.mem_range.1 hj;rw[beq_iff_eq] at e;exact⟨br.getD j 0,getD_mem (d:=0) hj,by rw[e]; rfl⟩
 refine Nat.le_antisymm ?_ ?_
 ·have:=nodup_le ((List.range M).filter fun i:Nat=>hasB br (i:Int)) (br.map Int.toNat) (List.Pairwise.sublist List.filter_sublist List.nodup_range) (fun i hi=>by
   rw[List.mem_filter,List.mem_range] at hi;exact(hmem i).2 hi)
  rwa [List.length_map] at this
 ·have:=nodup_le (br.map Int.toNat) ((List.range M).filter fun i:Nat=>hasB br (i:Int)) hnd (fun i hi=>by
   rw[List.mem_filter,List.mem_range];exact(hmem i).1 hi)
  rwa [List.length_map] at this
def cntL(M:Nat)(lv:Nat->Bool)(f:Nat->Nat)(k:Nat):Nat:=(List.range M).countP fun i=>lv i&&decide (f i<k)
theorem cntL_zero(M:Nat)(lv:Nat->Bool)(f:Nat->Nat):cntL M lv f 0=0:=by
 unfold cntL;rw[List.countP_eq_zero];intro i _;simp
theorem cntL_succ(M:Nat)(lv:Nat->Bool)(f:Nat->Nat)(k:Nat):cntL M lv f (k+1)=cntL M lv f k+(idxV (fun i=>lv i&&f i==k) M).length:=by
 rw[(idxV_len _ _).2,<- List.countP_eq_length_filter];refine countP_split _ _ _ _ fun i _=>?_;cases lv i with
 | false=>rfl
 | true =>
   simp only[Bool.true_and];by_cases h1:f i<k
   ·rw[decide_eq_true h1,decide_eq_true (by omega),beq_eq_false_iff_ne.2 (by omega)]; rfl
   ·rw[decide_eq_false h1];by_cases h2:f i=k
    ·rw[decide_eq_true (by omega),h2,beq_self_eq_true]; rfl
    ·rw[decide_eq_false (by omega),beq_eq_false_iff_ne.2 h2]; rfl
theorem cntL_all{M N:Nat}{br:List Int}(h:brokB M br=true){f:Nat->Nat}(hf:∀i,i<M->f i<N):cntL M (fun i=>(liveV M br).getD i false) f N+br.length=M:=by
 have h1:=brok_cnt h;have h2:(List.range M).countP (fun _=>true)=M:=by rw[List.countP_true,List.length_range]
 have h3:=countP_split (List.range M) (fun _=>true) (fun i=>(liveV M br).getD i false&&decide (f i<N)) (fun i:Nat=>hasB br (i:Int)) (fun i hi=>by
  have hi:=List.mem_range.1 hi;rw[live_get br hi,decide_eq_true (hf i hi)];cases hasB br (i:Int) <;> rfl)
 have h4:cntL M (fun i=>(liveV M br).getD i false) f N=(List.range M).countP (fun i=>(liveV M br).getD i false&&decide (f i<N)):=rfl;omega
theorem n22(b:Y34)(hw:wf y34 b)(hm:cnt y34 b<=1048576):u22 b=some (if blockOk b=true then(nodN b:Int) else -1):=by
 unfold u22;rw[r65 b hw hm,vS,gP ⟨rfl,trivial⟩];cases hb:blockOk b with
 | false=>rfl
 | true =>
   have df:=df_of (block_design hb).1;have hl:(placesN b.2.1.1.length b.2.1.2.2.length (insOf b.2.1) (prtOf b.2.1)).length<=78:=df.len;have e:∀s:List Y105,u67 s=some (s.length:Int):=fun _=>rfl;refine(if_neg (by simp)).trans ?_;rw[r68 b.2.1 hw.2.1 df.fac.ni14 df.fac.np8 df.pin,vS,e,vS,gP ⟨rfl,rfl,oo,trivial⟩,lE];unfold nodN;rw[if_pos rfl,Int.natCast_mul];rfl
theorem n21(b:Y34)(hw:wf y34 b)(hm:cnt y34 b<=1048576):u21 b=some (if blockOk b=true then(lV b,0) else([],1)):=by
 unfold u21;rw[r65 b hw hm,vS,gP ⟨rfl,trivial⟩];cases hb:blockOk b with
 | false=>rfl
 | true =>
   refine(if_neg (by simp)).trans ?_;rw[r66 b hw hb,vS,gP ⟨rfl,trivial⟩];rfl
section
variable {b:Y34} {br:List Int}
theorem idx_ok(hb:blockOk b=true){f:Nat->Nat}{a:Nat}{v:Nat}(hv:v < (idxV (fun i=>(liveV (lV b).length br).getD i false&&f i==a) (lV b).length).length) :
  ∃k:Nat,(idxV (fun i=>(liveV (lV b).length br).getD i false&&f i==a) (lV b).length).getD v 0=(k:Int)/\k < (lV b).length/\f k=a/\hasB br (k:Int)=false:=by
 rw[idxV_get];rw[(idxV_len _ _).2] at hv;have:=getD_mem (d:=0) hv;rw[List.mem_filter,List.mem_range,ba,beq_iff_eq] at this;refine⟨_,rfl,this.1,this.2.2,?_⟩;have h1:=this.2.1;rw[live_get br this.1] at h1;simpa using h1
variable [Alw]
theorem lawL6(hw:wf y34 b)(hb:blockOk b=true)(hl:br.length<=1048576){q:Int}{a:Nat}{x y:List Int×Int}{f t:Int}{g1:Int×Int×Int->Option Bool}
  (hy:y.1=idxV (fun i=>(liveV (lV b).length br).getD i false&&toN b i==a) (lV b).length)
  (h:∃r,u4J5 (a:Int) f x t y g1 ()=some r/\r=true) {c:Int} :
  ∃r,u4J3 y (lV b,c) (a:Int) (b,br,q) f x t g1 ()=some r/\r=true:=by
 have hM:=links_len hb;unfold u4J3;have hyl:=(idxV_len (fun i=>(liveV (lV b).length br).getD i false&&toN b i==a) (lV b).length).1;have hy2:y.1.length<=6000:=by rw[hy]; omega
 refine lp_ex (fun i=>y.1.length+1-i.toNat) (fun i=>0<=i/\i<=(y.1.length:Int)) ?_ oo (by rw[hy]; omega);rintro g i ⟨i1,i2⟩ ih;obtain⟨k,rfl⟩:∃k:Nat,i=(k:Int):=⟨i.toNat,by omega⟩;unfold u4L6;dsimp only;by_cases c:(k:Int) < (y.1.length:Int)
 ·rw[if_pos (decide_eq_true c)];have hk:k<y.1.length:=by omega
  obtain⟨m,em,m1,m2,m3⟩:=idx_ok (a:=a) (f:=toN b) hb (v:=k) (by rw[<- hy]; exact hk);rw[<- hy] at em;obtain⟨_,f2,_,f4⟩:=frto b hb m1;have e3:((k:Int)).toNat=k:=rfl;have e4:∀n:Nat,Int.toNat (n:Int)=n:=fun _=>rfl;have d1:decide ((m:Int)<0)=false:=decide_eq_false (by omega);have d2:decide (((lV b).length:Int)<=(m:Int))=false:=decide_eq_false (by omega);have d3:((toN b m:Int) != (a:Int))=false:=by rw[m2]; simp
  simp only[e3,em,e4,r18 br _ (show br.length<=9223372036854775807 by omega),vS,Option.isSome_some,d1,d2,f2,d3,m3];refine gd_ex ⟨oo,hk,fun _=>oo,fun _=>hk,fun _=>oo,fun _=>hk,fun _=>oo,fun _=>oo,fun _=>hk,fun _=>trivial,trivial⟩ ?_;rw[if_neg (by decide)];exact gd_ex ⟨oo,trivial⟩ (ih _ oo (by omega))
 ·rw[if_neg (by simpa using c)];exact h
theorem lawL4(hw:wf y34 b)(hb:blockOk b=true)(hl:br.length<=1048576){q:Int}{a:Nat}{x y:List Int×Int}{f t:Int}{g1:Int×Int×Int->Option Bool}{c:Int}
  (hx:x.1=idxV (fun i=>(liveV (lV b).length br).getD i false&&frN b i==a) (lV b).length)
  (h:∃r,u4J3 y (lV b,c) (a:Int) (b,br,q) f x t g1 ()=some r/\r=true) :
  ∃r,lp (u4L4 x (lV b,c) (a:Int) (b,br,q) y f t g1) 0=some r/\r=true:=by
 have hM:=links_len hb;have hyl:=(idxV_len (fun i=>(liveV (lV b).length br).getD i false&&frN b i==a) (lV b).length).1;have hx2:x.1.length<=6000:=by rw[hx]; omega
 refine lp_ex (fun i=>x.1.length+1-i.toNat) (fun i=>0<=i/\i<=(x.1.length:Int)) ?_ oo (by rw[hx]; omega);rintro g i ⟨i1,i2⟩ ih;obtain⟨k,rfl⟩:∃k:Nat,i=(k:Int):=⟨i.toNat,by omega⟩;unfold u4L4;dsimp only;by_cases c:(k:Int) < (x.1.length:Int)
 ·rw[if_pos (decide_eq_true c)];have hk:k<x.1.length:=by omega
  obtain⟨m,em,m1,m2,m3⟩:=idx_ok (a:=a) (f:=frN b) hb (v:=k) (by rw[<- hx]; exact hk);rw[<- hx] at em;obtain⟨f1,_,_,f4⟩:=frto b hb m1;have e3:((k:Int)).toNat=k:=rfl;have e4:∀n:Nat,Int.toNat (n:Int)=n:=fun _=>rfl;have d1:decide ((m:Int)<0)=false:=decide_eq_false (by omega);have d2:decide (((lV b).length:Int)<=(m:Int))=false:=decide_eq_false (by omega);have d3:((frN b m:Int) != (a:Int))=false:=by rw[m2]; simp
  simp only[e3,em,e4,r18 br _ (show br.length<=9223372036854775807 by omega),vS,Option.isSome_some,d1,d2,f1,d3,m3];refine gd_ex ⟨oo,hk,fun _=>oo,fun _=>hk,fun _=>oo,fun _=>hk,fun _=>oo,fun _=>oo,fun _=>hk,fun _=>trivial,trivial⟩ ?_;rw[if_neg (by decide)];exact gd_ex ⟨oo,trivial⟩ (ih _ oo (by omega))
 ·rw[if_neg (by simpa using c)];exact h
theorem linksL1(hw:wf y34 b)(hm:cnt y34 b<=1048576)(hc:codeG b br=0)(hl:br.length<=1048576){q c:Int} :
  ∃r,lp (u4L1 (lV b,c) (b,br,q) (nodN b:Int)) (0,0,0)=some r/\r=true:=by
 obtain⟨hb,hr⟩:=codeG_ok hc;have hNN:=nod_le b hb;have hM:=links_len hb;have hbl:br.length<=6000:=by
  have:=brok_cnt hr;have:=countP_rng (M:=(lV b).length) (fun i:Nat=>hasB br (i:Int));omega
 let lv:=fun i=>(liveV (lV b).length br).getD i false
 have hcl:∀f k,cntL (lV b).length lv f k<=6000:=fun f k=>by
  have:=countP_rng (M:=(lV b).length) (fun i=>lv i&&decide (f i<k));unfold cntL;omega
 refine lp_ex (fun x=>nodN b+1-x.2.2.toNat) (fun x=>0<=x.2.2/\x.2.2<=(nodN b:Int)/\x.1=(cntL (lV b).length lv (frN b) x.2.2.toNat:Int)/\x.2.1=(cntL (lV b).length lv (toN b) x.2.2.toNat:Int)) ?_ ⟨by simp only; omega,by simp only; omega,by show(0:Int)=_; rw[show Int.toNat 0=0 from rfl,cntL_zero]; rfl,by show(0:Int)=_; rw[show Int.toNat 0=0 from rfl,cntL_zero]; rfl⟩ (by simp only; omega);rintro g ⟨f,t,i⟩ ⟨i1,i2,i3,i4⟩ ih;simp only at i1 i2 i3 i4;obtain⟨k,rfl⟩:∃k:Nat,i=(k:Int):=⟨i.toNat,by omega⟩;have e4:Int.toNat (k:Int)=k:=rfl;rw[e4] at i3 i4;unfold u4L1;dsimp only;by_cases cc:(k:Int) < (nodN b:Int)
 ·rw[if_pos (decide_eq_true cc)];simp only[r24 b hw hm br hl,r25 b hw hm br hl,vS,Option.isSome_some];have hcn:codeN b br (k:Int)=0:=by
   unfold codeN;rw[if_pos hc,if_pos (inB_iff.2 oo)]
  refine gd_ex ⟨trivial,trivial⟩ (lt_ex (gd_ex ⟨trivial,trivial⟩ (lt_ex ?_)));have hs:∀f,selF b br (k:Int) f=(idxV (fun i=>lv i&&f i==k) (lV b).length,0):=fun f=>by
   unfold selF;rw[if_pos hcn];rfl
  rw[hs,hs,if_neg (by simp)];have c1:=cntL_succ (lV b).length lv (frN b) k;have c2:=cntL_succ (lV b).length lv (toN b) k;have c3:=hcl (frN b) (k+1);have c4:=hcl (toN b) (k+1);refine lawL4 hw hb hl rfl (lawL6 hw hb hl rfl ?_);unfold u4J5;refine gd_ex ⟨⟨by simp only; omega,by simp only; omega⟩,trivial⟩ (gd_ex ⟨⟨by simp only; omega,by simp only; omega⟩,trivial⟩ ?_);unfold u4J2;refine gd_ex ⟨oo,trivial⟩ ?_;have e5:Int.toNat ((k:Int)+1)=k+1:=rfl;exact ih _ ⟨by simp only; omega,by simp only; omega,by simp only[e5]; omega,by simp only[e5]; omega⟩ (by simp only; omega)
 ·rw[if_neg (by simpa using cc)];have hk:k=nodN b:=by omega
  subst hk;have c1:=cntL_all hr (f:=frN b) (N:=nodN b) (fun i hi=>(frto b hb hi).2.2.1);have c2:=cntL_all hr (f:=toN b) (N:=nodN b) (fun i hi=>(frto b hb hi).2.2.2);have c1:cntL (lV b).length lv (frN b) (nodN b)+br.length=(lV b).length:=c1;have c2:cntL (lV b).length lv (toN b) (nodN b)+br.length=(lV b).length:=c2;unfold u4J0;dsimp only;refine gd_ex ⟨oo,trivial⟩ ⟨_,rfl,?_⟩;rw[ba,beq_iff_eq,beq_iff_eq];omega
end
theorem lw4[Alw](c:List Int):u4 c=some true:=by
 have key:∃r,u4 c=some r/\r=true:=by
  unfold u4;refine gd_ex ⟨rfl,trivial⟩ ?_;split
  ·exact⟨_,rfl,rfl⟩
  ·refine gd_ex ⟨trivial,trivial⟩ ⟨true,?_,rfl⟩;refine Alw.alp_of (([],([],[],[]),[]),[],0) ⟨⟨by decide,by decide⟩,⟨⟨wf_nil,wf_nil,wf_nil,wf_nil,wf_nil,trivial⟩,wf_nil,⟨by decide,by decide⟩,trivial⟩,trivial⟩ fun v0 hv=>?_;obtain⟨⟨t1,t2⟩,hw,-⟩:=hv;have hwb:wf y34 v0.1:=⟨hw.1.1,⟨hw.1.2.1,hw.1.2.2.1,hw.1.2.2.2.1⟩,hw.1.2.2.2.2.1⟩;obtain⟨b,br,q⟩:=v0;simp only at t1 t2 hwb;have hm:cnt y34 b<=1048576:=by omega
   have hl:br.length<=1048576:=by omega
   refine(gP trivial).trans ?_;have key2:∀e:Option Bool,(∃r,e=some r/\r=true)->e=some true:=by rintro e ⟨r,rfl,rfl⟩; rfl
   refine key2 _ ?_;simp only[n21 b hwb hm,n22 b hwb hm,r23 b hwb hm,vS,Option.isSome_some];refine gd_ex ⟨trivial,trivial⟩ (lt_ex (gd_ex ⟨trivial,trivial⟩ (lt_ex (gd_ex ⟨trivial,trivial⟩ ?_))));cases hb:blockOk b with
   | false=>exact⟨_,rfl,rfl⟩
   | true =>
     rw[if_neg (by decide)];simp only[if_true,n19 b hwb hm hb,n17 b hwb hm hb,r15 b hwb hm br hl,vS,Option.isSome_some];refine gd_ex ⟨trivial,trivial⟩ (lt_ex (gd_ex ⟨fun _=>trivial,trivial⟩ (lt_ex ?_)));rw[if_neg (by simp)];refine gd_ex ⟨trivial,trivial⟩ (lt_ex ?_);by_cases h2:(topF b br).2=2
     ·rw[if_pos (by rw[h2]; rfl)];exact⟨_,rfl,rfl⟩
     ·rw[if_neg (by simpa using h2)];refine linksL1 hwb hm ?_ hl;unfold topF at h2;unfold codeG;rw[if_pos hb];cases hbr:brokB (lV b).length br with
      | true=>rfl
      | false =>
        have e:codeG b br=2:=by unfold codeG; rw[if_pos hb,hbr]; rfl
        rw[e] at h2;exact(h2 rfl).elim
 obtain⟨r,e,rfl⟩:=key;exact e
end Go.Proofs.YtphnknndgfgepaaGreatDoor
end
