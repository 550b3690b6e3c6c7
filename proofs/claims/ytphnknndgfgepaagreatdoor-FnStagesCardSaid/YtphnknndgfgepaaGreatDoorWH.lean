/- Slews and delays of links: both ways say the same. -/
import Derived.Test.YtphnknndgfgepaaGreatDoorWG
import Derived.Test.YtphnknndgfgepaaGreatDoorWF
section
namespace Go.Proofs.YtphnknndgfgepaaGreatDoor
open Go Go.Proofs Go.Proofs.Sv Go.Proofs.Xv Go.Proofs.Xl Go.Proofs.Xd
section
variable {b:Y34}
theorem load_at(b:Y34){n:Nat}(h:n<b.2.2.length):(viewV b).2.2.2.1.getD ((n:Int)).toNat 0=(loadsV b n).getD 0 0/\ix (n:Int) (viewV b).2.2.2.1.length:=by
 have h1:(viewV b).2.2.2.1.length=b.2.2.length:=appF_len _ _;exact⟨appF_get _ 0 _ n h,oo⟩
theorem dels_at(b:Y34){n:Nat}(h:n<b.2.2.length):(viewV b).2.2.2.2.1.getD ((n:Int)).toNat []=exactV b n/\ix (n:Int) (viewV b).2.2.2.2.1.length:=by
 have h1:(viewV b).2.2.2.2.1.length=b.2.2.length:=appF_len _ _;exact⟨appF_get _ [] _ n h,oo⟩
theorem r108W(hw:wf y34 b)(hb:blockOk b=true){n k:Nat}(hn:n<b.2.2.length)(hk:k < (sinksV b.2.1 n).length){s m:Int}(s0:0<=s)(s1:s<=1000000)(hm:m=0∨m=1) :
  ∃r,u166 s ((exactV b n).getD k 0) m=some r/\u158 b (n:Int) (k:Int) s m=some r/\0<=r:=by
 have no:=net_ok hb hn;obtain⟨dl,db⟩:=no.delays;have hd:=db (nodeS b n k).toNat;have hsn:=no.sn;have h1:=no.wf.snkIn k (by omega);obtain⟨f1,f2,f3⟩:=sq_forms s ((delaysV b n).getD (nodeS b n k).toNat 0);have hs:=mul_bd (A:=1000000) (B:=1000000) (x:=s) (y:=s) (by omega) (by omega) (by omega) (by omega) (by decide);have hdd:=mul_bd (A:=301000000) (B:=301000000) (x:=(delaysV b n).getD (nodeS b n k).toNat 0) (y:=(delaysV b n).getD (nodeS b n k).toNat 0) (by omega) (by omega) (by omega) (by omega) (by decide);have hs0:0<=s*s:=Int.mul_nonneg s0 s0;have hd0:0<=(delaysV b n).getD (nodeS b n k).toNat 0*(delaysV b n).getD (nodeS b n k).toNat 0:=Int.mul_nonneg hd.1 hd.1;obtain⟨r,z,w1,w2,w3,w4,_⟩:=r1662 s0 s1 hd.1 hd.2 hm;refine⟨r,by rw[exact_get hk]; exact w1,?_,w4⟩;have e3:((n:Int)).toNat=n:=rfl;have e4:((k:Int)).toNat=k:=rfl;have h1':0<=(b.2.2.getD n (dflt y110)).2.2.2.getD k 0/\((b.2.2.getD n (dflt y110)).2.2.2.getD k 0).toNat < (delaysV b n).length:=by rw[dl]; exact h1
 have hk':k < (b.2.2.getD n (dflt y110)).2.2.2.length:=by
  show k < (wirOf b n).2.2.2.length;omega
 unfold u158;rw[r193 b hw no,vS,e3,e4,gP ⟨rfl,oo,oo,⟨h1'.1,by omega⟩,h1'.2,trivial⟩,lE];show gd (in64 (1000000*s)/\in64 (1000000*s*s)/\in64 (4*(delaysV b n).getD (nodeS b n k).toNat 0)/\in64 (4*(delaysV b n).getD (nodeS b n k).toNat 0*(delaysV b n).getD (nodeS b n k).toNat 0)/\in64 (1000000*s*s+4*(delaysV b n).getD (nodeS b n k).toNat 0*(delaysV b n).getD (nodeS b n k).toNat 0)/\(u194 (1000000*s*s+4*(delaysV b n).getD (nodeS b n k).toNat 0*(delaysV b n).getD (nodeS b n k).toNat 0) m).isSome=true/\(u156 (vl (u194 (1000000*s*s+4*(delaysV b n).getD (nodeS b n k).toNat 0*(delaysV b n).getD (nodeS b n k).toNat 0) m)) 1000 m).isSome=true/\True) (lt (vl (u156 (vl (u194 (1000000*s*s+4*(delaysV b n).getD (nodeS b n k).toNat 0*(delaysV b n).getD (nodeS b n k).toNat 0) m)) 1000 m)) fun v2=>some v2)=_;rw[w2,vS,w3,vS,gP ⟨oo,oo,oo,oo,oo,rfl,rfl,trivial⟩,lE]
theorem r1082(hw:wf y34 b)(hb:blockOk b=true){q:Int}(hq:inB q 0 (((lV b).length:Int)-1)=true){s m:Int}(s0:0<=s)(s1:s<=1000000)(hm:m=0∨m=1) :
  ∃r,u108 (viewV b) q s m=some r/\u100 b ((lV b).getD q.toNat (dflt y48)) s m=some r/\r<=1000000:=by
 have hq:=inB_iff.1 hq;have hqx:ix q (viewV b).2.2.1.length:=⟨hq.1,by show q < ((lV b).length:Int); omega⟩;generalize hl:(lV b).getD q.toNat (dflt y48)=l;have hl':(viewV b).2.2.1.getD q.toNat (dflt y48)=l:=hl;have hmem:l∈lV b:=by rw[<- hl]; exact getD_mem (by omega)
 rcases link_facts hb hmem with ⟨a,n,h⟩ | ⟨n,k,h⟩
 ·obtain⟨t1,t2⟩:=tables_at h.slw h.trs;obtain⟨r,l1,l2,l3,l4⟩:=r1612 t2 s ((loadsV b n).getD 0 0) m;obtain⟨g1,g2⟩:=load_at b h.nlt;refine⟨r,?_,?_,l4⟩
  ·unfold u108;refine(gP ⟨hqx,trivial⟩).trans ?_;rw[lE,hl',r160 h.pix h.net,vS,gP ⟨rfl,trivial⟩,lE];refine(if_pos (by rw[h.kind]; rfl)).trans ?_;rw[r105 h,vS,g1,l1,vS];refine(gP ⟨rfl,by decide,t1,g2,rfl,trivial⟩).trans ?_;rw[lE];have:min r 1000000=r:=by omega
   rw[this]
  ·unfold u100;refine(if_pos (by rw[h.kind]; rfl)).trans ?_;rw[r152 hw hb h,vS,gP ⟨rfl,trivial⟩,lE];show gd (_/\ix (l.2.1.tmod 2) a.2.2.2.2.2.length/\(u153 (a.2.2.2.2.2.getD (l.2.1.tmod 2).toNat (dflt y140)) s ((loadsV b n).getD 0 0) m).isSome=true/\True) (lt (vl (u153 (a.2.2.2.2.2.getD (l.2.1.tmod 2).toNat (dflt y140)) s ((loadsV b n).getD 0 0) m)) fun v1=>some v1)=_;rw[l2,vS,gP ⟨by decide,t1,rfl,trivial⟩,lE]
 ·obtain⟨r,w1,w2,w3⟩:=r108W hw hb h.nlt h.klt s0 s1 hm;obtain⟨g1,g2⟩:=dels_at b h.nlt;have hel:=exact_len b n;have hkl:=h.klt;refine⟨min r 1000000,?_,?_,by omega⟩
  ·unfold u108;refine(gP ⟨hqx,trivial⟩).trans ?_;rw[lE,hl',r160 h.pix h.net,vS,gP ⟨rfl,trivial⟩,lE];refine(if_neg (by rw[h.kind]; decide)).trans ?_;rw[g1,h.idx];have e4:((k:Int)).toNat=k:=rfl;rw[e4,w1,vS];refine(gP ⟨g2,oo,rfl,trivial⟩).trans ?_;rw[lE]
  ·unfold u100;refine(if_neg (by rw[h.kind]; decide)).trans ?_;rw[r155 hw hb h,vS,h.idx,w2,vS,gP ⟨rfl,rfl,trivial⟩,lE,Int.min_comm]
def facV(c:Y65)(k m:Int):Int:=if(k==1)=true then(if(m==0)=true then c.2.1 else c.2.2.1) else(if(m==0)=true then c.2.2.2.1 else c.2.2.2.2)
theorem r164(c:Y65)(k m:Int):u164 c k m=some (facV c k m):=by
 unfold u164 facV;by_cases h1:(k==1)=true
 ·rw[if_pos h1];by_cases h2:(m==0)=true
  ·rw[if_pos (by rw[h1,h2]; rfl),if_pos h2,if_pos h1]
  ·rw[if_neg (by rw[h1,Bool.true_and]; exact h2),if_pos h1,if_neg h2]
 ·rw[if_neg h1,if_neg (by rw[ba]; exact fun h=>h1 h.1),if_neg h1];by_cases h2:(m==0)=true
  ·rw[if_pos h2,if_pos h2]
  ·rw[if_neg h2,if_neg h2]
theorem r157(c:Y65)(k m:Int):u157 c k m=some (facV c k m):=by
 unfold u157 facV;by_cases h1:(k==1)=true
 ·rw[if_pos h1,if_pos h1];by_cases h2:(m==0)=true
  ·rw[if_pos h2,if_pos h2]
  ·rw[if_neg h2,if_neg h2]
 ·rw[if_neg h1,if_neg h1];by_cases h2:(m==0)=true
  ·rw[if_pos h2,if_pos h2]
  ·rw[if_neg h2,if_neg h2]
def cornerB(c:Y65):Bool:=nmB c.1&&(decide (100<=c.2.1)&&decide (c.2.1<=c.2.2.1)&&decide (c.2.2.1<=5000))&&(decide (100<=c.2.2.2.1)&&decide (c.2.2.2.1<=c.2.2.2.2)&&decide (c.2.2.2.2<=5000))
theorem fac_bd{c:Y65}(h:cornerB c=true)(k m:Int):0<=facV c k m/\facV c k m<=5000:=by
 unfold cornerB at h;simp only[ba,dq] at h;unfold facV;split <;> split <;> omega
theorem r103ay2(hw:wf y34 b)(hb:blockOk b=true){c:Y65}(hc:cornerB c=true){q:Int}(hq:inB q 0 (((lV b).length:Int)-1)=true)(s m:Int) :
  ∃r,u103 (viewV b) c q s m=some r/\u99 b c ((lV b).getD q.toNat (dflt y48)) s m=some r /\ -6000000<=r/\r<=6000000:=by
 have hq:=inB_iff.1 hq;have hqx:ix q (viewV b).2.2.1.length:=⟨hq.1,by show q < ((lV b).length:Int); omega⟩;generalize hl:(lV b).getD q.toNat (dflt y48)=l;have hl':(viewV b).2.2.1.getD q.toNat (dflt y48)=l:=hl;have hmem:l∈lV b:=by rw[<- hl]; exact getD_mem (by omega)
 have hf:=fac_bd hc l.2.2.1 m;have tail:∀p:Int,-1000000<=p->p<=1000000->u103J0 c l m p=some (divV (p*facV c l.2.2.1 m) 1000 m)/\u99J0 c l m p=some (divV (p*facV c l.2.2.1 m) 1000 m) /\ -6000000<=divV (p*facV c l.2.2.1 m) 1000 m/\divV (p*facV c l.2.2.1 m) 1000 m<=6000000:=fun p p0 p1=>by
  have hp:=mul_bd (A:=1000000) (B:=5000) (x:=p) (y:=facV c l.2.2.1 m) (by omega) (by omega) (by omega) (by omega) (by decide);have hd:=r1622 (p*facV c l.2.2.1 m) 1000 m (by omega) (by omega) (by decide);have hv:=divV_bd (a:=p*facV c l.2.2.1 m) (b:=1000) (K:=6000000) m (by decide) (by omega) (by omega);have hsc:u163 p (facV c l.2.2.1 m) m=some (divV (p*facV c l.2.2.1 m) 1000 m):=by
   unfold u163;rw[hd.1,vS,gP ⟨oo,rfl,trivial⟩,lE]
  refine⟨?_,?_,hv⟩
  ·rw[u103J0,r164,vS,hsc,vS,gP ⟨rfl,rfl,trivial⟩,lE]
  ·rw[u99J0,r157,vS,hd.2,vS,gP ⟨rfl,oo,rfl,trivial⟩,lE]
 rcases link_facts hb hmem with ⟨a,n,h⟩ | ⟨n,k,h⟩
 ·obtain⟨t1,t2⟩:=tables_at h.del h.trs;obtain⟨r,l1,l2,l3,l4⟩:=r1612 t2 s ((loadsV b n).getD 0 0) m;obtain⟨g1,g2⟩:=load_at b h.nlt;obtain⟨d1,d2,d3⟩:=tail r l3 l4;refine⟨_,?_,?_,d3⟩
  ·unfold u103;refine(gP ⟨hqx,trivial⟩).trans ?_;rw[lE,hl',r160 h.pix h.net,vS,gP ⟨rfl,trivial⟩,lE];refine(if_pos (by rw[h.kind]; rfl)).trans ?_;rw[r105 h,vS,g1,l1,vS];refine(gP ⟨rfl,by decide,t1,g2,rfl,trivial⟩).trans ?_;rw[lE];exact d1
  ·unfold u99;refine(if_pos (by rw[h.kind]; rfl)).trans ?_;rw[r152 hw hb h,vS,gP ⟨rfl,trivial⟩,lE];show gd (_/\ix (l.2.1.tmod 2) a.2.2.2.2.1.length/\(u153 (a.2.2.2.2.1.getD (l.2.1.tmod 2).toNat (dflt y140)) s ((loadsV b n).getD 0 0) m).isSome=true/\True) (lt (vl (u153 (a.2.2.2.2.1.getD (l.2.1.tmod 2).toNat (dflt y140)) s ((loadsV b n).getD 0 0) m)) fun v1=>u99J0 c l m v1)=_;rw[l2,vS,gP ⟨by decide,t1,rfl,trivial⟩,lE];exact d2
 ·have no:=net_ok hb h.nlt;obtain⟨dl,db⟩:=no.delays;have hd:=db (nodeS b n k).toNat;obtain⟨g1,g2⟩:=dels_at b h.nlt;have hel:=exact_len b n;have hkl:=h.klt;have hsl:=sdelV_len b n m;have e4:((k:Int)).toNat=k:=rfl;have hv:=divV_bd (a:=(delaysV b n).getD (nodeS b n k).toNat 0) (b:=1000) (K:=301000) m (by decide) (by omega) (by omega);obtain⟨d1,d2,d3⟩:=tail (divV ((delaysV b n).getD (nodeS b n k).toNat 0) 1000 m) (by omega) (by omega);refine⟨_,?_,?_,d3⟩
  ·unfold u103;refine(gP ⟨hqx,trivial⟩).trans ?_;rw[lE,hl',r160 h.pix h.net,vS,gP ⟨rfl,trivial⟩,lE];refine(if_neg (by rw[h.kind]; decide)).trans ?_;rw[g1,h.idx,e4,exact_get hkl,(r1622 _ 1000 m (by omega) (by omega) (by decide)).1,vS];refine(gP ⟨g2,oo,rfl,trivial⟩).trans ?_;rw[lE];exact d1
  ·unfold u99;refine(if_neg (by rw[h.kind]; decide)).trans ?_;rw[r155 hw hb h,vS,r154 b hw no,vS,h.idx,e4,gP ⟨rfl,rfl,oo,by omega,trivial⟩,lE,sdelV_get hkl];exact d2
theorem r102(hb:blockOk b=true)(q:Int):u102 (viewV b) q=some (inB q 0 (((lV b).length:Int)-1)):=by
 have hl:=links_len hb;have e:u159 (viewV b).2.2.1=some ((lV b).length:Int):=rfl;unfold u102;rw[e,vS,r150,vS,gP ⟨rfl,oo,rfl,trivial⟩]
theorem r93(s:Int):u93 s=some (inB s 0 1000000):=by
 unfold u93;rw[r150,vS,gP ⟨rfl,trivial⟩]
def modeB(m:Int):Bool:=m==0||m==1
theorem r94(m:Int):u94 m=some (modeB m):=rfl
theorem r98(m:Int):u98 m=some (modeB m):=rfl
end
theorem mode_is{m:Int}(h:modeB m=true):m=0∨m=1:=by
 unfold modeB at h;simpa using h
theorem link_ix{b:Y34}{q:Int}(h:inB q 0 (((lV b).length:Int)-1)=true):ix q (lV b).length/\q.toNat < (lV b).length:=by
 have:=inB_iff.1 h;exact⟨oo,by omega⟩
theorem r52(c:Y65)(hc:wf y65 c):u52 c=some (cornerB c):=by
 have ef:∀a b,u110 a b=some (decide (100<=a)&&decide (a<=b)&&decide (b<=5000)):=fun _ _=>rfl;unfold u52 cornerB;rw[r109 _ hc.1,vS,ef,vS,ef,vS,gP ⟨rfl,(fun _=>rfl),(fun _=>rfl),trivial⟩]
def facBad(c:Y65)(i:Nat):Bool:=!inB ([c.2.1,c.2.2.1,c.2.2.2.1,c.2.2.2.2].getD i 0) 100 5000
theorem r96(c:Y65)(hc:wf y65 c):u96 c=some (cornerB c):=by
 unfold u96;rw[lE];have key:=lp_all (n:=4) (by decide) (facBad c) (some false) (e:=u96J0 c ()) (F:=u96L1 [c.2.1,c.2.2.1,c.2.2.2.1,c.2.2.2.2] c) (fun g i hi=>by
  have e3:((i:Int)).toNat=i:=rfl;have hl:([c.2.1,c.2.2.1,c.2.2.2.1,c.2.2.2.2]:List Int).length=4:=rfl;refine(if_pos (decide_eq_true (by rw[hl]; omega))).trans ?_;rw[e3,r97,vS,gP ⟨⟨by omega,by rw[hl]; omega⟩,hi,rfl,trivial⟩,gP ⟨oo,trivial⟩];rfl) (fun g=>by
  show u96L1 [c.2.1,c.2.2.1,c.2.2.2.1,c.2.2.2.2] c g (((4:Nat):Int))=_;rw[u96L1];exact if_neg (by simp))
 refine key.trans ?_;have ej:u96J0 c ()=some (nmB c.1&&decide (c.2.1<=c.2.2.1)&&decide (c.2.2.2.1<=c.2.2.2.2)):=by
  unfold u96J0;rw[r151 _ hc.1,vS,gP ⟨rfl,trivial⟩]
 rw[ej];have ea:(List.range 4).any (facBad c)=(!inB c.2.1 100 5000||(!inB c.2.2.1 100 5000||(!inB c.2.2.2.1 100 5000||(!inB c.2.2.2.2 100 5000||false)))):=rfl;have eq:(if(List.range 4).any (facBad c)=true then false else(nmB c.1&&decide (c.2.1<=c.2.2.1)&&decide (c.2.2.2.1<=c.2.2.2.2)))=cornerB c:=by
  rw[ea,Bool.eq_iff_iff];unfold cornerB inB;by_cases h:(!(decide (100<=c.2.1)&&decide (c.2.1<=5000))||(!(decide (100<=c.2.2.1)&&decide (c.2.2.1<=5000))||(!(decide (100<=c.2.2.2.1)&&decide (c.2.2.2.1<=5000))||(!(decide (100<=c.2.2.2.2)&&decide (c.2.2.2.2<=5000))||false))))=true
  ·rw[if_pos h];simp only[Bool.or_eq_true,Bool.not_eq_true',Bool.and_eq_false_iff,decide_eq_false_iff_not,Bool.false_eq_true,or_false] at h;simp only[ba,dq,Bool.false_eq_true,false_iff];rintro⟨⟨_,h1⟩,h2⟩;omega
  ·rw[if_neg h];simp only[Bool.or_eq_true,Bool.not_eq_true',Bool.and_eq_false_iff,decide_eq_false_iff_not,Bool.false_eq_true,or_false] at h;simp only[ba,dq];constructor
   ·rintro⟨⟨h1,h2⟩,h3⟩;exact⟨⟨h1,by omega⟩,by omega⟩
   ·rintro⟨⟨h1,h2⟩,h3⟩;exact⟨⟨h1,by omega⟩,by omega⟩
 rw[<- eq];split <;> rfl
end Go.Proofs.YtphnknndgfgepaaGreatDoor
end
section
namespace Go.Proofs.YtphnknndgfgepaaGreatDoor
open Go Go.Proofs Go.Proofs.Xv Go.Proofs.Xl Go.Proofs.Xd
theorem divV_pos{a b:Int}(m:Int)(ha:0<=a)(hb:0<b):0<=divV a b m:=by
 unfold divV;have h1:=Int.emod_nonneg a (Int.ne_of_gt hb);have h2:0<=a / b:=Int.ediv_nonneg ha (Int.le_of_lt hb);rw[Int.tdiv_eq_ediv_of_nonneg ha,Int.tmod_eq_emod_of_nonneg ha,if_neg (by rw[ba,dq]; omega)];split <;> omega
theorem minN_le(xs:List Int):∀n i,i<=n->fN (fun i m=>min m (xs.getD (i+1) 0)) n (xs.getD 0 0)<=xs.getD i 0
 | 0,i,h=>by
   have:i=0:=by omega
   subst this;exact Int.le_refl _
 | n+1,i,h=>by
   show min (fN (fun i m=>min m (xs.getD (i+1) 0)) n (xs.getD 0 0)) (xs.getD (n+1) 0)<=_;rcases Nat.lt_or_ge n i with h' | h'
   ·have:i=n+1:=by omega
    subst this;omega
   ·have:=minN_le xs n i h';omega
theorem tables_pos{l:List DTbl}(h:areTables l true=true){t:DTbl}(ht:t∈l):∀i,i<t.2.2.length->0<=t.2.2.getD i 0:=fun i hi=>by
 unfold areTables at h;rw[ba] at h;have:=List.all_eq_true.1 h.2 t ht;simp only[Bool.true_and,ba,Bool.not_eq_true',decide_eq_false_iff_not] at this;have h1:=minN_le t.2.2 (t.2.2.length-1) i (by omega);have h2:¬minN t.2.2<0:=this.2;unfold minN at h2;omega
theorem rowX_pos{t:Y140}(hp:∀i,i<t.2.2.length->0<=t.2.2.getD i 0){r q:Nat}{w c d:Int}(w0:0<=w)(c0:0<=c)(d0:0<=d):0<=rowX t r q w c d:=by
 have hv:∀r q,0<=celV t r q:=fun r q=>by
  unfold celV;rcases Nat.lt_or_ge (r*t.2.1.length+q) t.2.2.length with h | h
  ·exact hp _ h
  ·rw[gq,List.getElem?_eq_none h]; exact Int.le_refl _
 unfold rowX;have h1:=Int.mul_nonneg (Int.mul_nonneg (hv r q) w0) c0;have h2:=Int.mul_nonneg (Int.mul_nonneg (hv r (q+1)) w0) d0;omega
theorem look_pos{t:Y140}(ht:isTable t=true)(hp:∀i,i<t.2.2.length->0<=t.2.2.getD i 0)(s l m:Int):∀r,u161 t s l m=some r->0<=r:=by
 intro r hr;have hax:isAxis t.1=true/\isAxis t.2.1=true:=by
  simp only[isTable,ba] at ht;exact⟨ht.1.1.1,ht.1.1.2⟩
 obtain⟨p,a,b,L,hpp,hL,h1,h2⟩:=shape s hax.1;obtain⟨q,c,d,M,hq,hM,h3,h4⟩:=shape l hax.2;have hab:0<=a/\0<=b/\1<=a+b/\a+b<=100000/\a<=100000/\b<=100000/\(b≠0->p+1<t.1.length):=by
  rcases hL with ⟨rfl,rfl,_⟩ | ⟨_,_,_,_,_⟩ <;> omega
 have hcd:0<=c/\0<=d/\1<=c+d/\c+d<=100000:=by
  rcases hM with ⟨rfl,rfl,_⟩ | ⟨_,_,_,_,_⟩ <;> omega
 have hm:=mul_bd (A:=100000) (B:=100000) (x:=a+b) (y:=c+d) (by omega) (by omega) (by omega) (by omega) (by decide);have hpos:0 < (a+b)*(c+d):=Int.mul_pos (by omega) (by omega);have x1:=rowX_wt ht hpp hq hM (w:=a) (by omega);have x2 : -(1000000*(b*(c+d)))<=(if b=0 then 0 else rowX t (p+1) q b c d)/\(if b=0 then 0 else rowX t (p+1) q b c d)<=1000000*(b*(c+d)):=by
  by_cases hz:b=0
  ·rw[if_pos hz,hz,Int.zero_mul]; decide
  ·rw[if_neg hz]; exact rowX_wt ht (hab.2.2.2.2.2.2 hz) hq hM (by omega)
 have y1:=rowX_pos hp (r:=p) (q:=q) hab.1 hcd.1 hcd.2.1;have y2:0<=(if b=0 then 0 else rowX t (p+1) q b c d):=by
  split
  ·exact Int.le_refl _
  ·exact rowX_pos hp hab.2.1 hcd.1 hcd.2.1
 have ed:1000000*((a+b)*(c+d))=1000000*(a*(c+d))+1000000*(b*(c+d)):=by rw[Int.add_mul,Int.mul_add 1000000]
 have hr1:=(r1622 (rowX t p q a c d+(if b=0 then 0 else rowX t (p+1) q b c d)) ((a+b)*(c+d)) m (by omega) (by omega) hpos).1;have i1:in64 ((a+b)*(c+d)):=oo;have key:u161 t s l m=some (divV (rowX t p q a c d+(if b=0 then 0 else rowX t (p+1) q b c d)) ((a+b)*(c+d)) m):=by
  unfold u161;rw[h2,gP ⟨rfl,trivial⟩,vS,lE,h4,gP ⟨rfl,trivial⟩,vS,lE,look1 ht hpp hq hL hM,u161J0,hr1,gP ⟨i1,rfl,trivial⟩,vS,lE]
 rw[key] at hr;cases hr;exact divV_pos m (by omega) hpos
end Go.Proofs.YtphnknndgfgepaaGreatDoor
end
section
namespace Go.Proofs.YtphnknndgfgepaaGreatDoor
open Go Go.Proofs Go.Proofs.Sv Go.Proofs.Xv Go.Proofs.Xl Go.Proofs.Xd
theorem slew_pos{b:Y34}(hw:wf y34 b)(hb:blockOk b=true){q:Int}(hq:inB q 0 (((lV b).length:Int)-1)=true){s m:Int}(s0:0<=s)(s1:s<=1000000)(hm:m=0∨m=1){r:Int}(hr:u108 (viewV b) q s m=some r):0<=r:=by
 have hq:=inB_iff.1 hq;have hqx:ix q (viewV b).2.2.1.length:=⟨hq.1,by show q < ((lV b).length:Int); omega⟩;generalize hl:(lV b).getD q.toNat (dflt y48)=l;have hl':(viewV b).2.2.1.getD q.toNat (dflt y48)=l:=hl;have hmem:l∈lV b:=by rw[<- hl]; exact getD_mem (by omega)
 rcases link_facts hb hmem with ⟨a,n,h⟩ | ⟨n,k,h⟩
 ·obtain⟨t1,t2⟩:=tables_at h.slw h.trs;obtain⟨r0,l1,l2,l3,l4⟩:=r1612 t2 s ((loadsV b n).getD 0 0) m;obtain⟨g1,g2⟩:=load_at b h.nlt;have hlt:(l.2.1.tmod 2).toNat<a.2.2.2.2.2.length:=by have:=t1.1; have:=t1.2; omega
  have hp:=look_pos t2 (tables_pos h.slw (getD_mem hlt)) s ((loadsV b n).getD 0 0) m r0 l1;have key:u108 (viewV b) q s m=some (min r0 1000000):=by
   unfold u108;refine(gP ⟨hqx,trivial⟩).trans ?_;rw[lE,hl',r160 h.pix h.net,vS,gP ⟨rfl,trivial⟩,lE];refine(if_pos (by rw[h.kind]; rfl)).trans ?_;rw[r105 h,vS,g1,l1,vS];refine(gP ⟨rfl,by decide,t1,g2,rfl,trivial⟩).trans ?_;rw[lE]
  rw[key] at hr;cases hr;omega
 ·obtain⟨r0,w1,w2,w3⟩:=r108W hw hb h.nlt h.klt s0 s1 hm;obtain⟨g1,g2⟩:=dels_at b h.nlt;have hel:=exact_len b n;have hkl:=h.klt;have key:u108 (viewV b) q s m=some (min r0 1000000):=by
   unfold u108;refine(gP ⟨hqx,trivial⟩).trans ?_;rw[lE,hl',r160 h.pix h.net,vS,gP ⟨rfl,trivial⟩,lE];refine(if_neg (by rw[h.kind]; decide)).trans ?_;rw[g1,h.idx];have e4:((k:Int)).toNat=k:=rfl;rw[e4,w1,vS];refine(gP ⟨g2,oo,rfl,trivial⟩).trans ?_;rw[lE]
  rw[key] at hr;cases hr;omega
def lkAt(b:Y34)(xs:List Int)(i:Nat):DLink:=(lV b).getD (xs.getD i 0).toNat (dflt y48)
def lkIn(b:Y34)(xs:List Int)(i:Nat):Bool:=inB (xs.getD i 0) 0 (((lV b).length:Int)-1)
def pathBad(b:Y34)(xs:List Int)(i:Nat):Bool:=!lkIn b xs i||decide ((0:Int) < (i:Int))&&(lkAt b xs (i-1)).2.1 != (lkAt b xs i).1
def pathOk(b:Y34)(xs:List Int):Bool:=!(List.range xs.length).any (pathBad b xs)
theorem path_in{b:Y34}{xs:List Int}{i:Nat}(h:pathBad b xs i=false):lkIn b xs i=true:=by
 unfold pathBad at h;rw[Bool.or_eq_false_iff,Bool.not_eq_false'] at h;exact h.1
section
variable {b:Y34}
theorem r92(hb:blockOk b=true)(xs:List Int)(hl:xs.length<=100):u92 (viewV b) xs=some (pathOk b xs):=by
 unfold u92;refine(lp_foldE (n:=xs.length) (by omega) (fun(i:Nat) (_:Unit)=>(i:Int)) (fun _ u=>u) (pathBad b xs) (some false) (fun i _=>∀j,j<i->lkIn b xs j=true) (J:=fun _=>some true) (F:=u92L1 (viewV b) xs) (fun g i u hi hI=>?_) (fun i u hi hI hc j hj=>?_) (fun g u _=>aE) () (fun j hj=>by omega)).trans ?_
 ·have e3:((i:Int)).toNat=i:=rfl;have e1:((i:Int)-1).toNat=i-1:=by omega
  refine(if_pos (by simpa using hi)).trans ?_;rw[e3,gP ⟨oo,trivial⟩,r102 hb,vS,e1];refine(gP ⟨rfl,(fun h=>by have:=of_decide_eq_true h.1; exact oo),(fun h=>by have:=of_decide_eq_true h.1; exact oo),(fun h=>(link_ix (hI (i-1) (by have:=of_decide_eq_true h.1; omega))).1),(fun h=>(link_ix (show inB (xs.getD i 0) 0 (((lV b).length:Int)-1)=true by simpa using h.2.1)).1),trivial⟩).trans ?_;show(if pathBad b xs i=true then some false else _)=_;split
  ·rfl
  ·exact gP ⟨oo,trivial⟩
 ·rcases Nat.lt_or_ge j i with h | h
  ·exact hI j h
  ·have:j=i:=by omega
   subst this;exact path_in hc
 ·unfold pathOk;cases(List.range xs.length).any (pathBad b xs) <;> rfl
def stF(b:Y34)(c:Y65)(xs:List Int)(m:Int)(k:Nat)(s:Int×Int):Int×Int:=(vl (u108 (viewV b) (xs.getD k 0) s.1 m),s.2+vl (u103 (viewV b) c (xs.getD k 0) s.1 m))
def stI(k:Nat)(s:Int×Int):Prop:=0<=s.1/\s.1<=1000000 /\ -(6000000*(k:Int))<=s.2/\s.2<=6000000*(k:Int)
theorem st_step(hw:wf y34 b)(hb:blockOk b=true){c:Y65}(hc:cornerB c=true){xs:List Int}{m:Int}(hm:m=0∨m=1){k:Nat}(hk:lkIn b xs k=true){s:Int×Int}(hI:stI k s):∃d r,u103 (viewV b) c (xs.getD k 0) s.1 m=some d/\u99 b c (lkAt b xs k) s.1 m=some d/\u108 (viewV b) (xs.getD k 0) s.1 m=some r/\u100 b (lkAt b xs k) s.1 m=some r/\stF b c xs m k s=(r,s.2+d)/\stI (k+1) (r,s.2+d):=by
 obtain⟨i1,i2,i3,i4⟩:=hI;obtain⟨d,a1,a2,a3,a4⟩:=r103ay2 hw hb hc hk s.1 m;obtain⟨r,b1,b2,b3⟩:=r1082 hw hb hk i1 i2 hm;have b0:=slew_pos hw hb hk i1 i2 hm b1;refine⟨d,r,a1,a2,b1,b2,?_,⟨b0,b3,?_,?_⟩⟩
 ·unfold stF;rw[a1,b1]; rfl
 ·show -(6000000*((k+1:Nat):Int))<=s.2+d;omega
 ·show s.2+d<=6000000*((k+1:Nat):Int);omega
def stV(b:Y34)(c:Y65)(xs:List Int)(s m:Int):Int×Int:=fN (stF b c xs m) xs.length (s,0)
theorem r95(hw:wf y34 b)(hb:blockOk b=true){c:Y65}(hc:cornerB c=true){xs:List Int}(hl:xs.length<=100)(hp:∀k,k<xs.length->lkIn b xs k=true){s m:Int}(s0:0<=s)(s1:s<=1000000)(hm:m=0∨m=1):u95 (viewV b) c xs s m=some ((stV b c xs s m).2,(stV b c xs s m).1):=by
 unfold u95;refine lF (n:=xs.length) (by omega) (fun(k:Nat) (s:Int×Int)=>(s.1,s.2,(k:Int))) (stF b c xs m) stI (J:=fun s=>some (s.2,s.1)) (F:=u95L1 (viewV b) xs m c) (fun g k s hk hI=>?_) (fun k s hk hI=>?_) (fun g s _=>aE) (s,0) ⟨s0,s1,by show -(6000000*((0:Nat):Int))<=0; omega,by show(0:Int)<=6000000*((0:Nat):Int); omega⟩
 ·obtain⟨d,r,a1,a2,b1,b2,e,hI'⟩:=st_step hw hb hc hm (hp k hk) hI;obtain⟨i1,i2,i3,i4⟩:=hI';have i3 : -(6000000*((k+1:Nat):Int))<=s.2+d:=i3;have i4:s.2+d<=6000000*((k+1:Nat):Int):=i4;have e3:((k:Int)).toNat=k:=rfl;rw[e];refine(if_pos (by simpa using hk)).trans ?_;rw[e3,gP ⟨oo,trivial⟩,a1,vS,gP ⟨rfl,oo,trivial⟩,lE,b1,vS,gP ⟨rfl,trivial⟩,lE];exact gP ⟨oo,trivial⟩
 ·obtain⟨d,r,_,_,_,_,e,hI'⟩:=st_step hw hb hc hm (hp k hk) hI;rw[e];exact hI'
def sgF(b:Y34)(c:Y65)(xs:List Int)(s m:Int):Int×Int×Int :=
 if(blockOk b&&cornerB c)=true then(if decide (100 < (xs.length:Int))=true then(0,0,3) else(if pathOk b xs=true then(if(inB s 0 1000000&&modeB m)=true then((stV b c xs s m).2,(stV b c xs s m).1,0) else(0,0,2)) else(0,0,4))) else(0,0,1)
theorem path_all{xs:List Int}(h:pathOk b xs=true):∀k,k<xs.length->lkIn b xs k=true:=fun k hk=>path_in (not_any.1 h k hk)
theorem q44(b:Y34)(hw:wf y34 b)(hm:cnt y34 b<=1048576)(c:Y65)(hc:wf y65 c)(xs:List Int)(s m:Int):u44 b c xs s m=some (sgF b c xs s m):=by
 unfold u44 sgF;rw[r65 b hw hm,vS,r52 c hc,vS,gP ⟨rfl,(fun _=>rfl),trivial⟩];cases hb:blockOk b with
 | false=>rfl
 | true =>
   cases hc':cornerB c with
   | false=>rfl
   | true =>
     refine(if_neg (by simp)).trans ?_;rw[if_pos (show(true&&true)=true from rfl),r66 b hw hb,vS,gP ⟨rfl,trivial⟩,lE];by_cases h1:decide (100 < (xs.length:Int))=true
     ·rw[if_pos h1,if_pos h1]
     ·rw[if_neg h1,if_neg h1];have hl:xs.length<=100:=by rw[dq] at h1; omega
      rw[r92 hb xs hl,vS,gP ⟨rfl,trivial⟩];cases h2:pathOk b xs with
      | false=>rfl
      | true =>
        refine(if_neg (by simp)).trans ?_;rw[if_pos rfl,r93,vS,r94,vS,gP ⟨rfl,(fun _=>rfl),trivial⟩];cases h3:inB s 0 1000000 with
        | false=>rfl
        | true =>
          cases h4:modeB m with
          | false=>rfl
          | true =>
            have hs:=inB_iff.1 h3;refine(if_neg (by simp)).trans ?_;rw[r95 hw hb hc' hl (path_all h2) hs.1 hs.2 (mode_is h4),vS,gP ⟨rfl,trivial⟩,lE];rfl
theorem q45(b:Y34)(hw:wf y34 b)(hm:cnt y34 b<=1048576)(c:Y65)(hc:wf y65 c)(xs:List Int)(s m:Int):u45 b c xs s m=some (sgF b c xs s m):=by
 unfold u45 sgF;rw[r23 b hw hm,vS,r96 c hc,vS,gP ⟨rfl,(fun _=>rfl),trivial⟩];cases hb:blockOk b with
 | false=>rfl
 | true =>
   cases hc':cornerB c with
   | false=>rfl
   | true =>
     have hll:=links_len hb;refine(if_neg (by simp)).trans ?_;rw[if_pos (show(true&&true)=true from rfl)];by_cases h1:decide (100 < (xs.length:Int))=true
     ·rw[if_pos h1,if_pos h1]
     ·rw[if_neg h1,if_neg h1];have hl:xs.length<=100:=by rw[dq] at h1; omega
      rw[r59 b hw hb,vS,gP ⟨rfl,trivial⟩,lE];refine(lp_foldE (n:=xs.length) (by omega) (fun(i:Nat) (_:Unit)=>(i:Int)) (fun _ u=>u) (pathBad b xs) (some (0,0,4)) (fun i _=>∀j,j<i->lkIn b xs j=true) (J:=fun _=>u45J0 b (lV b) xs m c s ()) (F:=u45L1 xs (lV b) b m c s) (fun g i u hi hI=>?_) (fun i u hi hI hc j hj=>?_) (fun g u _=>aE) () (fun j hj=>by omega)).trans ?_
      ·have e3:((i:Int)).toNat=i:=rfl;have e1:((i:Int)-1).toNat=i-1:=by omega
       refine(if_pos (by simpa using hi)).trans ?_;rw[e3,r97,vS,e1];have k1:(!inB (xs.getD i 0) 0 (((lV b).length:Int)-1))=false->ix (xs.getD i 0) (lV b).length/\(xs.getD i 0).toNat < (lV b).length:=fun h=>link_ix (by simpa using h);have k2:decide ((0:Int) < (i:Int))=true->ix (xs.getD (i-1) 0) (lV b).length/\(xs.getD (i-1) 0).toNat < (lV b).length:=fun h=>link_ix (hI (i-1) (by have:=of_decide_eq_true h; omega));refine(gP ⟨oo,oo,rfl,(fun _=>oo),(fun h=>(k1 h.2.1).1),(fun h=>(k1 h.2.1).2),(fun h=>by have:=of_decide_eq_true h.1; exact oo),(fun h=>by have:=of_decide_eq_true h.1; exact oo),(fun h=>(k2 h.1).1),(fun h=>(k2 h.1).2),trivial⟩).trans ?_;have eb:(!inB (xs.getD i 0) 0 (((lV b).length:Int)-1)||decide ((0:Int) < (i:Int))&&((lV b).getD (xs.getD i 0).toNat (dflt y48)).1 != ((lV b).getD (xs.getD (i-1) 0).toNat (dflt y48)).2.1)=pathBad b xs i:=by
        unfold pathBad lkAt lkIn;rw[bne_comm]
       rw[eb];split
       ·rfl
       ·exact gP ⟨oo,trivial⟩
      ·rcases Nat.lt_or_ge j i with h | h
       ·exact hI j h
       ·have:j=i:=by omega
        subst this;exact path_in hc
      ·cases h2:(List.range xs.length).any (pathBad b xs) with
       | true =>
         have:pathOk b xs=false:=by unfold pathOk; rw[h2]; rfl
         rw[this]; rfl
       | false =>
         have hpo:pathOk b xs=true:=by unfold pathOk; rw[h2]; rfl
         rw[hpo,if_neg (show ¬false=true by simp),if_pos (show true=true from rfl)];rw[u45J0,r97,vS,r98,vS,gP ⟨rfl,(fun _=>rfl),trivial⟩];cases h3:inB s 0 1000000 with
         | false=>rfl
         | true =>
           cases h4:modeB m with
           | false=>rfl
           | true =>
             have hs:=inB_iff.1 h3;have hp:=path_all hpo;refine(if_neg (by simp)).trans ?_;rw[if_pos (show(true&&true)=true from rfl)];refine lF (n:=xs.length) (by omega) (fun(k:Nat) (s:Int×Int)=>(s.1,s.2,(k:Int))) (stF b c xs m) stI (J:=fun s=>some (s.2,s.1,0)) (F:=u45L3 b (lV b) xs m c) (fun g k s hk hI=>?_) (fun k s hk hI=>?_) (fun g s _=>aE) (s,0) ⟨hs.1,hs.2,by show -(6000000*((0:Nat):Int))<=0; omega,by show(0:Int)<=6000000*((0:Nat):Int); omega⟩
             ·obtain⟨d,r,a1,a2,b1,b2,e,hI'⟩:=st_step hw hb hc' (mode_is h4) (hp k hk) hI;obtain⟨i1,i2,i3,i4⟩:=hI';have i3 : -(6000000*((k+1:Nat):Int))<=s.2+d:=i3;have i4:s.2+d<=6000000*((k+1:Nat):Int):=i4;have e3:((k:Int)).toNat=k:=rfl;obtain⟨x1,x2⟩:=link_ix (hp k hk);have a2':u99 b c ((lV b).getD (xs.getD k 0).toNat (dflt y48)) s.1 m=some d:=a2;have b2':u100 b ((lV b).getD (xs.getD k 0).toNat (dflt y48)) s.1 m=some r:=b2;rw[e];refine(if_pos (by simpa using hk)).trans ?_;rw[e3,a2',vS,gP ⟨oo,x1,x2,rfl,oo,trivial⟩,lE,b2',vS,gP ⟨oo,x1,x2,rfl,trivial⟩,lE];exact gP ⟨oo,trivial⟩
             ·obtain⟨d,r,_,_,_,_,e,hI'⟩:=st_step hw hb hc' (mode_is h4) (hp k hk) hI;rw[e];exact hI'
end
theorem fold_add{σ:Type}(f:Nat->σ->σ)(k:Nat)(s:σ):∀j,fN f (k+j) s=fN (fun i=>f (k+i)) j (fN f k s)
 | 0=>rfl
 | j+1=>by
   show f (k+j) (fN f (k+j) s)=f (k+j) (fN (fun i=>f (k+i)) j (fN f k s));rw[fold_add f k s j]
theorem fold_ext{σ:Type}{f g:Nat->σ->σ}{s:σ}:∀n,(∀i,i<n->∀s,f i s=g i s)->fN f n s=fN g n s
 | 0,_=>rfl
 | n+1,h=>by
   show f n (fN f n s)=g n (fN g n s);rw[h n (by omega),fold_ext n (fun i hi s=>h i (by omega) s)]
theorem take_get{l:List Int}{k i:Nat}(h:i<k):(List.take k l).getD i 0=l.getD i 0:=by
 rw[gq,gq,List.getElem?_take,if_pos h]
theorem drop_get{l:List Int}{k i:Nat}:(List.drop k l).getD i 0=l.getD (k+i) 0:=by
 rw[gq,gq,List.getElem?_drop]
section
variable {b:Y34}
theorem st_take{c:Y65}{xs:List Int}{m:Int}{k:Nat}(hk:k<=xs.length)(s:Int):stV b c (List.take k xs) s m=fN (stF b c xs m) k (s,0):=by
 unfold stV;rw[List.length_take,Nat.min_eq_left hk];refine fold_ext k fun i hi s=>?_;unfold stF;rw[take_get hi]
theorem st_shift{f:Nat->Int×Int->Int×Int}(hf:∀i r t,f i (r,t)=((f i (r,0)).1,(f i (r,0)).2+t)):∀j r t,fN f j (r,t)=((fN f j (r,0)).1,(fN f j (r,0)).2+t)
 | 0,r,t=>by
   show(r,t)=(r,0+t);rw[Int.zero_add]
 | j+1,r,t=>by
   show f j (fN f j (r,t))=((f j (fN f j (r,0))).1,(f j (fN f j (r,0))).2+t);rw[st_shift hf j r t];generalize fN f j (r,0)=p;obtain⟨p1,p2⟩:=p;show f j (p1,p2+t)=((f j (p1,p2)).1,(f j (p1,p2)).2+t);rw[hf j p1 (p2+t),hf j p1 p2];show((f j (p1,0)).1,(f j (p1,0)).2+(p2+t))=((f j (p1,0)).1,(f j (p1,0)).2+p2+t);rw[Int.add_assoc]
theorem st_split{c:Y65}{xs:List Int}{m:Int}{k:Nat}(hk:k<=xs.length)(s:Int) :
  stV b c xs s m=((stV b c (List.drop k xs) (stV b c (List.take k xs) s m).1 m).1,(stV b c (List.take k xs) s m).2+(stV b c (List.drop k xs) (stV b c (List.take k xs) s m).1 m).2):=by
 have e:fN (stF b c xs m) xs.length (s,0)=fN (stF b c xs m) (k+(xs.length-k)) (s,0):=by
  rw[show k+(xs.length-k)=xs.length by omega]
 rw[st_take hk];unfold stV;rw[e,fold_add];generalize fN (stF b c xs m) k (s,0)=p;obtain⟨r,t⟩:=p;have e2:fN (stF b c (List.drop k xs) m) (List.drop k xs).length (r,0)=fN (fun i=>stF b c xs m (k+i)) (xs.length-k) (r,0):=by
  rw[List.length_drop];refine fold_ext _ fun i hi s=>?_;show stF b c (List.drop k xs) m i s=stF b c xs m (k+i) s;unfold stF;rw[drop_get]
 show fN (fun i=>stF b c xs m (k+i)) (xs.length-k) (r,t)=((fN (stF b c (List.drop k xs) m) (List.drop k xs).length (r,0)).1,t+(fN (stF b c (List.drop k xs) m) (List.drop k xs).length (r,0)).2);rw[e2,st_shift (f:=fun i=>stF b c xs m (k+i)) (fun i r t=>by
  unfold stF;show(_,t+_)=(_,0+_+t);rw[Int.zero_add,Int.add_comm]) _ r t,Int.add_comm t]
theorem path_take{xs:List Int}(h:pathOk b xs=true)(k:Nat)(hk:k<=xs.length):pathOk b (List.take k xs)=true:=by
 refine not_any.2 fun i hi=>?_;rw[List.length_take] at hi;have:=not_any.1 h i (by omega);unfold pathBad lkIn lkAt at this ⊢;rw[take_get (by omega),take_get (by omega)];exact this
theorem path_drop{xs:List Int}(h:pathOk b xs=true)(k:Nat):pathOk b (List.drop k xs)=true:=by
 refine not_any.2 fun i hi=>?_;rw[List.length_drop] at hi;have:=not_any.1 h (k+i) (by omega);unfold pathBad lkIn lkAt at this ⊢;rw[drop_get,drop_get];rw[Bool.or_eq_false_iff] at this ⊢;refine⟨this.1,?_⟩;cases i with
 | zero=>rfl
 | succ i =>
   have e:decide ((0:Int) < ((k+(i+1):Nat):Int))=true:=decide_eq_true (by omega);have e':decide ((0:Int) < ((i+1:Nat):Int))=true:=decide_eq_true (by omega);have h2:=this.2;rw[e,Bool.true_and] at h2;rw[e',Bool.true_and];exact h2
theorem st_in(hw:wf y34 b)(hb:blockOk b=true){c:Y65}(hc:cornerB c=true){xs:List Int}{m:Int}(hm:m=0∨m=1)(hp:∀k,k<xs.length->lkIn b xs k=true){s:Int}(s0:0<=s)(s1:s<=1000000):∀k,k<=xs.length->stI k (fN (stF b c xs m) k (s,0))
 | 0,_=>⟨s0,s1,by show -(6000000*((0:Nat):Int))<=0; omega,by show(0:Int)<=6000000*((0:Nat):Int); omega⟩
 | k+1,h=>by
   obtain⟨d,r,_,_,_,_,e,hI⟩:=st_step hw hb hc hm (hp k (by omega)) (st_in hw hb hc hm hp s0 s1 k (by omega));show stI (k+1) (stF b c xs m k (fN (stF b c xs m) k (s,0)));rw[e];exact hI
theorem sg_zero{c:Y65}{xs:List Int}{s m:Int}(h:(sgF b c xs s m).2.2=0):blockOk b=true/\cornerB c=true/\xs.length<=100/\pathOk b xs=true/\inB s 0 1000000=true/\modeB m=true:=by
 unfold sgF at h;split at h
 ·rename_i h1;split at h
  ·cases h
  ·rename_i h2;split at h
   ·rename_i h3;split at h
    ·rename_i h4;rw[ba] at h1 h4;rw[dq] at h2;exact⟨h1.1,h1.2,by omega,h3,h4.1,h4.2⟩
    ·cases h
   ·cases h
 ·cases h
theorem sg_ok{c:Y65}{xs:List Int}{s m:Int}(h1:blockOk b=true)(h2:cornerB c=true)(h3:xs.length<=100)(h4:pathOk b xs=true)(h5:inB s 0 1000000=true)(h6:modeB m=true):sgF b c xs s m=((stV b c xs s m).2,(stV b c xs s m).1,0):=by
 unfold sgF;have e:decide ((100:Int) < (xs.length:Int))=false:=decide_eq_false (by omega);rw[h1,h2,h4,h5,h6,e];rfl
end
theorem lw9[Alw](c:List Int)(hw0:wf (.sl (.int .u8)) c):u9 c=some true:=by
 have key2:∀e:Option Bool,(∃r,e=some r/\r=true)->e=some true:=by rintro e ⟨r,rfl,rfl⟩; rfl
 refine key2 _ ?_;unfold u9;refine gd_ex ⟨rfl,trivial⟩ ?_;split
 ·exact⟨_,rfl,rfl⟩
 ·rename_i hbig;have hbig:c.length<=4096:=by
   have:¬(decide ((4096:Int) < (c.length:Int))=true):=hbig;simp only[dq] at this;omega
  obtain⟨d0,ed,hd0⟩:=roll_ok hw0 hbig 6102;simp only[ed,vS,Option.isSome_some];refine gd_ex ⟨trivial,trivial⟩ (lt_ex (gd_ex ⟨trivial,trivial⟩ ⟨true,?_,rfl⟩));refine Alw.alp_of (([],([],[],[]),[]),(ByteArray.empty,0,0,0,0),[],0,0) ⟨⟨by decide,by decide⟩,⟨⟨wf_nil,wf_nil,wf_nil,wf_nil,wf_nil,trivial⟩,⟨by show(0:Nat)<=_; decide,⟨by decide,by decide⟩,⟨by decide,by decide⟩,⟨by decide,by decide⟩,⟨by decide,by decide⟩,trivial⟩,wf_nil,⟨by decide,by decide⟩,⟨by decide,by decide⟩,trivial⟩,trivial⟩ fun v0 hv=>?_;obtain⟨⟨t1,t2⟩,hw,-⟩:=hv;have hwb:wf y34 v0.1:=⟨hw.1.1,⟨hw.1.2.1,hw.1.2.2.1,hw.1.2.2.2.1⟩,hw.1.2.2.2.2.1⟩;have hwc:wf y65 v0.2.1:=⟨hw.2.1.1,hw.2.1.2.1,hw.2.1.2.2.1,hw.2.1.2.2.2.1,hw.2.1.2.2.2.2.1⟩;obtain⟨b,k,xs,s,m⟩:=v0;simp only at t1 t2 hwb hwc;have hm:cnt y34 b<=1048576:=by omega
  refine(gP trivial).trans (key2 _ ?_);simp only[q44 b hwb hm k hwc,q45 b hwb hm k hwc,vS,Option.isSome_some];refine gd_ex ⟨trivial,trivial⟩ (lt_ex (gd_ex ⟨trivial,trivial⟩ (lt_ex ?_)));rw[if_neg (by simp)];split
  ·exact⟨_,rfl,rfl⟩
  ·rename_i hz;have hz:(sgF b k xs s m).2.2=0:=by simpa using hz
   obtain⟨g1,g2,g3,g4,g5,g6⟩:=sg_zero hz;have hs:=inB_iff.1 g5;obtain⟨x,d1,ex,hd1,x0,x1⟩:=below_ok hd0 (n:=(xs.length:Int)+1) (by omega);obtain⟨j,rfl⟩:∃j:Nat,x=(j:Int):=⟨x.toNat,by omega⟩;have ej:Int.toNat (j:Int)=j:=rfl;have hj:j<=xs.length:=by omega
   simp only[ex,vS,Option.isSome_some];refine gd_ex ⟨oo,trivial,trivial⟩ (lt_ex ?_);simp only[ej];have hlt:(List.take j xs).length<=100:=by rw[List.length_take]; omega
   have hld:(List.drop j xs).length<=100:=by rw[List.length_drop]; omega
   have I1:=st_in hwb g1 g2 (mode_is g6) (path_all g4) hs.1 hs.2 j hj;rw[<- st_take hj] at I1;obtain⟨i1,i2,i3,i4⟩:=I1;have g5':inB (stV b k (List.take j xs) s m).1 0 1000000=true:=inB_iff.2 ⟨i1,i2⟩;have pd:=path_drop g4 j;have I2:=st_in hwb g1 g2 (mode_is g6) (path_all pd) i1 i2 _ (Nat.le_refl _);obtain⟨j1,j2,j3,j4⟩:=I2;have hsp:=st_split (b:=b) (c:=k) (m:=m) hj s;have j3 : -(6000000*((List.drop j xs).length:Int))<=(stV b k (List.drop j xs) (stV b k (List.take j xs) s m).1 m).2:=j3;have j4:(stV b k (List.drop j xs) (stV b k (List.take j xs) s m).1 m).2<=6000000*((List.drop j xs).length:Int):=j4;rw[sg_ok g1 g2 hlt (path_take g4 j hj) g5 g6];refine gd_ex ⟨⟨by decide,by omega,by omega⟩,trivial,trivial⟩ (lt_ex ?_);simp only[sg_ok g1 g2 hld pd g5' g6,sg_ok g1 g2 g3 g4 g5 g6];refine gd_ex ⟨⟨by omega,by omega,by omega⟩,trivial,trivial⟩ (lt_ex ?_);refine gd_ex ⟨fun _=>⟨by simp only; omega,by simp only; omega⟩,trivial⟩ ⟨_,rfl,?_⟩;rw[hsp];simp
end Go.Proofs.YtphnknndgfgepaaGreatDoor
end
