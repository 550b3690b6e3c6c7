/- The delay of a link: the law as a plain function gives true for all data. -/
import Derived.Test.YtphnknndgfgepaaGreatDoorWG
import Derived.Test.YtphnknndgfgepaaGreatDoorF7Ad
import Derived.Test.YtphnknndgfgepaaGreatDoorWF
section
namespace Go.Proofs.YtphnknndgfgepaaGreatDoor
open Go Go.Proofs Go.Proofs.Sv Go.Proofs.Xv Go.Proofs.Xl Go.Proofs.Xd
theorem r52(c:Y65)(hc:wf y65 c):u52 c=some (cornerB c):=by
 have ef:∀a b,u110 a b=some (decide (100<=a)&&decide (a<=b)&&decide (b<=5000)):=fun _ _=>rfl;unfold u52 cornerB;rw[r109 _ hc.1,vS,ef,vS,ef,vS,gP ⟨rfl,(fun _=>rfl),(fun _=>rfl),trivial⟩]
def facBad(c:Y65)(i:Nat):Bool:=!inB ([c.2.1,c.2.2.1,c.2.2.2.1,c.2.2.2.2].getD i 0) 100 5000
theorem r96(c:Y65)(hc:wf y65 c):u96 c=some (cornerB c):=by
 unfold u96;rw[lE];have key:=lp_all (n:=4) (by decide) (facBad c) (some false) (e:=u96J0 c ()) (F:=u96L1 [c.2.1,c.2.2.1,c.2.2.2.1,c.2.2.2.2] c) (fun g i hi=>by
  have e3:((i:Int)).toNat=i:=rfl;have hl:([c.2.1,c.2.2.1,c.2.2.2.1,c.2.2.2.2]:List Int).length=4:=rfl;refine(if_pos (decide_eq_true (by rw[hl]; omega))).trans ?_;rw[e3,r97,vS,gP ⟨⟨by omega,by rw[hl]; omega⟩,hi,rfl,trivial⟩,gP ⟨oo,trivial⟩];rfl) (fun g=>by
  show u96L1 [c.2.1,c.2.2.1,c.2.2.2.1,c.2.2.2.2] c g (((4:Nat):Int))=_;rw[u96L1];exact if_neg (by simp))
 refine key.trans ?_;have ej:u96J0 c ()=some (nmB c.1&&decide (c.2.1<=c.2.2.1)&&decide (c.2.2.2.1<=c.2.2.2.2)):=by
  unfold u96J0;rw[r151 _ hc.1,vS,gP ⟨rfl,trivial⟩]
 rw[ej];have ea:(List.range 4).any (facBad c)=(!inB c.2.1 100 5000||(!inB c.2.2.1 100 5000||(!inB c.2.2.2.1 100 5000||(!inB c.2.2.2.2 100 5000||false)))):=rfl;have eq:(if(List.range 4).any (facBad c)=true then false else(nmB c.1&&decide (c.2.1<=c.2.2.1)&&decide (c.2.2.2.1<=c.2.2.2.2)))=cornerB c:=by
  rw[ea,Bool.eq_iff_iff];unfold cornerB inB;by_cases h:(!(decide (100<=c.2.1)&&decide (c.2.1<=5000))||(!(decide (100<=c.2.2.1)&&decide (c.2.2.1<=5000))||(!(decide (100<=c.2.2.2.1)&&decide (c.2.2.2.1<=5000))||(!(decide (100<=c.2.2.2.2)&&decide (c.2.2.2.2<=5000))||false))))=true
  ·rw[if_pos h];simp only[Bool.or_eq_true,Bool.not_eq_true',Bool.and_eq_false_iff,decide_eq_false_iff_not,Bool.false_eq_true,or_false] at h;simp only[ba,dq,Bool.false_eq_true,false_iff];rintro⟨⟨_,h1⟩,h2⟩;omega
  ·rw[if_neg h];simp only[Bool.or_eq_true,Bool.not_eq_true',Bool.and_eq_false_iff,decide_eq_false_iff_not,Bool.false_eq_true,or_false] at h;simp only[ba,dq];constructor
   ·rintro⟨⟨h1,h2⟩,h3⟩;exact⟨⟨h1,by omega⟩,by omega⟩
   ·rintro⟨⟨h1,h2⟩,h3⟩;exact⟨⟨h1,by omega⟩,by omega⟩
 rw[<- eq];split <;> rfl
def ldF(b:Y34)(c:Y65)(q s m r:Int):Int×Int:=if(blockOk b&&cornerB c)=true then lkF b q s m r else(0,1)
theorem q47(b:Y34)(hw:wf y34 b)(hm:cnt y34 b<=1048576)(c:Y65)(hc:wf y65 c)(q s m r:Int)(hr:blockOk b=true->cornerB c=true->inB q 0 (((lV b).length:Int)-1)=true->u103 (viewV b) c q s m=some r):u47 b c q s m=some (ldF b c q s m r):=by
 unfold u47 ldF lkF;rw[r65 b hw hm,vS,r52 c hc,vS,gP ⟨rfl,(fun _=>rfl),trivial⟩];cases hb:blockOk b with
 | false=>rfl
 | true =>
   cases hc':cornerB c with
   | false=>rfl
   | true =>
     refine(if_neg (by simp)).trans ?_;rw[r66 b hw hb,vS,gP ⟨rfl,trivial⟩,lE,r102 hb,vS,gP ⟨rfl,trivial⟩];cases h1:inB q 0 (((lV b).length:Int)-1) with
     | false=>rfl
     | true =>
       refine(if_neg (by simp)).trans ?_;rw[r93,vS,r94,vS,gP ⟨rfl,(fun _=>rfl),trivial⟩];cases h2:inB s 0 1000000 with
       | false=>rfl
       | true =>
         cases h3:modeB m with
         | false=>rfl
         | true =>
           refine(if_neg (by simp)).trans ?_;rw[hr hb hc' h1,vS,gP ⟨rfl,trivial⟩,lE];rfl
theorem q48(b:Y34)(hw:wf y34 b)(hm:cnt y34 b<=1048576)(c:Y65)(hc:wf y65 c)(q s m r:Int)(hr:blockOk b=true->cornerB c=true->inB q 0 (((lV b).length:Int)-1)=true->u99 b c ((lV b).getD q.toNat (dflt y48)) s m=some r):u48 b c q s m=some (ldF b c q s m r):=by
 unfold u48 ldF lkF;rw[r23 b hw hm,vS,r96 c hc,vS,gP ⟨rfl,(fun _=>rfl),trivial⟩];cases hb:blockOk b with
 | false=>rfl
 | true =>
   cases hc':cornerB c with
   | false=>rfl
   | true =>
     refine(if_neg (by simp)).trans ?_;rw[r104 hw hb,vS,gP ⟨rfl,trivial⟩,lE];unfold codeL;cases h1:inB q 0 (((lV b).length:Int)-1) with
     | false=>rfl
     | true =>
       cases h2:inB s 0 1000000 with
       | false=>rfl
       | true =>
         cases h3:modeB m with
         | false=>rfl
         | true =>
           obtain⟨x1,x2⟩:=link_ix h1;refine(if_neg (by simp)).trans ?_;rw[r59 b hw hb,vS,hr hb hc' h1,vS,gP ⟨rfl,x1,x2,rfl,trivial⟩,lE];rfl
theorem both_ld(b:Y34)(hw:wf y34 b)(hm:cnt y34 b<=1048576)(c:Y65)(hc:wf y65 c)(q s m:Int):∃v:Int×Int,u47 b c q s m=some v/\u48 b c q s m=some v:=by
 by_cases h:blockOk b=true/\cornerB c=true/\inB q 0 (((lV b).length:Int)-1)=true
 ·obtain⟨hb,hc',h1⟩:=h;obtain⟨r,e1,e2,_⟩:=r103ay2 hw hb hc' h1 s m;exact⟨_,q47 b hw hm c hc q s m r (fun _ _ _=>e1),q48 b hw hm c hc q s m r (fun _ _ _=>e2)⟩
 ·exact⟨_,q47 b hw hm c hc q s m 0 (fun a b c=>(h ⟨a,b,c⟩).elim),q48 b hw hm c hc q s m 0 (fun a b c=>(h ⟨a,b,c⟩).elim)⟩
end Go.Proofs.YtphnknndgfgepaaGreatDoor
end
section
namespace Go.Proofs.YtphnknndgfgepaaGreatDoor
open Go Go.Proofs Go.Proofs.Xv Go.Proofs.Xl Go.Proofs.Xd
theorem divV_pos{a b:Int}(m:Int)(ha:0<=a)(hb:0<b):0<=divV a b m:=by
 unfold divV;have h1:=Int.emod_nonneg a (Int.ne_of_gt hb);have h2:0<=a / b:=Int.ediv_nonneg ha (Int.le_of_lt hb);rw[Int.tdiv_eq_ediv_of_nonneg ha,Int.tmod_eq_emod_of_nonneg ha,if_neg (by rw[ba,dq]; omega)];split <;> omega
theorem minN_le(xs:List Int):∀n i,i<=n->fN (fun i m=>min m (xs.getD (i+1) 0)) n (xs.getD 0 0)<=xs.getD i 0
 | 0,i,h=>by
   have:i=0:=by omega
   subst this;exact Int.le_refl _
 | n+1,i,h=>by
   show min (fN (fun i m=>min m (xs.getD (i+1) 0)) n (xs.getD 0 0)) (xs.getD (n+1) 0)<=_;rcases Nat.lt_or_ge n i with h' | h'
   ·have:i=n+1:=by omega
    subst this;omega
   ·have:=minN_le xs n i h';omega
theorem tables_pos{l:List DTbl}(h:areTables l true=true){t:DTbl}(ht:t∈l):∀i,i<t.2.2.length->0<=t.2.2.getD i 0:=fun i hi=>by
 unfold areTables at h;rw[ba] at h;have:=List.all_eq_true.1 h.2 t ht;simp only[Bool.true_and,ba,Bool.not_eq_true',decide_eq_false_iff_not] at this;have h1:=minN_le t.2.2 (t.2.2.length-1) i (by omega);have h2:¬minN t.2.2<0:=this.2;unfold minN at h2;omega
theorem rowX_pos{t:Y140}(hp:∀i,i<t.2.2.length->0<=t.2.2.getD i 0){r q:Nat}{w c d:Int}(w0:0<=w)(c0:0<=c)(d0:0<=d):0<=rowX t r q w c d:=by
 have hv:∀r q,0<=celV t r q:=fun r q=>by
  unfold celV;rcases Nat.lt_or_ge (r*t.2.1.length+q) t.2.2.length with h | h
  ·exact hp _ h
  ·rw[gq,List.getElem?_eq_none h]; exact Int.le_refl _
 unfold rowX;have h1:=Int.mul_nonneg (Int.mul_nonneg (hv r q) w0) c0;have h2:=Int.mul_nonneg (Int.mul_nonneg (hv r (q+1)) w0) d0;omega
theorem look_pos{t:Y140}(ht:isTable t=true)(hp:∀i,i<t.2.2.length->0<=t.2.2.getD i 0)(s l m:Int):∀r,u161 t s l m=some r->0<=r:=by
 intro r hr;have hax:isAxis t.1=true/\isAxis t.2.1=true:=by
  simp only[isTable,ba] at ht;exact⟨ht.1.1.1,ht.1.1.2⟩
 obtain⟨p,a,b,L,hpp,hL,h1,h2⟩:=shape s hax.1;obtain⟨q,c,d,M,hq,hM,h3,h4⟩:=shape l hax.2;have hab:0<=a/\0<=b/\1<=a+b/\a+b<=100000/\a<=100000/\b<=100000/\(b≠0->p+1<t.1.length):=by
  rcases hL with ⟨rfl,rfl,_⟩ | ⟨_,_,_,_,_⟩ <;> omega
 have hcd:0<=c/\0<=d/\1<=c+d/\c+d<=100000:=by
  rcases hM with ⟨rfl,rfl,_⟩ | ⟨_,_,_,_,_⟩ <;> omega
 have hm:=mul_bd (A:=100000) (B:=100000) (x:=a+b) (y:=c+d) (by omega) (by omega) (by omega) (by omega) (by decide);have hpos:0 < (a+b)*(c+d):=Int.mul_pos (by omega) (by omega);have x1:=rowX_wt ht hpp hq hM (w:=a) (by omega);have x2 : -(1000000*(b*(c+d)))<=(if b=0 then 0 else rowX t (p+1) q b c d)/\(if b=0 then 0 else rowX t (p+1) q b c d)<=1000000*(b*(c+d)):=by
  by_cases hz:b=0
  ·rw[if_pos hz,hz,Int.zero_mul]; decide
  ·rw[if_neg hz]; exact rowX_wt ht (hab.2.2.2.2.2.2 hz) hq hM (by omega)
 have y1:=rowX_pos hp (r:=p) (q:=q) hab.1 hcd.1 hcd.2.1;have y2:0<=(if b=0 then 0 else rowX t (p+1) q b c d):=by
  split
  ·exact Int.le_refl _
  ·exact rowX_pos hp hab.2.1 hcd.1 hcd.2.1
 have ed:1000000*((a+b)*(c+d))=1000000*(a*(c+d))+1000000*(b*(c+d)):=by rw[Int.add_mul,Int.mul_add 1000000]
 have hr1:=(r1622 (rowX t p q a c d+(if b=0 then 0 else rowX t (p+1) q b c d)) ((a+b)*(c+d)) m (by omega) (by omega) hpos).1;have i1:in64 ((a+b)*(c+d)):=oo;have key:u161 t s l m=some (divV (rowX t p q a c d+(if b=0 then 0 else rowX t (p+1) q b c d)) ((a+b)*(c+d)) m):=by
  unfold u161;rw[h2,gP ⟨rfl,trivial⟩,vS,lE,h4,gP ⟨rfl,trivial⟩,vS,lE,look1 ht hpp hq hL hM,u161J0,hr1,gP ⟨i1,rfl,trivial⟩,vS,lE]
 rw[key] at hr;cases hr;exact divV_pos m (by omega) hpos
end Go.Proofs.YtphnknndgfgepaaGreatDoor
end
section
namespace Go.Proofs.YtphnknndgfgepaaGreatDoor
open Go Go.Proofs Go.Proofs.Sv Go.Proofs.Xv Go.Proofs.Xl Go.Proofs.Xd
theorem divV_val{a:Int}(m:Int)(h:0<=a):divV a 1000 m=if 0<a % 1000/\m=1 then a / 1000+1 else a / 1000:=by
 unfold divV;have h1:=Int.emod_nonneg a (show(1000:Int)≠0 by decide);rw[Int.tdiv_eq_ediv_of_nonneg h,Int.tmod_eq_emod_of_nonneg h,if_neg (by rw[ba,dq]; omega)];by_cases c:0<a % 1000/\m=1
 ·rw[if_pos c,if_pos (by rw[ba,dq,beq_iff_eq]; exact c)]
 ·rw[if_neg c,if_neg (by rw[ba,dq,beq_iff_eq]; exact c)]
theorem divV_mono{a a':Int}(m:Int)(h:0<=a)(h2:a<=a'):divV a 1000 m<=divV a' 1000 m:=by
 rw[divV_val m h,divV_val m (by omega)];split <;> split <;> omega
theorem divV_01{a a':Int}(h:0<=a)(h2:a<=a'):divV a 1000 0<=divV a' 1000 1:=by
 rw[divV_val 0 h,divV_val 1 (by omega)];rw[if_neg (by omega)];split <;> omega
theorem mul_le'{p x y:Int}(hp:0<=p)(h:x<=y):p*x<=p*y:=Int.mul_le_mul_of_nonneg_left h hp
section
variable {b:Y34}
structure DelV(b:Y34)(q:Int)(B:Int->Int->Int):Prop where
 bd:∀s m,0<=B s m/\B s m<=1000000
 val:∀c,cornerB c=true->∀s m,u103 (viewV b) c q s m=some (divV (B s m*facV c ((lV b).getD q.toNat (dflt y48)).2.2.1 m) 1000 m)
theorem del_val(hb:blockOk b=true){q:Int}(hq:inB q 0 (((lV b).length:Int)-1)=true):∃B,DelV b q B:=by
 have hq:=inB_iff.1 hq;have hqx:ix q (viewV b).2.2.1.length:=⟨hq.1,by show q < ((lV b).length:Int); omega⟩;generalize hl:(lV b).getD q.toNat (dflt y48)=l;have hl':(viewV b).2.2.1.getD q.toNat (dflt y48)=l:=hl;have hmem:l∈lV b:=by rw[<- hl]; exact getD_mem (by omega)
 have tail:∀(c:Y65) (m p:Int),cornerB c=true -> -1000000<=p->p<=1000000->u103J0 c l m p=some (divV (p*facV c l.2.2.1 m) 1000 m):=fun c m p hc p0 p1=>by
  have hf:=fac_bd hc l.2.2.1 m;have hp:=mul_bd (A:=1000000) (B:=5000) (x:=p) (y:=facV c l.2.2.1 m) (by omega) (by omega) (by omega) (by omega) (by decide);have hd:=r1622 (p*facV c l.2.2.1 m) 1000 m (by omega) (by omega) (by decide);have hsc:u163 p (facV c l.2.2.1 m) m=some (divV (p*facV c l.2.2.1 m) 1000 m):=by
   unfold u163;rw[hd.1,vS,gP ⟨oo,rfl,trivial⟩,lE]
  rw[u103J0,r164,vS,hsc,vS,gP ⟨rfl,rfl,trivial⟩,lE]
 rcases link_facts hb hmem with ⟨a,n,h⟩ | ⟨n,k,h⟩
 ·obtain⟨t1,t2⟩:=tables_at h.del h.trs;have hlt:(l.2.1.tmod 2).toNat<a.2.2.2.2.1.length:=by have:=t1.1; have:=t1.2; omega
  have hps:=tables_pos h.del (getD_mem (d:=dflt y140) hlt);obtain⟨g1,g2⟩:=load_at b h.nlt;refine⟨fun s m=>vl (u161 (a.2.2.2.2.1.getD (l.2.1.tmod 2).toNat (dflt y140)) s ((loadsV b n).getD 0 0) m),⟨fun s m=>?_,fun c hc s m=>?_⟩⟩
  ·obtain⟨r,l1,l2,l3,l4⟩:=r1612 t2 s ((loadsV b n).getD 0 0) m;have:=look_pos t2 hps s ((loadsV b n).getD 0 0) m r l1;rw[l1,vS];omega
  ·obtain⟨r,l1,l2,l3,l4⟩:=r1612 t2 s ((loadsV b n).getD 0 0) m;show _=some (divV (vl (u161 (a.2.2.2.2.1.getD (l.2.1.tmod 2).toNat (dflt y140)) s ((loadsV b n).getD 0 0) m)*facV c ((lV b).getD q.toNat (dflt y48)).2.2.1 m) 1000 m);rw[hl];unfold u103;refine(gP ⟨hqx,trivial⟩).trans ?_;rw[lE,hl',r160 h.pix h.net,vS,gP ⟨rfl,trivial⟩,lE];refine(if_pos (by rw[h.kind]; rfl)).trans ?_;rw[r105 h,vS,g1,l1,vS];refine(gP ⟨rfl,by decide,t1,g2,rfl,trivial⟩).trans ?_;rw[lE];exact tail c m r hc l3 l4
 ·have no:=net_ok hb h.nlt;obtain⟨dl,db⟩:=no.delays;have hd:=db (nodeS b n k).toNat;obtain⟨g1,g2⟩:=dels_at b h.nlt;have hel:=exact_len b n;have hkl:=h.klt;have e4:((k:Int)).toNat=k:=rfl;have hv:=fun m=>divV_bd (a:=(delaysV b n).getD (nodeS b n k).toNat 0) (b:=1000) (K:=301000) m (by decide) (by omega) (by omega);have hv0:=fun m=>divV_pos (a:=(delaysV b n).getD (nodeS b n k).toNat 0) (b:=1000) m (by omega) (by decide);refine⟨fun _ m=>divV ((delaysV b n).getD (nodeS b n k).toNat 0) 1000 m,⟨fun s m=>⟨hv0 m,by have:=(hv m).2; omega⟩,fun c hc s m=>?_⟩⟩;show _=some (divV (divV ((delaysV b n).getD (nodeS b n k).toNat 0) 1000 m*facV c ((lV b).getD q.toNat (dflt y48)).2.2.1 m) 1000 m);rw[hl];unfold u103;refine(gP ⟨hqx,trivial⟩).trans ?_;rw[lE,hl',r160 h.pix h.net,vS,gP ⟨rfl,trivial⟩,lE];refine(if_neg (by rw[h.kind]; decide)).trans ?_;rw[g1,h.idx,e4,exact_get hkl,(r1622 _ 1000 m (by omega) (by omega) (by decide)).1,vS];refine(gP ⟨g2,oo,rfl,trivial⟩).trans ?_;rw[lE];exact tail c m _ hc (by have:=hv m; omega) (by have:=hv m; omega)
end
theorem ld_zero{b:Y34}{c:Y65}{q s m r:Int}(h:(ldF b c q s m r).2=0):blockOk b=true/\cornerB c=true/\inB q 0 (((lV b).length:Int)-1)=true/\inB s 0 1000000=true/\modeB m=true:=by
 unfold ldF lkF at h;split at h
 ·rename_i h1;split at h
  ·rename_i h2;split at h
   ·rename_i h3;rw[ba] at h1 h3;exact⟨h1.1,h1.2,h2,h3.1,h3.2⟩
   ·cases h
  ·cases h
 ·cases h
theorem ld_ok{b:Y34}{c:Y65}{q s m r:Int}(h1:blockOk b=true)(h2:cornerB c=true)(h3:inB q 0 (((lV b).length:Int)-1)=true)(h4:inB s 0 1000000=true)(h5:modeB m=true):ldF b c q s m r=(r,0):=by
 unfold ldF lkF;rw[h1,h2,h3,h4,h5];rfl
theorem ld_val(b:Y34)(hw:wf y34 b)(hm:cnt y34 b<=1048576)(q:Int):∃B:Int->Int->Int,(blockOk b=true->inB q 0 (((lV b).length:Int)-1)=true->DelV b q B) /\
  ∀(c:Y65),wf y65 c->∀s m,u47 b c q s m=some (ldF b c q s m (divV (B s m*facV c ((lV b).getD q.toNat (dflt y48)).2.2.1 m) 1000 m)):=by
 by_cases h:blockOk b=true/\inB q 0 (((lV b).length:Int)-1)=true
 ·obtain⟨B,hB⟩:=del_val h.1 h.2;exact⟨B,fun _ _=>hB,fun c hc s m=>q47 b hw hm c hc q s m _ (fun _ hc' _=>hB.val c hc' s m)⟩
 ·exact⟨fun _ _=>0,fun a b=>(h ⟨a,b⟩).elim,fun c hc s m=>q47 b hw hm c hc q s m _ (fun a _ c=>(h ⟨a,c⟩).elim)⟩
theorem ceil_le{a b c:Int}(ha:0<=a)(hb:0<b)(h:a<=c*b):divV a b 1<=c:=by
 rw[divV_1 ha hb];have e:=Int.mul_ediv_add_emod a b;split
 ·rename_i hz;rcases Int.lt_or_le (a / b) c with h1 | h1
  ·omega
  ·have:=Int.mul_le_mul_of_nonneg_right h1 (show 0<=b by omega);have:b*(a / b)=a / b*b:=Int.mul_comm _ _;omega
 ·exact Int.ediv_le_of_le_mul hb h
theorem le_ceil{a b:Int}(ha:0<=a)(hb:0<b):a<=divV a b 1*b:=by
 rw[divV_1 ha hb];have e:=Int.mul_ediv_add_emod a b;have r1:=Int.emod_lt_of_pos a hb;have r2:=Int.emod_nonneg a (show b≠0 by omega);have:b*(a / b)=a / b*b:=Int.mul_comm _ _;split
 ·rw[Int.add_mul,Int.one_mul]; omega
 ·omega
theorem frac_le{a b c d:Int}(ha:0<=a)(hb:0<b)(hc:0<=c)(hd:0<d)(h:a*d<=c*b){m:Int}(hm:m=0∨m=1):divV a b m<=divV c d m:=by
 rcases hm with rfl | rfl
 ·rw[divV_0 ha hb,divV_0 hc hd,Int.le_ediv_iff_mul_le hd];have h1:=Int.mul_le_mul_of_nonneg_right (Int.ediv_mul_le a (show b≠0 by omega)) (show 0<=d by omega);have h2:a / b*d*b<=c*b:=by rw[Int.mul_assoc,Int.mul_comm d b,<- Int.mul_assoc]; omega
  exact Int.le_of_mul_le_mul_right h2 hb
 ·refine ceil_le ha hb ?_;have h1:=Int.mul_le_mul_of_nonneg_right (le_ceil hc hd) (show 0<=b by omega);have h2:a*d<=divV c d 1*b*d:=by rw[Int.mul_assoc,Int.mul_comm b d,<- Int.mul_assoc]; omega
  exact Int.le_of_mul_le_mul_right h2 hd
theorem frac_01{a b:Int}(ha:0<=a)(hb:0<b):divV a b 0<=divV a b 1:=by
 rw[divV_0 ha hb,divV_1 ha hb];split <;> omega
theorem wts_at{xs:List Int}(h:isAxis xs=true){p:Nat}(hp:p<xs.length):u195 xs (xs.getD p 0)=some ([((p:Int),1)],1):=by
 obtain⟨l1,l4⟩:=axis_len h;have e1:((xs.length:Int)-1).toNat=xs.length-1:=by omega
 have c0:xs.getD 0 0<=xs.getD p 0:=by
  rcases Nat.eq_zero_or_pos p with e | e
  ·rw[e]; exact Int.le_refl _
  ·have:=axis_lt h e hp; omega
 have c1:xs.getD p 0<=xs.getD (xs.length-1) 0:=by
  rcases Nat.lt_or_ge p (xs.length-1) with e | e
  ·have:=axis_lt h e (by omega); omega
  ·rw[show p=xs.length-1 by omega]; exact Int.le_refl _
 have ec:clampI xs (xs.getD p 0)=xs.getD p 0:=by unfold clampI; omega
 have h1:∀i,i<p->xs.getD i 0<clampI xs (xs.getD p 0):=fun i hi=>by rw[ec]; exact axis_lt h hi hp
 have h2:∀i,p<=i->i<xs.length->clampI xs (xs.getD p 0)<=xs.getD i 0:=fun i hi hl=>by
  rw[ec];rcases Nat.eq_or_lt_of_le hi with e | e
  ·rw[e]; exact Int.le_refl _
  ·have:=axis_lt h e hl; omega
 unfold u195;rw[gP ⟨oo,oo,oo,trivial⟩,e1];change lt (clampI xs (xs.getD p 0)) _=_;rw[lE,r233 (by omega) hp h1 h2,gP ⟨rfl,trivial⟩,vS,lE,if_pos (by simp only[beq_iff_eq]; omega)]
theorem look_gen{t:Y140}(ht:isTable t=true)(hp:∀i,i<t.2.2.length->0<=t.2.2.getD i 0){s l:Int}{p q:Nat}{a b c d:Int}{L M:List (Int×Int)}(hpp:p<t.1.length)(hL:Sh t.1.length p a b L)(h2:u195 t.1 s=some (L,a+b))(hq:q<t.2.1.length)(hM:Sh t.2.1.length q c d M)(h4:u195 t.2.1 l=some (M,c+d))(m:Int) :
  u161 t s l m=some (divV (rowX t p q a c d+(if b=0 then 0 else rowX t (p+1) q b c d)) ((a+b)*(c+d)) m):=by
 have hab:0<=a/\0<=b/\1<=a+b/\a+b<=100000/\a<=100000/\b<=100000/\(b≠0->p+1<t.1.length):=by
  rcases hL with ⟨rfl,rfl,_⟩ | ⟨_,_,_,_,_⟩ <;> omega
 have hcd:0<=c/\0<=d/\1<=c+d/\c+d<=100000:=by
  rcases hM with ⟨rfl,rfl,_⟩ | ⟨_,_,_,_,_⟩ <;> omega
 have hm:=mul_bd (A:=100000) (B:=100000) (x:=a+b) (y:=c+d) (by omega) (by omega) (by omega) (by omega) (by decide);have hpos:0 < (a+b)*(c+d):=Int.mul_pos (by omega) (by omega);have x1:=rowX_wt ht hpp hq hM (w:=a) (by omega);have x2 : -(1000000*(b*(c+d)))<=(if b=0 then 0 else rowX t (p+1) q b c d)/\(if b=0 then 0 else rowX t (p+1) q b c d)<=1000000*(b*(c+d)):=by
  by_cases hz:b=0
  ·rw[if_pos hz,hz,Int.zero_mul]; decide
  ·rw[if_neg hz]; exact rowX_wt ht (hab.2.2.2.2.2.2 hz) hq hM (by omega)
 have ed:1000000*((a+b)*(c+d))=1000000*(a*(c+d))+1000000*(b*(c+d)):=by rw[Int.add_mul,Int.mul_add 1000000]
 have hr1:=(r1622 (rowX t p q a c d+(if b=0 then 0 else rowX t (p+1) q b c d)) ((a+b)*(c+d)) m (by omega) (by omega) hpos).1;have i1:in64 ((a+b)*(c+d)):=oo;unfold u161;rw[h2,gP ⟨rfl,trivial⟩,vS,lE,h4,gP ⟨rfl,trivial⟩,vS,lE,look1 ht hpp hq hL hM,u161J0,hr1,gP ⟨i1,rfl,trivial⟩,vS,lE]
theorem rowX_w(t:Y140)(r q:Nat)(w c d:Int):rowX t r q w c d=w*rowX t r q 1 c d:=by
 unfold rowX;rw[Int.mul_one,Int.mul_one,Int.mul_add,<- Int.mul_assoc w,<- Int.mul_assoc w,Int.mul_comm w,Int.mul_comm w]
structure LkV(t:Y140)(l:Int)(V:Int->Int->Int):Prop where
 val:∀s m,u161 t s l m=some (V s m)
 pos:∀s m,0<=V s m
 two:∀s,V s 0<=V s 1
 lo:∀s,∃i,i<t.1.length/\V (t.1.getD i 0) 0<=V s 0
 hi:∀s,∃i,i<t.1.length/\V s 1<=V (t.1.getD i 0) 1
theorem look_lk{t:Y140}(ht:isTable t=true)(hp:∀i,i<t.2.2.length->0<=t.2.2.getD i 0)(l:Int):∃V,LkV t l V:=by
 have hax:isAxis t.1=true/\isAxis t.2.1=true:=by
  simp only[isTable,ba] at ht;exact⟨ht.1.1.1,ht.1.1.2⟩
 obtain⟨q,c,d,M,hq,hM,h3,h4⟩:=shape l hax.2;have hcd:0<=c/\0<=d/\1<=c+d/\c+d<=100000:=by
  rcases hM with ⟨rfl,rfl,_⟩ | ⟨_,_,_,_,_⟩ <;> omega
 have hR:∀r,0<=rowX t r q 1 c d:=fun r=>rowX_pos hp (by decide) hcd.1 hcd.2.1;have form:∀s,∃(p:Nat) (a b:Int),p<t.1.length/\0<=a/\0<=b/\1<=a+b/\(b≠0->p+1<t.1.length)/\∀m,u161 t s l m=some (divV (a*rowX t p q 1 c d+b*rowX t (p+1) q 1 c d) ((a+b)*(c+d)) m):=fun s=>by
  obtain⟨p,a,b,L,hpp,hL,h1,h2⟩:=shape s hax.1;have hab:0<=a/\0<=b/\1<=a+b/\(b≠0->p+1<t.1.length):=by
   rcases hL with ⟨rfl,rfl,_⟩ | ⟨_,_,_,_,_⟩ <;> omega
  refine⟨p,a,b,hpp,hab.1,hab.2.1,hab.2.2.1,hab.2.2.2,fun m=>?_⟩;rw[look_gen ht hp hpp hL h2 hq hM h4 m];by_cases hz:b=0
  ·rw[if_pos hz,rowX_w t p q a,hz,Int.zero_mul]
  ·rw[if_neg hz,rowX_w t p q a,rowX_w t (p+1) q b]
 have atp:∀p,p<t.1.length->∀m,u161 t (t.1.getD p 0) l m=some (divV (rowX t p q 1 c d) (c+d) m):=fun p hpp m=>by
  have:=look_gen ht hp (a:=1) (b:=0) hpp (.inl ⟨rfl,rfl,rfl⟩) (wts_at hax.1 hpp) hq hM h4 m;rw[this,if_pos rfl,Int.add_zero,Int.add_zero,Int.one_mul]
 have sum:∀{a b:Int} (p:Nat),0<=a->0<=b->0<=a*rowX t p q 1 c d+b*rowX t (p+1) q 1 c d:=fun p ha hb=>by
  have:=Int.mul_nonneg ha (hR p);have:=Int.mul_nonneg hb (hR (p+1));omega
 have den:∀{a b:Int},1<=a+b->0 < (a+b)*(c+d):=fun h=>Int.mul_pos (by omega) (by omega);refine⟨fun s m=>vl (u161 t s l m),⟨fun s m=>?_,fun s m=>?_,fun s=>?_,fun s=>?_,fun s=>?_⟩⟩
 ·obtain⟨p,a,b,_,_,_,_,_,h⟩:=form s;show _=some (vl (u161 t s l m));rw[h,vS]
 ·obtain⟨p,a,b,_,ha,hb,hab,_,h⟩:=form s;show 0<=vl (u161 t s l m);rw[h,vS];exact divV_pos m (sum p ha hb) (den hab)
 ·obtain⟨p,a,b,_,ha,hb,hab,_,h⟩:=form s;show vl (u161 t s l 0)<=vl (u161 t s l 1);rw[h,h,vS,vS];exact frac_01 (sum p ha hb) (den hab)
 ·obtain⟨p,a,b,hpp,ha,hb,hab,hb1,h⟩:=form s;have key:∀r,r<t.1.length->(a+b)*rowX t r q 1 c d<=a*rowX t p q 1 c d+b*rowX t (p+1) q 1 c d->∃i,i<t.1.length/\vl (u161 t (t.1.getD i 0) l 0)<=vl (u161 t s l 0):=fun r hr hle=>by
   refine⟨r,hr,?_⟩;rw[h,atp r hr,vS,vS];refine frac_le (hR r) (by omega) (sum p ha hb) (den hab) ?_ (.inl rfl);have:=Int.mul_le_mul_of_nonneg_right hle (show 0<=c+d by omega);rw[<- Int.mul_assoc,Int.mul_comm (rowX t r q 1 c d)];exact this
  by_cases hz:b=0
  ·refine key p hpp ?_;rw[hz,Int.zero_mul,Int.add_zero,Int.add_zero];exact Int.le_refl _
  ·rcases Int.le_total (rowX t p q 1 c d) (rowX t (p+1) q 1 c d) with hle | hle
   ·refine key p hpp ?_;have:=Int.mul_le_mul_of_nonneg_left hle hb;rw[Int.add_mul];omega
   ·refine key (p+1) (hb1 hz) ?_;have:=Int.mul_le_mul_of_nonneg_left hle ha;rw[Int.add_mul];omega
 ·obtain⟨p,a,b,hpp,ha,hb,hab,hb1,h⟩:=form s;have key:∀r,r<t.1.length->a*rowX t p q 1 c d+b*rowX t (p+1) q 1 c d<=(a+b)*rowX t r q 1 c d->∃i,i<t.1.length/\vl (u161 t s l 1)<=vl (u161 t (t.1.getD i 0) l 1):=fun r hr hle=>by
   refine⟨r,hr,?_⟩;rw[h,atp r hr,vS,vS];refine frac_le (sum p ha hb) (den hab) (hR r) (by omega) ?_ (.inr rfl);have:=Int.mul_le_mul_of_nonneg_right hle (show 0<=c+d by omega);rw[<- Int.mul_assoc,Int.mul_comm (rowX t r q 1 c d)];exact this
  by_cases hz:b=0
  ·refine key p hpp ?_;rw[hz,Int.zero_mul,Int.add_zero,Int.add_zero];exact Int.le_refl _
  ·rcases Int.le_total (rowX t p q 1 c d) (rowX t (p+1) q 1 c d) with hle | hle
   ·refine key (p+1) (hb1 hz) ?_;have:=Int.mul_le_mul_of_nonneg_left hle ha;rw[Int.add_mul];omega
   ·refine key p hpp ?_;have:=Int.mul_le_mul_of_nonneg_left hle hb;rw[Int.add_mul];omega
theorem wslew_two{s d:Int}(s0:0<=s)(s1:s<=1000000)(d0:0<=d)(d1:d<=301000000):∃r z,u166 s d 0=some r/\u166 s d 1=some z/\r<=z:=by
 obtain⟨f1,f2,f3⟩:=sq_forms s d;have hs:=mul_bd (A:=1000000) (B:=1000000) (x:=s) (y:=s) (by omega) (by omega) (by omega) (by omega) (by decide);have hd:=mul_bd (A:=301000000) (B:=301000000) (x:=d) (y:=d) (by omega) (by omega) (by omega) (by omega) (by decide);have hs0:0<=s*s:=Int.mul_nonneg s0 s0;have hd0:0<=d*d:=Int.mul_nonneg d0 d0;obtain⟨R,hR,hR2,eR⟩:=r197 (n:=250000*(s*s)+d*d) (by omega) (by omega);have hR0:=hR.1;have hR3:=mul_bd (A:=3000000000) (B:=3000000000) (x:=R) (y:=R) (by omega) (by omega) (by omega) (by omega) (by decide);have val:∀m,u166 s d m=some (wslewV (250000*(s*s)+d*d) m R):=fun m=>by
  unfold u166;rw[f1,eR,vS,gP ⟨oo,oo,oo,oo,oo,trivial⟩,gP ⟨rfl,trivial⟩,lE,gP ⟨(fun _=>oo),trivial⟩];unfold wslewV;split
  ·have:R.tdiv 500=R / 500:=Int.tdiv_eq_ediv_of_nonneg hR0;exact gP ⟨by decide,oo,trivial⟩
  ·rw[(r1622 R 500 m (by omega) (by omega) (by decide)).1,vS,gP ⟨rfl,trivial⟩,lE]
 refine⟨_,_,val 0,val 1,?_⟩;unfold wslewV;rw[if_neg (by simp),divV_0 hR0 (by decide)];split
 ·rw[Int.tdiv_eq_ediv_of_nonneg hR0]; omega
 ·rw[divV_1 hR0 (by decide)]; split <;> omega
def spanB(s:Int×Int):Bool:=inB s.1 (-1000000000) 1000000000&&inB s.2 (-1000000000) 1000000000&&decide (s.1<=s.2)
def slewB(s:Int×Int):Bool:=spanB s&&inB s.1 0 1000000&&inB s.2 0 1000000
theorem i106(s:Int×Int):u106 s=some (slewB s):=by
 have e:∀x,u196 x=some (inB x (-1000000000) 1000000000):=fun _=>rfl;have es:u165 s=some (spanB s):=by
  unfold u165;rw[e,e,vS,vS];exact gP ⟨rfl,fun _=>rfl,trivial⟩
 unfold u106;rw[es,vS,r93,r93,vS,vS];exact gP ⟨rfl,fun _=>rfl,fun _=>rfl,trivial⟩
def lpF(b:Y34)(c:Y65)(q:Int)(sp:Int×Int)(v:(Int×Int)×Int×Int):(Int×Int)×(Int×Int)×Int :=
 if(blockOk b&&cornerB c)=true then(if inB q 0 (((lV b).length:Int)-1)=true then(if slewB sp=true then(v.1,v.2,0) else((0,0),(0,0),2)) else((0,0),(0,0),4)) else((0,0),(0,0),1)
theorem q50(b:Y34)(hw:wf y34 b)(hm:cnt y34 b<=1048576)(c:Y65)(hc:wf y65 c)(q:Int)(sp:Int×Int)(r:(Int×Int)×Int×Int)(hr:blockOk b=true->cornerB c=true->inB q 0 (((lV b).length:Int)-1)=true->slewB sp=true->u107 (viewV b) c q sp=some r):u50 b c q sp=some (lpF b c q sp r):=by
 unfold u50 lpF;rw[r65 b hw hm,vS,r52 c hc,vS,gP ⟨rfl,(fun _=>rfl),trivial⟩];cases hb:blockOk b with
 | false=>rfl
 | true =>
   cases hc':cornerB c with
   | false=>rfl
   | true =>
     refine(if_neg (by simp)).trans ?_;rw[r66 b hw hb,vS,gP ⟨rfl,trivial⟩,lE,r102 hb,vS,gP ⟨rfl,trivial⟩];cases h1:inB q 0 (((lV b).length:Int)-1) with
     | false=>rfl
     | true =>
       refine(if_neg (by simp)).trans ?_;rw[i106 sp,vS,gP ⟨rfl,trivial⟩];cases h2:slewB sp with
       | false=>rfl
       | true =>
         refine(if_neg (by simp)).trans ?_;rw[hr hb hc' h1 h2,vS,gP ⟨rfl,trivial⟩,lE];rfl
def bdStep(dE dL:Int->Int)(S:List Int)(i:Nat)(s:Int×Int):Int×Int:=(min s.1 (dE (S.getD i 0)),max s.2 (dL (S.getD i 0)))
def bdV(dE dL:Int->Int)(S:List Int):Int×Int:=fN (bdStep dE dL S) S.length (dE (S.getD 0 0),dL (S.getD 0 0))
theorem r49J{v:Y100}{c:Y65}{q:Int}{dE dL:Int->Int}(hE:∀s,u103 v c q s 0=some (dE s))(hL:∀s,u103 v c q s 1=some (dL s)){S:List Int}(h0:0<S.length)(h1:S.length<=1000):u49J0 v c q S=some (bdV dE dL S,0):=by
 have e0:S.getD (Int.toNat (0:Int)) (0:Int)=S.getD 0 0:=rfl;rw[u49J0,e0,hE,hL,vS,vS];refine(gP ⟨⟨by decide,by omega⟩,rfl,⟨by decide,by omega⟩,rfl,trivial⟩).trans ?_;rw[lE];refine(lF (n:=S.length) (by omega) (fun i (s:Int×Int)=>((i:Int),s.1,s.2)) (bdStep dE dL S) (fun _ _=>True) (J:=fun s=>some (s,0)) (F:=u49L2 v c q S) (fun g i s hi _=>?_) (fun _ _ _ _=>trivial) (fun g s _=>?_) (dE (S.getD 0 0),dL (S.getD 0 0)) trivial).trans rfl
 ·have e3:((i:Int)).toNat=i:=rfl;refine(if_pos (decide_eq_true (by omega))).trans ?_;rw[e3,hE,hL,vS,vS];refine(gP ⟨oo,trivial⟩).trans ((gP ⟨rfl,trivial⟩).trans ?_);rw[lE];refine(gP ⟨rfl,trivial⟩).trans ?_;rw[lE];exact gP ⟨oo,trivial⟩
 ·exact if_neg (by simp)
theorem bds_ok(b:Y34)(hw:wf y34 b)(hm:cnt y34 b<=1048576)(c:Y65)(hc:wf y65 c)(q:Int):u49 b c q=if blockOk b=true/\cornerB c=true then(if(!inB q 0 (((lV b).length:Int)-1))=true then some ((((0:Int),(0:Int)),(4:Int))) else gd (ix q (lV b).length/\True)<|lt ((lV b).getD q.toNat (dflt y48)) fun v4=>if(v4.2.2.1==1)=true then gd ((u105 (viewV b) v4).isSome=true/\(0:Int) < (2:Int)/\ix (v4.2.1.tmod (2:Int)) (vl (u105 (viewV b) v4)).2.2.2.2.1.length/\True)<|lt ((vl (u105 (viewV b) v4),(vl (u105 (viewV b) v4)).2.2.2.2.1.getD (v4.2.1.tmod 2).toNat (dflt y140))) fun(_,v6)=>u49J0 (viewV b) c q v6.1 else u49J0 (viewV b) c q [0]) else some ((((0:Int),(0:Int)),(1:Int))):=by
 unfold u49;rw[r65 b hw hm,vS,r52 c hc,vS,gP ⟨rfl,(fun _=>rfl),trivial⟩];cases hb:blockOk b with
 | false=>rfl
 | true =>
   cases hc':cornerB c with
   | false=>rfl
   | true =>
     refine(if_neg (by simp)).trans (Eq.trans ?_ (if_pos ⟨rfl,rfl⟩).symm);rw[r66 b hw hb,vS,gP ⟨rfl,trivial⟩,lE,r102 hb,vS,gP ⟨rfl,trivial⟩];rfl
theorem bd_in(dE dL:Int->Int)(S:List Int):∀n,((fN (bdStep dE dL S) n (dE (S.getD 0 0),dL (S.getD 0 0))).1<=dE (S.getD 0 0)/\dL (S.getD 0 0)<=(fN (bdStep dE dL S) n (dE (S.getD 0 0),dL (S.getD 0 0))).2)/\∀i,i<n->(fN (bdStep dE dL S) n (dE (S.getD 0 0),dL (S.getD 0 0))).1<=dE (S.getD i 0)/\dL (S.getD i 0)<=(fN (bdStep dE dL S) n (dE (S.getD 0 0),dL (S.getD 0 0))).2
 | 0=>⟨⟨Int.le_refl _,Int.le_refl _⟩,fun i hi=>(Nat.not_lt_zero _ hi).elim⟩
 | n+1=>by
   obtain⟨h1,h2⟩:=bd_in dE dL S n;show(min (fN (bdStep dE dL S) n (dE (S.getD 0 0),dL (S.getD 0 0))).1 (dE (S.getD n 0))<=_/\_<=max (fN (bdStep dE dL S) n (dE (S.getD 0 0),dL (S.getD 0 0))).2 (dL (S.getD n 0)))/\∀i,i<n+1->min (fN (bdStep dE dL S) n (dE (S.getD 0 0),dL (S.getD 0 0))).1 (dE (S.getD n 0))<=_/\_<=max (fN (bdStep dE dL S) n (dE (S.getD 0 0),dL (S.getD 0 0))).2 (dL (S.getD n 0));refine⟨oo,fun i hi=>?_⟩;rcases Nat.lt_or_ge i n with c | c
   ·have:=h2 i c;omega
   ·have:i=n:=by omega
    subst this;omega
section
variable {b:Y34}
theorem del_cell(hb:blockOk b=true){q:Int}(hq:inB q 0 (((lV b).length:Int)-1)=true){a:DArc}{n:Nat}(h:LinkC b ((lV b).getD q.toNat (dflt y48)) a n){V:Int->Int->Int}(hV:LkV (a.2.2.2.2.1.getD (((lV b).getD q.toNat (dflt y48)).2.1.tmod 2).toNat (dflt y140)) ((loadsV b n).getD 0 0) V)(hV1:∀s m,V s m<=1000000){c:Y65}(hc:cornerB c=true)(s m:Int) :
  u103 (viewV b) c q s m=some (divV (V s m*facV c ((lV b).getD q.toNat (dflt y48)).2.2.1 m) 1000 m):=by
 have hq:=inB_iff.1 hq;have hqx:ix q (viewV b).2.2.1.length:=⟨hq.1,by show q < ((lV b).length:Int); omega⟩;generalize hl:(lV b).getD q.toNat (dflt y48)=l at h hV;have hl':(viewV b).2.2.1.getD q.toNat (dflt y48)=l:=hl;have p0:=hV.pos s m;have p1:=hV1 s m;have hf:=fac_bd hc l.2.2.1 m;have hp:=mul_bd (A:=1000000) (B:=5000) (x:=V s m) (y:=facV c l.2.2.1 m) (by omega) (by omega) (by omega) (by omega) (by decide);have hd:=r1622 (V s m*facV c l.2.2.1 m) 1000 m (by omega) (by omega) (by decide);have hsc:u163 (V s m) (facV c l.2.2.1 m) m=some (divV (V s m*facV c l.2.2.1 m) 1000 m):=by
  unfold u163;rw[hd.1,vS,gP ⟨oo,rfl,trivial⟩,lE]
 obtain⟨t1,t2⟩:=tables_at h.del h.trs;obtain⟨g1,g2⟩:=load_at b h.nlt;unfold u103;refine(gP ⟨hqx,trivial⟩).trans ?_;rw[lE,hl',r160 h.pix h.net,vS,gP ⟨rfl,trivial⟩,lE];refine(if_pos (by rw[h.kind]; rfl)).trans ?_;rw[r105 h,vS,g1,hV.val,vS];refine(gP ⟨rfl,by decide,t1,g2,rfl,trivial⟩).trans ?_;rw[lE];show u103J0 c l m (V s m)=_;rw[u103J0,r164,vS,hsc,vS,gP ⟨rfl,rfl,trivial⟩,lE]
theorem lk_at(hb:blockOk b=true){T:List Y140}(hT:areTables T true=true){x:Int}(hx:x=0∨x=1)(l:Int):∃V,LkV (T.getD x.toNat (dflt y140)) l V/\∀s m,V s m<=1000000:=by
 obtain⟨t1,t2⟩:=tables_at hT hx;have hlt:x.toNat<T.length:=by have:=t1.1; have:=t1.2; omega
 obtain⟨V,hV⟩:=look_lk t2 (tables_pos hT (getD_mem (d:=dflt y140) hlt)) l;refine⟨V,hV,fun s m=>?_⟩;obtain⟨r,l1,_,_,l4⟩:=r1612 t2 s l m;have:=hV.val s m;rw[l1] at this;cases this;exact l4
theorem bd_ok(hw:wf y34 b)(hm:cnt y34 b<=1048576)(hb:blockOk b=true){c:Y65}(hwc:wf y65 c)(hc:cornerB c=true){q:Int}(hq:inB q 0 (((lV b).length:Int)-1)=true) :
  ∃v:Y75,u49 b c q=some (v,0)/\∃d:Int->Int->Int,(∀s m,u103 (viewV b) c q s m=some (d s m))/\∀s,v.1<=d s 0/\d s 0<=d s 1/\d s 1<=v.2:=by
 obtain⟨x1,x2⟩:=link_ix hq;have hmem:(lV b).getD q.toNat (dflt y48)∈lV b:=getD_mem x2;rw[bds_ok b hw hm c hwc q,if_pos ⟨hb,hc⟩,hq];have f0:=fun k=>fac_bd hc k 0;have f1:=fun k=>fac_bd hc k 1;have fac01:∀k,facV c k 0<=facV c k 1:=fun k=>by
  have h:=hc;unfold cornerB at h;simp only[ba,dq] at h;unfold facV;have e0:((0:Int)==0)=true:=rfl;have e1:((1:Int)==0)=false:=rfl;rw[e0,e1];split <;> simp only[if_true,Bool.false_eq_true,if_false] <;> omega
 rcases link_facts hb hmem with ⟨a,n,h⟩ | ⟨n,k,h⟩
 ·obtain⟨t1,t2⟩:=tables_at h.del h.trs;obtain⟨g1,g2,_⟩:=table_len t2;obtain⟨V,hV,hV1⟩:=lk_at hb h.del h.trs ((loadsV b n).getD 0 0);have hd:=fun s m=>del_cell hb hq h hV hV1 hc s m;generalize hlk:(lV b).getD q.toNat (dflt y48)=l at h hV hd t1 t2 g1 g2;refine⟨bdV (fun s=>divV (V s 0*facV c l.2.2.1 0) 1000 0) (fun s=>divV (V s 1*facV c l.2.2.1 1) 1000 1) (a.2.2.2.2.1.getD (l.2.1.tmod 2).toNat (dflt y140)).1,?_,fun s m=>divV (V s m*facV c l.2.2.1 m) 1000 m,hd,fun s=>⟨?_,?_,?_⟩⟩
  ·refine(if_neg (by simp)).trans ((gP ⟨x1,trivial⟩).trans ?_);rw[lE];refine(if_pos (by rw[h.kind]; rfl)).trans ?_;rw[r105 h,vS];refine(gP ⟨rfl,by decide,t1,trivial⟩).trans ?_;rw[lE];exact r49J (S:=(a.2.2.2.2.1.getD (l.2.1.tmod 2).toNat (dflt y140)).1) (fun s=>hd s 0) (fun s=>hd s 1) (by omega) (by omega)
  ·obtain⟨i,hi,hle⟩:=hV.lo s;have h1:=((bd_in (fun s=>divV (V s 0*facV c l.2.2.1 0) 1000 0) (fun s=>divV (V s 1*facV c l.2.2.1 1) 1000 1) (a.2.2.2.2.1.getD (l.2.1.tmod 2).toNat (dflt y140)).1 _).2 i hi).1;refine Int.le_trans h1 (divV_mono 0 (Int.mul_nonneg (hV.pos _ _) (f0 _).1) ?_);exact Int.mul_le_mul_of_nonneg_right hle (f0 _).1
  ·refine divV_01 (Int.mul_nonneg (hV.pos _ _) (f0 _).1) ?_;exact Int.le_trans (Int.mul_le_mul_of_nonneg_right (hV.two s) (f0 _).1) (mul_le' (hV.pos _ _) (fac01 _))
  ·obtain⟨i,hi,hle⟩:=hV.hi s;have h1:=((bd_in (fun s=>divV (V s 0*facV c l.2.2.1 0) 1000 0) (fun s=>divV (V s 1*facV c l.2.2.1 1) 1000 1) (a.2.2.2.2.1.getD (l.2.1.tmod 2).toNat (dflt y140)).1 _).2 i hi).2;refine Int.le_trans (divV_mono 1 (Int.mul_nonneg (hV.pos _ _) (f1 _).1) ?_) h1;exact Int.mul_le_mul_of_nonneg_right hle (f1 _).1
 ·have no:=net_ok hb h.nlt;obtain⟨dl,db⟩:=no.delays;have hd:=db (nodeS b n k).toNat;obtain⟨g1,g2⟩:=dels_at b h.nlt;have hel:=exact_len b n;have hkl:=h.klt;have e4:((k:Int)).toNat=k:=rfl;have hv:=fun m=>divV_bd (a:=(delaysV b n).getD (nodeS b n k).toNat 0) (b:=1000) (K:=301000) m (by decide) (by omega) (by omega);have hv0:=fun m=>divV_pos (a:=(delaysV b n).getD (nodeS b n k).toNat 0) (b:=1000) m (by omega) (by decide);generalize hlk:(lV b).getD q.toNat (dflt y48)=l at h;have hl':(viewV b).2.2.1.getD q.toNat (dflt y48)=l:=hlk;have hdel:∀s m,u103 (viewV b) c q s m=some (divV (divV ((delaysV b n).getD (nodeS b n k).toNat 0) 1000 m*facV c l.2.2.1 m) 1000 m):=fun s m=>by
   have p0:=hv0 m;have p1:=hv m;have hf:=fac_bd hc l.2.2.1 m;have hp:=mul_bd (A:=1000000) (B:=5000) (x:=divV ((delaysV b n).getD (nodeS b n k).toNat 0) 1000 m) (y:=facV c l.2.2.1 m) (by omega) (by omega) (by omega) (by omega) (by decide);have hd:=r1622 (divV ((delaysV b n).getD (nodeS b n k).toNat 0) 1000 m*facV c l.2.2.1 m) 1000 m (by omega) (by omega) (by decide);have hsc:u163 (divV ((delaysV b n).getD (nodeS b n k).toNat 0) 1000 m) (facV c l.2.2.1 m) m=some (divV (divV ((delaysV b n).getD (nodeS b n k).toNat 0) 1000 m*facV c l.2.2.1 m) 1000 m):=by
    unfold u163;rw[hd.1,vS,gP ⟨oo,rfl,trivial⟩,lE]
   unfold u103;refine(gP ⟨x1,trivial⟩).trans ?_;rw[lE,hl',r160 h.pix h.net,vS,gP ⟨rfl,trivial⟩,lE];refine(if_neg (by rw[h.kind]; decide)).trans ?_;rw[g1,h.idx,e4,exact_get hkl,(r1622 _ 1000 m (by omega) (by omega) (by decide)).1,vS];refine(gP ⟨g2,oo,rfl,trivial⟩).trans ?_;rw[lE];show u103J0 c l m _=_;rw[u103J0,r164,vS,hsc,vS,gP ⟨rfl,rfl,trivial⟩,lE]
  refine⟨bdV (fun s=>divV (divV ((delaysV b n).getD (nodeS b n k).toNat 0) 1000 0*facV c l.2.2.1 0) 1000 0) (fun s=>divV (divV ((delaysV b n).getD (nodeS b n k).toNat 0) 1000 1*facV c l.2.2.1 1) 1000 1) [0],?_,fun s m=>divV (divV ((delaysV b n).getD (nodeS b n k).toNat 0) 1000 m*facV c l.2.2.1 m) 1000 m,hdel,fun s=>⟨?_,?_,?_⟩⟩
  ·refine(if_neg (by simp)).trans ((gP ⟨x1,trivial⟩).trans ?_);rw[lE];refine(if_neg (by rw[h.kind]; decide)).trans ?_;exact r49J (fun s=>hdel s 0) (fun s=>hdel s 1) (by decide) (by decide)
  ·exact((bd_in (fun s=>divV (divV ((delaysV b n).getD (nodeS b n k).toNat 0) 1000 0*facV c l.2.2.1 0) 1000 0) (fun s=>divV (divV ((delaysV b n).getD (nodeS b n k).toNat 0) 1000 1*facV c l.2.2.1 1) 1000 1) [0] _).2 0 (by decide)).1
  ·refine divV_01 (Int.mul_nonneg (hv0 0) (f0 _).1) ?_;exact Int.le_trans (Int.mul_le_mul_of_nonneg_right (divV_01 hd.1 (Int.le_refl _)) (f0 _).1) (mul_le' (hv0 1) (fac01 _))
  ·exact((bd_in (fun s=>divV (divV ((delaysV b n).getD (nodeS b n k).toNat 0) 1000 0*facV c l.2.2.1 0) 1000 0) (fun s=>divV (divV ((delaysV b n).getD (nodeS b n k).toNat 0) 1000 1*facV c l.2.2.1 1) 1000 1) [0] _).2 0 (by decide)).2
theorem slew_two(hw:wf y34 b)(hb:blockOk b=true){q:Int}(hq:inB q 0 (((lV b).length:Int)-1)=true){s:Int}(s0:0<=s)(s1:s<=1000000):∃r z,u108 (viewV b) q s 0=some r/\u108 (viewV b) q s 1=some z/\r<=z:=by
 obtain⟨x1,x2⟩:=link_ix hq;have hqx:ix q (viewV b).2.2.1.length:=x1;have hmem:(lV b).getD q.toNat (dflt y48)∈lV b:=getD_mem x2;rcases link_facts hb hmem with ⟨a,n,h⟩ | ⟨n,k,h⟩
 ·obtain⟨V,hV,hV1⟩:=lk_at hb h.slw h.trs ((loadsV b n).getD 0 0);obtain⟨t1,t2⟩:=tables_at h.slw h.trs;obtain⟨g1,g2⟩:=load_at b h.nlt;generalize hl:(lV b).getD q.toNat (dflt y48)=l at h hV t1 t2 g1 g2;have hl':(viewV b).2.2.1.getD q.toNat (dflt y48)=l:=hl;have val:∀m,u108 (viewV b) q s m=some (V s m):=fun m=>by
   unfold u108;refine(gP ⟨hqx,trivial⟩).trans ?_;rw[lE,hl',r160 h.pix h.net,vS,gP ⟨rfl,trivial⟩,lE];refine(if_pos (by rw[h.kind]; rfl)).trans ?_;rw[r105 h,vS,g1,hV.val,vS];refine(gP ⟨rfl,by decide,t1,g2,rfl,trivial⟩).trans ?_;rw[lE];have:=hV1 s m;have:min (V s m) 1000000=V s m:=by omega
   rw[this]
  exact⟨_,_,val 0,val 1,hV.two s⟩
 ·have no:=net_ok hb h.nlt;obtain⟨dl,db⟩:=no.delays;have hd:=db (nodeS b n k).toNat;obtain⟨g1,g2⟩:=dels_at b h.nlt;have hel:=exact_len b n;have hkl:=h.klt;generalize hl:(lV b).getD q.toNat (dflt y48)=l at h;have hl':(viewV b).2.2.1.getD q.toNat (dflt y48)=l:=hl;obtain⟨r,z,w1,w2,w3⟩:=wslew_two s0 s1 hd.1 hd.2;have val:∀m r,u166 s ((delaysV b n).getD (nodeS b n k).toNat 0) m=some r->u108 (viewV b) q s m=some (min r 1000000):=fun m r w=>by
   unfold u108;refine(gP ⟨hqx,trivial⟩).trans ?_;rw[lE,hl',r160 h.pix h.net,vS,gP ⟨rfl,trivial⟩,lE];refine(if_neg (by rw[h.kind]; decide)).trans ?_;rw[g1,h.idx];have e4:((k:Int)).toNat=k:=rfl;rw[e4,exact_get hkl,w,vS];refine(gP ⟨g2,oo,rfl,trivial⟩).trans ?_;rw[lE]
  exact⟨_,_,val 0 r w1,val 1 z w2,by omega⟩
theorem spans_one{c:Y65}{q:Int}(hq:inB q 0 (((lV b).length:Int)-1)=true){s d0 d1 l0 l1:Int}(h1:u103 (viewV b) c q s 0=some d0)(h2:u103 (viewV b) c q s 1=some d1)(h3:u108 (viewV b) q s 0=some l0)(h4:u108 (viewV b) q s 1=some l1):u107 (viewV b) c q (s,s)=some ((d0,d1),l0,l1):=by
 have hqx:ix q (viewV b).2.2.1.length:=(link_ix hq).1;unfold u107;dsimp only;rw[h1,h2];refine(gP ⟨rfl,rfl,rfl,rfl,trivial⟩).trans ?_;rw[lE];refine(gP ⟨hqx,trivial⟩).trans ?_;rw[lE];refine(if_neg ?_).trans ?_
 ·show ¬(decide ((0:Int)<0)&&_)=true;simp
 ·show u107J0 (viewV b) q (s,s) (min d0 d0,max d1 d1)=_;rw[u107J0];dsimp only;rw[h3,h4];refine(gP ⟨rfl,rfl,rfl,rfl,trivial⟩).trans ?_;simp only[vS,lE,Int.min_self,Int.max_self]
end
theorem lw10[Alw](c:List Int)(hw0:wf (.sl (.int .u8)) c):u10 c=some true:=by
 have key2:∀e:Option Bool,(∃r,e=some r/\r=true)->e=some true:=by rintro e ⟨r,rfl,rfl⟩; rfl
 refine key2 _ ?_;unfold u10;refine gd_ex ⟨rfl,trivial⟩ ?_;split
 ·exact⟨_,rfl,rfl⟩
 ·refine gd_ex ⟨trivial,trivial⟩ ⟨true,?_,rfl⟩;refine Alw.alp_of (([],([],[],[]),[]),(ByteArray.empty,0,0,0,0),0,0,0) ⟨⟨by decide,by decide⟩,⟨⟨wf_nil,wf_nil,wf_nil,wf_nil,wf_nil,trivial⟩,⟨by show(0:Nat)<=_; decide,⟨by decide,by decide⟩,⟨by decide,by decide⟩,⟨by decide,by decide⟩,⟨by decide,by decide⟩,trivial⟩,⟨by decide,by decide⟩,⟨by decide,by decide⟩,⟨by decide,by decide⟩,trivial⟩,trivial⟩ fun v0 hv=>?_;obtain⟨⟨t1,t2⟩,hw,-⟩:=hv;have hwb:wf y34 v0.1:=⟨hw.1.1,⟨hw.1.2.1,hw.1.2.2.1,hw.1.2.2.2.1⟩,hw.1.2.2.2.2.1⟩;have hwc:wf y65 v0.2.1:=⟨hw.2.1.1,hw.2.1.2.1,hw.2.1.2.2.1,hw.2.1.2.2.2.1,hw.2.1.2.2.2.2.1⟩;obtain⟨b,k,q,s,m⟩:=v0;simp only at t1 t2 hwb hwc;have hm:cnt y34 b<=1048576:=by omega
  refine(gP trivial).trans (key2 _ ?_);obtain⟨B,hB,hv⟩:=ld_val b hwb hm q;obtain⟨v,a1,a2⟩:=both_ld b hwb hm k hwc q s m;have hv1:=hv k hwc s m;rw[a1] at hv1;simp only[a1,a2,vS,Option.isSome_some];refine gd_ex ⟨trivial,trivial⟩ (lt_ex (gd_ex ⟨trivial,trivial⟩ (lt_ex ?_)));rw[if_neg (by simp)];split
  ·exact⟨_,rfl,rfl⟩
  ·rename_i hz;have hz:v.2=0:=by simpa using hz
   obtain⟨g1,g2,g3,g4,g5⟩:=ld_zero (b:=b) (c:=k) (q:=q) (s:=s) (m:=m) (r:=divV (B s m*facV k ((lV b).getD q.toNat (dflt y48)).2.2.1 m) 1000 m) (by rw[<- Option.some.inj hv1]; exact hz);have hs:=inB_iff.1 g4;obtain⟨vb,eb,d,hd,hdb⟩:=bd_ok hwb hm g1 hwc g2 g3;obtain⟨r,z,er,ez,hrz⟩:=slew_two hwb g1 g3 hs.1 hs.2;have l0:modeB 0=true:=rfl;have l1:modeB 1=true:=rfl;have hdl:∀m,modeB m=true->u47 b k q s m=some (d s m,0):=fun m hm'=>by
    rw[q47 b hwb hm k hwc q s m _ (fun _ _ _=>hd s m),ld_ok g1 g2 g3 g4 hm']
   have hsl:∀m x,modeB m=true->u108 (viewV b) q s m=some x->u51 b q s m=some (x,0):=fun m x hm' hx=>by
    rw[q51 b hwb hm q s m x (fun _ _ _ _=>hx)];unfold lsF lkF;rw[g1,g3,g4,hm'];rfl
   have hw':slewB (s,s)=true:=by
    unfold slewB spanB;simp only[ba,dq];exact⟨⟨⟨⟨inB_iff.2 oo,inB_iff.2 oo⟩,Int.le_refl _⟩,g4⟩,g4⟩
   have hsp:u50 b k q (s,s)=some ((d s 0,d s 1),(r,z),0):=by
    rw[q50 b hwb hm k hwc q (s,s) _ (fun _ _ _ _=>spans_one g3 (hd s 0) (hd s 1) er ez)];unfold lpF;rw[g1,g2,g3,hw'];rfl
   have hv2:v=(d s m,0):=by
    have:=hdl m g5;rw[a1] at this;exact Option.some.inj this
   subst hv2;simp only[eb,hdl 0 l0,hdl 1 l1,hsp,hsl 0 r l0 er,hsl 1 z l1 ez,vS,Option.isSome_some];refine gd_ex ⟨trivial,trivial⟩ (lt_ex (gd_ex ⟨trivial,trivial⟩ (lt_ex (gd_ex ⟨trivial,trivial⟩ (lt_ex (gd_ex ⟨trivial,trivial⟩ (lt_ex (gd_ex ⟨trivial,trivial⟩ (lt_ex (gd_ex ⟨trivial,trivial⟩ (lt_ex ?_)))))))))));refine gd_ex ⟨show in64 ((0:Int)+0) from⟨by decide,by decide⟩,show in64 ((0:Int)+0+0) from⟨by decide,by decide⟩,show in64 ((0:Int)+0+0+0) from⟨by decide,by decide⟩,show in64 ((0:Int)+0+0+0+0) from⟨by decide,by decide⟩,show in64 ((0:Int)+0+0+0+0+0) from⟨by decide,by decide⟩,trivial⟩ (lt_ex ⟨_,rfl,?_⟩);obtain⟨b1,b2,b3⟩:=hdb s;have x1:vb.1<=d s m/\d s m<=vb.2:=by
    rcases mode_is g5 with rfl | rfl
    ·exact⟨b1,by omega⟩
    ·exact⟨by omega,b3⟩
   simp[x1.1,x1.2,b2,hrz]
end Go.Proofs.YtphnknndgfgepaaGreatDoor
end
