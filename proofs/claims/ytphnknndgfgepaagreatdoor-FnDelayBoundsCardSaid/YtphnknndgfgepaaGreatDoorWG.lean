/- The loads of a net's wire, and the delays of its sinks: the reference's way. -/
import Derived.Test.YtphnknndgfgepaaGreatDoorWE
import Derived.Test.YtphnknndgfgepaaGreatDoorWF
import Derived.Test.YtphnknndgfgepaaGreatDoorWC
section
namespace Go.Proofs.YtphnknndgfgepaaGreatDoor
open Go Go.Proofs Go.Proofs.Sv Go.Proofs.Xv Go.Proofs.Xl Go.Proofs.Xd
theorem r232(l:List Y163)(d:Y31)(df:DF l d){p:DPlace}(hp:p∈plcs d):u232 l d p=some (capV l d p):=by
 unfold u232 capV;rcases plc_pin df hp with h | ⟨h1,h2,h3,h4,h5,h6⟩
 ·rw[if_pos (by rw[h.1]; decide),if_pos (by omega)]
 ·refine(if_neg (by simp; omega)).trans ?_;rw[if_neg (by omega),gP ⟨oo,⟨h3,by show(insOf d p.1.toNat).2.1<_; omega⟩,⟨h5,by show p.2.1 < (((l.getD (insOf d p.1.toNat).2.1.toNat (dflt y163)).2.2.1.length:Nat):Int); omega⟩,trivial⟩];rfl
theorem r169(xs:List Int)(h:xs.length<=1048576):u169 xs=some xs:=gP ⟨oo,trivial⟩
theorem r191(b:Y34)(hw:wf y34 b){i:Nat}(h:NetOk b i):u191 b (i:Int)=some (loadsV b i):=by
 have hd:=hw.2.1;have df:=h.df;have hb:=hw.2.2.1;have hi:=h.lt;have n1:=h.wf.n1;have n8:=h.wf.n8;have hsn:=h.sn;have hs:=h.s78;have hcl:=h.wf.cap;unfold u191;have e3:((i:Int)).toNat=i:=rfl;have es:u71 b.2.1 (i:Int)=some (sinksV b.2.1 i):=r71 b.2.1 hd df _;rw[gP ⟨oo,trivial⟩,lE,e3,r169 _ (by show(wirOf b i).2.2.1.length<=_; omega),vS,gP ⟨rfl,trivial⟩,lE,r124 b.2.1 hd df.fac.ni14 df.fac.np8 df.pin,vS,gP ⟨rfl,trivial⟩,lE,es,vS,gP ⟨rfl,trivial⟩,lE];have key:=lF (n:=(sinksV b.2.1 i).length) (by omega) (fun k (s:List Int)=>((k:Int),s)) (capF (nodeS b i) (capS b i)) (fun k v=>Low v (wirOf b i).1.length (500*((wirOf b i).1.length:Int)+500*(k:Int))) (J:=u191J0 (wirOf b i)) (F:=u191L1 b (plcs b.2.1) (sinksV b.2.1 i) (wirOf b i)) (fun g k v hk hI=>by
  have e4:((k:Int)).toNat=k:=rfl;obtain⟨c1,c2,c3,c4⟩:=h.capIn hk;obtain⟨c5,c6⟩:=sinksV_at hk;have hv:=hI.bd (by omega) (nodeS b i k).toNat;have c1':0<=(wirOf b i).2.2.2.getD k 0:=c1;have c2':((wirOf b i).2.2.2.getD k 0).toNat<v.length:=by rw[hI.len]; exact c2
  refine(if_pos (by simpa using hk)).trans ?_;rw[e4,r232 b.1 b.2.1 df (plc_mem c6),vS];rw[gP ⟨oo,⟨c1',by omega⟩,c2',oo,hk,⟨c5,by omega⟩,c6,rfl,⟨by show _<=v.getD (nodeS b i k).toNat 0+capS b i k; omega,by show v.getD (nodeS b i k).toNat 0+capS b i k<=_; omega⟩,⟨c1',by omega⟩,c2',trivial⟩,lE];exact gP ⟨oo,trivial⟩) (fun k v hk hI=>by
  obtain⟨c1,c2,c3,c4⟩:=h.capIn hk;have:=hI.add c2 c3;refine⟨this.len,this.pos,Int.le_trans this.sum ?_⟩;rw[Int.natCast_add,Int.mul_add];simp only[Int.natCast_one];omega) (fun g s _=>aE) (wirOf b i).2.2.1 (by
  have:=h.low 0 (Nat.zero_le _);exact this)
 refine key.trans ?_;have hl0:=(h.low _ (Nat.le_refl _)).len;have hp0:=h.pull 0 (Nat.zero_le _);have hL:loadsV b i=fN (pullF (parS b i) (wirOf b i).1.length) ((wirOf b i).1.length-1) (fN (capF (nodeS b i) (capS b i)) (sinksV b.2.1 i).length (wirOf b i).2.2.1):=rfl;rw[hL];have hpl:=h.pull;generalize fN (capF (nodeS b i) (capS b i)) (sinksV b.2.1 i).length (wirOf b i).2.2.1=v0 at hl0 hp0 hpl ⊢;rw[u191J0,hl0,gP ⟨oo,trivial⟩];have e5:(((wirOf b i).1.length:Int)-1,v0)=(fun(k:Nat) (s:List Int)=>(((wirOf b i).1.length:Int)-1-(k:Int),s)) 0 v0:=by simp
 rw[e5];exact lF (n:=(wirOf b i).1.length-1) (by omega) (fun(k:Nat) (s:List Int)=>(((wirOf b i).1.length:Int)-1-(k:Int),s)) (pullF (parS b i) (wirOf b i).1.length) (fun k v=>Pull v (wirOf b i).1.length k 43000) (J:=fun s=>some s) (F:=u191L3 (wirOf b i)) (fun g k v hk hI=>by
  have hp:=h.wf.par ((wirOf b i).1.length-1-k) (by omega) (by omega);have hp':0<=(wirOf b i).1.getD ((wirOf b i).1.length-1-k) 0/\((wirOf b i).1.getD ((wirOf b i).1.length-1-k) 0).toNat < (wirOf b i).1.length-1-k:=hp;have hlen:=hI.len;have e6:((wirOf b i).1.length:Int)-1-(k:Int)=(((wirOf b i).1.length-1-k:Nat):Int):=by omega
  have e7:((((wirOf b i).1.length-1-k:Nat):Int)).toNat=(wirOf b i).1.length-1-k:=rfl;have b1:=hI.pos ((wirOf b i).1.getD ((wirOf b i).1.length-1-k) 0).toNat;have b2:=hI.bd ((wirOf b i).1.getD ((wirOf b i).1.length-1-k) 0).toNat;have b3:=hI.pos ((wirOf b i).1.length-1-k);have b4:=hI.bd ((wirOf b i).1.length-1-k);have e8:((wirOf b i).1.length:Int)-1-((k+1:Nat):Int)=(((wirOf b i).1.length-1-k:Nat):Int)-1:=by omega
  show u191L3 (wirOf b i) g (((wirOf b i).1.length:Int)-1-(k:Int),v)=g (((wirOf b i).1.length:Int)-1-((k+1:Nat):Int),pullF (parS b i) (wirOf b i).1.length k v);rw[e8,e6];refine(if_pos (decide_eq_true (by omega))).trans ?_;rw[e7,gP ⟨oo,⟨hp'.1,by omega⟩,by omega,oo,by omega,oo,⟨hp'.1,by omega⟩,by omega,trivial⟩,lE];exact gP ⟨oo,trivial⟩) (fun k v hk hI=>pull_step hI hk (h.wf.par _ (by omega) (by omega))) (fun g s _=>by
  have e9:((wirOf b i).1.length:Int)-1-(((wirOf b i).1.length-1:Nat):Int)=0:=by omega
  show u191L3 (wirOf b i) g (((wirOf b i).1.length:Int)-1-(((wirOf b i).1.length-1:Nat):Int),s)=some s;rw[e9];have:u191L3 (wirOf b i) g (0,s)=u191J2 s:=by
   rw[u191L3];exact if_neg (by decide)
  exact this.trans rfl) v0 hp0
theorem r193(b:Y34)(hw:wf y34 b){i:Nat}(h:NetOk b i):u193 b (i:Int)=some (delaysV b i):=by
 have hi:=h.lt;have hb:=hw.2.2.1;have n1:=h.wf.n1;have n8:=h.wf.n8;have hr:=h.wf.res;obtain⟨ll,lb⟩:=h.loads;have e3:((i:Int)).toNat=i:=rfl;unfold u193;rw[r191 b hw h,vS,gP ⟨oo,trivial⟩,lE,gP ⟨rfl,trivial⟩,lE,e3];have e5:((1:Int),[(0:Int)])=(fun(k:Nat) (s:List Int)=>(((k+1:Nat):Int),s)) 0 [0]:=rfl;rw[e5];refine(lF (n:=(wirOf b i).1.length-1) (by omega) (fun(k:Nat) (s:List Int)=>(((k+1:Nat):Int),s)) (delF (parS b i) (resS b i) (fun k=>(loadsV b i).getD k 0)) (fun k s=>s.length=k+1/\∀j,0<=s.getD j 0/\s.getD j 0<=1000*43000*(k:Int)) (J:=fun s=>some s) (F:=u193L1 (wirOf b i) (loadsV b i)) (fun g k s hk hI=>?_) (fun k s hk hI=>?_) (fun g s hI=>?_) [0] ?_)
 ·obtain⟨hl,hs⟩:=hI;have hp:=h.wf.par (k+1) (by omega) (by omega);have e4:(((k+1:Nat):Int)).toNat=k+1:=rfl;have r1:=h.wf.resIn (k+1) (by omega);have l1:=lb (k+1);have hm:=mul_le r1.1 r1.2 l1.1 l1.2;have hs1:=hs ((wirOf b i).1.getD (k+1) 0).toNat;refine(if_pos (by simp; omega)).trans ?_;rw[e4,gP ⟨oo,⟨hp.1,by omega⟩,by omega,oo,oo,by omega,oo,oo,⟨by show s.length+1<=_; omega,by show(s.length+1)*8<=_; omega⟩,trivial⟩,lE];exact gP ⟨oo,trivial⟩
 ·obtain⟨hl,hs⟩:=hI;have r1:=h.wf.resIn (k+1) (by omega);have l1:=lb (k+1);have hm:=mul_le r1.1 r1.2 l1.1 l1.2;have hs1:=hs (parS b i (k+1)).toNat;unfold delF;refine⟨by rw[List.length_append,hl]; rfl,fun j=>?_⟩;have hm:0<=resS b i (k+1)*(loadsV b i).getD (k+1) 0/\resS b i (k+1)*(loadsV b i).getD (k+1) 0<=1000*43000:=hm;rcases Nat.lt_or_ge j s.length with hj | hj
  ·have:=hs j;rw[getD_left hj]; omega
  ·rw[getD_right hj];cases hjs:j-s.length with
   | zero=>simp only[List.getD_cons_zero]; omega
   | succ q=>simp only[List.getD_cons_succ,List.getD_nil]; omega
 ·have e9:(wirOf b i).1.length-1+1=(loadsV b i).length:=by omega
  show u193L1 (wirOf b i) (loadsV b i) g ((((wirOf b i).1.length-1+1:Nat):Int),s)=some s;rw[e9];exact aE
 ·exact h.del 0 (Nat.zero_le _)
def sdelV(b:Y34)(i:Nat)(m:Int):List Int:=fN (appF fun k=>divV ((delaysV b i).getD (nodeS b i k).toNat 0) 1000 m) (sinksV b.2.1 i).length []
theorem r154(b:Y34)(hw:wf y34 b){i:Nat}(h:NetOk b i)(m:Int):u154 b (i:Int) m=some (sdelV b i m):=by
 have hi:=h.lt;have hb:=hw.2.2.1;have hsn:=h.sn;have hs:=h.s78;obtain⟨dl,db⟩:=h.delays;have e3:((i:Int)).toNat=i:=rfl;unfold u154;rw[r193 b hw h,vS,gP ⟨rfl,trivial⟩,lE];unfold sdelV;rw[<- hsn];refine lF (n:=(wirOf b i).2.2.2.length) (by omega) (fun(k:Nat) (s:List Int)=>((k:Int),s)) (appF fun k=>divV ((delaysV b i).getD (nodeS b i k).toNat 0) 1000 m) (fun k s=>s.length=k) (J:=fun s=>some s) (F:=u154L1 (delaysV b i) b (i:Int) m) (fun g k s hk hI=>?_) (fun k s hk hI=>?_) (fun g s _=>?_) [] rfl
 ·have e4:((k:Int)).toNat=k:=rfl;have h1:0<=(b.2.2.getD i (dflt y110)).2.2.2.getD k 0/\((b.2.2.getD i (dflt y110)).2.2.2.getD k 0).toNat < (delaysV b i).length:=by rw[dl]; exact h.wf.snkIn k hk
  have hk':k < (b.2.2.getD i (dflt y110)).2.2.2.length:=hk;have hI:s.length=k:=hI;have hd:=db ((wirOf b i).2.2.2.getD k 0).toNat;have ed:=(r1622 ((delaysV b i).getD ((wirOf b i).2.2.2.getD k 0).toNat 0) 1000 m (by omega) (by omega) (by decide)).2;refine(gP ⟨oo,trivial⟩).trans ?_;refine(if_pos (by simpa using hk)).trans ?_;rw[e3,e4,ed,vS,gP ⟨oo,oo,⟨h1.1,by omega⟩,by omega,rfl,⟨by show s.length+1<=_; omega,by show(s.length+1)*8<=_; omega⟩,trivial⟩,lE];exact gP ⟨oo,trivial⟩
 ·have hI:s.length=k:=hI;unfold appF;rw[List.length_append,hI]; rfl
 ·refine(gP ⟨oo,trivial⟩).trans ?_;exact aE
theorem sdelV_get{b:Y34}{i k:Nat}{m:Int}(hk:k < (sinksV b.2.1 i).length):(sdelV b i m).getD k 0=divV ((delaysV b i).getD (nodeS b i k).toNat 0) 1000 m:=appF_get _ 0 _ k hk
theorem sdelV_len(b:Y34)(i:Nat)(m:Int):(sdelV b i m).length=(sinksV b.2.1 i).length:=appF_len _ _
theorem tdiv_two{q r:Int}(h:0<=q)(hr:r=0∨r=1):(2*q+r).tdiv 2=q/\((2*q+r).tmod 2=0∨(2*q+r).tmod 2=1):=by
 rw[Int.tdiv_eq_ediv_of_nonneg (by omega),Int.tmod_eq_emod_of_nonneg (by omega)];omega
structure LinkC(b:Y34)(l:DLink)(a:DArc)(n:Nat):Prop where
 kind:l.2.2.1=1
 pix:ix (l.2.1.tdiv 2) (plcs b.2.1).length
 plt:(l.2.1.tdiv 2).toNat < (plcs b.2.1).length
 iix:ix (plcOf b.2.1 (l.2.1.tdiv 2).toNat).1 b.2.1.1.length
 cix:ix (insOf b.2.1 (plcOf b.2.1 (l.2.1.tdiv 2).toNat).1.toNat).2.1 b.1.length
 aix:ix l.2.2.2 (b.1.getD (insOf b.2.1 (plcOf b.2.1 (l.2.1.tdiv 2).toNat).1.toNat).2.1.toNat (dflt y163)).2.2.2.1.length
 arc:(b.1.getD (insOf b.2.1 (plcOf b.2.1 (l.2.1.tdiv 2).toNat).1.toNat).2.1.toNat (dflt y163)).2.2.2.1.getD l.2.2.2.toNat (dflt y143)=a
 net:(plcOf b.2.1 (l.2.1.tdiv 2).toNat).2.2.1=(n:Int)
 nlt:n<b.2.2.length
 trs:l.2.1.tmod 2=0∨l.2.1.tmod 2=1
 del:areTables a.2.2.2.2.1 true=true
 slw:areTables a.2.2.2.2.2 true=true
structure LinkW(b:Y34)(l:DLink)(n k:Nat):Prop where
 kind:l.2.2.1=2
 pix:ix (l.2.1.tdiv 2) (plcs b.2.1).length
 plt:(l.2.1.tdiv 2).toNat < (plcs b.2.1).length
 net:(plcOf b.2.1 (l.2.1.tdiv 2).toNat).2.2.1=(n:Int)
 nlt:n<b.2.2.length
 idx:l.2.2.2=(k:Int)
 klt:k < (sinksV b.2.1 n).length
theorem trans_at{k s:Int}{t:Nat}(h:t < (transV k s).length):(((transV k s).getD t (0,0)).2=0∨((transV k s).getD t (0,0)).2=1):=by
 have:=(transV_ok k s).2 _ (getD_mem (d:=(0,0)) h);omega
theorem link_facts{b:Y34}(hb:blockOk b=true){l:DLink}(h:l∈lV b):(∃a n,LinkC b l a n)∨∃n k,LinkW b l n k:=by
 obtain⟨hd,hlen,_⟩:=block_design hb;have df:=df_of hd;rcases link_is h with ⟨i,j,t,hi,hj,ht,rfl⟩ | ⟨i,k,t,hi,hk,ht,rfl⟩
 ·obtain⟨x1,x2,x3⟩:=inst_cell' df hi;obtain⟨c1,c2,c3,c4⟩:=cell_arcs x2;obtain⟨a1,a2,a3,a4⟩:=c4 j hj;obtain⟨B,hB⟩:∃B:Nat,(arcOf (celI b i) j).2.2.1=(B:Int):=⟨(arcOf (celI b i) j).2.2.1.toNat,by omega⟩;have hBn:B < (insOf b.2.1 i).2.2.length:=by omega
  have lB:offs (insOf b.2.1) i+B < (plcs b.2.1).length:=by
   have:=offs_lt (insOf b.2.1) hi hBn;unfold plcs;rw[places_len]; omega
  have hp:=places_inst b.2.1.1.length b.2.1.2.2.length (insOf b.2.1) (prtOf b.2.1) (dflt y105) hi hBn;have hp:plcOf b.2.1 (offs (insOf b.2.1) i+B)=((i:Int),(B:Int),(insOf b.2.1 i).2.2.getD B 0,(B:Int)==((insOf b.2.1 i).2.2.length:Int)-1):=hp;have hn:=inB_iff.1 (df.fac.net.1 i hi B hBn);obtain⟨n,hn'⟩:∃n:Nat,(insOf b.2.1 i).2.2.getD B 0=(n:Int):=⟨((insOf b.2.1 i).2.2.getD B 0).toNat,by omega⟩;have hk3:(arcOf (celI b i) j).1<=3:=by have:=trans_kind (Nat.lt_of_le_of_lt (Nat.zero_le _) ht); omega
  obtain⟨_,k2,k3⟩:=arc_comb (arc_facts x2 hj) hk3;have etd:=tdiv_two (q:=((offs (insOf b.2.1) i+B:Nat):Int)) (Int.natCast_nonneg _) (trans_at ht);have el:(cLink (offs (insOf b.2.1) i:Int) (arcOf (celI b i) j) j t).2.1=2*((offs (insOf b.2.1) i+B:Nat):Int)+((transV (arcOf (celI b i) j).1 (arcOf (celI b i) j).2.2.2.1).getD t (0,0)).2:=by
   show 2*((offs (insOf b.2.1) i:Int)+(arcOf (celI b i) j).2.2.1)+_=_;rw[hB,Int.natCast_add]
  refine .inl ⟨arcOf (celI b i) j,n,?_⟩;have e1:((cLink (offs (insOf b.2.1) i:Int) (arcOf (celI b i) j) j t).2.1.tdiv 2)=((offs (insOf b.2.1) i+B:Nat):Int):=by rw[el]; exact etd.1
  have e2:((offs (insOf b.2.1) i+B:Nat):Int).toNat=offs (insOf b.2.1) i+B:=rfl;refine⟨rfl,?_,?_,?_,?_,?_,?_,?_,by omega,by rw[el]; exact etd.2,k2,k3⟩
  ·rw[e1]; exact oo
  ·rw[e1,e2]; exact lB
  ·rw[e1,e2,hp]; exact⟨Int.natCast_nonneg _,by show(i:Int)<_; omega⟩
  ·rw[e1,e2,hp]; exact x1
  ·rw[e1,e2,hp]; exact⟨Int.natCast_nonneg _,by show(j:Int) < ((celI b i).2.2.2.1.length:Int); omega⟩
  ·rw[e1,e2,hp]; rfl
  ·rw[e1,e2,hp]; exact hn'
 ·obtain⟨q,h1,h2,h3,_⟩:=sinkL_in (plcOf b.2.1) i (plcs b.2.1).length _ (getD_mem (d:=0) hk);have h1:(sinksV b.2.1 i).getD k 0=(q:Int):=h1;have el:(wLink (drvV b i) ((sinksV b.2.1 i).getD k 0) k t).2.1=2*(q:Int)+(t:Int):=by
   show 2*(sinksV b.2.1 i).getD k 0+_=_;rw[h1]
  have etd:=tdiv_two (q:=(q:Int)) (r:=(t:Int)) (Int.natCast_nonneg _) (by omega);have e1:((wLink (drvV b i) ((sinksV b.2.1 i).getD k 0) k t).2.1.tdiv 2)=(q:Int):=by rw[el]; exact etd.1
  have e2:((q:Int)).toNat=q:=rfl;refine .inr ⟨i,k,rfl,?_,?_,?_,hi,rfl,hk⟩
  ·rw[e1]; exact oo
  ·rw[e1,e2]; exact h2
  ·rw[e1,e2]; exact h3
theorem tables_at{l:List DTbl}{p:Bool}(h:areTables l p=true){x:Int}(hx:x=0∨x=1):ix x l.length/\isTable (l.getD x.toNat (dflt y140))=true:=by
 unfold areTables at h;rw[ba,dq] at h;have hlt:x.toNat<l.length:=by omega
 refine⟨oo,?_⟩;have:=List.all_eq_true.1 h.2 _ (getD_mem (d:=dflt y140) hlt);rw[ba] at this;exact this.1
section
variable {b:Y34}
theorem r105{l:DLink}{a:DArc}{n:Nat}(h:LinkC b l a n):u105 (viewV b) l=some a:=by
 unfold u105;refine(gP ⟨by decide,h.pix,h.iix,trivial⟩).trans ?_;rw[lE];refine(gP ⟨h.cix,h.aix,trivial⟩).trans ?_;rw[lE];exact congrArg some h.arc
theorem r160{l:DLink}{n:Nat}(h1:ix (l.2.1.tdiv 2) (plcs b.2.1).length)(h2:(plcOf b.2.1 (l.2.1.tdiv 2).toNat).2.2.1=(n:Int)):u160 (viewV b) l=some (n:Int):=by
 unfold u160;refine(gP ⟨by decide,h1,trivial⟩).trans ?_;rw[lE];exact congrArg some h2
theorem r152(hw:wf y34 b)(hb:blockOk b=true){l:DLink}{a:DArc}{n:Nat}(h:LinkC b l a n):u152 b l=some (a,(loadsV b n).getD 0 0):=by
 have df:=df_of (block_design hb).1;have no:=net_ok hb h.nlt;have n1:=no.wf.n1;have ll:=no.loads.1;unfold u152;rw[r124 b.2.1 hw.2.1 df.fac.ni14 df.fac.np8 df.pin,vS,gP ⟨rfl,by decide,h.pix,h.plt,trivial⟩,lE];show gd (ix (plcOf b.2.1 (l.2.1.tdiv 2).toNat).1 b.2.1.1.length/\ix (insOf b.2.1 (plcOf b.2.1 (l.2.1.tdiv 2).toNat).1.toNat).2.1 b.1.length/\ix l.2.2.2 (b.1.getD (insOf b.2.1 (plcOf b.2.1 (l.2.1.tdiv 2).toNat).1.toNat).2.1.toNat (dflt y163)).2.2.2.1.length/\(u191 b (plcOf b.2.1 (l.2.1.tdiv 2).toNat).2.2.1).isSome=true/\ix (0:Int) (vl (u191 b (plcOf b.2.1 (l.2.1.tdiv 2).toNat).2.2.1)).length/\Int.toNat (0:Int) < (vl (u191 b (plcOf b.2.1 (l.2.1.tdiv 2).toNat).2.2.1)).length/\True) (lt (vl (u191 b (plcOf b.2.1 (l.2.1.tdiv 2).toNat).2.2.1),(b.1.getD (insOf b.2.1 (plcOf b.2.1 (l.2.1.tdiv 2).toNat).1.toNat).2.1.toNat (dflt y163)).2.2.2.1.getD l.2.2.2.toNat (dflt y143)) fun x=>match x with | (v2,v3)=>some (v3,v2.getD (Int.toNat (0:Int)) (0:Int)))=_;rw[h.net,r191 b hw no,vS,gP ⟨h.iix,h.cix,h.aix,rfl,⟨by decide,by omega⟩,by show 0<_; omega,trivial⟩,lE,h.arc];rfl
theorem r155(hw:wf y34 b)(hb:blockOk b=true){l:DLink}{n k:Nat}(h:LinkW b l n k):u155 b l=some (n:Int):=by
 have df:=df_of (block_design hb).1;unfold u155;rw[r124 b.2.1 hw.2.1 df.fac.ni14 df.fac.np8 df.pin,vS,gP ⟨rfl,by decide,h.pix,h.plt,trivial⟩,lE];exact congrArg some h.net
end
theorem r197{n:Int}(h0:0<=n)(h1:n<=1000000000000000000):∃r,Root n r/\r<=3000000000/\u197 n=some r:=by
 unfold u197;refine lp_root (J:=fun r=>some r) (n:=n) (H:=3000000000) h0 (by omega) (by decide) (by decide) (fun g s s0 s1 s2=>?_);obtain⟨lo,hi⟩:=s;have s0:0<=lo:=s0;have s1:lo<=hi:=s1;have s2:hi<=3000000000:=s2;show u197L1 n g (lo,hi)=if decide (lo<hi)=true then g (halfN n (lo,hi)) else some lo
 rw[u197L1];by_cases hc:lo<hi
 ·obtain⟨m1,m2,m3⟩:=mid_up s0 hc;have hm:=mul_bd (A:=3000000000) (B:=3000000000) (x:=(lo+hi+1).tdiv 2) (y:=(lo+hi+1).tdiv 2) (by omega) (by omega) (by omega) (by omega) (by decide);rw[if_pos (decide_eq_true hc),if_pos (decide_eq_true hc),gP ⟨oo,oo,by decide,trivial⟩,gP ⟨oo,trivial⟩];unfold halfN;show(if _ then _ else _)=g (if decide ((lo+hi+1).tdiv 2*(lo+hi+1).tdiv 2<=n)=true then((lo+hi+1).tdiv 2,hi) else(lo,(lo+hi+1).tdiv 2-1));split
  ·rfl
  ·exact gP ⟨oo,trivial⟩
 ·rw[if_neg (by simpa using hc),if_neg (by simpa using hc)];rfl
theorem sq_forms(s d:Int):500*s*500*s=250000*(s*s)/\1000000*s*s=1000000*(s*s)/\4*d*d=4*(d*d):=by
 refine⟨?_,Int.mul_assoc _ _ _,Int.mul_assoc _ _ _⟩;rw[Int.mul_assoc (500*s) 500 s,Int.mul_assoc 500 s,<- Int.mul_assoc s 500 s,Int.mul_comm s 500,Int.mul_assoc 500 s s];omega
end Go.Proofs.YtphnknndgfgepaaGreatDoor
end
section
namespace Go.Proofs.YtphnknndgfgepaaGreatDoor
open Go Go.Proofs Go.Proofs.Xv Go.Proofs.Xl Go.Proofs.Xd
theorem r227(a b:Int):u227 a b=some (decide (a<b)):=by
 unfold u227;have e:∀a,u252 a=some (a != a):=fun _=>rfl;rw[e,e,gP ⟨rfl,fun _=>rfl,trivial⟩,vS,vS];simp
theorem r233{xs:List Int}{x:Int}(hn:xs.length<=4611686018427387903){p:Nat}(hp:p<xs.length)(h1:∀i,i<p->xs.getD i 0<x)(h2:∀i,p<=i->i<xs.length->x<=xs.getD i 0):u233 xs x=some ((p:Int),xs.getD p 0==x):=by
 have key:∀(m i j:Nat),i<=p->p<=j->j<=xs.length->j-i<m->itF (u233L1 xs x) m ((i:Int),(j:Int))=some ((p:Int),xs.getD p 0==x):=by
  intro m
  induction m with
  | zero=>intro i j _ _ _ h; omega
  | succ m ih =>
    intro i j hi hj hjn hm;show u233L1 xs x (itF (u233L1 xs x) m) ((i:Int),(j:Int))=_;rw[u233L1];by_cases hij:i<j
    ·have hmid:(i+j) / 2<xs.length:=by omega
     have e3:((((i+j) / 2:Nat)):Int).toNat=(i+j) / 2:=rfl;rw[if_pos (by simpa using hij),mid_nat,gP ⟨oo,oo,⟨⟨by decide,by decide⟩,by omega,by omega⟩,oo,trivial⟩,e3,r227,gP ⟨oo,rfl,trivial⟩,vS];by_cases hc:xs.getD ((i+j) / 2) 0<x
     ·rw[if_pos (by simpa using hc),gP ⟨oo,trivial⟩];have hpm:(i+j) / 2<p:=by
       apply Nat.lt_of_not_le;intro hle;have:=h2 _ hle hmid; omega
      have:=ih ((i+j) / 2+1) j (by omega) hj hjn (by omega);simpa using this
     ·rw[if_neg (by simpa using hc)];have hpm:p<=(i+j) / 2:=by
       apply Nat.le_of_not_lt;intro hle;have:=h1 _ hle; omega
      exact ih i ((i+j) / 2) hi hpm (by omega) (by omega)
    ·have e:i=p:=by omega
     subst e;rw[if_neg (by simpa using hij),u233J0];have e3:((i:Int)).toNat=i:=rfl;have e4:decide ((i:Int) < (xs.length:Int))=true:=by simpa using hp
     have e5:∀a,u253 a=some (a != a):=fun _=>rfl;rw[e3,e4,e5,e5,gP ⟨fun _=>oo,fun _=>oo,fun _=>rfl,fun _=>rfl,trivial⟩,vS,vS];simp
 unfold u233;have:=key big 0 xs.length (by omega) (by omega) (Nat.le_refl _) (by simp only[big]; omega);exact this
def clampI(xs:List Int)(x:Int):Int:=min (max x (xs.getD 0 0)) (xs.getD (xs.length-1) 0)
theorem r195{xs:List Int}(x:Int)(h:isAxis xs=true):∃(p:Nat) (a b:Int),p<xs.length/\u192 xs x=some ((p:Int),a,b) /\
  ((a=1/\b=0/\u195 xs x=some ([((p:Int),1)],1)) ∨
    (p+1<xs.length/\0<a/\0<b/\a+b<=100000/\u195 xs x=some ([((p:Int),a),((p:Int)+1,b)],a+b))):=by
 obtain⟨l1,l4⟩:=axis_len h;have e1:((xs.length:Int)-1).toNat=xs.length-1:=by omega
 have c0:xs.getD 0 0<=clampI xs x:=by
  have:xs.getD 0 0<=xs.getD (xs.length-1) 0:=by
   by_cases hl:xs.length=1
   ·rw[hl]; exact Int.le_refl _
   ·have:=axis_lt h (by omega:0<xs.length-1) (by omega); omega
  unfold clampI; omega
 have c1:clampI xs x<=xs.getD (xs.length-1) 0:=by unfold clampI; omega
 obtain⟨p,hp,h1,h2⟩:=axis_at h c0 c1;have down:∀(q:Nat) (r:Option (Int×Int×Int)),(∀g,u192L1 xs (clampI xs x) g (q:Int)=r)->(∀i,q<i->i<xs.length->clampI xs x<xs.getD i 0)->q<xs.length->lp (u192L1 xs (clampI xs x)) ((xs.length:Int)-1)=r:=by
  intro q r hq hgt hlt;have key:∀(m k:Nat),q+k<xs.length->k<m->itF (u192L1 xs (clampI xs x)) m ((q+k:Nat):Int)=r:=by
   intro m
   induction m with
   | zero=>intro k _ h; omega
   | succ m ih =>
     intro k hk hm;show u192L1 xs (clampI xs x) (itF (u192L1 xs (clampI xs x)) m) ((q+k:Nat):Int)=r;by_cases h0:k=0
     ·subst h0; exact hq _
     ·have hg:=hgt (q+k) (by omega) hk;have e3:(((q+k:Nat):Int)).toNat=q+k:=rfl;have n1:¬(clampI xs x=xs.getD (q+k) 0):=by omega
      have n2:¬(xs.getD (q+k) 0<clampI xs x):=by omega
      rw[u192L1,if_pos (by simp; omega),gP ⟨oo,trivial⟩,e3,if_neg (by simpa using n1),gP ⟨oo,trivial⟩,if_neg (by simpa using n2),gP ⟨oo,trivial⟩];have e4:(((q+k:Nat):Int))-1=((q+(k-1):Nat):Int):=by omega
      rw[e4];exact ih (k-1) (by omega) (by omega)
  have:=key big (xs.length-1-q) (by omega) (by simp only[big]; omega);have e5:((q+(xs.length-1-q):Nat):Int)=(xs.length:Int)-1:=by omega
  rw[e5] at this;exact this
 have e3:∀n:Nat,((n:Int)).toNat=n:=fun _=>rfl;by_cases hf:xs.getD p 0=clampI xs x
 ·refine⟨p,1,0,hp,?_,.inl ⟨rfl,rfl,?_⟩⟩
  ·unfold u192;rw[gP ⟨oo,trivial⟩,gP ⟨oo,oo,trivial⟩,e1];change lt (clampI xs x) _=_;rw[lE,gP ⟨oo,trivial⟩];refine down p _ (fun g=>?_) (fun i hi hl=>?_) hp
   ·rw[u192L1,if_pos (by simp),gP ⟨oo,trivial⟩,e3,if_pos (by simpa using hf.symm)]
   ·have:=axis_lt h hi hl; omega
  ·unfold u195;rw[gP ⟨oo,oo,oo,trivial⟩,e1];change lt (clampI xs x) _=_;rw[lE,r233 (by omega) hp h1 h2,gP ⟨rfl,trivial⟩,vS,lE,if_pos (by simpa using hf)]
 ·have hgt:clampI xs x<xs.getD p 0:=by have:=h2 p (Nat.le_refl _) hp; omega
  have hp0:0<p:=by
   apply Nat.pos_of_ne_zero;intro h0; subst h0; omega
  obtain⟨q,rfl⟩:∃q,p=q+1:=⟨p-1,by omega⟩;have hlt:=h1 q (by omega);have b1:=axis_in h hp;have b2:=axis_in h (by omega:q<xs.length);refine⟨q,xs.getD (q+1) 0-clampI xs x,clampI xs x-xs.getD q 0,by omega,?_,.inr ⟨hp,by omega,by omega,by omega,?_⟩⟩
  ·unfold u192;rw[gP ⟨oo,trivial⟩,gP ⟨oo,oo,trivial⟩,e1];change lt (clampI xs x) _=_;rw[lE,gP ⟨oo,trivial⟩];refine down q _ (fun g=>?_) (fun i hi hl=>?_) (by omega)
   ·have e6:((q:Int)+1).toNat=q+1:=by omega
    have n1:¬(clampI xs x=xs.getD q 0):=by omega
    rw[u192L1,if_pos (by simp),gP ⟨oo,trivial⟩,e3,if_neg (by simpa using n1),gP ⟨oo,trivial⟩,if_pos (by simpa using hlt),e6,gP ⟨oo,oo,oo,oo,oo,trivial⟩]
   ·by_cases hq:i=q+1
    ·subst hq; exact hgt
    ·have:=axis_lt h (by omega:q+1<i) hl; omega
  ·have e6:(((q+1:Nat):Int)-1).toNat=q:=by omega
   have e7:((q+1:Nat):Int)-1=(q:Int):=by omega
   unfold u195;rw[gP ⟨oo,oo,oo,trivial⟩,e1];change lt (clampI xs x) _=_;rw[lE,r233 (by omega) hp h1 h2,gP ⟨rfl,trivial⟩,vS,lE,if_neg (by simpa using hf),e6,e3,gP ⟨oo,oo,oo,oo,oo,oo,oo,oo,oo,oo,trivial⟩,lE,e7];congr 2;omega
def celV(t:Y140)(r q:Nat):Int:=t.2.2.getD (r*t.2.1.length+q) 0
def rowX(t:Y140)(r q:Nat)(w c d:Int):Int:=celV t r q*w*c+celV t r (q+1)*w*d
theorem cel_bd{t:Y140}(ht:isTable t=true){r q:Nat}(hr:r<t.1.length)(hq:q<t.2.1.length){w c:Int}(w0:0<=w)(w1:w<=100000)(c0:0<=c)(c1:c<=100000) :
  (-100000000000<=celV t r q*w/\celV t r q*w<=100000000000) /\ -10000000000000000<=celV t r q*w*c/\celV t r q*w*c<=10000000000000000:=by
 obtain⟨_,_,_,_,hl,_,_⟩:=table_len ht;have h:=table_in ht (i:=r*t.2.1.length+q) (by have:=row_ix hr hq; omega);have h1:=mul_bd (A:=1000000) h.1 h.2 w0 w1 (by decide);have h2:=mul_bd (A:=100000000000) (B:=100000) (x:=celV t r q*w) (by unfold celV; omega) (by unfold celV; omega) c0 c1 (by decide);unfold celV at *
 omega
def Sh(n q:Nat)(c d:Int)(M:List (Int×Int)):Prop:=(c=1/\d=0/\M=[((q:Int),1)])∨(q+1<n/\0<c/\0<d/\c+d<=100000/\M=[((q:Int),c),((q:Int)+1,d)])
theorem rowX_bd{t:Y140}(ht:isTable t=true){r q:Nat}(hr:r<t.1.length)(hq:q<t.2.1.length){w c d:Int}{M:List (Int×Int)}(hM:Sh t.2.1.length q c d M)(w0:0<=w)(w1:w<=100000) : -20000000000000000<=rowX t r q w c d/\rowX t r q w c d<=20000000000000000:=by
 unfold rowX;rcases hM with ⟨rfl,rfl,_⟩ | ⟨hq1,c0,d0,hcd,_⟩
 ·have h1:=(cel_bd ht hr hq w0 w1 (c:=1) (by decide) (by decide)).2;rw[Int.mul_zero]; omega
 ·have h1:=(cel_bd ht hr hq w0 w1 (c:=c) (by omega) (by omega)).2;have h2:=(cel_bd ht hr hq1 w0 w1 (c:=d) (by omega) (by omega)).2;omega
theorem look3{t:Y140}(ht:isTable t=true){r q:Nat}(hr:r<t.1.length)(hq:q<t.2.1.length){w c:Int}(w0:0<=w)(w1:w<=100000)(c0:0<=c)(c1:c<=100000){R:Int}(hR:R=(r:Int)){v1:List Y225×Int}{v11:Int}{g1 g3:Int×Int->Option Int}{s:Int}(s0 : -100000000000000000<=s)(s1:s<=100000000000000000){i:Nat}(hi:i<v1.1.length)(hn:v1.1.length<=2)
  {Q:Int} (hQ:Q=(q:Int)) (he:v1.1.getD i (dflt y225)=(Q,c)):u161L3 t (R,w) v1 v11 g1 g3 (s,(i:Int))=g3 (s+celV t r q*w*c,(i:Int)+1):=by
 subst hR; subst hQ;obtain⟨_,a4,_,b4,hl,_,h16⟩:=table_len ht;have hix:=row_ix hr hq;have hb:=cel_bd ht hr hq w0 w1 c0 c1;have e3:((i:Int)).toNat=i:=rfl;have em:(r:Int)*(t.2.1.length:Int)=((r*t.2.1.length:Nat):Int):=by simp
 have ek:(((r*t.2.1.length:Nat):Int)+(q:Int)).toNat=r*t.2.1.length+q:=by omega
 rw[u161L3,if_pos (by simpa using hi),e3,gP ⟨oo,hi,trivial⟩,lE,he];unfold celV at hb ⊢;show gd (in64 ((r:Int)*(t.2.1.length:Int))/\in64 ((r:Int)*(t.2.1.length:Int)+(q:Int))/\ix ((r:Int)*(t.2.1.length:Int)+(q:Int)) t.2.2.length/\in64 (t.2.2.getD ((r:Int)*(t.2.1.length:Int)+(q:Int)).toNat 0*w)/\in64 (t.2.2.getD ((r:Int)*(t.2.1.length:Int)+(q:Int)).toNat 0*w*c)/\in64 (s+t.2.2.getD ((r:Int)*(t.2.1.length:Int)+(q:Int)).toNat 0*w*c)/\True) (lt (s+t.2.2.getD ((r:Int)*(t.2.1.length:Int)+(q:Int)).toNat 0*w*c) fun v18=>gd _ (g3 (v18,(i:Int)+1)))=_;rw[em,ek,gP ⟨oo,oo,oo,oo,oo,oo,trivial⟩,lE,gP ⟨oo,trivial⟩]
theorem lookE{t:Y140}{v12:Y225}{v1:List Y225×Int}{v11:Nat}(hv:v11<=2){g1 g3:Int×Int->Option Int}{s:Int}:u161L3 t v12 v1 (v11:Int) g1 g3 (s,(v1.1.length:Int))=g1 (s,(v11:Int)+1):=by
 rw[u161L3,if_neg (by simp),u161J2,gP ⟨oo,trivial⟩]
theorem itF_s{σ ρ:Type}{F:(σ->Option ρ)->σ->Option ρ}{n:Nat}{s:σ}:itF F (n+1) s=F (itF F n) s:=rfl
theorem nat01:((0:Nat):Int)+1=((1:Nat):Int):=rfl
theorem nat12:((1:Nat):Int)+1=((2:Nat):Int):=rfl
theorem lookR{t:Y140}(ht:isTable t=true){r q:Nat}(hr:r<t.1.length)(hq:q<t.2.1.length){w c d:Int}{M:List (Int×Int)}(hM:Sh t.2.1.length q c d M)(w0:0<=w)(w1:w<=100000){R T:Int}(hR:R=(r:Int)){v11:Nat}(hv:v11<=2){g1:Int×Int->Option Int}{s:Int}(s0 : -50000000000000000<=s)(s1:s<=50000000000000000) :
  lp (u161L3 t (R,w) (M,T) (v11:Int) g1) (s,0)=g1 (s+rowX t r q w c d,(v11:Int)+1):=by
 unfold rowX;rcases hM with ⟨rfl,rfl,rfl⟩ | ⟨hq1,c0,d0,hcd,rfl⟩
 ·refine lp_of 2 (by decide) fun n=>?_;rw[itF_s];refine(look3 (v1:=([((q:Int),1)],T)) (i:=0) (s:=s) (c:=1) ht hr hq w0 w1 (by decide) (by decide) hR (by omega) (by omega) (Nat.le_refl 1) (Nat.le_succ 1) rfl rfl).trans ?_;rw[Int.mul_zero,Int.add_zero,itF_s,nat01];exact lookE (v1:=([((q:Int),1)],T)) hv
 ·have hb:=(cel_bd ht hr hq w0 w1 (c:=c) (by omega) (by omega)).2;refine lp_of 3 (by decide) fun n=>?_;rw[itF_s];refine(look3 (v1:=([((q:Int),c),((q:Int)+1,d)],T)) (i:=0) (s:=s) (c:=c) ht hr hq w0 w1 (by omega) (by omega) hR (by omega) (by omega) (Nat.le_succ 1) (Nat.le_refl 2) rfl rfl).trans ?_;rw[itF_s,nat01];refine(look3 (v1:=([((q:Int),c),((q:Int)+1,d)],T)) (i:=1) (s:=s+celV t r q*w*c) (c:=d) (q:=q+1) ht hr hq1 w0 w1 (by omega) (by omega) hR (by omega) (by omega) (Nat.le_refl 2) (Nat.le_refl 2) (Int.natCast_succ q).symm rfl).trans ?_;rw[<- Int.add_assoc,itF_s,nat12];exact lookE (v1:=([((q:Int),c),((q:Int)+1,d)],T)) hv
theorem slook6{t:Y140}(ht:isTable t=true){p u r q k:Nat}(hpu:r=p+u)(hr:r<t.1.length)(hq:q<t.2.1.length){w c W:Int}(w0:0<=w)(w1:w<=100000)(c0:0<=c)(c1:c<=100000)(hW:W=w*c){v0 v1:Int×Int×Int}(h0:v0.1=(p:Int)){q0:Nat}(h1:v1.1=(q0:Int))(hk:q=q0+k)(hk2:k<=1)(hu:u<=1){g3:Int×Int->Option Int}{s:Int}(s0 : -100000000000000000<=s)(s1:s<=100000000000000000) :
  u153J6 (k:Int) s t v0 (u:Int) v1 g3 W=g3 (s+celV t r q*w*c,(k:Int)+1):=by
 obtain⟨_,a4,_,b4,hl,_,h16⟩:=table_len ht;have hix:=row_ix hr hq;have hb:=cel_bd ht hr hq w0 w1 c0 c1;subst hpu; subst hk;have em:((p:Int)+(u:Int))*(t.2.1.length:Int)=(((p+u)*t.2.1.length:Nat):Int):=by simp
 have ek:((((p+u)*t.2.1.length:Nat):Int)+(q0:Int)+(k:Int)).toNat=(p+u)*t.2.1.length+(q0+k):=by omega
 have hW2:W*celV t (p+u) (q0+k)=celV t (p+u) (q0+k)*w*c:=by rw[hW,Int.mul_comm,<- Int.mul_assoc]
 rw[u153J6];by_cases hp:0<W
 ·unfold celV at hb hW2 ⊢;rw[if_pos (by simpa using hp),h0,h1,em,ek,hW2,gP ⟨oo,oo,oo,oo,oo,oo,oo,trivial⟩,lE,u153J4,gP ⟨oo,trivial⟩]
 ·have hW0:W=0:=by
   have:0<=w*c:=Int.mul_nonneg w0 c0;omega
  have e0:celV t (p+u) (q0+k)*w*c=0:=by rw[<- hW2,hW0,Int.zero_mul]
  rw[if_neg (by simpa using hp),u153J4,gP ⟨oo,trivial⟩,e0,Int.add_zero]
theorem slook6z{t:Y140}{u k:Nat}{v0 v1:Int×Int×Int}(hk2:k<=1){g3:Int×Int->Option Int}{s W:Int}(hW:W=0):u153J6 (k:Int) s t v0 (u:Int) v1 g3 W=g3 (s,(k:Int)+1):=by
 subst hW;rw[u153J6,if_neg (by simp),u153J4,gP ⟨oo,trivial⟩]
theorem in_mul{w c:Int}(w0:0<=w)(w1:w<=100000)(c0:0<=c)(c1:c<=100000):in64 (w*c)/\True:=by
 have:=mul_bd (A:=100000) (B:=100000) (x:=w) (y:=c) (by omega) w1 c0 c1 (by decide);exact⟨oo,trivial⟩
theorem slook3{t:Y140}{u k:Nat}(hk:k<=1){v0 v1:Int×Int×Int}{g1 g3:Int×Int->Option Int}{s w e:Int}(hw:(if(u:Int)=1 then v0.2.2 else v0.2.1)=w)(he:(if k=0 then v1.2.1 else v1.2.2)=e)(w0:0<=w)(w1:w<=100000)(e0:0<=e)(e1:e<=100000) :
  u153L3 t v0 (u:Int) v1 g1 g3 (s,(k:Int))=u153J6 (k:Int) s t v0 (u:Int) v1 g3 (w*e):=by
 have key:∀W,W=w->u153J5 (k:Int) s t v0 (u:Int) v1 g3 W=u153J6 (k:Int) s t v0 (u:Int) v1 g3 (w*e):=by
  intro W hW;subst hW;rw[u153J5];by_cases h0:k=0
  ·subst h0;have he':v1.2.1=e:=he;rw[if_pos (by rfl),he',gP (in_mul w0 w1 e0 e1)]
  ·rw[if_neg h0] at he;rw[if_neg (by simpa using h0),he,gP (in_mul w0 w1 e0 e1)]
 rw[u153L3,if_pos (by simp; omega)];by_cases hu:(u:Int)=1
 ·rw[if_pos hu] at hw;rw[if_pos (by simpa using hu)];exact key _ hw
 ·rw[if_neg hu] at hw;rw[if_neg (by simpa using hu)];exact key _ hw
theorem slookE{t:Y140}{u:Nat}(hu:u<=1){v0 v1:Int×Int×Int}{g1 g3:Int×Int->Option Int}{s:Int}:u153L3 t v0 (u:Int) v1 g1 g3 (s,((2:Nat):Int))=g1 (s,(u:Int)+1):=by
 rw[u153L3,if_neg (by simp),u153J2,gP ⟨oo,trivial⟩]
theorem slookR{t:Y140}(ht:isTable t=true){p u r q:Nat}(hpu:r=p+u)(hu:u<=1)(hr:r<t.1.length)(hq:q<t.2.1.length){a b w c d:Int}{M:List (Int×Int)}(hM:Sh t.2.1.length q c d M)(hw:(if(u:Int)=1 then b else a)=w)(w0:0<=w)(w1:w<=100000){g1:Int×Int->Option Int}{s:Int}(s0 : -50000000000000000<=s)(s1:s<=50000000000000000) :
  lp (u153L3 t ((p:Int),a,b) (u:Int) ((q:Int),c,d) g1) (s,0)=g1 (s+rowX t r q w c d,(u:Int)+1):=by
 have hcd:0<=c/\c<=100000/\0<=d/\d<=100000:=by
  rcases hM with ⟨rfl,rfl,_⟩ | ⟨_,_,_,_,_⟩ <;> omega
 obtain⟨c0,c1,d0,d1⟩:=hcd;have hb:=(cel_bd ht hr hq w0 w1 c0 c1).2;refine lp_of 3 (by decide) fun n=>?_;rw[itF_s];refine(slook3 (k:=0) (e:=c) (by decide) hw rfl w0 w1 c0 c1).trans ?_;refine(slook6 ht hpu hr hq w0 w1 c0 c1 rfl rfl (q0:=q) rfl (k:=0) rfl (by decide) hu (by omega) (by omega)).trans ?_;rw[itF_s,nat01];refine(slook3 (k:=1) (e:=d) (by decide) hw rfl w0 w1 d0 d1).trans ?_;unfold rowX;rcases hM with ⟨rfl,rfl,_⟩ | ⟨hq1,_,_,_,_⟩
 ·refine(slook6z (by decide) (Int.mul_zero w)).trans ?_;rw[itF_s,nat12,slookE hu,Int.mul_zero,Int.add_zero]
 ·refine(slook6 ht hpu hr hq1 w0 w1 d0 d1 rfl rfl (q0:=q) rfl (k:=1) rfl (by decide) hu (by omega) (by omega)).trans ?_;rw[itF_s,nat12,slookE hu,Int.add_assoc]
theorem slookZ{t:Y140}{p u q:Nat}(hu:u<=1){a b c d:Int}(hw:(if(u:Int)=1 then b else a)=0)(c0:0<=c)(c1:c<=100000)(d0:0<=d)(d1:d<=100000){g1:Int×Int->Option Int}{s:Int} :
  lp (u153L3 t ((p:Int),a,b) (u:Int) ((q:Int),c,d) g1) (s,0)=g1 (s,(u:Int)+1):=by
 refine lp_of 3 (by decide) fun n=>?_;rw[itF_s];refine(slook3 (k:=0) (e:=c) (by decide) hw rfl (by decide) (by decide) c0 c1).trans ?_;refine(slook6z (by decide) (Int.zero_mul _)).trans ?_;rw[itF_s,nat01];refine(slook3 (k:=1) (e:=d) (by decide) hw rfl (by decide) (by decide) d0 d1).trans ?_;refine(slook6z (by decide) (Int.zero_mul _)).trans ?_;rw[itF_s,nat12,slookE hu]
theorem shape{xs:List Int}(x:Int)(h:isAxis xs=true):∃(p:Nat) (a b:Int) (L:List (Int×Int)),p<xs.length/\Sh xs.length p a b L/\u192 xs x=some ((p:Int),a,b)/\u195 xs x=some (L,a+b):=by
 obtain⟨p,a,b,hp,h1,h2⟩:=r195 x h;rcases h2 with ⟨rfl,rfl,h3⟩ | ⟨h3,h4,h5,h6,h7⟩
 ·exact⟨p,1,0,_,hp,.inl ⟨rfl,rfl,rfl⟩,h1,h3⟩
 ·exact⟨p,a,b,_,hp,.inr ⟨h3,h4,h5,h6,rfl⟩,h1,h7⟩
theorem look1{t:Y140}(ht:isTable t=true){p q:Nat}(hp:p<t.1.length)(hq:q<t.2.1.length){a b c d:Int}{L M:List (Int×Int)}(hL:Sh t.1.length p a b L)(hM:Sh t.2.1.length q c d M)(T U m:Int) :
  lp (u161L1 t (M,U) (L,T) m) (0,0)=u161J0 (L,T) (M,U) m (rowX t p q a c d+(if b=0 then 0 else rowX t (p+1) q b c d)):=by
 have e3:∀n:Nat,((n:Int)).toNat=n:=fun _=>rfl;rcases hL with ⟨rfl,rfl,rfl⟩ | ⟨hp1,a0,b0,hab,rfl⟩
 ·refine lp_of 2 (by decide) fun n=>?_;rw[itF_s,u161L1,if_pos (by simp),gP ⟨⟨by decide,by simp⟩,by simp,trivial⟩,lE];refine(lookR (v11:=0) ht hp hq hM (w:=1) (by decide) (by decide) rfl (by decide) (by decide) (by decide)).trans ?_;rw[itF_s,nat01,u161L1,if_neg (by simp),if_pos rfl,Int.zero_add,Int.add_zero]
 ·have hb:=rowX_bd ht hp hq hM (w:=a) (by omega) (by omega);refine lp_of 3 (by decide) fun n=>?_;rw[itF_s,u161L1,if_pos (by simp),gP ⟨⟨by decide,by simp⟩,by simp,trivial⟩,lE];refine(lookR (v11:=0) ht hp hq hM (w:=a) (by omega) (by omega) rfl (by decide) (by decide) (by decide)).trans ?_;rw[itF_s,nat01,u161L1,if_pos (by simp),gP ⟨⟨by decide,by simp⟩,by simp,trivial⟩,lE];refine(lookR (v11:=1) ht hp1 hq hM (w:=b) (by omega) (by omega) (Int.natCast_succ p).symm (by decide) (by omega) (by omega)).trans ?_;rw[itF_s,nat12,u161L1,if_neg (by simp),if_neg (by omega),Int.zero_add]
theorem slook1{t:Y140}(ht:isTable t=true){p q:Nat}(hp:p<t.1.length)(hq:q<t.2.1.length){a b c d:Int}{L M:List (Int×Int)}(hL:Sh t.1.length p a b L)(hM:Sh t.2.1.length q c d M)(m:Int) :
  lp (u153L1 t ((p:Int),a,b) ((q:Int),c,d) m) (0,0)=u153J0 ((p:Int),a,b) ((q:Int),c,d) m (rowX t p q a c d+(if b=0 then 0 else rowX t (p+1) q b c d)):=by
 have hab:0<=a/\a<=100000/\0<=b/\b<=100000/\(b≠0->p+1<t.1.length):=by
  rcases hL with ⟨rfl,rfl,_⟩ | ⟨_,_,_,_,_⟩ <;> omega
 obtain⟨a0,a1,b0,b1,hp1⟩:=hab;have hcd:0<=c/\c<=100000/\0<=d/\d<=100000:=by
  rcases hM with ⟨rfl,rfl,_⟩ | ⟨_,_,_,_,_⟩ <;> omega
 obtain⟨c0,c1,d0,d1⟩:=hcd;have hb:=rowX_bd ht hp hq hM a0 a1;refine lp_of 3 (by decide) fun n=>?_;rw[itF_s,u153L1,if_pos (by simp)];refine(slookR (u:=0) (p:=p) (r:=p) (w:=a) ht rfl (by decide) hp hq hM rfl a0 a1 (by decide) (by decide)).trans ?_;rw[itF_s,nat01,u153L1,if_pos (by simp)];by_cases hz:b=0
 ·subst hz;refine(slookZ (u:=1) (by decide) rfl c0 c1 d0 d1).trans ?_;rw[itF_s,nat12,u153L1,if_neg (by simp),if_pos rfl,Int.zero_add,Int.add_zero]
 ·refine(slookR (u:=1) (p:=p) (r:=p+1) (w:=b) ht rfl (by decide) (hp1 hz) hq hM rfl b0 b1 (by omega) (by omega)).trans ?_;rw[itF_s,nat12,u153L1,if_neg (by simp),if_neg hz,Int.zero_add]
theorem cel_in{t:Y140}(ht:isTable t=true){r q:Nat}(hr:r<t.1.length)(hq:q<t.2.1.length) : -1000000<=celV t r q/\celV t r q<=1000000:=by
 obtain⟨_,_,_,_,hl,_,_⟩:=table_len ht;exact table_in ht (i:=r*t.2.1.length+q) (by have:=row_ix hr hq; omega)
theorem wt_bd{v w c:Int}(h1 : -1000000<=v)(h2:v<=1000000)(w0:0<=w)(c0:0<=c) : -(1000000*(w*c))<=v*w*c/\v*w*c<=1000000*(w*c):=by
 have hwc:0<=w*c:=Int.mul_nonneg w0 c0;rw[Int.mul_assoc];refine⟨?_,Int.mul_le_mul_of_nonneg_right h2 hwc⟩;have:=Int.mul_le_mul_of_nonneg_right h1 hwc;rw[Int.neg_mul] at this;exact this
theorem rowX_wt{t:Y140}(ht:isTable t=true){r q:Nat}(hr:r<t.1.length)(hq:q<t.2.1.length){w c d:Int}{M:List (Int×Int)}(hM:Sh t.2.1.length q c d M)(w0:0<=w) : -(1000000*(w*(c+d)))<=rowX t r q w c d/\rowX t r q w c d<=1000000*(w*(c+d)):=by
 unfold rowX;have v1:=cel_in ht hr hq;rcases hM with ⟨rfl,rfl,_⟩ | ⟨hq1,c0,d0,hcd,_⟩
 ·have h1:=wt_bd v1.1 v1.2 w0 (c:=1) (by decide);rw[Int.mul_zero,Int.add_zero,Int.add_zero]; exact h1
 ·have v2:=cel_in ht hr hq1;have h1:=wt_bd v1.1 v1.2 w0 (c:=c) (by omega);have h2:=wt_bd v2.1 v2.2 w0 (c:=d) (by omega);rw[Int.mul_add w,Int.mul_add 1000000];omega
theorem r1612{t:Y140}(ht:isTable t=true)(s l m:Int):∃r,u161 t s l m=some r/\u153 t s l m=some r /\ -1000000<=r/\r<=1000000:=by
 have hax:isAxis t.1=true/\isAxis t.2.1=true:=by
  simp only[isTable,ba] at ht;exact⟨ht.1.1.1,ht.1.1.2⟩
 obtain⟨p,a,b,L,hp,hL,h1,h2⟩:=shape s hax.1;obtain⟨q,c,d,M,hq,hM,h3,h4⟩:=shape l hax.2;have hab:0<=a/\0<=b/\1<=a+b/\a+b<=100000/\a<=100000/\b<=100000/\(b≠0->p+1<t.1.length):=by
  rcases hL with ⟨rfl,rfl,_⟩ | ⟨_,_,_,_,_⟩ <;> omega
 have hcd:1<=c+d/\c+d<=100000:=by
  rcases hM with ⟨rfl,rfl,_⟩ | ⟨_,_,_,_,_⟩ <;> omega
 have hm:=mul_bd (A:=100000) (B:=100000) (x:=a+b) (y:=c+d) (by omega) (by omega) (by omega) (by omega) (by decide);have hpos:0 < (a+b)*(c+d):=Int.mul_pos (by omega) (by omega);have x1:=rowX_wt ht hp hq hM (w:=a) (by omega);have x2 : -(1000000*(b*(c+d)))<=(if b=0 then 0 else rowX t (p+1) q b c d)/\(if b=0 then 0 else rowX t (p+1) q b c d)<=1000000*(b*(c+d)):=by
  by_cases hz:b=0
  ·rw[if_pos hz,hz,Int.zero_mul]; decide
  ·rw[if_neg hz]; exact rowX_wt ht (hab.2.2.2.2.2.2 hz) hq hM (by omega)
 have ed:1000000*((a+b)*(c+d))=1000000*(a*(c+d))+1000000*(b*(c+d)):=by rw[Int.add_mul,Int.mul_add 1000000]
 obtain⟨hr1,hr2⟩:=r1622 (rowX t p q a c d+(if b=0 then 0 else rowX t (p+1) q b c d)) ((a+b)*(c+d)) m (by omega) (by omega) hpos;have hbd:=divV_bd (a:=rowX t p q a c d+(if b=0 then 0 else rowX t (p+1) q b c d)) (K:=1000000) m hpos (by omega) (by omega);have i1:in64 ((a+b)*(c+d)):=oo;have i2:in64 (a+b):=oo;have i3:in64 (c+d):=oo;refine⟨_,?_,?_,hbd⟩
 ·unfold u161;rw[h2,gP ⟨rfl,trivial⟩,vS,lE,h4,gP ⟨rfl,trivial⟩,vS,lE,look1 ht hp hq hL hM,u161J0,hr1,gP ⟨i1,rfl,trivial⟩,vS,lE]
 ·unfold u153;rw[h1,gP ⟨rfl,trivial⟩,vS,lE,h3,gP ⟨rfl,trivial⟩,vS,lE,slook1 ht hp hq hL hM,u153J0,hr2,gP ⟨i2,i3,i1,rfl,trivial⟩,vS,lE]
end Go.Proofs.YtphnknndgfgepaaGreatDoor
end
section
namespace Go.Proofs.YtphnknndgfgepaaGreatDoor
open Go Go.Proofs Go.Proofs.Sv Go.Proofs.Xv Go.Proofs.Xl Go.Proofs.Xd
section
variable {b:Y34}
theorem load_at(b:Y34){n:Nat}(h:n<b.2.2.length):(viewV b).2.2.2.1.getD ((n:Int)).toNat 0=(loadsV b n).getD 0 0/\ix (n:Int) (viewV b).2.2.2.1.length:=by
 have h1:(viewV b).2.2.2.1.length=b.2.2.length:=appF_len _ _;exact⟨appF_get _ 0 _ n h,oo⟩
theorem dels_at(b:Y34){n:Nat}(h:n<b.2.2.length):(viewV b).2.2.2.2.1.getD ((n:Int)).toNat []=exactV b n/\ix (n:Int) (viewV b).2.2.2.2.1.length:=by
 have h1:(viewV b).2.2.2.2.1.length=b.2.2.length:=appF_len _ _;exact⟨appF_get _ [] _ n h,oo⟩
def facV(c:Y65)(k m:Int):Int:=if(k==1)=true then(if(m==0)=true then c.2.1 else c.2.2.1) else(if(m==0)=true then c.2.2.2.1 else c.2.2.2.2)
theorem r164(c:Y65)(k m:Int):u164 c k m=some (facV c k m):=by
 unfold u164 facV;by_cases h1:(k==1)=true
 ·rw[if_pos h1];by_cases h2:(m==0)=true
  ·rw[if_pos (by rw[h1,h2]; rfl),if_pos h2,if_pos h1]
  ·rw[if_neg (by rw[h1,Bool.true_and]; exact h2),if_pos h1,if_neg h2]
 ·rw[if_neg h1,if_neg (by rw[ba]; exact fun h=>h1 h.1),if_neg h1];by_cases h2:(m==0)=true
  ·rw[if_pos h2,if_pos h2]
  ·rw[if_neg h2,if_neg h2]
theorem r157(c:Y65)(k m:Int):u157 c k m=some (facV c k m):=by
 unfold u157 facV;by_cases h1:(k==1)=true
 ·rw[if_pos h1,if_pos h1];by_cases h2:(m==0)=true
  ·rw[if_pos h2,if_pos h2]
  ·rw[if_neg h2,if_neg h2]
 ·rw[if_neg h1,if_neg h1];by_cases h2:(m==0)=true
  ·rw[if_pos h2,if_pos h2]
  ·rw[if_neg h2,if_neg h2]
def cornerB(c:Y65):Bool:=nmB c.1&&(decide (100<=c.2.1)&&decide (c.2.1<=c.2.2.1)&&decide (c.2.2.1<=5000))&&(decide (100<=c.2.2.2.1)&&decide (c.2.2.2.1<=c.2.2.2.2)&&decide (c.2.2.2.2<=5000))
theorem fac_bd{c:Y65}(h:cornerB c=true)(k m:Int):0<=facV c k m/\facV c k m<=5000:=by
 unfold cornerB at h;simp only[ba,dq] at h;unfold facV;split <;> split <;> omega
theorem r103ay2(hw:wf y34 b)(hb:blockOk b=true){c:Y65}(hc:cornerB c=true){q:Int}(hq:inB q 0 (((lV b).length:Int)-1)=true)(s m:Int) :
  ∃r,u103 (viewV b) c q s m=some r/\u99 b c ((lV b).getD q.toNat (dflt y48)) s m=some r /\ -6000000<=r/\r<=6000000:=by
 have hq:=inB_iff.1 hq;have hqx:ix q (viewV b).2.2.1.length:=⟨hq.1,by show q < ((lV b).length:Int); omega⟩;generalize hl:(lV b).getD q.toNat (dflt y48)=l;have hl':(viewV b).2.2.1.getD q.toNat (dflt y48)=l:=hl;have hmem:l∈lV b:=by rw[<- hl]; exact getD_mem (by omega)
 have hf:=fac_bd hc l.2.2.1 m;have tail:∀p:Int,-1000000<=p->p<=1000000->u103J0 c l m p=some (divV (p*facV c l.2.2.1 m) 1000 m)/\u99J0 c l m p=some (divV (p*facV c l.2.2.1 m) 1000 m) /\ -6000000<=divV (p*facV c l.2.2.1 m) 1000 m/\divV (p*facV c l.2.2.1 m) 1000 m<=6000000:=fun p p0 p1=>by
  have hp:=mul_bd (A:=1000000) (B:=5000) (x:=p) (y:=facV c l.2.2.1 m) (by omega) (by omega) (by omega) (by omega) (by decide);have hd:=r1622 (p*facV c l.2.2.1 m) 1000 m (by omega) (by omega) (by decide);have hv:=divV_bd (a:=p*facV c l.2.2.1 m) (b:=1000) (K:=6000000) m (by decide) (by omega) (by omega);have hsc:u163 p (facV c l.2.2.1 m) m=some (divV (p*facV c l.2.2.1 m) 1000 m):=by
   unfold u163;rw[hd.1,vS,gP ⟨oo,rfl,trivial⟩,lE]
  refine⟨?_,?_,hv⟩
  ·rw[u103J0,r164,vS,hsc,vS,gP ⟨rfl,rfl,trivial⟩,lE]
  ·rw[u99J0,r157,vS,hd.2,vS,gP ⟨rfl,oo,rfl,trivial⟩,lE]
 rcases link_facts hb hmem with ⟨a,n,h⟩ | ⟨n,k,h⟩
 ·obtain⟨t1,t2⟩:=tables_at h.del h.trs;obtain⟨r,l1,l2,l3,l4⟩:=r1612 t2 s ((loadsV b n).getD 0 0) m;obtain⟨g1,g2⟩:=load_at b h.nlt;obtain⟨d1,d2,d3⟩:=tail r l3 l4;refine⟨_,?_,?_,d3⟩
  ·unfold u103;refine(gP ⟨hqx,trivial⟩).trans ?_;rw[lE,hl',r160 h.pix h.net,vS,gP ⟨rfl,trivial⟩,lE];refine(if_pos (by rw[h.kind]; rfl)).trans ?_;rw[r105 h,vS,g1,l1,vS];refine(gP ⟨rfl,by decide,t1,g2,rfl,trivial⟩).trans ?_;rw[lE];exact d1
  ·unfold u99;refine(if_pos (by rw[h.kind]; rfl)).trans ?_;rw[r152 hw hb h,vS,gP ⟨rfl,trivial⟩,lE];show gd (_/\ix (l.2.1.tmod 2) a.2.2.2.2.1.length/\(u153 (a.2.2.2.2.1.getD (l.2.1.tmod 2).toNat (dflt y140)) s ((loadsV b n).getD 0 0) m).isSome=true/\True) (lt (vl (u153 (a.2.2.2.2.1.getD (l.2.1.tmod 2).toNat (dflt y140)) s ((loadsV b n).getD 0 0) m)) fun v1=>u99J0 c l m v1)=_;rw[l2,vS,gP ⟨by decide,t1,rfl,trivial⟩,lE];exact d2
 ·have no:=net_ok hb h.nlt;obtain⟨dl,db⟩:=no.delays;have hd:=db (nodeS b n k).toNat;obtain⟨g1,g2⟩:=dels_at b h.nlt;have hel:=exact_len b n;have hkl:=h.klt;have hsl:=sdelV_len b n m;have e4:((k:Int)).toNat=k:=rfl;have hv:=divV_bd (a:=(delaysV b n).getD (nodeS b n k).toNat 0) (b:=1000) (K:=301000) m (by decide) (by omega) (by omega);obtain⟨d1,d2,d3⟩:=tail (divV ((delaysV b n).getD (nodeS b n k).toNat 0) 1000 m) (by omega) (by omega);refine⟨_,?_,?_,d3⟩
  ·unfold u103;refine(gP ⟨hqx,trivial⟩).trans ?_;rw[lE,hl',r160 h.pix h.net,vS,gP ⟨rfl,trivial⟩,lE];refine(if_neg (by rw[h.kind]; decide)).trans ?_;rw[g1,h.idx,e4,exact_get hkl,(r1622 _ 1000 m (by omega) (by omega) (by decide)).1,vS];refine(gP ⟨g2,oo,rfl,trivial⟩).trans ?_;rw[lE];exact d1
  ·unfold u99;refine(if_neg (by rw[h.kind]; decide)).trans ?_;rw[r155 hw hb h,vS,r154 b hw no,vS,h.idx,e4,gP ⟨rfl,rfl,oo,by omega,trivial⟩,lE,sdelV_get hkl];exact d2
theorem r102(hb:blockOk b=true)(q:Int):u102 (viewV b) q=some (inB q 0 (((lV b).length:Int)-1)):=by
 have hl:=links_len hb;have e:u159 (viewV b).2.2.1=some ((lV b).length:Int):=rfl;unfold u102;rw[e,vS,r150,vS,gP ⟨rfl,oo,rfl,trivial⟩]
theorem r93(s:Int):u93 s=some (inB s 0 1000000):=by
 unfold u93;rw[r150,vS,gP ⟨rfl,trivial⟩]
def modeB(m:Int):Bool:=m==0||m==1
theorem r94(m:Int):u94 m=some (modeB m):=rfl
theorem r98(m:Int):u98 m=some (modeB m):=rfl
def codeL(b:Y34)(q s m:Int):Int:=if inB q 0 (((lV b).length:Int)-1)=true then(if(inB s 0 1000000&&modeB m)=true then 0 else 2) else 4
theorem r104(hw:wf y34 b)(hb:blockOk b=true)(q s m:Int):u104 b q s m=some (codeL b q s m):=by
 have hl:=links_len hb;unfold u104 codeL;rw[r59 b hw hb,vS,r97,gP ⟨rfl,oo,rfl,trivial⟩,lE,r97,vS];cases h1:inB q 0 (((lV b).length:Int)-1) with
 | false=>rfl
 | true =>
   refine(if_neg (by simp)).trans ?_;rw[if_pos rfl,r97,vS,r98,vS,gP ⟨rfl,(fun _=>rfl),trivial⟩];cases inB s 0 1000000 <;> cases modeB m <;> rfl
end
theorem mode_is{m:Int}(h:modeB m=true):m=0∨m=1:=by
 unfold modeB at h;simpa using h
theorem link_ix{b:Y34}{q:Int}(h:inB q 0 (((lV b).length:Int)-1)=true):ix q (lV b).length/\q.toNat < (lV b).length:=by
 have:=inB_iff.1 h;exact⟨oo,by omega⟩
def lkF(b:Y34)(q s m r:Int):Int×Int:=if inB q 0 (((lV b).length:Int)-1)=true then(if(inB s 0 1000000&&modeB m)=true then(r,0) else(0,2)) else(0,4)
def lsF(b:Y34)(q s m r:Int):Int×Int:=if blockOk b=true then lkF b q s m r else(0,1)
theorem q51(b:Y34)(hw:wf y34 b)(hm:cnt y34 b<=1048576)(q s m r:Int)(hr:blockOk b=true->inB q 0 (((lV b).length:Int)-1)=true->inB s 0 1000000=true->modeB m=true->u108 (viewV b) q s m=some r):u51 b q s m=some (lsF b q s m r):=by
 unfold u51 lsF lkF;rw[r65 b hw hm,vS,gP ⟨rfl,trivial⟩];cases hb:blockOk b with
 | false=>rfl
 | true =>
   refine(if_neg (by simp)).trans ?_;rw[r66 b hw hb,vS,gP ⟨rfl,trivial⟩,lE,r102 hb,vS,gP ⟨rfl,trivial⟩];cases h1:inB q 0 (((lV b).length:Int)-1) with
   | false=>rfl
   | true =>
     refine(if_neg (by simp)).trans ?_;rw[r93,vS,r94,vS,gP ⟨rfl,(fun _=>rfl),trivial⟩];cases h2:inB s 0 1000000 with
     | false=>rfl
     | true =>
       cases h3:modeB m with
       | false=>rfl
       | true =>
         refine(if_neg (by simp)).trans ?_;rw[hr hb h1 h2 h3,vS,gP ⟨rfl,trivial⟩,lE];rfl
end Go.Proofs.YtphnknndgfgepaaGreatDoor
end
