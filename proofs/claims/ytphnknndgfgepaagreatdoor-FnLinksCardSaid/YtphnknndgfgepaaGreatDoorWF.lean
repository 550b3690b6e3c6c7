/- What the links of a block are: where they lead. Plain facts. -/
import Derived.Test.YtphnknndgfgepaaGreatDoorWC
import Derived.Test.YtphnknndgfgepaaGreatDoorWE
import Derived.Test.YtphnknndgfgepaaGreatDoorF74d
section
namespace Go.Proofs.Xd
open Go Go.Proofs Go.Proofs.Xl
def cLink(f:Int)(a:DArc)(j:Nat)(t:Nat):DLink:=(2*(f+a.2.1)+((transV a.1 a.2.2.2.1).getD t (0,0)).1,2*(f+a.2.2.1)+((transV a.1 a.2.2.2.1).getD t (0,0)).2,1,(j:Int))
def wLink(d s:Int)(k t:Nat):DLink:=(2*d+(t:Int),2*s+(t:Int),2,(k:Int))
theorem clinkF_mem{f a b x:Int}{tr:List (Int×Int)}{s:List DLink}{l:DLink}:∀k,l∈fN (clinkF f a b x tr) k s->l∈s∨∃t,t<k/\l=(2*(f+a)+(tr.getD t (0,0)).1,2*(f+b)+(tr.getD t (0,0)).2,1,x)
 | 0,h=>.inl h
 | k+1,h=>by
   rcases List.mem_append.1 (show l∈fN (clinkF f a b x tr) k s++[_] from h) with h | h
   ·rcases clinkF_mem k h with h | ⟨t,ht,e⟩
    ·exact .inl h
    ·exact .inr ⟨t,by omega,e⟩
   ·exact .inr ⟨k,by omega,List.mem_singleton.1 h⟩
theorem carcF_mem{f:Int}{arcs:Nat->DArc}{s:List DLink}{l:DLink}:∀m,l∈fN (carcF f arcs) m s->l∈s∨∃j t,j<m/\t < (transV (arcs j).1 (arcs j).2.2.2.1).length/\l=cLink f (arcs j) j t
 | 0,h=>.inl h
 | m+1,h=>by
   rcases clinkF_mem _ (show l∈fN (clinkF f _ _ (m:Int) _) _ (fN (carcF f arcs) m s) from h) with h | ⟨t,ht,e⟩
   ·rcases carcF_mem m h with h | ⟨j,t,hj,ht,e⟩
    ·exact .inl h
    ·exact .inr ⟨j,t,by omega,ht,e⟩
   ·exact .inr ⟨m,t,by omega,ht,e⟩
theorem instLF_fst{nets:Nat->Nat}{arcs:Nat->Nat->DArc}{ms:Nat->Nat}{x:Nat->DInst}(hx:∀i,nets i=(x i).2.2.length):∀m,(fN (instLF nets arcs ms) m (0,[])).1=(offs x m:Int)
 | 0=>rfl
 | m+1=>by
   show(fN (instLF nets arcs ms) m (0,[])).1+(nets m:Int)=((offs x m+(x m).2.2.length:Nat):Int);rw[instLF_fst hx m,hx m]; omega
theorem instLF_mem{nets:Nat->Nat}{arcs:Nat->Nat->DArc}{ms:Nat->Nat}{x:Nat->DInst}(hx:∀i,nets i=(x i).2.2.length){l:DLink}:∀m,l∈(fN (instLF nets arcs ms) m (0,[])).2->∃i j t,i<m/\j<ms i/\t < (transV (arcs i j).1 (arcs i j).2.2.2.1).length/\l=cLink (offs x i:Int) (arcs i j) j t
 | 0,h=>by cases h
 | m+1,h=>by
   rcases List.mem_append.1 (show l∈(fN (instLF nets arcs ms) m (0,[])).2++cellLinksD _ _ _ from h) with h | h
   ·obtain⟨i,j,t,hi,hr⟩:=instLF_mem hx m h;exact⟨i,j,t,by omega,hr⟩
   ·rcases carcF_mem _ h with h | ⟨j,t,hj,ht,e⟩
    ·cases h
    ·rw[instLF_fst hx m] at e;exact⟨m,j,t,by omega,hj,ht,e⟩
theorem wsinkF_mem{d:Int}{sn:List Int}{z:List DLink}{l:DLink}:∀k,l∈fN (wsinkF d sn) k z->l∈z∨∃j t,j<k/\t<2/\l=wLink d (sn.getD j 0) j t
 | 0,h=>.inl h
 | k+1,h=>by
   have h:l∈(fN (wsinkF d sn) k z++[wLink d (sn.getD k 0) k 0])++[wLink d (sn.getD k 0) k 1]:=h;rcases List.mem_append.1 h with h | h
   ·rcases List.mem_append.1 h with h | h
    ·rcases wsinkF_mem k h with h | ⟨j,t,hj,ht,e⟩
     ·exact .inl h
     ·exact .inr ⟨j,t,by omega,ht,e⟩
    ·exact .inr ⟨k,0,by omega,by omega,List.mem_singleton.1 h⟩
   ·exact .inr ⟨k,1,by omega,by omega,List.mem_singleton.1 h⟩
theorem netLF_mem{d:Nat->Int}{sn:Nat->List Int}{z:List DLink}{l:DLink}:∀m,l∈fN (netLF d sn) m z->l∈z∨∃i j t,i<m/\j < (sn i).length/\t<2/\l=wLink (d i) ((sn i).getD j 0) j t
 | 0,h=>.inl h
 | m+1,h=>by
   rcases wsinkF_mem _ (show l∈fN (wsinkF (d m) (sn m)) _ (fN (netLF d sn) m z) from h) with h | ⟨j,t,hj,ht,e⟩
   ·rcases netLF_mem m h with h | ⟨i,j,t,hi,hr⟩
    ·exact .inl h
    ·exact .inr ⟨i,j,t,by omega,hr⟩
   ·exact .inr ⟨m,j,t,by omega,hj,ht,e⟩
theorem clinkF_app(f a b x:Int)(tr:List (Int×Int))(s:List DLink):∀k,fN (clinkF f a b x tr) k s=s++fN (clinkF f a b x tr) k []
 | 0=>(List.append_nil _).symm
 | k+1=>by
   show fN (clinkF f a b x tr) k s++[_]=s++(fN (clinkF f a b x tr) k []++[_]);rw[clinkF_app f a b x tr s k,List.append_assoc]
theorem carcF_app(f:Int)(arcs:Nat->DArc)(s:List DLink):∀m,fN (carcF f arcs) m s=s++cellLinksD f arcs m
 | 0=>(List.append_nil _).symm
 | m+1=>by
   show carcF f arcs m (fN (carcF f arcs) m s)=s++carcF f arcs m (cellLinksD f arcs m);rw[carcF_app f arcs s m];unfold carcF;rw[clinkF_app,clinkF_app _ _ _ _ _ (cellLinksD f arcs m),List.append_assoc]
end Go.Proofs.Xd
end
section
namespace Go.Proofs.YtphnknndgfgepaaGreatDoor
open Go Go.Proofs Go.Proofs.Sv Go.Proofs.Xv Go.Proofs.Xl Go.Proofs.Xd
theorem r123(l:List DLink)(f t a b k i:Int)(hf:0<=f/\f<=1000)(ht:0<=t/\t<=1000)(ha:0<=a/\a<=1)(hb:0<=b/\b<=1)(hl:l.length<=100000):u123 l f t a b k i=some (l++[(2*f+a,2*t+b,k,i)]) :=
 gP ⟨oo,oo,oo,oo,⟨by show l.length+1<=_; omega,by show(l.length+1)*32<=_; omega⟩,trivial⟩
def fitsV(k s:Int)(x y:Nat):Bool:=if(k==1)=true then s==3||(s==1)==((x:Int)==(y:Int)) else if(k==2)=true then(x:Int)==0 else if(k==3)=true then(x:Int)==1 else false
def arcE(k s f t i:Int)(x y:Nat)(l:List DLink):List DLink:=if fitsV k s x y=true then l++[(2*f+(x:Int),2*t+(y:Int),1,i)] else l
theorem arcE_len(k s f t i:Int)(x y:Nat)(l:List DLink):(arcE k s f t i x y l).length<=l.length+1:=by
 unfold arcE;split
 ·rw[List.length_append]; exact Nat.le_refl _
 ·omega
theorem arcE_fold(k s f t i:Int)(x:Nat)(l:List DLink):∀n,(fN (arcE k s f t i x) n l).length<=l.length+n
 | 0=>Nat.le_refl _
 | n+1=>by
   have h:=arcE_fold k s f t i x l n;have:=arcE_len k s f t i x n (fN (arcE k s f t i x) n l);show(arcE k s f t i x n (fN (arcE k s f t i x) n l)).length<=_;omega
theorem r120(a:Y143)(l:List DLink)(f t i:Int)(hf:0<=f/\f<=1000)(ht:0<=t/\t<=1000)(hl:l.length<=90000):u120 l a f t i=some (fN (fun x s=>fN (arcE a.1 a.2.2.2.1 f t i x) 2 s) 2 l):=by
 unfold u120;refine lF (n:=2) (by decide) (fun(x:Nat) (s:List DLink)=>((x:Int),s)) (fun x s=>fN (arcE a.1 a.2.2.2.1 f t i x) 2 s) (fun x s=>s.length<=l.length+2*x) (J:=fun s=>some s) (F:=u120L1 f t i a) (fun g x s hx hI=>?_) (fun x s hx hI=>?_) (fun g s _=>by
  show u120L1 f t i a g (((2:Nat):Int),s)=_;rw[u120L1];exact if_neg (by decide)) l (Nat.le_refl _)
 ·have hI:s.length<=l.length+2*x:=hI;refine(if_pos (decide_eq_true (by omega))).trans ?_;refine(lF (n:=2) (by decide) (fun(y:Nat) (s:List DLink)=>((y:Int),s)) (arcE a.1 a.2.2.2.1 f t i x) (fun y s=>s.length<=l.length+2*x+y) (J:=fun s=>u120J2 (x:Int) g s) (F:=u120L3 f t (x:Int) i a g) (fun g' y s hy hI=>?_) (fun y s hy hI=>?_) (fun g' s _=>by
   show u120L3 f t (x:Int) i a g g' (((2:Nat):Int),s)=_;rw[u120L3];exact if_neg (by decide)) s hI).trans ?_
  ·have hI:s.length<=l.length+2*x+y:=hI;have j4:∀v,u120J4 (y:Int) g' v=g' (((y+1:Nat):Int),v):=fun v=>gP ⟨oo,trivial⟩;have j5:∀v,u120J5 (y:Int) s f t (x:Int) i g' v=g' (((y+1:Nat):Int),if v=true then s++[(2*f+(x:Int),2*t+(y:Int),1,i)] else s):=fun v=>by
    cases v with
    | true=>rw[u120J5,if_pos rfl,if_pos rfl,r123 s f t x y 1 i hf ht (by omega) (by omega) (by omega),gP ⟨rfl,trivial⟩,vS,lE,j4]
    | false=>rw[u120J5,if_neg (by simp),if_neg (by simp),j4]
   refine(if_pos (decide_eq_true (by omega))).trans ?_;show _=g' (((y+1:Nat):Int),arcE a.1 a.2.2.2.1 f t i x y s);unfold arcE fitsV;rw[j5,j5,j5,j5];by_cases h1:(a.1==1)=true
   ·rw[if_pos h1,if_pos h1]
   rw[if_neg h1,if_neg h1];by_cases h2:(a.1==2)=true
   ·rw[if_pos h2,if_pos h2]
   rw[if_neg h2,if_neg h2];by_cases h3:(a.1==3)=true
   ·rw[if_pos h3,if_pos h3]
   rw[if_neg h3,if_neg h3]
  ·have hI:s.length<=l.length+2*x+y:=hI;have:=arcE_len a.1 a.2.2.2.1 f t i x y s;omega
  ·exact gP ⟨oo,trivial⟩
 ·have hI:s.length<=l.length+2*x:=hI;have:=arcE_fold a.1 a.2.2.2.1 f t i x s 2;omega
theorem arc_eq{k s:Int}(h:(k=1/\(s=1∨s=2∨s=3))∨k=2∨k=3)(fo A B i:Int)(l:List DLink):fN (fun x z=>fN (arcE k s (fo+A) (fo+B) i x) 2 z) 2 l=fN (clinkF fo A B i (transV k s)) (transV k s).length l:=by
 rcases h with ⟨rfl,rfl | rfl | rfl⟩ | rfl | rfl <;> rfl
theorem find_first{b:Nat->Bool}{n m:Nat}(hm:m<n)(h1:b m=true)(h2:∀j,j<m->b j=false):(List.range n).find? b=some m:=by
 rw[List.find?_range_eq_some];refine⟨h1,List.mem_range.2 hm,fun j hj=>?_⟩;rw[h2 j hj]; rfl
theorem r121(d:Y31)(hd:wf y31 d){l:List Y163}(df:DF l d){i k:Nat}(hi:i<d.1.length)(hk:k < (insOf d i).2.2.length):u121 d (i:Int) (k:Int)=some ((offs (insOf d) i+k:Nat):Int)/\offs (insOf d) i+k < (plcs d).length:=by
 have hl:=df.len;have hlt:offs (insOf d) i+k < (plcs d).length:=by
  have:=offs_lt (insOf d) hi hk;unfold plcs;rw[places_len]; omega
 refine⟨?_,hlt⟩;unfold u121;rw[r124 d hd df.fac.ni14 df.fac.np8 df.pin,vS,gP ⟨rfl,trivial⟩,lE];have ho:∀j,j < (plcs d).length->((plcOf d j).1==(i:Int)&&(plcOf d j).2.1==(k:Int))=decide (j=offs (insOf d) i+k):=fun j hj=>place_only d.1.length d.2.2.length (insOf d) (prtOf d) (dflt y105) hi hk hj;have key:=idx_some (n:=(plcs d).length) (by omega) (fun j=>(plcOf d j).1==(i:Int)&&(plcOf d j).2.1==(k:Int)) (F:=u121L1 (plcs d) (i:Int) (k:Int)) (fun g j hj=>by
  have e3:((j:Int)).toNat=j:=rfl;refine(if_pos (by simpa using hj)).trans ?_;rw[e3,gP ⟨oo,hj,(fun _=>oo),(fun _=>hj),trivial⟩,gP ⟨oo,trivial⟩]) (fun g=>aE)
 refine key.trans ?_;rw[find_first hlt (by rw[ho _ hlt,decide_eq_true rfl]) (fun j hj=>by rw[ho j (by omega)]; exact decide_eq_false (by omega))]
theorem drv_cnt{b:Y34}(hb:blockOk b=true){t:Nat}(ht:t<b.2.2.length):cntF (drvB (plcOf b.2.1) t) (plcs b.2.1).length=1:=by
 obtain⟨hd,hlen,_⟩:=block_design hb;have df:=df_of hd;have hD:designB _ _ _ _ _ _ _ _ _=true:=hd;unfold designB at hD;rw[ba] at hD;have hx:∀i,i<b.2.1.1.length->1<=(insOf b.2.1 i).2.2.length/\inB ((insOf b.2.1 i).2.2.getD ((insOf b.2.1 i).2.2.length-1) 0) 0 ((b.2.1.2.1.length:Int)-1)=true:=fun i hi=>by
  have h1:=(df.pin i hi).1;exact⟨h1,df.fac.net.1 i hi _ (by omega)⟩
 obtain⟨p1,p2⟩:=port_cnt (d:=dflt y105) hx (fun i hi=>df.fac.net.2 i hi) b.2.1.2.2.length (Nat.le_refl _);have hall:=all_getD (p:=fun x=>x==1) hD.2 (i:=t) (by
  unfold driveN;rw[p1]; omega)
 have h1:(driveN b.2.1.1.length b.2.1.2.2.length b.2.1.2.1.length (insOf b.2.1) (prtOf b.2.1)).getD t 0=1:=beq_iff_eq.1 hall;have h2:=p2 t (by omega);unfold driveN at h1;rw[h1] at h2;have h3:(plcs b.2.1).length=offs (insOf b.2.1) b.2.1.1.length+b.2.1.2.2.length:=places_len _ _ _ _;rw[h3];exact Int.ofNat.inj h2.symm
theorem r122(b:Y34)(hw:wf y34 b)(hb:blockOk b=true){t:Nat}(ht:t<b.2.2.length):u122 b.2.1 (t:Int)=some (drvV b t)/\0<=drvV b t/\(drvV b t).toNat < (plcs b.2.1).length:=by
 have df:=df_of (block_design hb).1;have hl:=df.len;obtain⟨i,h1,h2,h3,h4⟩:=drv_one (drv_cnt hb ht);have hv:drvV b t=(i:Int):=h4;refine⟨?_,by omega,by omega⟩;unfold u122;rw[r124 b.2.1 hw.2.1 df.fac.ni14 df.fac.np8 df.pin,vS,gP ⟨rfl,trivial⟩,lE];have key:=idx_some (n:=(plcs b.2.1).length) (by omega) (drvB (plcOf b.2.1) t) (F:=u122L1 (plcs b.2.1) (t:Int)) (fun g j hj=>by
  have e3:((j:Int)).toNat=j:=rfl;refine(if_pos (by simpa using hj)).trans ?_;rw[e3,gP ⟨oo,hj,(fun _=>oo),(fun _=>hj),trivial⟩,gP ⟨oo,trivial⟩];rfl) (fun g=>aE)
 refine key.trans ?_;rw[find_first h1 h2 (fun j hj=>by rw[h3 j (by omega)]; exact decide_eq_false (by omega)),hv]
theorem arc_facts{c:Y163}(h:cellOk isArcS c=true){j:Nat}(hj:j<c.2.2.2.1.length):isArcS c.2.2.1.length (pinOf c) (arcOf c j)=true:=by
 have h:cellB isArcS _ _ _ _ _ _ _ _ _=true:=h;unfold cellB arcsB at h;simp only[ba,dq] at h;have:=not_any.1 h.1.1.1.2.2 j hj;rw[Bool.or_eq_false_iff,Bool.not_eq_false'] at this;exact this.1
theorem arc_comb{n:Nat}{p:Nat->DPin}{a:DArc}(h:isArcS n p a=true)(hk:a.1<=3):((a.1=1/\(a.2.2.2.1=1∨a.2.2.2.1=2∨a.2.2.2.1=3))∨a.1=2∨a.1=3)/\areTables a.2.2.2.2.1 true=true/\areTables a.2.2.2.2.2 true=true:=by
 unfold isArcS at h;simp only[ba] at h;obtain⟨_,h⟩:=h;by_cases h1:a.1=1
 ·rw[if_pos h1] at h;simp only[ba] at h;have:=inB_iff.1 h.1.1.2;exact⟨.inl ⟨h1,by omega⟩,h.1.2,h.2⟩
 rw[if_neg h1] at h;by_cases h2:a.1=2∨a.1=3
 ·rw[if_pos h2] at h;simp only[ba] at h;exact⟨.inr h2,h.1.2,h.2⟩
 rw[if_neg h2] at h;by_cases h3:a.1=4∨a.1=5
 ·omega
 ·rw[if_neg h3] at h; cases h
theorem trans_none{k s:Int}(h:3<k):transV k s=[]:=by
 unfold transV;rw[if_neg (by rw[beq_iff_eq]; omega),if_neg (by rw[beq_iff_eq]; omega),if_pos (by rw[bne_iff_ne]; omega)]
def cellF(b:Y34)(i:Nat)(s:List DLink):List DLink:=s++cellLinksD (offs (insOf b.2.1) i) (arcOf (celI b i)) (celI b i).2.2.2.1.length
theorem cellF_fold(b:Y34):∀n,fN (cellF b) n []=(fN (instLV b) n (0,[])).2
 | 0=>rfl
 | n+1=>by
   show cellF b n (fN (cellF b) n [])=(fN (instLV b) n (0,[])).2++cellLinksD (fN (instLV b) n (0,[])).1 (arcOf (celI b n)) (celI b n).2.2.2.1.length;have h1:(fN (instLV b) n (0,[])).1=(offs (insOf b.2.1) n:Int):=instLF_fst (fun _=>rfl) n;rw[cellF_fold b n,h1]; rfl
theorem sink_place{b:Y34}(df:DF b.1 b.2.1){t:Int}{k:Nat}(hk:k < (sinksV b.2.1 t).length):0<=(sinksV b.2.1 t).getD k 0/\(sinksV b.2.1 t).getD k 0<=1000:=by
 have:=sinksV_at hk;have:=df.len;omega
theorem r59(b:Y34)(hw:wf y34 b)(hb:blockOk b=true):u59 b=some (lV b):=by
 obtain⟨hd0,hlen,hwire⟩:=block_design hb;have df:=df_of hd0;have hd:=hw.2.1;have h14:=df.fac.ni14;have h30:=df.fac.nn30;have hpl:=df.len;unfold u59;refine(lF (n:=b.2.1.1.length) (by omega) (fun(i:Nat) (s:List DLink)=>((i:Int),s)) (cellF b) (fun i s=>s.length<=32*i) (J:=u59J0 b) (F:=u59L1 b) (fun g i s hi hI=>?_) (fun i s hi hI=>?_) (fun g s _=>aE) [] (Nat.le_refl _)).trans ?_
 ·have hI:s.length<=32*i:=hI;have e3:((i:Int)).toNat=i:=rfl;obtain⟨x1,x2,x3⟩:=inst_cell' df hi;obtain⟨c1,c2,c3,c4⟩:=cell_arcs x2;have hfind:=fun k hk=>r121 b.2.1 hd df (i:=i) (k:=k) hi hk;refine(if_pos (by simpa using hi)).trans ?_;rw[e3,gP ⟨oo,x1,trivial⟩,lE];refine(lF (n:=(celI b i).2.2.2.1.length) (by omega) (fun(j:Nat) (z:List DLink)=>((j:Int),z)) (carcF (offs (insOf b.2.1) i) (arcOf (celI b i))) (fun j z=>z.length<=s.length+4*j) (J:=u59J2 (i:Int) g) (F:=u59L3 (celI b i) b (i:Int) g) (fun g' j z hj hz=>?_) (fun j z hj hz=>?_) (fun g' z _=>aE) s (Nat.le_refl _)).trans ?_
  ·have hz:z.length<=s.length+4*j:=hz;have e4:((j:Int)).toNat=j:=rfl;obtain⟨a1,a2,a3,a4⟩:=c4 j hj;have ha:=arc_facts x2 hj;have j4:∀v,u59J4 (j:Int) g' v=g' (((j+1:Nat):Int),v):=fun v=>gP ⟨oo,trivial⟩;refine(if_pos (by simpa using hj)).trans ?_;rw[e4,gP ⟨oo,trivial⟩];show(if decide ((arcOf (celI b i) j).1<=3)=true then _ else _)=g' (((j+1:Nat):Int),carcF (offs (insOf b.2.1) i) (arcOf (celI b i)) j z);by_cases hk:(arcOf (celI b i) j).1<=3
   ·refine(if_pos (decide_eq_true hk)).trans ?_;obtain⟨k1,k2,k3⟩:=arc_comb ha hk;obtain⟨A,hA⟩:∃A:Nat,(arcOf (celI b i) j).2.1=(A:Int):=⟨(arcOf (celI b i) j).2.1.toNat,by omega⟩;obtain⟨B,hB⟩:∃B:Nat,(arcOf (celI b i) j).2.2.1=(B:Int):=⟨(arcOf (celI b i) j).2.2.1.toNat,by omega⟩;obtain⟨fA,lA⟩:=hfind A (by omega);obtain⟨fB,lB⟩:=hfind B (by omega);have hs:=r120 (arcOf (celI b i) j) z ((offs (insOf b.2.1) i+A:Nat):Int) ((offs (insOf b.2.1) i+B:Nat):Int) (j:Int) (by omega) (by omega) (by omega);have ee:=arc_eq k1 (offs (insOf b.2.1) i:Int) (A:Int) (B:Int) (j:Int) z;rw[<- Int.natCast_add,<- Int.natCast_add] at ee;rw[ee] at hs;show gd (ix (j:Int) (celI b i).2.2.2.1.length/\ix (j:Int) (celI b i).2.2.2.1.length/\(u121 b.2.1 (i:Int) (arcOf (celI b i) j).2.1).isSome=true/\ix (j:Int) (celI b i).2.2.2.1.length/\(u121 b.2.1 (i:Int) (arcOf (celI b i) j).2.2.1).isSome=true/\(u120 z (arcOf (celI b i) j) (vl (u121 b.2.1 (i:Int) (arcOf (celI b i) j).2.1)) (vl (u121 b.2.1 (i:Int) (arcOf (celI b i) j).2.2.1)) (j:Int)).isSome=true/\True) (lt (vl (u120 z (arcOf (celI b i) j) (vl (u121 b.2.1 (i:Int) (arcOf (celI b i) j).2.1)) (vl (u121 b.2.1 (i:Int) (arcOf (celI b i) j).2.2.1)) (j:Int))) fun v=>u59J4 (j:Int) g' v)=_;rw[hA,hB,fA,fB,vS,vS,hs,vS,gP ⟨oo,oo,rfl,oo,rfl,rfl,trivial⟩,lE,j4];unfold carcF;rw[hA,hB]
   ·refine(if_neg (by simpa using hk)).trans ?_;rw[j4];unfold carcF;rw[trans_none (by omega)];rfl
  ·have hz:z.length<=s.length+4*j:=hz;have:=carcF_len (offs (insOf b.2.1) i) (arcOf (celI b i)) j z;omega
  ·rw[carcF_app];exact gP ⟨oo,trivial⟩
 ·have hI:s.length<=32*i:=hI;obtain⟨x1,x2,x3⟩:=inst_cell' df hi;have c3:=(cell_arcs x2).2.2.1;have:=cellLinksD_len (offs (insOf b.2.1) i) (arcOf (celI b i)) (celI b i).2.2.2.1.length;unfold cellF;rw[List.length_append];omega
 ·have hcl:(fN (cellF b) b.2.1.1.length []).length<=500:=by
   have:=instLV_in df b.2.1.1.length (Nat.le_refl _);rw[cellF_fold];omega
  have hcv:fN (cellF b) b.2.1.1.length []=clinksV b:=cellF_fold b _;unfold lV;rw[hcv] at hcl ⊢;generalize clinksV b=z at hcl ⊢;unfold u59J0;rw[hlen];refine lF (n:=b.2.1.2.1.length) (by omega) (fun(i:Nat) (s:List DLink)=>((i:Int),s)) (netLF (drvV b) (fun i=>sinksV b.2.1 i)) (fun i s=>s.length<=500+160*i) (J:=fun s=>some s) (F:=u59L6 b) (fun g i s hi hI=>?_) (fun i s hi hI=>?_) (fun g s _=>aE) z hcl
  ·have hI:s.length<=500+160*i:=hI;have hi':i<b.2.2.length:=by omega
   have hs78:=(net_ok hb hi').s78;obtain⟨d1,d2,d3⟩:=r122 b hw hb hi';have es:u71 b.2.1 (i:Int)=some (sinksV b.2.1 i):=r71 b.2.1 hd df _;refine(if_pos (by simpa using hi)).trans ?_;rw[d1,vS,gP ⟨rfl,trivial⟩,lE,es,vS,gP ⟨rfl,trivial⟩,lE];refine(lF (n:=(sinksV b.2.1 i).length) (by omega) (fun(k:Nat) (y:List DLink)=>((k:Int),y)) (wsinkF (drvV b i) (sinksV b.2.1 i)) (fun k y=>y.length=s.length+2*k) (J:=u59J7 (i:Int) g) (F:=u59L8 (drvV b i) (sinksV b.2.1 i) (i:Int) g) (fun g8 k y hk hy=>?_) (fun k y hk hy=>?_) (fun g8 y _=>aE) s rfl).trans ?_
   ·have hy:y.length=s.length+2*k:=hy;have e4:((k:Int)).toNat=k:=rfl;have hsp:=sink_place df hk;have p1:=r123 y (drvV b i) ((sinksV b.2.1 i).getD k 0) 0 0 2 (k:Int) (by omega) hsp oo oo (by omega);have p2:=r123 (y++[(2*drvV b i+0,2*(sinksV b.2.1 i).getD k 0+0,2,(k:Int))]) (drvV b i) ((sinksV b.2.1 i).getD k 0) 1 1 2 (k:Int) (by omega) hsp oo oo (by rw[List.length_append]; show y.length+1<=_; omega);refine(if_pos (by simpa using hk)).trans ?_;rw[e4,p1,vS,gP ⟨oo,hk,rfl,trivial⟩,lE,p2,vS,gP ⟨oo,hk,rfl,trivial⟩,lE];exact gP ⟨oo,trivial⟩
   ·have hy:y.length=s.length+2*k:=hy;rw[wsinkF_len,hy]; omega
   ·exact gP ⟨oo,trivial⟩
  ·have hI:s.length<=500+160*i:=hI;have hs78:=(net_ok hb (show i<b.2.2.length by omega)).s78;unfold netLF;rw[wsink_len];show s.length+2*(sinksV b.2.1 i).length<=_;omega
theorem links_len{b:Y34}(hb:blockOk b=true):(lV b).length<=6000:=by
 have df:=df_of (block_design hb).1;have h14:=df.fac.ni14;have h1:=instLV_in df b.2.1.1.length (Nat.le_refl _);have h2:=netL_len (drvV b) (fun i=>sinksV b.2.1 i) (clinksV b) (n:=b.2.2.length) (c:=78) (fun i hi=>(net_ok hb hi).s78) b.2.2.length (Nat.le_refl _);have h3:=(block_design hb).2.1;have h30:=df.fac.nn30;have h4:(clinksV b).length=(fN (instLV b) b.2.1.1.length (0,[])).2.length:=rfl;unfold lV;omega
theorem link_is{b:Y34}{l:DLink}(h:l∈lV b):(∃i j t,i<b.2.1.1.length/\j < (celI b i).2.2.2.1.length/\t < (transV (arcOf (celI b i) j).1 (arcOf (celI b i) j).2.2.2.1).length/\l=cLink (offs (insOf b.2.1) i:Int) (arcOf (celI b i) j) j t) ∨
  ∃i k t,i<b.2.2.length/\k < (sinksV b.2.1 i).length/\t<2/\l=wLink (drvV b i) ((sinksV b.2.1 i).getD k 0) k t:=by
 rcases netLF_mem _ h with h | h
 ·exact .inl (instLF_mem (fun _=>rfl) _ h)
 ·exact .inr h
theorem drvN_lt(pl:Nat->DPlace)(t:Int):∀m,0<m->drvN pl t m<m
 | 1,_=>by
   have e:drvN pl t 1=if((pl 0).2.2.1==t&&(pl 0).2.2.2)=true then((0:Nat):Int) else 0:=rfl
   rw[e];split <;> simp
 | m+2,_=>by
   have e:drvN pl t (m+2)=if((pl (m+1)).2.2.1==t&&(pl (m+1)).2.2.2)=true then((m+1:Nat):Int) else drvN pl t (m+1):=rfl
   have:=drvN_lt pl t (m+1) (by omega);rw[e];split <;> omega
theorem link_nodes{b:Y34}(hb:blockOk b=true){l:DLink}(h:l∈lV b):0<=l.1/\l.1<2*((plcs b.2.1).length:Int)/\0<=l.2.1/\l.2.1<2*((plcs b.2.1).length:Int):=by
 obtain⟨hd,hlen,_⟩:=block_design hb;have df:=df_of hd;rcases link_is h with ⟨i,j,t,hi,hj,ht,rfl⟩ | ⟨i,k,t,hi,hk,ht,rfl⟩
 ·obtain⟨x1,x2,x3⟩:=inst_cell' df hi;obtain⟨c1,c2,c3,c4⟩:=cell_arcs x2;obtain⟨a1,a2,a3,a4⟩:=c4 j hj;obtain⟨A,hA⟩:∃A:Nat,(arcOf (celI b i) j).2.1=(A:Int):=⟨(arcOf (celI b i) j).2.1.toNat,by omega⟩;obtain⟨B,hB⟩:∃B:Nat,(arcOf (celI b i) j).2.2.1=(B:Int):=⟨(arcOf (celI b i) j).2.2.1.toNat,by omega⟩;have hAn:A < (insOf b.2.1 i).2.2.length:=by omega
  have hBn:B < (insOf b.2.1 i).2.2.length:=by omega
  have lA:offs (insOf b.2.1) i+A < (plcs b.2.1).length:=by
   have:=offs_lt (insOf b.2.1) hi hAn;unfold plcs;rw[places_len]; omega
  have lB:offs (insOf b.2.1) i+B < (plcs b.2.1).length:=by
   have:=offs_lt (insOf b.2.1) hi hBn;unfold plcs;rw[places_len]; omega
  have tr:=(transV_ok _ _).2 _ (getD_mem (d:=(0,0)) ht);have e1:(cLink (offs (insOf b.2.1) i:Int) (arcOf (celI b i) j) j t).1=2*((offs (insOf b.2.1) i:Int)+(A:Int))+((transV (arcOf (celI b i) j).1 (arcOf (celI b i) j).2.2.2.1).getD t (0,0)).1:=by
   rw[<- hA]; rfl
  have e2:(cLink (offs (insOf b.2.1) i:Int) (arcOf (celI b i) j) j t).2.1=2*((offs (insOf b.2.1) i:Int)+(B:Int))+((transV (arcOf (celI b i) j).1 (arcOf (celI b i) j).2.2.2.1).getD t (0,0)).2:=by
   rw[<- hB]; rfl
  rw[e1,e2];omega
 ·obtain⟨q,h1,h2,h3,_⟩:=sinkL_in (plcOf b.2.1) i (plcs b.2.1).length _ (getD_mem (d:=0) hk);have h1:(sinksV b.2.1 i).getD k 0=(q:Int):=h1;have d1:=(drvN_in (plcOf b.2.1) i (plcs b.2.1).length).1;have d2:=drvN_lt (plcOf b.2.1) i (plcs b.2.1).length (by omega);have e1:(wLink (drvV b i) ((sinksV b.2.1 i).getD k 0) k t).1=2*drvN (plcOf b.2.1) i (plcs b.2.1).length+(t:Int):=rfl;have e2:(wLink (drvV b i) ((sinksV b.2.1 i).getD k 0) k t).2.1=2*(q:Int)+(t:Int):=by
   rw[<- h1]; rfl
  rw[e1,e2];omega
section
variable (b:Y34)
def nodN:Nat:=2*(plcs b.2.1).length
def frN(i:Nat):Nat:=((lV b).getD i (dflt y48)).1.toNat
def toN(i:Nat):Nat:=((lV b).getD i (dflt y48)).2.1.toNat
theorem frto(hb:blockOk b=true){i:Nat}(hi:i < (lV b).length):((lV b).getD i (dflt y48)).1=(frN b i:Int)/\((lV b).getD i (dflt y48)).2.1=(toN b i:Int)/\frN b i<nodN b/\toN b i<nodN b:=by
 obtain⟨h1,h2,h3,h4⟩:=link_nodes hb (getD_mem (d:=dflt y48) hi);unfold frN toN nodN;omega
theorem nod_le(hb:blockOk b=true):nodN b<=1000000:=by
 have hl:=(df_of (block_design hb).1).len;unfold nodN;omega
theorem r115(hb:blockOk b=true):u115 (viewV b)=some (nodN b:Int):=by
 have hl:=(df_of (block_design hb).1).len;have e:∀s:List Y105,u67 s=some (s.length:Int):=fun _=>rfl;unfold u115;rw[e,vS,gP ⟨rfl,⟨by show _<=2*((plcs b.2.1).length:Int); omega,by show 2*((plcs b.2.1).length:Int)<=_; omega⟩,trivial⟩,lE];unfold nodN;rw[Int.natCast_mul];rfl
theorem r61(hw:wf y34 b)(hb:blockOk b=true):u61 b=some (nodN b:Int):=by
 have df:=df_of (block_design hb).1;have hl:=df.len;unfold u61;rw[r124 b.2.1 hw.2.1 df.fac.ni14 df.fac.np8 df.pin,vS,gP ⟨rfl,⟨by show _<=2*((plcs b.2.1).length:Int); omega,by show 2*((plcs b.2.1).length:Int)<=_; omega⟩,trivial⟩,lE];unfold nodN;rw[Int.natCast_mul];rfl
end
def hasB(l:List Int)(x:Int):Bool:=(List.range l.length).any fun j=>l.getD j 0==x
theorem r125(l:List Int)(x:Int)(hl:l.length<=9223372036854775807):u125 l x=some (hasB l x):=by
 have key:=lp_all hl (fun j=>l.getD j 0==x) (some true) (e:=some false) (F:=u125L1 l x) (fun g i hi=>by
  have e3:((i:Int)).toNat=i:=rfl;refine(if_pos (decide_eq_true (by omega))).trans ((gP ⟨oo,trivial⟩).trans ?_);rw[e3];by_cases h:(l.getD i 0==x)=true
  ·rw[if_pos h,if_pos h]
  ·rw[if_neg h,if_neg h];exact gP ⟨oo,trivial⟩) (fun g=>if_neg (by simp))
 refine key.trans ?_;unfold hasB;cases(List.range l.length).any fun j=>l.getD j 0==x <;> rfl
def liveV(M:Nat)(br:List Int):List Bool:=fN (appF fun k=>!hasB br (k:Int)) M []
theorem r62(ls:List Y48)(br:List Int)(h1:ls.length<=1048576)(h2:br.length<=1048576):u62 ls br=some (liveV ls.length br):=by
 refine(lF (n:=ls.length) (by omega) (fun i (s:List Bool)=>((i:Int),s)) (appF fun k=>!hasB br (k:Int)) (fun i s=>s.length=i) (J:=fun s=>some s) (F:=u62L1 br ls) (fun g i s hi hs=>?_) (fun i s _ hs=>by show(s++[_]).length=_; simp[hs]) (fun g s _=>if_neg (by simp)) [] rfl).trans rfl;have e3:((i:Int)).toNat=i:=rfl;refine(if_pos (decide_eq_true (by omega))).trans ?_;rw[r125 br _ (by omega),vS];refine(gP ⟨rfl,⟨by simp only[List.length_singleton]; omega,by simp only[List.length_singleton]; omega⟩,trivial⟩).trans ?_;exact gP ⟨oo,trivial⟩
def brokB(M:Nat)(br:List Int):Bool:=br.all (inB · 0 ((M:Int)-1))&&incB br
theorem inc_nil:u174 []=some true:=by
 unfold u174;refine lp_zero (fun n hn=>?_);obtain⟨m,rfl⟩:∃m,n=m+1:=⟨n-1,by omega⟩;rfl
theorem r1740(xs:List Int)(h:xs.length<=9223372036854775807):u174 xs=some (incB xs):=by
 cases xs with
 | nil=>exact inc_nil
 | cons x r=>exact r174 _ h (by simp)
theorem r113{b:Y34}(hb:blockOk b=true)(br:List Int)(h:br.length<=1048576):u113 (viewV b) br=some (brokB (lV b).length br):=by
 have hl:=links_len hb;have e:u159 (viewV b).2.2.1=some ((lV b).length:Int):=rfl;unfold u113;rw[e,vS,r173 br 0 _ (by omega),vS,r1740 br (by omega),vS,gP ⟨rfl,oo,rfl,(fun _=>rfl),trivial⟩];rfl
theorem r119(M:Nat)(br:List Int)(hM:M<=1048576)(h:br.length<=1048576):u119 br (M:Int)=some (brokB M br):=by
 have key:=lp_all (n:=br.length) (by omega) (fun i=>!inB (br.getD i 0) 0 ((M:Int)-1)||(decide (0<i)&&decide (br.getD i 0<=br.getD (i-1) 0))) (some false) (e:=some true) (F:=u119L1 br (M:Int)) (fun g i hi=>by
  have e3:((i:Int)).toNat=i:=rfl;have e4:((i:Int)-1).toNat=i-1:=by omega
  refine(if_pos (decide_eq_true (by omega))).trans ?_;rw[r97,vS,e3,e4];refine(gP ⟨oo,oo,rfl,(fun hc=>oo),(fun hc=>⟨by have:=of_decide_eq_true hc.1; omega,by omega⟩),(fun _=>oo),trivial⟩).trans ?_;have ed:decide ((0:Int) < (i:Int))=decide (0<i):=by
   rw[decide_eq_decide]; omega
  rw[ed];by_cases hc:(!inB (br.getD i 0) 0 ((M:Int)-1)||(decide (0<i)&&decide (br.getD i 0<=br.getD (i-1) 0)))=true
  ·rw[if_pos hc,if_pos hc]
  ·rw[if_neg hc,if_neg hc];exact gP ⟨oo,trivial⟩) (fun g=>if_neg (by simp))
 refine key.trans ?_;have e:brokB M br=!((List.range br.length).any fun i=>!inB (br.getD i 0) 0 ((M:Int)-1)||(decide (0<i)&&decide (br.getD i 0<=br.getD (i-1) 0))):=by
  unfold brokB incB;rw[Bool.eq_iff_iff];simp only[ba,Bool.not_eq_true',<- Bool.not_eq_true,List.any_eq_true,List.all_eq_true,List.mem_range,Bool.or_eq_true];constructor
  ·rintro⟨h1,h2⟩ ⟨i,hi,hc⟩;rcases hc with hc | hc
   ·exact hc (h1 _ (getD_mem hi))
   ·exact h2 ⟨i,hi,hc⟩
  ·intro hn;refine⟨fun x hx=>?_,fun⟨i,hi,hc⟩=>hn ⟨i,hi,.inr hc⟩⟩;obtain⟨i,hi,rfl⟩:=List.getElem_of_mem hx;by_cases hc:inB br[i] 0 ((M:Int)-1)=true
   ·exact hc
   ·refine(hn ⟨i,hi,.inl ?_⟩).elim;rw[gq,List.getElem?_eq_getElem hi];exact hc
 rw[e];cases(List.range br.length).any fun i=>!inB (br.getD i 0) 0 ((M:Int)-1)||(decide (0<i)&&decide (br.getD i 0<=br.getD (i-1) 0)) <;> rfl
theorem tr_fold(M:Nat):∀m,m<=M->(fN (fun i (s:List Bool)=>s.set i true) m (List.replicate M false)).length=M/\∀k,k<m->(fN (fun i (s:List Bool)=>s.set i true) m (List.replicate M false)).getD k false=true:=by
 intro m
 induction m with
 | zero=>exact fun _=>⟨List.length_replicate,fun k hk=>by omega⟩
 | succ m ih =>
   intro hm;obtain⟨h1,h2⟩:=ih (by omega);refine⟨by show(List.set _ _ _).length=M; rw[List.length_set,h1],fun k hk=>?_⟩;show(List.set _ _ _).getD k false=true;rw[setB_get _ (by rw[h1]; omega)];by_cases e:k=m
   ·rw[if_pos e]
   ·rw[if_neg e]; exact h2 k (by omega)
theorem br_fold(br:List Int)(s:List Bool):∀m,(∀j,j<m->(br.getD j 0).toNat<s.length)->(fN (fun i (s:List Bool)=>s.set (br.getD i 0).toNat false) m s).length=s.length/\∀k,(fN (fun i (s:List Bool)=>s.set (br.getD i 0).toNat false) m s).getD k false=(s.getD k false&&!(List.range m).any fun j=>(br.getD j 0).toNat==k):=by
 intro m
 induction m with
 | zero=>exact fun _=>⟨rfl,fun k=>by show s.getD k false=_; simp⟩
 | succ m ih =>
   intro hm;obtain⟨h1,h2⟩:=ih (fun j hj=>hm j (by omega));refine⟨by show(List.set _ _ _).length=_; rw[List.length_set,h1],fun k=>?_⟩;show(List.set _ _ _).getD k false=_;rw[setB_get _ (by rw[h1]; exact hm m (by omega)),h2,List.range_succ,List.any_append];by_cases e:k=(br.getD m 0).toNat
   ·have:((br.getD m 0).toNat==k)=true:=by rw[e]; exact beq_self_eq_true _
    rw[if_pos e];simp only[List.any_cons,List.any_nil,this,Bool.or_true,Bool.true_or,Bool.not_true,Bool.and_false]
   ·have:((br.getD m 0).toNat==k)=false:=beq_eq_false_iff_ne.2 (Ne.symm e);rw[if_neg e];simp only[List.any_cons,List.any_nil,this,Bool.or_false]
def idxV(p:Nat->Bool)(M:Nat):List Int:=((List.range M).filter p).map fun i:Nat=>(i:Int)
theorem idxV_fold(p:Nat->Bool):∀m,fN (fun i (s:List Int)=>if p i=true then s++[(i:Int)] else s) m []=idxV p m
 | 0=>rfl
 | m+1=>by
   show(if p m=true then fN _ m []++[(m:Int)] else fN _ m [])=_;rw[idxV_fold p m];unfold idxV;rw[List.range_succ,List.filter_append,List.map_append];by_cases h:p m=true
   ·rw[if_pos h]; simp[h]
   ·rw[if_neg h]; simp[h]
theorem idxV_len(p:Nat->Bool)(M:Nat):(idxV p M).length<=M/\(idxV p M).length=((List.range M).filter p).length:=by
 unfold idxV;rw[List.length_map];have:=List.length_filter_le p (List.range M);rw[List.length_range] at this;exact⟨this,rfl⟩
theorem idxV_get(p:Nat->Bool)(M i:Nat):(idxV p M).getD i 0=((((List.range M).filter p).getD i 0:Nat):Int):=by
 unfold idxV;rw[gq,gq,List.getElem?_map];cases((List.range M).filter p)[i]? <;> rfl
def ordRes(o:Option (List Nat)):List Int×Bool:=match o with
 | none=>([],false)
 | some l=>(l.map (fun v:Nat=>(v:Int)),true)
section
variable {b:Y34}
theorem r114(hb:blockOk b=true){br:List Int}(hbr:brokB (lV b).length br=true)(hl:br.length<=1048576):u114 (viewV b) br=some (viewV b,liveV (lV b).length br):=by
 have hM:=links_len hb;have hbr:=hbr;unfold brokB at hbr;rw[ba] at hbr;have hin:∀j,j<br.length->0<=br.getD j 0/\br.getD j 0 < ((lV b).length:Int):=fun j hj=>by
  have:=inB_iff.1 (all_getD hbr.1 hj);omega
 obtain⟨t1,t2⟩:=tr_fold (lV b).length (lV b).length (Nat.le_refl _);obtain⟨f1,f2⟩:=br_fold br (fN (fun i (s:List Bool)=>s.set i true) (lV b).length (List.replicate (lV b).length false)) br.length (fun j hj=>by
  have:=hin j hj;omega)
 have hres:fN (fun i (s:List Bool)=>s.set (br.getD i 0).toNat false) br.length (fN (fun i (s:List Bool)=>s.set i true) (lV b).length (List.replicate (lV b).length false))=liveV (lV b).length br:=by
  refine list_eq false (by rw[f1,t1]; exact(appF_len _ _).symm) (fun k hk=>?_);have hk:k < (lV b).length:=by rw[f1,t1] at hk; exact hk
  rw[f2,t2 k hk,Bool.true_and];refine Eq.trans ?_ (appF_get (fun k=>!hasB br (k:Int)) false _ k hk).symm;congr 1;unfold hasB;rw[Bool.eq_iff_iff,List.any_eq_true,List.any_eq_true];constructor
  ·rintro⟨j,hj,he⟩;have:=hin j (List.mem_range.1 hj);have he:=eq_of_beq he;exact⟨j,hj,by rw[beq_iff_eq]; omega⟩
  ·rintro⟨j,hj,he⟩;have:=hin j (List.mem_range.1 hj);have he:=eq_of_beq he;exact⟨j,hj,by rw[beq_iff_eq]; omega⟩
 unfold u114;have eM:((viewV b).2.2.1.length:Int)=((lV b).length:Int):=rfl;rw[eM,Int.toNat_natCast];refine(gP ⟨⟨by omega,rfl,by omega,by omega⟩,trivial⟩).trans ?_;rw[lE,List.length_replicate];refine(lF (n:=(lV b).length) (by omega) (fun i (s:List Bool)=>((i:Int),s)) (fun i s=>s.set i true) (fun _ s=>s.length=(lV b).length) (J:=fun s=>u114J0 br (viewV b) s) (F:=u114L1 br (viewV b) ((lV b).length:Int)) (fun g i s hi hs=>?_) (fun i s _ hs=>by rw[List.length_set]; exact hs) (fun g s _=>if_neg (by simp)) (List.replicate (lV b).length false) List.length_replicate).trans ?_
 ·have e3:((i:Int)).toNat=i:=rfl;refine(if_pos (decide_eq_true (by omega))).trans ?_;refine(gP ⟨oo,by omega,trivial⟩).trans ?_;exact gP ⟨oo,trivial⟩
 ·show u114J0 br (viewV b) _=_;rw[u114J0];refine(lF (n:=br.length) (by omega) (fun i (s:List Bool)=>((i:Int),s)) (fun i s=>s.set (br.getD i 0).toNat false) (fun _ s=>s.length=(lV b).length) (J:=fun s=>some (viewV b,s)) (F:=u114L3 br (viewV b)) (fun g i s hi hs=>?_) (fun i s _ hs=>by rw[List.length_set]; exact hs) (fun g s _=>if_neg (by simp)) _ t1).trans ?_
  ·have e3:((i:Int)).toNat=i:=rfl;have:=hin i hi;refine(if_pos (decide_eq_true (by omega))).trans ?_;refine(gP ⟨oo,trivial⟩).trans ?_;rw[e3];refine(gP ⟨oo,by omega,trivial⟩).trans ?_;exact gP ⟨oo,trivial⟩
  ·exact congrArg (fun x=>some (viewV b,x)) hres
theorem r116F(hb:blockOk b=true){lv:List Bool}(hlv:lv.length=(lV b).length)(a:Nat):u116c136 (viewV b,lv) (a:Int)=some (idxV (fun i=>lv.getD i false&&frN b i==a) (lV b).length):=by
 have hM:=links_len hb;refine(lF (n:=(lV b).length) (by omega) (fun i (s:List Int)=>(s,(i:Int))) (fun i s=>if(lv.getD i false&&frN b i==a)=true then s++[(i:Int)] else s) (fun i s=>s.length<=i) (J:=fun s=>some s) (F:=u116c136L1 (viewV b,lv) (a:Int)) (fun g i s hi hs=>?_) (fun i s _ hs=>?_) (fun g s _=>if_neg (by simp[viewV])) [] (Nat.le_refl _)).trans (congrArg some (idxV_fold _ _))
 ·have e3:((i:Int)).toNat=i:=rfl;have hx:ix (i:Int) (viewV b).2.2.1.length:=⟨by omega,by show(i:Int) < ((lV b).length:Int); omega⟩;refine(if_pos (decide_eq_true hx.2)).trans ((gP ⟨hx,trivial⟩).trans ?_);rw[lE];refine(gP ⟨⟨by omega,by show(i:Int) < (lv.length:Int); omega⟩,(fun _=>rfl),trivial⟩).trans ?_;obtain⟨f1,_⟩:=frto b hb hi;have ef:(((lV b).getD i (dflt y48)).1==(a:Int))=(frN b i==a):=by
   rw[f1,Bool.eq_iff_iff,beq_iff_eq,beq_iff_eq]; omega
  show(if(lv.getD i false&&(((lV b).getD i (dflt y48)).1==(a:Int)))=true then _ else _)=_;rw[ef];by_cases h:(lv.getD i false&&frN b i==a)=true
  ·rw[if_pos h,if_pos h];refine(gP ⟨⟨by simp only[List.length_singleton]; omega,by simp only[List.length_singleton]; omega⟩,trivial⟩).trans ?_;exact gP ⟨oo,trivial⟩
  ·rw[if_neg h,if_neg h];exact gP ⟨oo,trivial⟩
 ·show(if(lv.getD i false&&frN b i==a)=true then s++[(i:Int)] else s).length<=i+1;split
  ·rw[List.length_append,List.length_singleton]; omega
  ·omega
theorem r73(hb:blockOk b=true){lv:List Bool}(hlv:lv.length=(lV b).length)(a:Nat):u73 (viewV b,lv) (a:Int)=some (idxV (fun i=>lv.getD i false&&frN b i==a) (lV b).length):=by
 unfold u73;rw[r116F hb hlv,vS,gP ⟨rfl,trivial⟩,lE]
end
section
variable {b:Y34}
def ordB(b:Y34)(lv:List Bool)(out:List Nat)(k:Nat):Option (List Nat):=ordGo (lV b).length (nodN b) (frN b) (toN b) (fun i=>lv.getD i false) k out
theorem ordGo_succ(M N:Nat)(fr to:Nat->Nat)(lv:Nat->Bool)(k:Nat)(out:List Nat):ordGo M N fr to lv (k+1) out=match nextV M N fr to lv out with | none=>none | some v=>ordGo M N fr to lv k (out++[v]):=rfl
end
section
variable {b:Y34}
theorem r60(hb:blockOk b=true){lv:List Bool}(hlv:lv.length=(lV b).length):u60 (nodN b:Int) (lV b) lv=some (ordRes (ordB b lv [] (nodN b))):=by
 have hM:=links_len hb;have hN:=nod_le b hb;have ht:∀i,i < (lV b).length->toN b i<nodN b:=fun i hi=>(frto b hb hi).2.2.2;have hN0:((nodN b:Int)).toNat=nodN b:=rfl;unfold u60;rw[hN0];refine(gP ⟨⟨by omega,rfl,by omega,by omega⟩,trivial⟩).trans ?_;exact lp_run (n:=nodN b) (by omega) (fun _ (out:List Nat)=>(listV (nodN b) out,out.map (fun v:Nat=>(v:Int))))
  (fun _ out=>(nextV (lV b).length (nodN b) (frN b) (toN b) (fun i=>lv.getD i false) out).map fun v=>out++[v]) (fun _ _=>some ([],false))
  (fun i out=>out.length=i/\∀v∈out,v<nodN b)
  (J:=fun out=>some (out.map (fun v:Nat=>(v:Int)),true)) (F:=u60L1 (lV b) lv (nodN b:Int))
  (fun g i out hi ho=>by
    obtain⟨h1,h2⟩:=ho;have ls:=fun w=>listV_get h2 w;refine(if_pos (decide_eq_true (by rw[List.length_map]; omega))).trans ?_;rw[hN0];refine(gP ⟨⟨by omega,rfl,by omega,by omega⟩,trivial⟩).trans ?_;refine(lF (n:=(lV b).length) (by omega) (fun k (w:List Bool)=>((k:Int),w)) (waitS (frN b) (toN b) (fun i=>lv.getD i false) out) (fun _ w=>w.length=nodN b) (J:=fun w=>u60J2 (listV (nodN b) out) (out.map fun v:Nat=>(v:Int)) (nodN b:Int) g w) (F:=u60L3 (lV b) lv (listV (nodN b) out) (out.map fun v:Nat=>(v:Int)) (nodN b:Int) g) (fun g3 k w hk hw=>?_) (fun k w _ hw=>?_) (fun g3 w _=>if_neg (by simp)) (List.replicate (nodN b) false) List.length_replicate).trans ?_
    ·have e3:((k:Int)).toNat=k:=rfl;obtain⟨f1,f2,f3,f4⟩:=frto b hb hk;have e4:Int.toNat ((frN b k:Nat):Int)=frN b k:=rfl;have e5:Int.toNat ((toN b k:Nat):Int)=toN b k:=rfl;have l1:=(ls (frN b k)).1;refine(if_pos (decide_eq_true (by omega))).trans ?_;rw[e3,f1,f2,e4,e5,(ls (frN b k)).2];refine(gP ⟨oo,(fun _=>oo),(fun _=>oo),(fun _=>by omega),trivial⟩).trans ?_;unfold waitS;by_cases hc:(lv.getD k false&&!out.contains (frN b k))=true
     ·rw[if_pos hc,if_pos hc];refine(gP ⟨oo,oo,by omega,trivial⟩).trans ?_;exact gP ⟨oo,trivial⟩
     ·rw[if_neg hc,if_neg hc];exact gP ⟨oo,trivial⟩
    ·unfold waitS;split
     ·rw[List.length_set]; exact hw
     ·exact hw
    ·show u60J2 _ _ _ g _=_;rw[u60J2,<- wait_next (lv:=fun i=>lv.getD i false) (fr:=frN b) ht h2];have wl:=(wait_get (fr:=frN b) (lv:=fun i=>lv.getD i false) ht out 0 _ (Nat.le_refl _)).1;generalize fN (waitS (frN b) (toN b) (fun i=>lv.getD i false) out) (lV b).length (List.replicate (nodN b) false)=w at wl;have l1:=(ls 0).1;have key:=lp_any (n:=nodN b) (by omega) (fun v=>!((listV (nodN b) out).getD v false||w.getD v false)) (fun v=>u60J5 (listV (nodN b) out) (out.map fun v:Nat=>(v:Int)) (nodN b:Int) g (v:Int)) (e:=some ([],false)) (F:=u60L6 (listV (nodN b) out) (out.map fun v:Nat=>(v:Int)) (nodN b:Int) w g) 0 (Nat.zero_le _) (fun g6 v _ hv=>by
      have e3:((v:Int)).toNat=v:=rfl;have ed:decide ((v:Int) < (nodN b:Int))=true:=decide_eq_true (by omega);refine(gP ⟨(fun _=>oo),(fun _=>by omega),(fun _=>oo),(fun _=>by omega),trivial⟩).trans ?_;rw[e3,ed,Bool.true_and];by_cases hc:((listV (nodN b) out).getD v false||w.getD v false)=true
      ·rw[if_pos hc,if_neg (by rw[hc]; decide)];exact gP ⟨oo,trivial⟩
      ·rw[if_neg hc,if_pos (by rw[Bool.eq_false_iff.2 hc]; rfl)]) (fun g6=>by
      have ed:decide ((nodN b:Int) < (nodN b:Int))=false:=decide_eq_false (by omega);refine(gP ⟨(fun h=>by rw[ed] at h; cases h.1),(fun h=>by rw[ed] at h; cases h.1),(fun h=>by rw[ed] at h; cases h.2.1),(fun h=>by rw[ed] at h; cases h.2.1),trivial⟩).trans ?_;rw[ed,Bool.false_and];refine(if_neg (by decide)).trans ?_;rw[u60J5];exact if_pos (beq_self_eq_true _))
     rw[Nat.sub_zero,<- List.range_eq_range'] at key;refine Eq.trans key ?_;cases hn:(List.range (nodN b)).find? fun v=>!((listV (nodN b) out).getD v false||w.getD v false) with
     | none=>rfl
     | some v =>
       have hv:=List.mem_range.1 (List.mem_of_find?_eq_some hn);have e3:((v:Int)).toNat=v:=rfl;show u60J5 (listV (nodN b) out) (out.map fun v:Nat=>(v:Int)) (nodN b:Int) g (v:Int)=g (listV (nodN b) (out++[v]),(out++[v]).map fun v:Nat=>(v:Int));rw[u60J5,listV_app,List.map_append];refine(if_neg (by rw[beq_iff_eq]; omega)).trans ?_;refine(gP ⟨oo,by omega,trivial⟩).trans ?_;exact gP ⟨⟨by simp only[List.length_singleton,List.length_map]; omega,by simp only[List.length_singleton,List.length_map]; omega⟩,trivial⟩)
  (fun i out out' hi ho he=>by
    obtain⟨h1,h2⟩:=ho;cases hn:nextV (lV b).length (nodN b) (frN b) (toN b) (fun i=>lv.getD i false) out with
    | none=>rw[hn] at he; cases he
    | some v =>
      rw[hn] at he;cases he;obtain⟨n1,n2⟩:=next_ok hn;refine⟨by simp[h1],fun w hw=>?_⟩;rcases List.mem_append.1 hw with hw | hw
      ·exact h2 w hw
      ·cases List.mem_singleton.1 hw; exact n1)
  (fun g out ho=>by
    refine(if_neg ?_).trans rfl;simp[ho.1])
  (fun i out=>some (ordRes (ordB b lv out (nodN b-i)))) (fun out _=>by
    rw[Nat.sub_self]; rfl)
  (fun i out hi ho=>by
    have e:nodN b-i=(nodN b-(i+1))+1:=by omega
    show some (ordRes (ordGo _ _ _ _ _ (nodN b-i) out))=_;rw[e,ordGo_succ];cases nextV (lV b).length (nodN b) (frN b) (toN b) (fun i=>lv.getD i false) out <;> rfl)
  0 (Nat.zero_le _) [] ⟨rfl,fun v hv=>nomatch hv⟩
theorem live_len(M:Nat)(br:List Int):(liveV M br).length=M:=appF_len _ _
end
def codeG(b:Y34)(br:List Int):Int:=if blockOk b=true then(if brokB (lV b).length br=true then 0 else 2) else 1
theorem r58(b:Y34)(hw:wf y34 b)(hm:cnt y34 b<=1048576)(br:List Int)(hl:br.length<=1048576):u58 b br=some (codeG b br):=by
 unfold u58 codeG;rw[r23 b hw hm,vS,gP ⟨rfl,trivial⟩];cases hb:blockOk b with
 | false=>rfl
 | true =>
   have hM:=links_len hb;refine(if_neg (by simp)).trans ?_;rw[r59 b hw hb,vS,r119 _ br (by omega) hl,gP ⟨rfl,rfl,trivial⟩,lE,r119 _ br (by omega) hl,vS];cases brokB (lV b).length br <;> rfl
theorem r56(b:Y34)(hw:wf y34 b)(hm:cnt y34 b<=1048576)(br:List Int)(hl:br.length<=1048576):u56 b br=some (if codeG b br=0 then .inr ((viewV b,liveV (lV b).length br),0) else .inl (codeG b br)):=by
 unfold u56 codeG;rw[r65 b hw hm,vS,gP ⟨rfl,trivial⟩];cases hb:blockOk b with
 | false=>rfl
 | true =>
   refine(if_neg (by simp)).trans ?_;rw[r66 b hw hb,vS,gP ⟨rfl,trivial⟩,lE,r113 hb br hl,vS,gP ⟨rfl,trivial⟩];cases hr:brokB (lV b).length br with
   | false=>rfl
   | true =>
     refine(if_neg (by simp)).trans ?_;rw[r114 hb hr hl,vS,gP ⟨rfl,trivial⟩,lE];rfl
theorem codeG_ok{b:Y34}{br:List Int}(h:codeG b br=0):blockOk b=true/\brokB (lV b).length br=true:=by
 unfold codeG at h;split at h
 ·rename_i hb;split at h
  ·rename_i hr; exact⟨hb,hr⟩
  ·cases h
 ·cases h
def topF(b:Y34)(br:List Int):List Int×Int:=if codeG b br=0 then(if(ordRes (ordB b (liveV (lV b).length br) [] (nodN b))).2=true then((ordRes (ordB b (liveV (lV b).length br) [] (nodN b))).1,0) else([],7)) else([],codeG b br)
theorem r15(b:Y34)(hw:wf y34 b)(hm:cnt y34 b<=1048576)(br:List Int)(hl:br.length<=1048576):u15 b br=some (topF b br):=by
 unfold u15 topF;rw[r58 b hw hm br hl,vS,gP ⟨rfl,trivial⟩,lE];by_cases h:codeG b br=0
 ·obtain⟨hb,hr⟩:=codeG_ok h;have hM:=links_len hb;rw[h];refine(if_neg (by decide)).trans ?_;rw[r59 b hw hb,vS,gP ⟨rfl,trivial⟩,lE,r61 b hw hb,vS,r62 _ _ (by omega) hl,vS,r60 hb (live_len _ _),vS];refine(gP ⟨rfl,rfl,rfl,trivial⟩).trans ?_;rw[lE,if_pos rfl];cases h2:(ordRes (ordB b (liveV (lV b).length br) [] (nodN b))).2
  ·refine(if_pos (by simp[h2])).trans ?_;rfl
  ·refine(if_neg (by simp[h2])).trans ?_;rfl
 ·rw[if_neg h];exact if_pos (by simp[h])
end Go.Proofs.YtphnknndgfgepaaGreatDoor
end
