/- What the links of a block are: where they lead. Plain facts. -/
import Derived.Test.YtphnknndgfgepaaGreatDoorWC
import Derived.Test.YtphnknndgfgepaaGreatDoorWE
import Derived.Test.YtphnknndgfgepaaGreatDoorF7Bd
import Derived.Test.YtphnknndgfgepaaGreatDoorWB
section
namespace Go.Proofs.Xd
open Go Go.Proofs Go.Proofs.Xl
def cLink(f:Int)(a:DArc)(j:Nat)(t:Nat):DLink:=(2*(f+a.2.1)+((transV a.1 a.2.2.2.1).getD t (0,0)).1,2*(f+a.2.2.1)+((transV a.1 a.2.2.2.1).getD t (0,0)).2,1,(j:Int))
def wLink(d s:Int)(k t:Nat):DLink:=(2*d+(t:Int),2*s+(t:Int),2,(k:Int))
theorem clinkF_mem{f a b x:Int}{tr:List (Int×Int)}{s:List DLink}{l:DLink}:∀k,l∈fN (clinkF f a b x tr) k s->l∈s∨∃t,t<k/\l=(2*(f+a)+(tr.getD t (0,0)).1,2*(f+b)+(tr.getD t (0,0)).2,1,x)
 | 0,h=>.inl h
 | k+1,h=>by
   rcases List.mem_append.1 (show l∈fN (clinkF f a b x tr) k s++[_] from h) with h | h
   ·rcases clinkF_mem k h with h | ⟨t,ht,e⟩
    ·exact .inl h
    ·exact .inr ⟨t,by omega,e⟩
   ·exact .inr ⟨k,by omega,List.mem_singleton.1 h⟩
theorem carcF_mem{f:Int}{arcs:Nat->DArc}{s:List DLink}{l:DLink}:∀m,l∈fN (carcF f arcs) m s->l∈s∨∃j t,j<m/\t < (transV (arcs j).1 (arcs j).2.2.2.1).length/\l=cLink f (arcs j) j t
 | 0,h=>.inl h
 | m+1,h=>by
   rcases clinkF_mem _ (show l∈fN (clinkF f _ _ (m:Int) _) _ (fN (carcF f arcs) m s) from h) with h | ⟨t,ht,e⟩
   ·rcases carcF_mem m h with h | ⟨j,t,hj,ht,e⟩
    ·exact .inl h
    ·exact .inr ⟨j,t,by omega,ht,e⟩
   ·exact .inr ⟨m,t,by omega,ht,e⟩
theorem instLF_fst{nets:Nat->Nat}{arcs:Nat->Nat->DArc}{ms:Nat->Nat}{x:Nat->DInst}(hx:∀i,nets i=(x i).2.2.length):∀m,(fN (instLF nets arcs ms) m (0,[])).1=(offs x m:Int)
 | 0=>rfl
 | m+1=>by
   show(fN (instLF nets arcs ms) m (0,[])).1+(nets m:Int)=((offs x m+(x m).2.2.length:Nat):Int);rw[instLF_fst hx m,hx m]; omega
theorem instLF_mem{nets:Nat->Nat}{arcs:Nat->Nat->DArc}{ms:Nat->Nat}{x:Nat->DInst}(hx:∀i,nets i=(x i).2.2.length){l:DLink}:∀m,l∈(fN (instLF nets arcs ms) m (0,[])).2->∃i j t,i<m/\j<ms i/\t < (transV (arcs i j).1 (arcs i j).2.2.2.1).length/\l=cLink (offs x i:Int) (arcs i j) j t
 | 0,h=>by cases h
 | m+1,h=>by
   rcases List.mem_append.1 (show l∈(fN (instLF nets arcs ms) m (0,[])).2++cellLinksD _ _ _ from h) with h | h
   ·obtain⟨i,j,t,hi,hr⟩:=instLF_mem hx m h;exact⟨i,j,t,by omega,hr⟩
   ·rcases carcF_mem _ h with h | ⟨j,t,hj,ht,e⟩
    ·cases h
    ·rw[instLF_fst hx m] at e;exact⟨m,j,t,by omega,hj,ht,e⟩
theorem wsinkF_mem{d:Int}{sn:List Int}{z:List DLink}{l:DLink}:∀k,l∈fN (wsinkF d sn) k z->l∈z∨∃j t,j<k/\t<2/\l=wLink d (sn.getD j 0) j t
 | 0,h=>.inl h
 | k+1,h=>by
   have h:l∈(fN (wsinkF d sn) k z++[wLink d (sn.getD k 0) k 0])++[wLink d (sn.getD k 0) k 1]:=h;rcases List.mem_append.1 h with h | h
   ·rcases List.mem_append.1 h with h | h
    ·rcases wsinkF_mem k h with h | ⟨j,t,hj,ht,e⟩
     ·exact .inl h
     ·exact .inr ⟨j,t,by omega,ht,e⟩
    ·exact .inr ⟨k,0,by omega,by omega,List.mem_singleton.1 h⟩
   ·exact .inr ⟨k,1,by omega,by omega,List.mem_singleton.1 h⟩
theorem netLF_mem{d:Nat->Int}{sn:Nat->List Int}{z:List DLink}{l:DLink}:∀m,l∈fN (netLF d sn) m z->l∈z∨∃i j t,i<m/\j < (sn i).length/\t<2/\l=wLink (d i) ((sn i).getD j 0) j t
 | 0,h=>.inl h
 | m+1,h=>by
   rcases wsinkF_mem _ (show l∈fN (wsinkF (d m) (sn m)) _ (fN (netLF d sn) m z) from h) with h | ⟨j,t,hj,ht,e⟩
   ·rcases netLF_mem m h with h | ⟨i,j,t,hi,hr⟩
    ·exact .inl h
    ·exact .inr ⟨i,j,t,by omega,hr⟩
   ·exact .inr ⟨m,j,t,by omega,hj,ht,e⟩
theorem clinkF_app(f a b x:Int)(tr:List (Int×Int))(s:List DLink):∀k,fN (clinkF f a b x tr) k s=s++fN (clinkF f a b x tr) k []
 | 0=>(List.append_nil _).symm
 | k+1=>by
   show fN (clinkF f a b x tr) k s++[_]=s++(fN (clinkF f a b x tr) k []++[_]);rw[clinkF_app f a b x tr s k,List.append_assoc]
theorem carcF_app(f:Int)(arcs:Nat->DArc)(s:List DLink):∀m,fN (carcF f arcs) m s=s++cellLinksD f arcs m
 | 0=>(List.append_nil _).symm
 | m+1=>by
   show carcF f arcs m (fN (carcF f arcs) m s)=s++carcF f arcs m (cellLinksD f arcs m);rw[carcF_app f arcs s m];unfold carcF;rw[clinkF_app,clinkF_app _ _ _ _ _ (cellLinksD f arcs m),List.append_assoc]
end Go.Proofs.Xd
end
section
namespace Go.Proofs.YtphnknndgfgepaaGreatDoor
open Go Go.Proofs Go.Proofs.Sv Go.Proofs.Xv Go.Proofs.Xl Go.Proofs.Xd
theorem r123(l:List DLink)(f t a b k i:Int)(hf:0<=f/\f<=1000)(ht:0<=t/\t<=1000)(ha:0<=a/\a<=1)(hb:0<=b/\b<=1)(hl:l.length<=100000):u123 l f t a b k i=some (l++[(2*f+a,2*t+b,k,i)]) :=
 gP ⟨oo,oo,oo,oo,⟨by show l.length+1<=_; omega,by show(l.length+1)*32<=_; omega⟩,trivial⟩
def fitsV(k s:Int)(x y:Nat):Bool:=if(k==1)=true then s==3||(s==1)==((x:Int)==(y:Int)) else if(k==2)=true then(x:Int)==0 else if(k==3)=true then(x:Int)==1 else false
def arcE(k s f t i:Int)(x y:Nat)(l:List DLink):List DLink:=if fitsV k s x y=true then l++[(2*f+(x:Int),2*t+(y:Int),1,i)] else l
theorem arcE_len(k s f t i:Int)(x y:Nat)(l:List DLink):(arcE k s f t i x y l).length<=l.length+1:=by
 unfold arcE;split
 ·rw[List.length_append]; exact Nat.le_refl _
 ·omega
theorem arcE_fold(k s f t i:Int)(x:Nat)(l:List DLink):∀n,(fN (arcE k s f t i x) n l).length<=l.length+n
 | 0=>Nat.le_refl _
 | n+1=>by
   have h:=arcE_fold k s f t i x l n;have:=arcE_len k s f t i x n (fN (arcE k s f t i x) n l);show(arcE k s f t i x n (fN (arcE k s f t i x) n l)).length<=_;omega
theorem r120(a:Y143)(l:List DLink)(f t i:Int)(hf:0<=f/\f<=1000)(ht:0<=t/\t<=1000)(hl:l.length<=90000):u120 l a f t i=some (fN (fun x s=>fN (arcE a.1 a.2.2.2.1 f t i x) 2 s) 2 l):=by
 unfold u120;refine lF (n:=2) (by decide) (fun(x:Nat) (s:List DLink)=>((x:Int),s)) (fun x s=>fN (arcE a.1 a.2.2.2.1 f t i x) 2 s) (fun x s=>s.length<=l.length+2*x) (J:=fun s=>some s) (F:=u120L1 f t i a) (fun g x s hx hI=>?_) (fun x s hx hI=>?_) (fun g s _=>by
  show u120L1 f t i a g (((2:Nat):Int),s)=_;rw[u120L1];exact if_neg (by decide)) l (Nat.le_refl _)
 ·have hI:s.length<=l.length+2*x:=hI;refine(if_pos (decide_eq_true (by omega))).trans ?_;refine(lF (n:=2) (by decide) (fun(y:Nat) (s:List DLink)=>((y:Int),s)) (arcE a.1 a.2.2.2.1 f t i x) (fun y s=>s.length<=l.length+2*x+y) (J:=fun s=>u120J2 (x:Int) g s) (F:=u120L3 f t (x:Int) i a g) (fun g' y s hy hI=>?_) (fun y s hy hI=>?_) (fun g' s _=>by
   show u120L3 f t (x:Int) i a g g' (((2:Nat):Int),s)=_;rw[u120L3];exact if_neg (by decide)) s hI).trans ?_
  ·have hI:s.length<=l.length+2*x+y:=hI;have j4:∀v,u120J4 (y:Int) g' v=g' (((y+1:Nat):Int),v):=fun v=>gP ⟨oo,trivial⟩;have j5:∀v,u120J5 (y:Int) s f t (x:Int) i g' v=g' (((y+1:Nat):Int),if v=true then s++[(2*f+(x:Int),2*t+(y:Int),1,i)] else s):=fun v=>by
    cases v with
    | true=>rw[u120J5,if_pos rfl,if_pos rfl,r123 s f t x y 1 i hf ht (by omega) (by omega) (by omega),gP ⟨rfl,trivial⟩,vS,lE,j4]
    | false=>rw[u120J5,if_neg (by simp),if_neg (by simp),j4]
   refine(if_pos (decide_eq_true (by omega))).trans ?_;show _=g' (((y+1:Nat):Int),arcE a.1 a.2.2.2.1 f t i x y s);unfold arcE fitsV;rw[j5,j5,j5,j5];by_cases h1:(a.1==1)=true
   ·rw[if_pos h1,if_pos h1]
   rw[if_neg h1,if_neg h1];by_cases h2:(a.1==2)=true
   ·rw[if_pos h2,if_pos h2]
   rw[if_neg h2,if_neg h2];by_cases h3:(a.1==3)=true
   ·rw[if_pos h3,if_pos h3]
   rw[if_neg h3,if_neg h3]
  ·have hI:s.length<=l.length+2*x+y:=hI;have:=arcE_len a.1 a.2.2.2.1 f t i x y s;omega
  ·exact gP ⟨oo,trivial⟩
 ·have hI:s.length<=l.length+2*x:=hI;have:=arcE_fold a.1 a.2.2.2.1 f t i x s 2;omega
theorem arc_eq{k s:Int}(h:(k=1/\(s=1∨s=2∨s=3))∨k=2∨k=3)(fo A B i:Int)(l:List DLink):fN (fun x z=>fN (arcE k s (fo+A) (fo+B) i x) 2 z) 2 l=fN (clinkF fo A B i (transV k s)) (transV k s).length l:=by
 rcases h with ⟨rfl,rfl | rfl | rfl⟩ | rfl | rfl <;> rfl
theorem find_first{b:Nat->Bool}{n m:Nat}(hm:m<n)(h1:b m=true)(h2:∀j,j<m->b j=false):(List.range n).find? b=some m:=by
 rw[List.find?_range_eq_some];refine⟨h1,List.mem_range.2 hm,fun j hj=>?_⟩;rw[h2 j hj]; rfl
theorem r121(d:Y31)(hd:wf y31 d){l:List Y163}(df:DF l d){i k:Nat}(hi:i<d.1.length)(hk:k < (insOf d i).2.2.length):u121 d (i:Int) (k:Int)=some ((offs (insOf d) i+k:Nat):Int)/\offs (insOf d) i+k < (plcs d).length:=by
 have hl:=df.len;have hlt:offs (insOf d) i+k < (plcs d).length:=by
  have:=offs_lt (insOf d) hi hk;unfold plcs;rw[places_len]; omega
 refine⟨?_,hlt⟩;unfold u121;rw[r124 d hd df.fac.ni14 df.fac.np8 df.pin,vS,gP ⟨rfl,trivial⟩,lE];have ho:∀j,j < (plcs d).length->((plcOf d j).1==(i:Int)&&(plcOf d j).2.1==(k:Int))=decide (j=offs (insOf d) i+k):=fun j hj=>place_only d.1.length d.2.2.length (insOf d) (prtOf d) (dflt y105) hi hk hj;have key:=idx_some (n:=(plcs d).length) (by omega) (fun j=>(plcOf d j).1==(i:Int)&&(plcOf d j).2.1==(k:Int)) (F:=u121L1 (plcs d) (i:Int) (k:Int)) (fun g j hj=>by
  have e3:((j:Int)).toNat=j:=rfl;refine(if_pos (by simpa using hj)).trans ?_;rw[e3,gP ⟨oo,hj,(fun _=>oo),(fun _=>hj),trivial⟩,gP ⟨oo,trivial⟩]) (fun g=>aE)
 refine key.trans ?_;rw[find_first hlt (by rw[ho _ hlt,decide_eq_true rfl]) (fun j hj=>by rw[ho j (by omega)]; exact decide_eq_false (by omega))]
theorem drv_cnt{b:Y34}(hb:blockOk b=true){t:Nat}(ht:t<b.2.2.length):cntF (drvB (plcOf b.2.1) t) (plcs b.2.1).length=1:=by
 obtain⟨hd,hlen,_⟩:=block_design hb;have df:=df_of hd;have hD:designB _ _ _ _ _ _ _ _ _=true:=hd;unfold designB at hD;rw[ba] at hD;have hx:∀i,i<b.2.1.1.length->1<=(insOf b.2.1 i).2.2.length/\inB ((insOf b.2.1 i).2.2.getD ((insOf b.2.1 i).2.2.length-1) 0) 0 ((b.2.1.2.1.length:Int)-1)=true:=fun i hi=>by
  have h1:=(df.pin i hi).1;exact⟨h1,df.fac.net.1 i hi _ (by omega)⟩
 obtain⟨p1,p2⟩:=port_cnt (d:=dflt y105) hx (fun i hi=>df.fac.net.2 i hi) b.2.1.2.2.length (Nat.le_refl _);have hall:=all_getD (p:=fun x=>x==1) hD.2 (i:=t) (by
  unfold driveN;rw[p1]; omega)
 have h1:(driveN b.2.1.1.length b.2.1.2.2.length b.2.1.2.1.length (insOf b.2.1) (prtOf b.2.1)).getD t 0=1:=beq_iff_eq.1 hall;have h2:=p2 t (by omega);unfold driveN at h1;rw[h1] at h2;have h3:(plcs b.2.1).length=offs (insOf b.2.1) b.2.1.1.length+b.2.1.2.2.length:=places_len _ _ _ _;rw[h3];exact Int.ofNat.inj h2.symm
theorem r122(b:Y34)(hw:wf y34 b)(hb:blockOk b=true){t:Nat}(ht:t<b.2.2.length):u122 b.2.1 (t:Int)=some (drvV b t)/\0<=drvV b t/\(drvV b t).toNat < (plcs b.2.1).length:=by
 have df:=df_of (block_design hb).1;have hl:=df.len;obtain⟨i,h1,h2,h3,h4⟩:=drv_one (drv_cnt hb ht);have hv:drvV b t=(i:Int):=h4;refine⟨?_,by omega,by omega⟩;unfold u122;rw[r124 b.2.1 hw.2.1 df.fac.ni14 df.fac.np8 df.pin,vS,gP ⟨rfl,trivial⟩,lE];have key:=idx_some (n:=(plcs b.2.1).length) (by omega) (drvB (plcOf b.2.1) t) (F:=u122L1 (plcs b.2.1) (t:Int)) (fun g j hj=>by
  have e3:((j:Int)).toNat=j:=rfl;refine(if_pos (by simpa using hj)).trans ?_;rw[e3,gP ⟨oo,hj,(fun _=>oo),(fun _=>hj),trivial⟩,gP ⟨oo,trivial⟩];rfl) (fun g=>aE)
 refine key.trans ?_;rw[find_first h1 h2 (fun j hj=>by rw[h3 j (by omega)]; exact decide_eq_false (by omega)),hv]
theorem arc_facts{c:Y163}(h:cellOk isArcS c=true){j:Nat}(hj:j<c.2.2.2.1.length):isArcS c.2.2.1.length (pinOf c) (arcOf c j)=true:=by
 have h:cellB isArcS _ _ _ _ _ _ _ _ _=true:=h;unfold cellB arcsB at h;simp only[ba,dq] at h;have:=not_any.1 h.1.1.1.2.2 j hj;rw[Bool.or_eq_false_iff,Bool.not_eq_false'] at this;exact this.1
theorem arc_comb{n:Nat}{p:Nat->DPin}{a:DArc}(h:isArcS n p a=true)(hk:a.1<=3):((a.1=1/\(a.2.2.2.1=1∨a.2.2.2.1=2∨a.2.2.2.1=3))∨a.1=2∨a.1=3)/\areTables a.2.2.2.2.1 true=true/\areTables a.2.2.2.2.2 true=true:=by
 unfold isArcS at h;simp only[ba] at h;obtain⟨_,h⟩:=h;by_cases h1:a.1=1
 ·rw[if_pos h1] at h;simp only[ba] at h;have:=inB_iff.1 h.1.1.2;exact⟨.inl ⟨h1,by omega⟩,h.1.2,h.2⟩
 rw[if_neg h1] at h;by_cases h2:a.1=2∨a.1=3
 ·rw[if_pos h2] at h;simp only[ba] at h;exact⟨.inr h2,h.1.2,h.2⟩
 rw[if_neg h2] at h;by_cases h3:a.1=4∨a.1=5
 ·omega
 ·rw[if_neg h3] at h; cases h
theorem trans_none{k s:Int}(h:3<k):transV k s=[]:=by
 unfold transV;rw[if_neg (by rw[beq_iff_eq]; omega),if_neg (by rw[beq_iff_eq]; omega),if_pos (by rw[bne_iff_ne]; omega)]
theorem trans_kind{k s:Int}(h:0 < (transV k s).length):k=1∨k=2∨k=3:=by
 unfold transV at h;by_cases h2:(k==2)=true
 ·exact .inr (.inl (beq_iff_eq.1 h2))
 by_cases h3:(k==3)=true
 ·exact .inr (.inr (beq_iff_eq.1 h3))
 by_cases h1:(k != 1)=true
 ·rw[if_neg h2,if_neg h3,if_pos h1] at h;cases h
 ·exact .inl (by simpa using h1)
def cellF(b:Y34)(i:Nat)(s:List DLink):List DLink:=s++cellLinksD (offs (insOf b.2.1) i) (arcOf (celI b i)) (celI b i).2.2.2.1.length
theorem cellF_fold(b:Y34):∀n,fN (cellF b) n []=(fN (instLV b) n (0,[])).2
 | 0=>rfl
 | n+1=>by
   show cellF b n (fN (cellF b) n [])=(fN (instLV b) n (0,[])).2++cellLinksD (fN (instLV b) n (0,[])).1 (arcOf (celI b n)) (celI b n).2.2.2.1.length;have h1:(fN (instLV b) n (0,[])).1=(offs (insOf b.2.1) n:Int):=instLF_fst (fun _=>rfl) n;rw[cellF_fold b n,h1]; rfl
theorem sink_place{b:Y34}(df:DF b.1 b.2.1){t:Int}{k:Nat}(hk:k < (sinksV b.2.1 t).length):0<=(sinksV b.2.1 t).getD k 0/\(sinksV b.2.1 t).getD k 0<=1000:=by
 have:=sinksV_at hk;have:=df.len;omega
theorem r59(b:Y34)(hw:wf y34 b)(hb:blockOk b=true):u59 b=some (lV b):=by
 obtain⟨hd0,hlen,hwire⟩:=block_design hb;have df:=df_of hd0;have hd:=hw.2.1;have h14:=df.fac.ni14;have h30:=df.fac.nn30;have hpl:=df.len;unfold u59;refine(lF (n:=b.2.1.1.length) (by omega) (fun(i:Nat) (s:List DLink)=>((i:Int),s)) (cellF b) (fun i s=>s.length<=32*i) (J:=u59J0 b) (F:=u59L1 b) (fun g i s hi hI=>?_) (fun i s hi hI=>?_) (fun g s _=>aE) [] (Nat.le_refl _)).trans ?_
 ·have hI:s.length<=32*i:=hI;have e3:((i:Int)).toNat=i:=rfl;obtain⟨x1,x2,x3⟩:=inst_cell' df hi;obtain⟨c1,c2,c3,c4⟩:=cell_arcs x2;have hfind:=fun k hk=>r121 b.2.1 hd df (i:=i) (k:=k) hi hk;refine(if_pos (by simpa using hi)).trans ?_;rw[e3,gP ⟨oo,x1,trivial⟩,lE];refine(lF (n:=(celI b i).2.2.2.1.length) (by omega) (fun(j:Nat) (z:List DLink)=>((j:Int),z)) (carcF (offs (insOf b.2.1) i) (arcOf (celI b i))) (fun j z=>z.length<=s.length+4*j) (J:=u59J2 (i:Int) g) (F:=u59L3 (celI b i) b (i:Int) g) (fun g' j z hj hz=>?_) (fun j z hj hz=>?_) (fun g' z _=>aE) s (Nat.le_refl _)).trans ?_
  ·have hz:z.length<=s.length+4*j:=hz;have e4:((j:Int)).toNat=j:=rfl;obtain⟨a1,a2,a3,a4⟩:=c4 j hj;have ha:=arc_facts x2 hj;have j4:∀v,u59J4 (j:Int) g' v=g' (((j+1:Nat):Int),v):=fun v=>gP ⟨oo,trivial⟩;refine(if_pos (by simpa using hj)).trans ?_;rw[e4,gP ⟨oo,trivial⟩];show(if decide ((arcOf (celI b i) j).1<=3)=true then _ else _)=g' (((j+1:Nat):Int),carcF (offs (insOf b.2.1) i) (arcOf (celI b i)) j z);by_cases hk:(arcOf (celI b i) j).1<=3
   ·refine(if_pos (decide_eq_true hk)).trans ?_;obtain⟨k1,k2,k3⟩:=arc_comb ha hk;obtain⟨A,hA⟩:∃A:Nat,(arcOf (celI b i) j).2.1=(A:Int):=⟨(arcOf (celI b i) j).2.1.toNat,by omega⟩;obtain⟨B,hB⟩:∃B:Nat,(arcOf (celI b i) j).2.2.1=(B:Int):=⟨(arcOf (celI b i) j).2.2.1.toNat,by omega⟩;obtain⟨fA,lA⟩:=hfind A (by omega);obtain⟨fB,lB⟩:=hfind B (by omega);have hs:=r120 (arcOf (celI b i) j) z ((offs (insOf b.2.1) i+A:Nat):Int) ((offs (insOf b.2.1) i+B:Nat):Int) (j:Int) (by omega) (by omega) (by omega);have ee:=arc_eq k1 (offs (insOf b.2.1) i:Int) (A:Int) (B:Int) (j:Int) z;rw[<- Int.natCast_add,<- Int.natCast_add] at ee;rw[ee] at hs;show gd (ix (j:Int) (celI b i).2.2.2.1.length/\ix (j:Int) (celI b i).2.2.2.1.length/\(u121 b.2.1 (i:Int) (arcOf (celI b i) j).2.1).isSome=true/\ix (j:Int) (celI b i).2.2.2.1.length/\(u121 b.2.1 (i:Int) (arcOf (celI b i) j).2.2.1).isSome=true/\(u120 z (arcOf (celI b i) j) (vl (u121 b.2.1 (i:Int) (arcOf (celI b i) j).2.1)) (vl (u121 b.2.1 (i:Int) (arcOf (celI b i) j).2.2.1)) (j:Int)).isSome=true/\True) (lt (vl (u120 z (arcOf (celI b i) j) (vl (u121 b.2.1 (i:Int) (arcOf (celI b i) j).2.1)) (vl (u121 b.2.1 (i:Int) (arcOf (celI b i) j).2.2.1)) (j:Int))) fun v=>u59J4 (j:Int) g' v)=_;rw[hA,hB,fA,fB,vS,vS,hs,vS,gP ⟨oo,oo,rfl,oo,rfl,rfl,trivial⟩,lE,j4];unfold carcF;rw[hA,hB]
   ·refine(if_neg (by simpa using hk)).trans ?_;rw[j4];unfold carcF;rw[trans_none (by omega)];rfl
  ·have hz:z.length<=s.length+4*j:=hz;have:=carcF_len (offs (insOf b.2.1) i) (arcOf (celI b i)) j z;omega
  ·rw[carcF_app];exact gP ⟨oo,trivial⟩
 ·have hI:s.length<=32*i:=hI;obtain⟨x1,x2,x3⟩:=inst_cell' df hi;have c3:=(cell_arcs x2).2.2.1;have:=cellLinksD_len (offs (insOf b.2.1) i) (arcOf (celI b i)) (celI b i).2.2.2.1.length;unfold cellF;rw[List.length_append];omega
 ·have hcl:(fN (cellF b) b.2.1.1.length []).length<=500:=by
   have:=instLV_in df b.2.1.1.length (Nat.le_refl _);rw[cellF_fold];omega
  have hcv:fN (cellF b) b.2.1.1.length []=clinksV b:=cellF_fold b _;unfold lV;rw[hcv] at hcl ⊢;generalize clinksV b=z at hcl ⊢;unfold u59J0;rw[hlen];refine lF (n:=b.2.1.2.1.length) (by omega) (fun(i:Nat) (s:List DLink)=>((i:Int),s)) (netLF (drvV b) (fun i=>sinksV b.2.1 i)) (fun i s=>s.length<=500+160*i) (J:=fun s=>some s) (F:=u59L6 b) (fun g i s hi hI=>?_) (fun i s hi hI=>?_) (fun g s _=>aE) z hcl
  ·have hI:s.length<=500+160*i:=hI;have hi':i<b.2.2.length:=by omega
   have hs78:=(net_ok hb hi').s78;obtain⟨d1,d2,d3⟩:=r122 b hw hb hi';have es:u71 b.2.1 (i:Int)=some (sinksV b.2.1 i):=r71 b.2.1 hd df _;refine(if_pos (by simpa using hi)).trans ?_;rw[d1,vS,gP ⟨rfl,trivial⟩,lE,es,vS,gP ⟨rfl,trivial⟩,lE];refine(lF (n:=(sinksV b.2.1 i).length) (by omega) (fun(k:Nat) (y:List DLink)=>((k:Int),y)) (wsinkF (drvV b i) (sinksV b.2.1 i)) (fun k y=>y.length=s.length+2*k) (J:=u59J7 (i:Int) g) (F:=u59L8 (drvV b i) (sinksV b.2.1 i) (i:Int) g) (fun g8 k y hk hy=>?_) (fun k y hk hy=>?_) (fun g8 y _=>aE) s rfl).trans ?_
   ·have hy:y.length=s.length+2*k:=hy;have e4:((k:Int)).toNat=k:=rfl;have hsp:=sink_place df hk;have p1:=r123 y (drvV b i) ((sinksV b.2.1 i).getD k 0) 0 0 2 (k:Int) (by omega) hsp oo oo (by omega);have p2:=r123 (y++[(2*drvV b i+0,2*(sinksV b.2.1 i).getD k 0+0,2,(k:Int))]) (drvV b i) ((sinksV b.2.1 i).getD k 0) 1 1 2 (k:Int) (by omega) hsp oo oo (by rw[List.length_append]; show y.length+1<=_; omega);refine(if_pos (by simpa using hk)).trans ?_;rw[e4,p1,vS,gP ⟨oo,hk,rfl,trivial⟩,lE,p2,vS,gP ⟨oo,hk,rfl,trivial⟩,lE];exact gP ⟨oo,trivial⟩
   ·have hy:y.length=s.length+2*k:=hy;rw[wsinkF_len,hy]; omega
   ·exact gP ⟨oo,trivial⟩
  ·have hI:s.length<=500+160*i:=hI;have hs78:=(net_ok hb (show i<b.2.2.length by omega)).s78;unfold netLF;rw[wsink_len];show s.length+2*(sinksV b.2.1 i).length<=_;omega
theorem links_len{b:Y34}(hb:blockOk b=true):(lV b).length<=6000:=by
 have df:=df_of (block_design hb).1;have h14:=df.fac.ni14;have h1:=instLV_in df b.2.1.1.length (Nat.le_refl _);have h2:=netL_len (drvV b) (fun i=>sinksV b.2.1 i) (clinksV b) (n:=b.2.2.length) (c:=78) (fun i hi=>(net_ok hb hi).s78) b.2.2.length (Nat.le_refl _);have h3:=(block_design hb).2.1;have h30:=df.fac.nn30;have h4:(clinksV b).length=(fN (instLV b) b.2.1.1.length (0,[])).2.length:=rfl;unfold lV;omega
theorem link_is{b:Y34}{l:DLink}(h:l∈lV b):(∃i j t,i<b.2.1.1.length/\j < (celI b i).2.2.2.1.length/\t < (transV (arcOf (celI b i) j).1 (arcOf (celI b i) j).2.2.2.1).length/\l=cLink (offs (insOf b.2.1) i:Int) (arcOf (celI b i) j) j t) ∨
  ∃i k t,i<b.2.2.length/\k < (sinksV b.2.1 i).length/\t<2/\l=wLink (drvV b i) ((sinksV b.2.1 i).getD k 0) k t:=by
 rcases netLF_mem _ h with h | h
 ·exact .inl (instLF_mem (fun _=>rfl) _ h)
 ·exact .inr h
section
variable (b:Y34)
end
def hasB(l:List Int)(x:Int):Bool:=(List.range l.length).any fun j=>l.getD j 0==x
section
variable {b:Y34}
end
section
variable {b:Y34}
end
section
variable {b:Y34}
end
theorem wf9{v:Y34×Y152}(h:wfA (R54 v)):wf y34 v.1:=⟨h.1,⟨h.2.1,h.2.2.1,h.2.2.2.1⟩,h.2.2.2.2.1⟩
section
variable [Alw]
end
section
variable {b:Y34}
end
section
variable {b:Y34}
end
theorem wf_nil{e:Ty}:wf (.sl e) []:=⟨Nat.zero_le _,fun _ h=>nomatch h⟩
structure OGood(M N:Nat)(fr to:Nat->Nat)(lv:Nat->Bool)(out:List Nat):Prop where
 nd:out.Nodup
 lt:∀v∈out,v<N
 bef:∀i,i<M->lv i=true->∀q,q<out.length->out.getD q 0=to i->∃p,p<q/\out.getD p 0=fr i
def Dd(d:Y115):Prop:=d.1.length<=4096/\0<=d.2.1/\d.2.1<=4096/\∀b∈d.1,0<=b/\b<=255
theorem roll_ok{c:List Int}(hw:wf (.sl (.int .u8)) c)(hl:c.length<=4096)(s:Int):∃d,u26 c s=some d/\Dd d:=by
 unfold u26;refine gd_ex ⟨trivial,oo,trivial,trivial⟩ (lt_ex ?_);refine lp_ex (fun x=>4097-x.1.toNat) (fun x=>0<=x.1/\x.1<=4096) ?_ ⟨by simp only; omega,by simp only; omega⟩ (by simp only; omega);rintro g ⟨i,x⟩ ⟨i1,i2⟩ ih;simp only at i1 i2;unfold u26L1;dsimp only;split
 ·rename_i hc;have hc:=of_decide_eq_true hc;have hlt:i.toNat<c.length:=by omega
  have hb:0<=c.getD i.toNat 0/\c.getD i.toNat 0<=255:=by
   rw[gq,List.getElem?_eq_getElem hlt];exact hw.2 _ (List.getElem_mem hlt)
  refine gd_ex ⟨trivial,⟨i1,hc⟩,oo,trivial,trivial,trivial⟩ (lt_ex (gd_ex ⟨oo,trivial⟩ ?_));exact ih _ ⟨by simp only; omega,by simp only; omega⟩ (by simp only; omega)
 ·exact⟨_,rfl,hl,by simp only; omega,by simp only; omega,fun b hb=>hw.2 b hb⟩
theorem below_ok{d:Y115}(h:Dd d){n:Int}(hn:1<=n):∃x d',u30 d n=some (x,d')/\Dd d'/\0<=x/\x<n:=by
 obtain⟨h1,h2,h3,h4⟩:=h;have key:∃r,u30 d n=some r/\(Dd r.2/\0<=r.1/\r.1<n):=by
  unfold u30;refine gd_ex ⟨trivial,trivial,trivial⟩ (lt_ex ?_);generalize hv:(d.2.2*6364136223846793005 % 18446744073709551616+1442695040888963407) % 18446744073709551616=v;have v0:0<=v:=by rw[<- hv]; exact Int.emod_nonneg _ (by decide)
  have v1:v<=18446744073709551615:=by
   have:=Int.emod_lt_of_pos (d.2.2*6364136223846793005 % 18446744073709551616+1442695040888963407) (show(0:Int)<18446744073709551616 by decide);omega
  have e33:(2:Int) ^ Int.toNat (33:Int)=8589934592:=by decide
  have w0:0<=v.fdiv ((2:Int) ^ Int.toNat (33:Int))/\v.fdiv ((2:Int) ^ Int.toNat (33:Int))<=18446744073709551615:=by
   rw[e33,Int.fdiv_eq_ediv_of_nonneg _ (by decide)];omega
  have e24:∀k:Nat,(0:Int)<=((k &&& Int.toNat (16777215:Int):Nat):Int)/\((k &&& Int.toNat (16777215:Int):Nat):Int)<=16777215:=fun k=>by
   have:k &&& Int.toNat (16777215:Int)<=Int.toNat (16777215:Int):=Nat.and_le_right;omega
  generalize hx:v.fdiv ((2:Int) ^ Int.toNat (33:Int))=x at w0;obtain⟨y0,y1⟩:=e24 x.toNat;refine gd_ex ⟨⟨⟨by decide,by decide⟩,w0.1,w0.2⟩,⟨w0.1,by decide⟩,oo,trivial⟩ (lt_ex ?_);generalize ((x.toNat &&& Int.toNat (16777215:Int):Nat):Int)=y at y0 y1;split
  ·rename_i hc;have hc:=of_decide_eq_true hc;have hlt:d.2.1.toNat<d.1.length:=by omega
   have hb:0<=d.1.getD d.2.1.toNat 0/\d.1.getD d.2.1.toNat 0<=255:=by
    rw[gq,List.getElem?_eq_getElem hlt];exact h4 _ (List.getElem_mem hlt)
   refine gd_ex ⟨⟨h2,hc⟩,trivial,oo,trivial⟩ (gd_ex ⟨oo,trivial⟩ ?_);unfold u30J0;exact gd_ex ⟨by omega,trivial⟩ ⟨_,rfl,⟨h1,by simp only; omega,by simp only; omega,h4⟩,Int.tmod_nonneg _ (by omega),Int.tmod_lt_of_pos _ (by omega)⟩
  ·unfold u30J0;exact gd_ex ⟨by omega,trivial⟩ ⟨_,rfl,⟨h1,h2,h3,h4⟩,Int.tmod_nonneg _ (by omega),Int.tmod_lt_of_pos _ (by omega)⟩
 obtain⟨⟨x,d'⟩,e,h5,h6,h7⟩:=key;exact⟨x,d',e,h5,h6,h7⟩
theorem three{n:Int}(h0:0<=n)(h1:n<3)(a b c:Int):[a,b,c].getD n.toNat 0=a∨[a,b,c].getD n.toNat 0=b∨[a,b,c].getD n.toNat 0=c:=by
 have:n=0∨n=1∨n=2:=by omega
 rcases this with rfl | rfl | rfl
 ·exact .inl rfl
 ·exact .inr (.inl rfl)
 ·exact .inr (.inr rfl)
theorem corS_of{n:ByteArray}{a b c d:Int}(h1 : -10000<=a/\a<=10000)(h2 : -10000<=b/\b<=10000)(h3 : -10000<=c/\c<=10000)(h4 : -10000<=d/\d<=10000):corS (n,a,b,c,d):=⟨h1,h2,h3,h4⟩
theorem cor_ok{s:Y152}(h:Sd s):∃r,u89 s=some r/\(Sd r.2/\corS r.1):=by
 obtain⟨v0,s0,e0,hs0,a0,b0,-⟩:=nxt_ok (n:=3) h (by omega);have b0:=b0 (by omega);obtain⟨v1,s1,e1,hs1,a1,b1,-⟩:=nxt_ok (n:=20) hs0 (by omega);have b1:=b1 (by omega);obtain⟨v2,s2,e2,hs2,a2,b2,-⟩:=nxt_ok (n:=20) hs1 (by omega);have b2:=b2 (by omega);obtain⟨v3,s3,e3,hs3,a3,b3,-⟩:=nxt_ok (n:=60) hs2 (by omega);have b3:=b3 (by omega);obtain⟨v4,s4,e4,hs4,a4,b4,-⟩:=nxt_ok (n:=40) hs3 (by omega);have b4:=b4 (by omega);obtain⟨v5,s5,e5,hs5,a5,b5,-⟩:=nxt_ok (n:=30) hs4 (by omega);obtain⟨v6,s6,e6,hs6,a6,b6,-⟩:=nxt_ok (n:=3) hs5 (by omega);have b6:=b6 (by omega);obtain⟨v7,s7,e7,hs7,a7,b7,-⟩:=nxt_ok (n:=2) hs5 (by omega);have b7:=b7 (by omega);have t6:=three a6 b6 99 100 (-1);unfold u89;simp only[e0,e1,e2,vS,Option.isSome_some];refine gd_ex ⟨trivial,⟨a0,by simp; omega⟩,by simp; omega,trivial,oo,oo,trivial,oo,oo,trivial⟩ (lt_ex ?_);dsimp only;simp only[e3,vS,Option.isSome_some];refine gd_ex ⟨trivial,oo,oo,trivial⟩ (lt_ex ?_);dsimp only;simp only[e4,vS,Option.isSome_some];refine gd_ex ⟨trivial,oo,oo,trivial⟩ (lt_ex ?_);dsimp only;simp only[e5,vS,Option.isSome_some];refine gd_ex ⟨trivial,trivial⟩ (lt_ex ?_);dsimp only;split
 ·exact gd_ex ⟨oo,trivial⟩ ⟨_,rfl,hs5,corS_of oo oo oo oo⟩
 split
 ·simp only[e6,vS,Option.isSome_some];refine gd_ex ⟨trivial,⟨a6,by simp; omega⟩,by simp; omega,trivial⟩ (lt_ex ?_);dsimp only;exact⟨_,rfl,hs6,corS_of oo oo oo oo⟩
 split
 ·simp only[e7,vS,Option.isSome_some];refine gd_ex ⟨trivial,oo,trivial⟩ (lt_ex ?_);exact⟨_,rfl,hs7,corS_of oo oo oo oo⟩
 split
 ·exact⟨_,rfl,hs5,corS_of oo oo oo oo⟩
 ·exact⟨_,rfl,hs5,corS_of oo oo oo oo⟩
theorem slew_ok{s:Y152}(h:Sd s):∃r,u90 s=some r/\Sd r.2:=by
 obtain⟨v0,s0,e0,hs0,a0,b0,-⟩:=nxt_ok (n:=24) h (by omega);obtain⟨v1,s1,e1,hs1,a1,b1,-⟩:=nxt_ok (n:=3) hs0 (by omega);have b1:=b1 (by omega);obtain⟨v2,s2,e2,hs2,-,-,-⟩:=nxt_ok (n:=60) hs0 (by omega);unfold u90;simp only[e0,vS,Option.isSome_some];refine gd_ex ⟨trivial,trivial⟩ (lt_ex ?_);dsimp only;split
 ·simp only[e1,vS,Option.isSome_some];exact gd_ex ⟨trivial,⟨a1,by simp; omega⟩,by simp; omega,trivial⟩ (lt_ex ⟨_,rfl,hs1⟩)
 ·simp only[e2,vS,Option.isSome_some];exact gd_ex ⟨trivial,trivial⟩ (lt_ex ⟨_,rfl,hs2⟩)
theorem mode_ok{s:Y152}(h:Sd s):∃r,u91 s=some r/\Sd r.2:=by
 obtain⟨v0,s0,e0,hs0,a0,b0,-⟩:=nxt_ok (n:=24) h (by omega);obtain⟨v1,s1,e1,hs1,a1,b1,-⟩:=nxt_ok (n:=2) hs0 (by omega);have b1:=b1 (by omega);unfold u91;simp only[e0,vS,Option.isSome_some];refine gd_ex ⟨trivial,trivial⟩ (lt_ex ?_);dsimp only;split
 ·simp only[e1,vS,Option.isSome_some];exact gd_ex ⟨trivial,oo,oo,trivial⟩ (lt_ex ⟨_,rfl,hs1⟩)
 ·simp only[e1,vS,Option.isSome_some];exact gd_ex ⟨trivial,trivial⟩ (lt_ex ⟨_,rfl,hs1⟩)
theorem linkJ_ok{s:Y152}(h:Sd s){n:Int}(h0:n<=9223372036854775807):∃r,u101J0 s n=some r/\Sd r.2:=by
 obtain⟨v,s0,e0,hs0,-,-,-⟩:=nxt_ok (n:=16) h (by omega);obtain⟨q,s1,e1,hs1,qa,qb,-⟩:=nxt_ok (n:=2) hs0 (by omega);have qb:=qb (by omega);obtain⟨q2,s2,e2,hs2,-,-,-⟩:=nxt_ok (n:=n) hs0 h0;unfold u101J0;simp only[e0,vS,Option.isSome_some];refine gd_ex ⟨trivial,trivial⟩ (lt_ex ?_);dsimp only;split
 ·simp only[e1,vS,Option.isSome_some];exact gd_ex ⟨trivial,⟨qa,by simp; omega⟩,by simp; omega,trivial⟩ (lt_ex ⟨_,rfl,hs1⟩)
 ·simp only[e2,vS,Option.isSome_some];exact gd_ex ⟨trivial,trivial⟩ (lt_ex ⟨_,rfl,hs2⟩)
theorem link_ok{s:Y152}(h:Sd s){b:Y34}(hw:wf y34 b)(hm:cnt y34 b<=20000):∃r,u101 s b=some r/\Sd r.2:=by
 unfold u101;simp only[r23 b hw (Nat.le_trans hm (by decide)),vS,Option.isSome_some];cases hb:blockOk b with
 | false =>
   refine gd_ex ⟨trivial,trivial⟩ ?_;rw[if_neg (by decide)];exact linkJ_ok h (by omega)
 | true =>
   refine gd_ex ⟨trivial,trivial⟩ ?_;have hM:=links_len hb;rw[if_pos rfl];simp only[r59 b hw hb,vS,Option.isSome_some];exact gd_ex ⟨trivial,trivial⟩ (lt_ex (linkJ_ok h (by omega)))
section
variable [Alw]
theorem dlink_ok{c:List Int}(h:wf (.sl (.int .u8)) c):u46 c=some ():=by
 obtain⟨s,e,hs⟩:=from_ok h;refine u_of ?_;unfold u46;simp only[e,vS,Option.isSome_some];refine gd_ex ⟨trivial,trivial⟩ (lt_ex ?_);refine gd_ex ⟨trivial,hs.1⟩ (alp_ex ?_);intro v1 ⟨⟨t1,t2⟩,hw,hz⟩;obtain⟨q1,e1,h1,hc⟩:=cor_ok (s:=Z54 v1) (Sd_of hz t1);obtain⟨q2,e2,h2⟩:=link_ok (s:=q1.2) (b:=v1.1) h1 (wf9 hw) t2;obtain⟨q3,e3,h3⟩:=slew_ok (s:=q2.2) h2;obtain⟨q4,e4,h4⟩:=mode_ok (s:=q3.2) h3;refine u_of (gd_ex trivial ?_);simp only[e1,e2,e3,e4,vS,Option.isSome_some];exact gd_ex ⟨trivial,trivial,trivial,trivial,trivial⟩ (lt_ex (gd_ex ⟨t2,hc⟩ ⟨_,rfl,trivial⟩))
theorem k46:K46:=e46 k54 fun x hw _=>dlink_ok hw.1
end
end Go.Proofs.YtphnknndgfgepaaGreatDoor
end
section
namespace Go.Proofs.YtphnknndgfgepaaGreatDoor
open Go Go.Proofs Go.Proofs.Xv Go.Proofs.Xl Go.Proofs.Xd
theorem r1622(a b m:Int)(h : -1000000000000000000<=a)(h':a<=1000000000000000000)(hb:0<b):u162 a b m=some (divV a b m)/\u156 a b m=some (divV a b m):=by
 have t1:a.tdiv b<=1000000000000000000 /\ -1000000000000000000<=a.tdiv b:=by
  have h1:(a.tdiv b).natAbs<=a.natAbs:=by
   rw[Int.natAbs_tdiv];exact Nat.div_le_self _ _
  omega
 have g1:in64 (a.tdiv b-1)/\True:=⟨oo,trivial⟩;have g2:in64 (a.tdiv b+1)/\True:=⟨oo,trivial⟩;unfold u162 u156 divV;rw[gP (V:=0<b/\0<b/\True) ⟨hb,hb,trivial⟩,gP (V:=0<b/\True) ⟨hb,trivial⟩,gP (V:=0<b/\True) ⟨hb,trivial⟩,gP g1,gP g2,Bool.and_comm (m==0),Bool.and_comm (m==1)];by_cases c1:(decide (a.tmod b<0)&&m==0)=true
 ·rw[if_pos c1,if_pos c1]; exact⟨rfl,rfl⟩
 ·by_cases c2:(decide (0<a.tmod b)&&m==1)=true
  ·rw[if_neg c1,if_pos c2,if_neg c1,if_pos c2]; exact⟨rfl,rfl⟩
  ·rw[if_neg c1,if_neg c2,if_neg c1,if_neg c2]; exact⟨rfl,rfl⟩
end Go.Proofs.YtphnknndgfgepaaGreatDoor
end
section
namespace Go.Proofs.YtphnknndgfgepaaGreatDoor
open Go Go.Proofs Go.Proofs.Sv Go.Proofs.Xv Go.Proofs.Xl Go.Proofs.Xd
theorem r232(l:List Y163)(d:Y31)(df:DF l d){p:DPlace}(hp:p∈plcs d):u232 l d p=some (capV l d p):=by
 unfold u232 capV;rcases plc_pin df hp with h | ⟨h1,h2,h3,h4,h5,h6⟩
 ·rw[if_pos (by rw[h.1]; decide),if_pos (by omega)]
 ·refine(if_neg (by simp; omega)).trans ?_;rw[if_neg (by omega),gP ⟨oo,⟨h3,by show(insOf d p.1.toNat).2.1<_; omega⟩,⟨h5,by show p.2.1 < (((l.getD (insOf d p.1.toNat).2.1.toNat (dflt y163)).2.2.1.length:Nat):Int); omega⟩,trivial⟩];rfl
theorem r169(xs:List Int)(h:xs.length<=1048576):u169 xs=some xs:=gP ⟨oo,trivial⟩
theorem r191(b:Y34)(hw:wf y34 b){i:Nat}(h:NetOk b i):u191 b (i:Int)=some (loadsV b i):=by
 have hd:=hw.2.1;have df:=h.df;have hb:=hw.2.2.1;have hi:=h.lt;have n1:=h.wf.n1;have n8:=h.wf.n8;have hsn:=h.sn;have hs:=h.s78;have hcl:=h.wf.cap;unfold u191;have e3:((i:Int)).toNat=i:=rfl;have es:u71 b.2.1 (i:Int)=some (sinksV b.2.1 i):=r71 b.2.1 hd df _;rw[gP ⟨oo,trivial⟩,lE,e3,r169 _ (by show(wirOf b i).2.2.1.length<=_; omega),vS,gP ⟨rfl,trivial⟩,lE,r124 b.2.1 hd df.fac.ni14 df.fac.np8 df.pin,vS,gP ⟨rfl,trivial⟩,lE,es,vS,gP ⟨rfl,trivial⟩,lE];have key:=lF (n:=(sinksV b.2.1 i).length) (by omega) (fun k (s:List Int)=>((k:Int),s)) (capF (nodeS b i) (capS b i)) (fun k v=>Low v (wirOf b i).1.length (500*((wirOf b i).1.length:Int)+500*(k:Int))) (J:=u191J0 (wirOf b i)) (F:=u191L1 b (plcs b.2.1) (sinksV b.2.1 i) (wirOf b i)) (fun g k v hk hI=>by
  have e4:((k:Int)).toNat=k:=rfl;obtain⟨c1,c2,c3,c4⟩:=h.capIn hk;obtain⟨c5,c6⟩:=sinksV_at hk;have hv:=hI.bd (by omega) (nodeS b i k).toNat;have c1':0<=(wirOf b i).2.2.2.getD k 0:=c1;have c2':((wirOf b i).2.2.2.getD k 0).toNat<v.length:=by rw[hI.len]; exact c2
  refine(if_pos (by simpa using hk)).trans ?_;rw[e4,r232 b.1 b.2.1 df (plc_mem c6),vS];rw[gP ⟨oo,⟨c1',by omega⟩,c2',oo,hk,⟨c5,by omega⟩,c6,rfl,⟨by show _<=v.getD (nodeS b i k).toNat 0+capS b i k; omega,by show v.getD (nodeS b i k).toNat 0+capS b i k<=_; omega⟩,⟨c1',by omega⟩,c2',trivial⟩,lE];exact gP ⟨oo,trivial⟩) (fun k v hk hI=>by
  obtain⟨c1,c2,c3,c4⟩:=h.capIn hk;have:=hI.add c2 c3;refine⟨this.len,this.pos,Int.le_trans this.sum ?_⟩;rw[Int.natCast_add,Int.mul_add];simp only[Int.natCast_one];omega) (fun g s _=>aE) (wirOf b i).2.2.1 (by
  have:=h.low 0 (Nat.zero_le _);exact this)
 refine key.trans ?_;have hl0:=(h.low _ (Nat.le_refl _)).len;have hp0:=h.pull 0 (Nat.zero_le _);have hL:loadsV b i=fN (pullF (parS b i) (wirOf b i).1.length) ((wirOf b i).1.length-1) (fN (capF (nodeS b i) (capS b i)) (sinksV b.2.1 i).length (wirOf b i).2.2.1):=rfl;rw[hL];have hpl:=h.pull;generalize fN (capF (nodeS b i) (capS b i)) (sinksV b.2.1 i).length (wirOf b i).2.2.1=v0 at hl0 hp0 hpl ⊢;rw[u191J0,hl0,gP ⟨oo,trivial⟩];have e5:(((wirOf b i).1.length:Int)-1,v0)=(fun(k:Nat) (s:List Int)=>(((wirOf b i).1.length:Int)-1-(k:Int),s)) 0 v0:=by simp
 rw[e5];exact lF (n:=(wirOf b i).1.length-1) (by omega) (fun(k:Nat) (s:List Int)=>(((wirOf b i).1.length:Int)-1-(k:Int),s)) (pullF (parS b i) (wirOf b i).1.length) (fun k v=>Pull v (wirOf b i).1.length k 43000) (J:=fun s=>some s) (F:=u191L3 (wirOf b i)) (fun g k v hk hI=>by
  have hp:=h.wf.par ((wirOf b i).1.length-1-k) (by omega) (by omega);have hp':0<=(wirOf b i).1.getD ((wirOf b i).1.length-1-k) 0/\((wirOf b i).1.getD ((wirOf b i).1.length-1-k) 0).toNat < (wirOf b i).1.length-1-k:=hp;have hlen:=hI.len;have e6:((wirOf b i).1.length:Int)-1-(k:Int)=(((wirOf b i).1.length-1-k:Nat):Int):=by omega
  have e7:((((wirOf b i).1.length-1-k:Nat):Int)).toNat=(wirOf b i).1.length-1-k:=rfl;have b1:=hI.pos ((wirOf b i).1.getD ((wirOf b i).1.length-1-k) 0).toNat;have b2:=hI.bd ((wirOf b i).1.getD ((wirOf b i).1.length-1-k) 0).toNat;have b3:=hI.pos ((wirOf b i).1.length-1-k);have b4:=hI.bd ((wirOf b i).1.length-1-k);have e8:((wirOf b i).1.length:Int)-1-((k+1:Nat):Int)=(((wirOf b i).1.length-1-k:Nat):Int)-1:=by omega
  show u191L3 (wirOf b i) g (((wirOf b i).1.length:Int)-1-(k:Int),v)=g (((wirOf b i).1.length:Int)-1-((k+1:Nat):Int),pullF (parS b i) (wirOf b i).1.length k v);rw[e8,e6];refine(if_pos (decide_eq_true (by omega))).trans ?_;rw[e7,gP ⟨oo,⟨hp'.1,by omega⟩,by omega,oo,by omega,oo,⟨hp'.1,by omega⟩,by omega,trivial⟩,lE];exact gP ⟨oo,trivial⟩) (fun k v hk hI=>pull_step hI hk (h.wf.par _ (by omega) (by omega))) (fun g s _=>by
  have e9:((wirOf b i).1.length:Int)-1-(((wirOf b i).1.length-1:Nat):Int)=0:=by omega
  show u191L3 (wirOf b i) g (((wirOf b i).1.length:Int)-1-(((wirOf b i).1.length-1:Nat):Int),s)=some s;rw[e9];have:u191L3 (wirOf b i) g (0,s)=u191J2 s:=by
   rw[u191L3];exact if_neg (by decide)
  exact this.trans rfl) v0 hp0
theorem r193(b:Y34)(hw:wf y34 b){i:Nat}(h:NetOk b i):u193 b (i:Int)=some (delaysV b i):=by
 have hi:=h.lt;have hb:=hw.2.2.1;have n1:=h.wf.n1;have n8:=h.wf.n8;have hr:=h.wf.res;obtain⟨ll,lb⟩:=h.loads;have e3:((i:Int)).toNat=i:=rfl;unfold u193;rw[r191 b hw h,vS,gP ⟨oo,trivial⟩,lE,gP ⟨rfl,trivial⟩,lE,e3];have e5:((1:Int),[(0:Int)])=(fun(k:Nat) (s:List Int)=>(((k+1:Nat):Int),s)) 0 [0]:=rfl;rw[e5];refine(lF (n:=(wirOf b i).1.length-1) (by omega) (fun(k:Nat) (s:List Int)=>(((k+1:Nat):Int),s)) (delF (parS b i) (resS b i) (fun k=>(loadsV b i).getD k 0)) (fun k s=>s.length=k+1/\∀j,0<=s.getD j 0/\s.getD j 0<=1000*43000*(k:Int)) (J:=fun s=>some s) (F:=u193L1 (wirOf b i) (loadsV b i)) (fun g k s hk hI=>?_) (fun k s hk hI=>?_) (fun g s hI=>?_) [0] ?_)
 ·obtain⟨hl,hs⟩:=hI;have hp:=h.wf.par (k+1) (by omega) (by omega);have e4:(((k+1:Nat):Int)).toNat=k+1:=rfl;have r1:=h.wf.resIn (k+1) (by omega);have l1:=lb (k+1);have hm:=mul_le r1.1 r1.2 l1.1 l1.2;have hs1:=hs ((wirOf b i).1.getD (k+1) 0).toNat;refine(if_pos (by simp; omega)).trans ?_;rw[e4,gP ⟨oo,⟨hp.1,by omega⟩,by omega,oo,oo,by omega,oo,oo,⟨by show s.length+1<=_; omega,by show(s.length+1)*8<=_; omega⟩,trivial⟩,lE];exact gP ⟨oo,trivial⟩
 ·obtain⟨hl,hs⟩:=hI;have r1:=h.wf.resIn (k+1) (by omega);have l1:=lb (k+1);have hm:=mul_le r1.1 r1.2 l1.1 l1.2;have hs1:=hs (parS b i (k+1)).toNat;unfold delF;refine⟨by rw[List.length_append,hl]; rfl,fun j=>?_⟩;have hm:0<=resS b i (k+1)*(loadsV b i).getD (k+1) 0/\resS b i (k+1)*(loadsV b i).getD (k+1) 0<=1000*43000:=hm;rcases Nat.lt_or_ge j s.length with hj | hj
  ·have:=hs j;rw[getD_left hj]; omega
  ·rw[getD_right hj];cases hjs:j-s.length with
   | zero=>simp only[List.getD_cons_zero]; omega
   | succ q=>simp only[List.getD_cons_succ,List.getD_nil]; omega
 ·have e9:(wirOf b i).1.length-1+1=(loadsV b i).length:=by omega
  show u193L1 (wirOf b i) (loadsV b i) g ((((wirOf b i).1.length-1+1:Nat):Int),s)=some s;rw[e9];exact aE
 ·exact h.del 0 (Nat.zero_le _)
def sdelV(b:Y34)(i:Nat)(m:Int):List Int:=fN (appF fun k=>divV ((delaysV b i).getD (nodeS b i k).toNat 0) 1000 m) (sinksV b.2.1 i).length []
theorem r154(b:Y34)(hw:wf y34 b){i:Nat}(h:NetOk b i)(m:Int):u154 b (i:Int) m=some (sdelV b i m):=by
 have hi:=h.lt;have hb:=hw.2.2.1;have hsn:=h.sn;have hs:=h.s78;obtain⟨dl,db⟩:=h.delays;have e3:((i:Int)).toNat=i:=rfl;unfold u154;rw[r193 b hw h,vS,gP ⟨rfl,trivial⟩,lE];unfold sdelV;rw[<- hsn];refine lF (n:=(wirOf b i).2.2.2.length) (by omega) (fun(k:Nat) (s:List Int)=>((k:Int),s)) (appF fun k=>divV ((delaysV b i).getD (nodeS b i k).toNat 0) 1000 m) (fun k s=>s.length=k) (J:=fun s=>some s) (F:=u154L1 (delaysV b i) b (i:Int) m) (fun g k s hk hI=>?_) (fun k s hk hI=>?_) (fun g s _=>?_) [] rfl
 ·have e4:((k:Int)).toNat=k:=rfl;have h1:0<=(b.2.2.getD i (dflt y110)).2.2.2.getD k 0/\((b.2.2.getD i (dflt y110)).2.2.2.getD k 0).toNat < (delaysV b i).length:=by rw[dl]; exact h.wf.snkIn k hk
  have hk':k < (b.2.2.getD i (dflt y110)).2.2.2.length:=hk;have hI:s.length=k:=hI;have hd:=db ((wirOf b i).2.2.2.getD k 0).toNat;have ed:=(r1622 ((delaysV b i).getD ((wirOf b i).2.2.2.getD k 0).toNat 0) 1000 m (by omega) (by omega) (by decide)).2;refine(gP ⟨oo,trivial⟩).trans ?_;refine(if_pos (by simpa using hk)).trans ?_;rw[e3,e4,ed,vS,gP ⟨oo,oo,⟨h1.1,by omega⟩,by omega,rfl,⟨by show s.length+1<=_; omega,by show(s.length+1)*8<=_; omega⟩,trivial⟩,lE];exact gP ⟨oo,trivial⟩
 ·have hI:s.length=k:=hI;unfold appF;rw[List.length_append,hI]; rfl
 ·refine(gP ⟨oo,trivial⟩).trans ?_;exact aE
theorem sdelV_get{b:Y34}{i k:Nat}{m:Int}(hk:k < (sinksV b.2.1 i).length):(sdelV b i m).getD k 0=divV ((delaysV b i).getD (nodeS b i k).toNat 0) 1000 m:=appF_get _ 0 _ k hk
theorem sdelV_len(b:Y34)(i:Nat)(m:Int):(sdelV b i m).length=(sinksV b.2.1 i).length:=appF_len _ _
theorem tdiv_two{q r:Int}(h:0<=q)(hr:r=0∨r=1):(2*q+r).tdiv 2=q/\((2*q+r).tmod 2=0∨(2*q+r).tmod 2=1):=by
 rw[Int.tdiv_eq_ediv_of_nonneg (by omega),Int.tmod_eq_emod_of_nonneg (by omega)];omega
structure LinkC(b:Y34)(l:DLink)(a:DArc)(n:Nat):Prop where
 kind:l.2.2.1=1
 pix:ix (l.2.1.tdiv 2) (plcs b.2.1).length
 plt:(l.2.1.tdiv 2).toNat < (plcs b.2.1).length
 iix:ix (plcOf b.2.1 (l.2.1.tdiv 2).toNat).1 b.2.1.1.length
 cix:ix (insOf b.2.1 (plcOf b.2.1 (l.2.1.tdiv 2).toNat).1.toNat).2.1 b.1.length
 aix:ix l.2.2.2 (b.1.getD (insOf b.2.1 (plcOf b.2.1 (l.2.1.tdiv 2).toNat).1.toNat).2.1.toNat (dflt y163)).2.2.2.1.length
 arc:(b.1.getD (insOf b.2.1 (plcOf b.2.1 (l.2.1.tdiv 2).toNat).1.toNat).2.1.toNat (dflt y163)).2.2.2.1.getD l.2.2.2.toNat (dflt y143)=a
 net:(plcOf b.2.1 (l.2.1.tdiv 2).toNat).2.2.1=(n:Int)
 nlt:n<b.2.2.length
 trs:l.2.1.tmod 2=0∨l.2.1.tmod 2=1
 del:areTables a.2.2.2.2.1 true=true
 slw:areTables a.2.2.2.2.2 true=true
structure LinkW(b:Y34)(l:DLink)(n k:Nat):Prop where
 kind:l.2.2.1=2
 pix:ix (l.2.1.tdiv 2) (plcs b.2.1).length
 plt:(l.2.1.tdiv 2).toNat < (plcs b.2.1).length
 net:(plcOf b.2.1 (l.2.1.tdiv 2).toNat).2.2.1=(n:Int)
 nlt:n<b.2.2.length
 idx:l.2.2.2=(k:Int)
 klt:k < (sinksV b.2.1 n).length
theorem trans_at{k s:Int}{t:Nat}(h:t < (transV k s).length):(((transV k s).getD t (0,0)).2=0∨((transV k s).getD t (0,0)).2=1):=by
 have:=(transV_ok k s).2 _ (getD_mem (d:=(0,0)) h);omega
theorem link_facts{b:Y34}(hb:blockOk b=true){l:DLink}(h:l∈lV b):(∃a n,LinkC b l a n)∨∃n k,LinkW b l n k:=by
 obtain⟨hd,hlen,_⟩:=block_design hb;have df:=df_of hd;rcases link_is h with ⟨i,j,t,hi,hj,ht,rfl⟩ | ⟨i,k,t,hi,hk,ht,rfl⟩
 ·obtain⟨x1,x2,x3⟩:=inst_cell' df hi;obtain⟨c1,c2,c3,c4⟩:=cell_arcs x2;obtain⟨a1,a2,a3,a4⟩:=c4 j hj;obtain⟨B,hB⟩:∃B:Nat,(arcOf (celI b i) j).2.2.1=(B:Int):=⟨(arcOf (celI b i) j).2.2.1.toNat,by omega⟩;have hBn:B < (insOf b.2.1 i).2.2.length:=by omega
  have lB:offs (insOf b.2.1) i+B < (plcs b.2.1).length:=by
   have:=offs_lt (insOf b.2.1) hi hBn;unfold plcs;rw[places_len]; omega
  have hp:=places_inst b.2.1.1.length b.2.1.2.2.length (insOf b.2.1) (prtOf b.2.1) (dflt y105) hi hBn;have hp:plcOf b.2.1 (offs (insOf b.2.1) i+B)=((i:Int),(B:Int),(insOf b.2.1 i).2.2.getD B 0,(B:Int)==((insOf b.2.1 i).2.2.length:Int)-1):=hp;have hn:=inB_iff.1 (df.fac.net.1 i hi B hBn);obtain⟨n,hn'⟩:∃n:Nat,(insOf b.2.1 i).2.2.getD B 0=(n:Int):=⟨((insOf b.2.1 i).2.2.getD B 0).toNat,by omega⟩;have hk3:(arcOf (celI b i) j).1<=3:=by have:=trans_kind (Nat.lt_of_le_of_lt (Nat.zero_le _) ht); omega
  obtain⟨_,k2,k3⟩:=arc_comb (arc_facts x2 hj) hk3;have etd:=tdiv_two (q:=((offs (insOf b.2.1) i+B:Nat):Int)) (Int.natCast_nonneg _) (trans_at ht);have el:(cLink (offs (insOf b.2.1) i:Int) (arcOf (celI b i) j) j t).2.1=2*((offs (insOf b.2.1) i+B:Nat):Int)+((transV (arcOf (celI b i) j).1 (arcOf (celI b i) j).2.2.2.1).getD t (0,0)).2:=by
   show 2*((offs (insOf b.2.1) i:Int)+(arcOf (celI b i) j).2.2.1)+_=_;rw[hB,Int.natCast_add]
  refine .inl ⟨arcOf (celI b i) j,n,?_⟩;have e1:((cLink (offs (insOf b.2.1) i:Int) (arcOf (celI b i) j) j t).2.1.tdiv 2)=((offs (insOf b.2.1) i+B:Nat):Int):=by rw[el]; exact etd.1
  have e2:((offs (insOf b.2.1) i+B:Nat):Int).toNat=offs (insOf b.2.1) i+B:=rfl;refine⟨rfl,?_,?_,?_,?_,?_,?_,?_,by omega,by rw[el]; exact etd.2,k2,k3⟩
  ·rw[e1]; exact oo
  ·rw[e1,e2]; exact lB
  ·rw[e1,e2,hp]; exact⟨Int.natCast_nonneg _,by show(i:Int)<_; omega⟩
  ·rw[e1,e2,hp]; exact x1
  ·rw[e1,e2,hp]; exact⟨Int.natCast_nonneg _,by show(j:Int) < ((celI b i).2.2.2.1.length:Int); omega⟩
  ·rw[e1,e2,hp]; rfl
  ·rw[e1,e2,hp]; exact hn'
 ·obtain⟨q,h1,h2,h3,_⟩:=sinkL_in (plcOf b.2.1) i (plcs b.2.1).length _ (getD_mem (d:=0) hk);have h1:(sinksV b.2.1 i).getD k 0=(q:Int):=h1;have el:(wLink (drvV b i) ((sinksV b.2.1 i).getD k 0) k t).2.1=2*(q:Int)+(t:Int):=by
   show 2*(sinksV b.2.1 i).getD k 0+_=_;rw[h1]
  have etd:=tdiv_two (q:=(q:Int)) (r:=(t:Int)) (Int.natCast_nonneg _) (by omega);have e1:((wLink (drvV b i) ((sinksV b.2.1 i).getD k 0) k t).2.1.tdiv 2)=(q:Int):=by rw[el]; exact etd.1
  have e2:((q:Int)).toNat=q:=rfl;refine .inr ⟨i,k,rfl,?_,?_,?_,hi,rfl,hk⟩
  ·rw[e1]; exact oo
  ·rw[e1,e2]; exact h2
  ·rw[e1,e2]; exact h3
theorem tables_at{l:List DTbl}{p:Bool}(h:areTables l p=true){x:Int}(hx:x=0∨x=1):ix x l.length/\isTable (l.getD x.toNat (dflt y140))=true:=by
 unfold areTables at h;rw[ba,dq] at h;have hlt:x.toNat<l.length:=by omega
 refine⟨oo,?_⟩;have:=List.all_eq_true.1 h.2 _ (getD_mem (d:=dflt y140) hlt);rw[ba] at this;exact this.1
section
variable {b:Y34}
theorem r105{l:DLink}{a:DArc}{n:Nat}(h:LinkC b l a n):u105 (viewV b) l=some a:=by
 unfold u105;refine(gP ⟨by decide,h.pix,h.iix,trivial⟩).trans ?_;rw[lE];refine(gP ⟨h.cix,h.aix,trivial⟩).trans ?_;rw[lE];exact congrArg some h.arc
theorem r160{l:DLink}{n:Nat}(h1:ix (l.2.1.tdiv 2) (plcs b.2.1).length)(h2:(plcOf b.2.1 (l.2.1.tdiv 2).toNat).2.2.1=(n:Int)):u160 (viewV b) l=some (n:Int):=by
 unfold u160;refine(gP ⟨by decide,h1,trivial⟩).trans ?_;rw[lE];exact congrArg some h2
theorem r152(hw:wf y34 b)(hb:blockOk b=true){l:DLink}{a:DArc}{n:Nat}(h:LinkC b l a n):u152 b l=some (a,(loadsV b n).getD 0 0):=by
 have df:=df_of (block_design hb).1;have no:=net_ok hb h.nlt;have n1:=no.wf.n1;have ll:=no.loads.1;unfold u152;rw[r124 b.2.1 hw.2.1 df.fac.ni14 df.fac.np8 df.pin,vS,gP ⟨rfl,by decide,h.pix,h.plt,trivial⟩,lE];show gd (ix (plcOf b.2.1 (l.2.1.tdiv 2).toNat).1 b.2.1.1.length/\ix (insOf b.2.1 (plcOf b.2.1 (l.2.1.tdiv 2).toNat).1.toNat).2.1 b.1.length/\ix l.2.2.2 (b.1.getD (insOf b.2.1 (plcOf b.2.1 (l.2.1.tdiv 2).toNat).1.toNat).2.1.toNat (dflt y163)).2.2.2.1.length/\(u191 b (plcOf b.2.1 (l.2.1.tdiv 2).toNat).2.2.1).isSome=true/\ix (0:Int) (vl (u191 b (plcOf b.2.1 (l.2.1.tdiv 2).toNat).2.2.1)).length/\Int.toNat (0:Int) < (vl (u191 b (plcOf b.2.1 (l.2.1.tdiv 2).toNat).2.2.1)).length/\True) (lt (vl (u191 b (plcOf b.2.1 (l.2.1.tdiv 2).toNat).2.2.1),(b.1.getD (insOf b.2.1 (plcOf b.2.1 (l.2.1.tdiv 2).toNat).1.toNat).2.1.toNat (dflt y163)).2.2.2.1.getD l.2.2.2.toNat (dflt y143)) fun x=>match x with | (v2,v3)=>some (v3,v2.getD (Int.toNat (0:Int)) (0:Int)))=_;rw[h.net,r191 b hw no,vS,gP ⟨h.iix,h.cix,h.aix,rfl,⟨by decide,by omega⟩,by show 0<_; omega,trivial⟩,lE,h.arc];rfl
theorem r155(hw:wf y34 b)(hb:blockOk b=true){l:DLink}{n k:Nat}(h:LinkW b l n k):u155 b l=some (n:Int):=by
 have df:=df_of (block_design hb).1;unfold u155;rw[r124 b.2.1 hw.2.1 df.fac.ni14 df.fac.np8 df.pin,vS,gP ⟨rfl,by decide,h.pix,h.plt,trivial⟩,lE];exact congrArg some h.net
end
end Go.Proofs.YtphnknndgfgepaaGreatDoor
end
