/- The view of a block: the program's way. -/
import Derived.Test.YtphnknndgfgepaaGreatDoorWE
import Derived.Test.YtphnknndgfgepaaGreatDoorWC
import Derived.Test.YtphnknndgfgepaaGreatDoorF7Ad
import Derived.Test.YtphnknndgfgepaaGreatDoorWB
section
namespace Go.Proofs.YtphnknndgfgepaaGreatDoor
open Go Go.Proofs Go.Proofs.Sv Go.Proofs.Xv Go.Proofs.Xl Go.Proofs.Xd
def instLV(b:Y34)(i:Nat)(s:Int×List DLink):Int×List DLink:=instLF (fun i=>(insOf b.2.1 i).2.2.length) (fun i=>arcOf (celI b i)) (fun i=>(celI b i).2.2.2.1.length) i s
def drvV(b:Y34)(i:Nat):Int:=drvN (plcOf b.2.1) i (plcs b.2.1).length
def clinksV(b:Y34):List DLink:=(fN (instLV b) b.2.1.1.length (0,[])).2
def lV(b:Y34):List DLink:=fN (netLF (drvV b) (fun i=>sinksV b.2.1 i)) b.2.2.length (clinksV b)
def loadsL(b:Y34):List Int:=fN (appF fun i=>(loadsV b i).getD 0 0) b.2.2.length []
def delaysL(b:Y34):List (List Int):=fN (appF fun i=>exactV b i) b.2.2.length []
def viewV(b:Y34):Y100:=(b,plcs b.2.1,lV b,loadsL b,delaysL b,[])
theorem instLV_in{b:Y34}(df:DF b.1 b.2.1)(m:Nat)(hm:m<=b.2.1.1.length):0<=(fN (instLV b) m (0,[])).1/\(fN (instLV b) m (0,[])).1<=5*(m:Int)/\(fN (instLV b) m (0,[])).2.length<=32*m :=
 instLF_in (n:=b.2.1.1.length) (fun i hi=>⟨(df.pin i hi).2,(cell_arcs (inst_cell' df hi).2.1).2.2.1⟩) m hm
def stepV(b:Y34)(i:Nat)(s:List Int×List (List Int)×List DLink):List Int×List (List Int)×List DLink:=(s.1++[(loadsV b i).getD 0 0],s.2.1++[exactV b i],netLF (drvV b) (fun i=>sinksV b.2.1 i) i s.2.2)
theorem stepV_fold(b:Y34)(z:List DLink):∀m,fN (stepV b) m ([],[],z)=(fN (appF fun i=>(loadsV b i).getD 0 0) m [],fN (appF fun i=>exactV b i) m [],fN (netLF (drvV b) (fun i=>sinksV b.2.1 i)) m z)
 | 0=>rfl
 | m+1=>by
   show stepV b m (fN (stepV b) m ([],[],z))=_;rw[stepV_fold b z m]; rfl
theorem r66(b:Y34)(hw:wf y34 b)(hb:blockOk b=true):u66 b=some (viewV b):=by
 obtain⟨hd0,hlen,hwire⟩:=block_design hb;have df:=df_of hd0;have hd:=hw.2.1;have h14:=df.fac.ni14;have h30:=df.fac.nn30;have hpl:=df.len;have hin:b.2.1.1.length<=9223372036854775807:=by omega
 have eN:∀l,u129 l=some (l.length:Int):=fun _=>rfl;unfold u66;rw[r68 b.2.1 hd df.fac.ni14 df.fac.np8 df.pin,vS,gP ⟨rfl,trivial⟩,lE];refine(lF (n:=b.2.1.1.length) hin (fun(i:Nat) (s:Int×List DLink)=>(s.1,(i:Int),s.2)) (instLV b) (fun i s=>0<=s.1/\s.1<=5*(i:Int)/\s.2.length<=32*i) (J:=fun s=>u66J0 (plcs b.2.1) b s.2) (F:=u66L1 b (plcs b.2.1)) (fun g i s hi hI=>?_) (fun i s hi hI=>?_) (fun g s _=>aE) (0,[]) ⟨Int.le_refl _,Int.le_refl _,Nat.le_refl _⟩).trans ?_
 ·have e3:((i:Int)).toNat=i:=rfl;obtain⟨f,z⟩:=s;obtain⟨i1,i2,i3⟩:=hI;have i1:0<=f:=i1;have i2:f<=5*(i:Int):=i2;have i3:z.length<=32*i:=i3;have hp:=df.pin i hi;have hcl:=cellLinksD_len f (arcOf (celI b i)) (celI b i).2.2.2.1.length;have hc8:=(cell_arcs (inst_cell' df hi).2.1).2.2.1;refine(if_pos (by simpa using hi)).trans ?_;rw[e3,gP ⟨oo,trivial⟩,lE];show gd ((u128 b (insOf b.2.1 i) f).isSome=true/\_/\True) _=_;rw[r128 b df hi f i1 (by omega),vS,gP ⟨rfl,oo,trivial⟩,lE];show gd ((u129 (insOf b.2.1 i).2.2).isSome=true/\in64 (f+vl (u129 (insOf b.2.1 i).2.2))/\True) _=_;rw[eN,vS,gP ⟨rfl,oo,trivial⟩,lE];exact gP ⟨oo,trivial⟩
 ·obtain⟨f,z⟩:=s;obtain⟨i1,i2,i3⟩:=hI;have i1:0<=f:=i1;have i2:f<=5*(i:Int):=i2;have i3:z.length<=32*i:=i3;have hp:=df.pin i hi;have hcl:=cellLinksD_len f (arcOf (celI b i)) (celI b i).2.2.2.1.length;have hc8:=(cell_arcs (inst_cell' df hi).2.1).2.2.1;refine⟨by show 0<=f+((insOf b.2.1 i).2.2.length:Int); omega,by show f+((insOf b.2.1 i).2.2.length:Int)<=_; omega,?_⟩;show(z++cellLinksD f (arcOf (celI b i)) (celI b i).2.2.2.1.length).length<=_;rw[List.length_append]; omega
 have hz:=(instLV_in df _ (Nat.le_refl _)).2.2;have ecl:clinksV b=(fN (instLV b) b.2.1.1.length (0,[])).2:=rfl;unfold viewV lV loadsL delaysL;rw[ecl];generalize (fN (instLV b) b.2.1.1.length (0,[])).2=z at hz;show u66J0 (plcs b.2.1) b z=_;have hn30:b.2.2.length<=30:=by omega
 rw[u66J0,gP ⟨⟨by omega,rfl,by omega,by omega⟩,trivial⟩,gP ⟨⟨by omega,rfl,by omega,by omega⟩,trivial⟩];show lp (u66L3 (plcs b.2.1) b z) (0,List.replicate b.2.2.length [],List.replicate b.2.2.length 0)=_;have hnet:∀i,i < (plcs b.2.1).length->inB (plcOf b.2.1 i).2.2.1 0 ((b.2.2.length:Int)-1)=true:=fun i hi=>by rw[hlen]; exact df.plc _ (plc_mem hi)
 have gf:=grid_fold (plcOf b.2.1) b.2.2.length;refine(lF (n:=(plcs b.2.1).length) (by omega) (fun(i:Nat) (s:List (List Int)×List Int)=>((i:Int),s.1,s.2)) (gridF (plcOf b.2.1)) (fun i s=>s.1.length=b.2.2.length/\s.2.length=b.2.2.length/\∀k:Nat,(s.1.getD k []).length<=i) (J:=fun s=>u66J2 b (plcs b.2.1) z s) (F:=u66L3 (plcs b.2.1) b z) (fun g i s hi hI=>?_) (fun i s hi hI=>?_) (fun g s _=>aE) (List.replicate b.2.2.length [],List.replicate b.2.2.length 0) ⟨List.length_replicate,List.length_replicate,fun k=>?_⟩).trans ?_
 ·obtain⟨gr,dr⟩:=s;obtain⟨g1,g2,g3⟩:=hI;have g1:gr.length=b.2.2.length:=g1;have g2:dr.length=b.2.2.length:=g2;have g3:∀k:Nat,(gr.getD k []).length<=i:=g3;have hp:=inB_iff.1 (hnet i hi);have e3:((i:Int)).toNat=i:=rfl;have j4:∀x y,u66J4 (i:Int) g (x,y)=g (((i+1:Nat):Int),y,x):=fun x y=>gP ⟨oo,trivial⟩;have g4:=g3 (plcOf b.2.1 i).2.2.1.toNat;refine(if_pos (by simpa using hi)).trans ?_;rw[e3,gP ⟨oo,hi,trivial⟩,lE];show(if(plcOf b.2.1 i).2.2.2=true then _ else _)=g (_,(gridF (plcOf b.2.1) i (gr,dr)).1,(gridF (plcOf b.2.1) i (gr,dr)).2);unfold gridF;cases(plcOf b.2.1 i).2.2.2 with
  | true =>
    rw[if_pos rfl,if_pos rfl];show gd (ix (plcOf b.2.1 i).2.2.1 dr.length/\_/\True) _=_;rw[gP ⟨oo,by show(plcOf b.2.1 i).2.2.1.toNat<_; omega,trivial⟩,j4]
  | false =>
    rw[if_neg (by simp),if_neg (by simp)];show gd (ix (plcOf b.2.1 i).2.2.1 gr.length/\_) _=_;rw[gP ⟨oo,by show(plcOf b.2.1 i).2.2.1.toNat<_; omega,⟨by show(gr.getD (plcOf b.2.1 i).2.2.1.toNat []).length+1<=_; omega,by show((gr.getD (plcOf b.2.1 i).2.2.1.toNat []).length+1)*8<=_; omega⟩,⟨by show 0<=(plcOf b.2.1 i).2.2.1; omega,by show(plcOf b.2.1 i).2.2.1<_; omega⟩,⟨by show(plcOf b.2.1 i).2.2.1.toNat<_; omega,rfl⟩,trivial⟩,lE,j4]
 ·obtain⟨gr,dr⟩:=s;obtain⟨g1,g2,g3⟩:=hI;have g1:gr.length=b.2.2.length:=g1;have g2:dr.length=b.2.2.length:=g2;have g3:∀k:Nat,(gr.getD k []).length<=i:=g3;have hp:=inB_iff.1 (hnet i hi);unfold gridF;split
  ·exact⟨g1,by show(dr.set _ _).length=_; rw[List.length_set]; exact g2,fun k=>by have:=g3 k; show(gr.getD k []).length<=_; omega⟩
  ·refine⟨by show(gr.set _ _).length=_; rw[List.length_set]; exact g1,g2,fun k=>?_⟩;show((gr.set (plcOf b.2.1 i).2.2.1.toNat (gr.getD (plcOf b.2.1 i).2.2.1.toNat []++[(i:Int)])).getD k []).length<=_;rw[getD_set (by omega)];have:=g3 k;have:=g3 (plcOf b.2.1 i).2.2.1.toNat;split
   ·rw[List.length_append]; show _+1<=_; omega
   ·omega
 ·show((List.replicate b.2.2.length ([]:List Int)).getD k []).length<=0;rw[gq,List.getElem?_replicate];split <;> exact Nat.le_refl _
 obtain⟨gl,dl,gd'⟩:=gf (plcs b.2.1).length hnet;generalize fN (gridF (plcOf b.2.1)) (plcs b.2.1).length (List.replicate b.2.2.length [],List.replicate b.2.2.length 0)=s at gl dl gd';obtain⟨gr,dr⟩:=s;have gl:gr.length=b.2.2.length:=gl;have dl:dr.length=b.2.2.length:=dl;have hgr:∀k:Nat,k<b.2.2.length->gr.getD k []=sinksV b.2.1 k:=fun k hk=>(gd' k hk).1;have hdr:∀k:Nat,k<b.2.2.length->dr.getD k 0=drvV b k:=fun k hk=>(gd' k hk).2;show lp (u66L6 dr gr b (plcs b.2.1)) (0,[],[],z)=_;refine(lF (n:=b.2.2.length) (by omega) (fun(i:Nat) (s:List Int×List (List Int)×List DLink)=>((i:Int),s.1,s.2.1,s.2.2)) (stepV b) (fun i s=>s.1.length=i/\s.2.1.length=i/\s.2.2.length<=500+160*i) (J:=fun s=>some (b,plcs b.2.1,s.2.2,s.1,s.2.1,[])) (F:=u66L6 dr gr b (plcs b.2.1)) (fun g i s hi hI=>?_) (fun i s hi hI=>?_) (fun g s _=>aE) ([],[],z) ⟨rfl,rfl,by show z.length<=_; omega⟩).trans ?_
 ·obtain⟨s1,s2,s3⟩:=s;obtain⟨i1,i2,i3⟩:=hI;have i1:s1.length=i:=i1;have i2:s2.length=i:=i2;have i3:s3.length<=500+160*i:=i3;have hno:=net_ok hb hi;have n1:=hno.wf.n1;have hs78:=hno.s78;have hll:=hno.loads.1;have e3:((i:Int)).toNat=i:=rfl;refine(if_pos (by simpa using hi)).trans ?_;rw[r130 b hw hno,vS,gP ⟨rfl,oo,by show 0<_; omega,⟨by show s1.length+1<=_; omega,by show(s1.length+1)*8<=_; omega⟩,trivial⟩,lE,r131 b hw hno,vS,gP ⟨rfl,⟨by show s2.length+1<=_; omega,by show(s2.length+1)*24<=_; omega⟩,trivial⟩,lE,gP ⟨oo,trivial⟩];have hsn:=hgr i hi;have hdn:=hdr i hi;have hdv:=drvN_in (plcOf b.2.1) i (plcs b.2.1).length;have hdv:0<=drvV b i/\drvV b i<=((plcs b.2.1).length:Int):=hdv;show lp (u66L8 dr (i:Int) gr s2 (exactV b i) s1 (loadsV b i) g) (0,s3)=g (_,s1++[(loadsV b i).getD 0 0],s2++[exactV b i],netLF (drvV b) (fun i=>sinksV b.2.1 i) i s3);refine(lF (n:=(sinksV b.2.1 i).length) (by omega) (fun(k:Nat) (s:List DLink)=>((k:Int),s)) (wsinkF (drvV b i) (sinksV b.2.1 i)) (fun k y=>y.length=s3.length+2*k) (J:=fun y=>u66J7 (i:Int) g (s2++[exactV b i],s1++[(loadsV b i).getD 0 0],y)) (F:=u66L8 dr (i:Int) gr s2 (exactV b i) s1 (loadsV b i) g) (fun g8 k y hk hy=>?_) (fun k y hk hy=>?_) (fun g8 y _=>?_) s3 rfl).trans ?_
  ·have hy:y.length=s3.length+2*k:=hy;obtain⟨k1,k2⟩:=sinksV_at hk;have e4:((k:Int)).toNat=k:=rfl;show u66L8 dr (i:Int) gr s2 (exactV b i) s1 (loadsV b i) g g8 ((k:Int),y)=_;rw[u66L8,e3,hsn,if_pos (by simpa using hk),gP ⟨oo,trivial⟩];show _=g8 (_,wsinkF (drvV b i) (sinksV b.2.1 i) k y);refine(lF (n:=2) (by decide) (fun(t:Nat) (x:List DLink)=>((t:Int),x)) (wlinkF (drvV b i) ((sinksV b.2.1 i).getD k 0) (k:Int)) (fun t x=>x.length=y.length+t) (J:=fun x=>u66J9 (k:Int) g8 x) (F:=u66L10 dr (i:Int) gr (k:Int) g8) (fun g10 t x ht hx=>?_) (fun t x ht hx=>?_) (fun g10 x _=>?_) y rfl).trans ?_
   ·have hx:x.length=y.length+t:=hx;show u66L10 dr (i:Int) gr (k:Int) g8 g10 ((t:Int),x)=_;rw[u66L10,e3,e4,hsn,hdn,if_pos (decide_eq_true (by omega)),gP ⟨oo,by omega,oo,oo,oo,oo,⟨by show x.length+1<=_; omega,by show(x.length+1)*32<=_; omega⟩,trivial⟩,lE];exact gP ⟨oo,trivial⟩
   ·have hx:x.length=y.length+t:=hx;unfold wlinkF;rw[List.length_append,hx]; rfl
   ·show u66L10 dr (i:Int) gr (k:Int) g8 g10 (((2:Nat):Int),x)=_;rw[u66L10];exact if_neg (by decide)
   ·exact gP ⟨oo,trivial⟩
  ·have hy:y.length=s3.length+2*k:=hy;rw[wsinkF_len,hy]; omega
  ·show u66L8 dr (i:Int) gr s2 (exactV b i) s1 (loadsV b i) g g8 (((sinksV b.2.1 i).length:Int),y)=_;rw[u66L8,e3,hsn];exact if_neg (by simp)
  ·exact gP ⟨oo,trivial⟩
 ·obtain⟨s1,s2,s3⟩:=s;obtain⟨i1,i2,i3⟩:=hI;have i1:s1.length=i:=i1;have i2:s2.length=i:=i2;have i3:s3.length<=500+160*i:=i3;have hs78:=(net_ok hb hi).s78;refine⟨by show(s1++_).length=_; rw[List.length_append,i1]; rfl,by show(s2++_).length=_; rw[List.length_append,i2]; rfl,?_⟩;show(netLF (drvV b) (fun i=>sinksV b.2.1 i) i s3).length<=_;unfold netLF;rw[wsink_len];show s3.length+2*(sinksV b.2.1 i).length<=500+160*(i+1);omega
 ·rw[stepV_fold]
end Go.Proofs.YtphnknndgfgepaaGreatDoor
end
section
namespace Go.Proofs.Xd
open Go Go.Proofs Go.Proofs.Xl
def cLink(f:Int)(a:DArc)(j:Nat)(t:Nat):DLink:=(2*(f+a.2.1)+((transV a.1 a.2.2.2.1).getD t (0,0)).1,2*(f+a.2.2.1)+((transV a.1 a.2.2.2.1).getD t (0,0)).2,1,(j:Int))
def wLink(d s:Int)(k t:Nat):DLink:=(2*d+(t:Int),2*s+(t:Int),2,(k:Int))
theorem clinkF_mem{f a b x:Int}{tr:List (Int×Int)}{s:List DLink}{l:DLink}:∀k,l∈fN (clinkF f a b x tr) k s->l∈s∨∃t,t<k/\l=(2*(f+a)+(tr.getD t (0,0)).1,2*(f+b)+(tr.getD t (0,0)).2,1,x)
 | 0,h=>.inl h
 | k+1,h=>by
   rcases List.mem_append.1 (show l∈fN (clinkF f a b x tr) k s++[_] from h) with h | h
   ·rcases clinkF_mem k h with h | ⟨t,ht,e⟩
    ·exact .inl h
    ·exact .inr ⟨t,by omega,e⟩
   ·exact .inr ⟨k,by omega,List.mem_singleton.1 h⟩
theorem carcF_mem{f:Int}{arcs:Nat->DArc}{s:List DLink}{l:DLink}:∀m,l∈fN (carcF f arcs) m s->l∈s∨∃j t,j<m/\t < (transV (arcs j).1 (arcs j).2.2.2.1).length/\l=cLink f (arcs j) j t
 | 0,h=>.inl h
 | m+1,h=>by
   rcases clinkF_mem _ (show l∈fN (clinkF f _ _ (m:Int) _) _ (fN (carcF f arcs) m s) from h) with h | ⟨t,ht,e⟩
   ·rcases carcF_mem m h with h | ⟨j,t,hj,ht,e⟩
    ·exact .inl h
    ·exact .inr ⟨j,t,by omega,ht,e⟩
   ·exact .inr ⟨m,t,by omega,ht,e⟩
theorem instLF_fst{nets:Nat->Nat}{arcs:Nat->Nat->DArc}{ms:Nat->Nat}{x:Nat->DInst}(hx:∀i,nets i=(x i).2.2.length):∀m,(fN (instLF nets arcs ms) m (0,[])).1=(offs x m:Int)
 | 0=>rfl
 | m+1=>by
   show(fN (instLF nets arcs ms) m (0,[])).1+(nets m:Int)=((offs x m+(x m).2.2.length:Nat):Int);rw[instLF_fst hx m,hx m]; omega
theorem instLF_mem{nets:Nat->Nat}{arcs:Nat->Nat->DArc}{ms:Nat->Nat}{x:Nat->DInst}(hx:∀i,nets i=(x i).2.2.length){l:DLink}:∀m,l∈(fN (instLF nets arcs ms) m (0,[])).2->∃i j t,i<m/\j<ms i/\t < (transV (arcs i j).1 (arcs i j).2.2.2.1).length/\l=cLink (offs x i:Int) (arcs i j) j t
 | 0,h=>by cases h
 | m+1,h=>by
   rcases List.mem_append.1 (show l∈(fN (instLF nets arcs ms) m (0,[])).2++cellLinksD _ _ _ from h) with h | h
   ·obtain⟨i,j,t,hi,hr⟩:=instLF_mem hx m h;exact⟨i,j,t,by omega,hr⟩
   ·rcases carcF_mem _ h with h | ⟨j,t,hj,ht,e⟩
    ·cases h
    ·rw[instLF_fst hx m] at e;exact⟨m,j,t,by omega,hj,ht,e⟩
theorem wsinkF_mem{d:Int}{sn:List Int}{z:List DLink}{l:DLink}:∀k,l∈fN (wsinkF d sn) k z->l∈z∨∃j t,j<k/\t<2/\l=wLink d (sn.getD j 0) j t
 | 0,h=>.inl h
 | k+1,h=>by
   have h:l∈(fN (wsinkF d sn) k z++[wLink d (sn.getD k 0) k 0])++[wLink d (sn.getD k 0) k 1]:=h;rcases List.mem_append.1 h with h | h
   ·rcases List.mem_append.1 h with h | h
    ·rcases wsinkF_mem k h with h | ⟨j,t,hj,ht,e⟩
     ·exact .inl h
     ·exact .inr ⟨j,t,by omega,ht,e⟩
    ·exact .inr ⟨k,0,by omega,by omega,List.mem_singleton.1 h⟩
   ·exact .inr ⟨k,1,by omega,by omega,List.mem_singleton.1 h⟩
theorem netLF_mem{d:Nat->Int}{sn:Nat->List Int}{z:List DLink}{l:DLink}:∀m,l∈fN (netLF d sn) m z->l∈z∨∃i j t,i<m/\j < (sn i).length/\t<2/\l=wLink (d i) ((sn i).getD j 0) j t
 | 0,h=>.inl h
 | m+1,h=>by
   rcases wsinkF_mem _ (show l∈fN (wsinkF (d m) (sn m)) _ (fN (netLF d sn) m z) from h) with h | ⟨j,t,hj,ht,e⟩
   ·rcases netLF_mem m h with h | ⟨i,j,t,hi,hr⟩
    ·exact .inl h
    ·exact .inr ⟨i,j,t,by omega,hr⟩
   ·exact .inr ⟨m,j,t,by omega,hj,ht,e⟩
theorem clinkF_app(f a b x:Int)(tr:List (Int×Int))(s:List DLink):∀k,fN (clinkF f a b x tr) k s=s++fN (clinkF f a b x tr) k []
 | 0=>(List.append_nil _).symm
 | k+1=>by
   show fN (clinkF f a b x tr) k s++[_]=s++(fN (clinkF f a b x tr) k []++[_]);rw[clinkF_app f a b x tr s k,List.append_assoc]
theorem carcF_app(f:Int)(arcs:Nat->DArc)(s:List DLink):∀m,fN (carcF f arcs) m s=s++cellLinksD f arcs m
 | 0=>(List.append_nil _).symm
 | m+1=>by
   show carcF f arcs m (fN (carcF f arcs) m s)=s++carcF f arcs m (cellLinksD f arcs m);rw[carcF_app f arcs s m];unfold carcF;rw[clinkF_app,clinkF_app _ _ _ _ _ (cellLinksD f arcs m),List.append_assoc]
end Go.Proofs.Xd
end
section
namespace Go.Proofs.YtphnknndgfgepaaGreatDoor
open Go Go.Proofs Go.Proofs.Sv Go.Proofs.Xv Go.Proofs.Xl Go.Proofs.Xd
theorem r123(l:List DLink)(f t a b k i:Int)(hf:0<=f/\f<=1000)(ht:0<=t/\t<=1000)(ha:0<=a/\a<=1)(hb:0<=b/\b<=1)(hl:l.length<=100000):u123 l f t a b k i=some (l++[(2*f+a,2*t+b,k,i)]) :=
 gP ⟨oo,oo,oo,oo,⟨by show l.length+1<=_; omega,by show(l.length+1)*32<=_; omega⟩,trivial⟩
def fitsV(k s:Int)(x y:Nat):Bool:=if(k==1)=true then s==3||(s==1)==((x:Int)==(y:Int)) else if(k==2)=true then(x:Int)==0 else if(k==3)=true then(x:Int)==1 else false
def arcE(k s f t i:Int)(x y:Nat)(l:List DLink):List DLink:=if fitsV k s x y=true then l++[(2*f+(x:Int),2*t+(y:Int),1,i)] else l
theorem arcE_len(k s f t i:Int)(x y:Nat)(l:List DLink):(arcE k s f t i x y l).length<=l.length+1:=by
 unfold arcE;split
 ·rw[List.length_append]; exact Nat.le_refl _
 ·omega
theorem arcE_fold(k s f t i:Int)(x:Nat)(l:List DLink):∀n,(fN (arcE k s f t i x) n l).length<=l.length+n
 | 0=>Nat.le_refl _
 | n+1=>by
   have h:=arcE_fold k s f t i x l n;have:=arcE_len k s f t i x n (fN (arcE k s f t i x) n l);show(arcE k s f t i x n (fN (arcE k s f t i x) n l)).length<=_;omega
theorem r120(a:Y143)(l:List DLink)(f t i:Int)(hf:0<=f/\f<=1000)(ht:0<=t/\t<=1000)(hl:l.length<=90000):u120 l a f t i=some (fN (fun x s=>fN (arcE a.1 a.2.2.2.1 f t i x) 2 s) 2 l):=by
 unfold u120;refine lF (n:=2) (by decide) (fun(x:Nat) (s:List DLink)=>((x:Int),s)) (fun x s=>fN (arcE a.1 a.2.2.2.1 f t i x) 2 s) (fun x s=>s.length<=l.length+2*x) (J:=fun s=>some s) (F:=u120L1 f t i a) (fun g x s hx hI=>?_) (fun x s hx hI=>?_) (fun g s _=>by
  show u120L1 f t i a g (((2:Nat):Int),s)=_;rw[u120L1];exact if_neg (by decide)) l (Nat.le_refl _)
 ·have hI:s.length<=l.length+2*x:=hI;refine(if_pos (decide_eq_true (by omega))).trans ?_;refine(lF (n:=2) (by decide) (fun(y:Nat) (s:List DLink)=>((y:Int),s)) (arcE a.1 a.2.2.2.1 f t i x) (fun y s=>s.length<=l.length+2*x+y) (J:=fun s=>u120J2 (x:Int) g s) (F:=u120L3 f t (x:Int) i a g) (fun g' y s hy hI=>?_) (fun y s hy hI=>?_) (fun g' s _=>by
   show u120L3 f t (x:Int) i a g g' (((2:Nat):Int),s)=_;rw[u120L3];exact if_neg (by decide)) s hI).trans ?_
  ·have hI:s.length<=l.length+2*x+y:=hI;have j4:∀v,u120J4 (y:Int) g' v=g' (((y+1:Nat):Int),v):=fun v=>gP ⟨oo,trivial⟩;have j5:∀v,u120J5 (y:Int) s f t (x:Int) i g' v=g' (((y+1:Nat):Int),if v=true then s++[(2*f+(x:Int),2*t+(y:Int),1,i)] else s):=fun v=>by
    cases v with
    | true=>rw[u120J5,if_pos rfl,if_pos rfl,r123 s f t x y 1 i hf ht (by omega) (by omega) (by omega),gP ⟨rfl,trivial⟩,vS,lE,j4]
    | false=>rw[u120J5,if_neg (by simp),if_neg (by simp),j4]
   refine(if_pos (decide_eq_true (by omega))).trans ?_;show _=g' (((y+1:Nat):Int),arcE a.1 a.2.2.2.1 f t i x y s);unfold arcE fitsV;rw[j5,j5,j5,j5];by_cases h1:(a.1==1)=true
   ·rw[if_pos h1,if_pos h1]
   rw[if_neg h1,if_neg h1];by_cases h2:(a.1==2)=true
   ·rw[if_pos h2,if_pos h2]
   rw[if_neg h2,if_neg h2];by_cases h3:(a.1==3)=true
   ·rw[if_pos h3,if_pos h3]
   rw[if_neg h3,if_neg h3]
  ·have hI:s.length<=l.length+2*x+y:=hI;have:=arcE_len a.1 a.2.2.2.1 f t i x y s;omega
  ·exact gP ⟨oo,trivial⟩
 ·have hI:s.length<=l.length+2*x:=hI;have:=arcE_fold a.1 a.2.2.2.1 f t i x s 2;omega
theorem arc_eq{k s:Int}(h:(k=1/\(s=1∨s=2∨s=3))∨k=2∨k=3)(fo A B i:Int)(l:List DLink):fN (fun x z=>fN (arcE k s (fo+A) (fo+B) i x) 2 z) 2 l=fN (clinkF fo A B i (transV k s)) (transV k s).length l:=by
 rcases h with ⟨rfl,rfl | rfl | rfl⟩ | rfl | rfl <;> rfl
theorem find_first{b:Nat->Bool}{n m:Nat}(hm:m<n)(h1:b m=true)(h2:∀j,j<m->b j=false):(List.range n).find? b=some m:=by
 rw[List.find?_range_eq_some];refine⟨h1,List.mem_range.2 hm,fun j hj=>?_⟩;rw[h2 j hj]; rfl
theorem r121(d:Y31)(hd:wf y31 d){l:List Y163}(df:DF l d){i k:Nat}(hi:i<d.1.length)(hk:k < (insOf d i).2.2.length):u121 d (i:Int) (k:Int)=some ((offs (insOf d) i+k:Nat):Int)/\offs (insOf d) i+k < (plcs d).length:=by
 have hl:=df.len;have hlt:offs (insOf d) i+k < (plcs d).length:=by
  have:=offs_lt (insOf d) hi hk;unfold plcs;rw[places_len]; omega
 refine⟨?_,hlt⟩;unfold u121;rw[r124 d hd df.fac.ni14 df.fac.np8 df.pin,vS,gP ⟨rfl,trivial⟩,lE];have ho:∀j,j < (plcs d).length->((plcOf d j).1==(i:Int)&&(plcOf d j).2.1==(k:Int))=decide (j=offs (insOf d) i+k):=fun j hj=>place_only d.1.length d.2.2.length (insOf d) (prtOf d) (dflt y105) hi hk hj;have key:=idx_some (n:=(plcs d).length) (by omega) (fun j=>(plcOf d j).1==(i:Int)&&(plcOf d j).2.1==(k:Int)) (F:=u121L1 (plcs d) (i:Int) (k:Int)) (fun g j hj=>by
  have e3:((j:Int)).toNat=j:=rfl;refine(if_pos (by simpa using hj)).trans ?_;rw[e3,gP ⟨oo,hj,(fun _=>oo),(fun _=>hj),trivial⟩,gP ⟨oo,trivial⟩]) (fun g=>aE)
 refine key.trans ?_;rw[find_first hlt (by rw[ho _ hlt,decide_eq_true rfl]) (fun j hj=>by rw[ho j (by omega)]; exact decide_eq_false (by omega))]
theorem drv_cnt{b:Y34}(hb:blockOk b=true){t:Nat}(ht:t<b.2.2.length):cntF (drvB (plcOf b.2.1) t) (plcs b.2.1).length=1:=by
 obtain⟨hd,hlen,_⟩:=block_design hb;have df:=df_of hd;have hD:designB _ _ _ _ _ _ _ _ _=true:=hd;unfold designB at hD;rw[ba] at hD;have hx:∀i,i<b.2.1.1.length->1<=(insOf b.2.1 i).2.2.length/\inB ((insOf b.2.1 i).2.2.getD ((insOf b.2.1 i).2.2.length-1) 0) 0 ((b.2.1.2.1.length:Int)-1)=true:=fun i hi=>by
  have h1:=(df.pin i hi).1;exact⟨h1,df.fac.net.1 i hi _ (by omega)⟩
 obtain⟨p1,p2⟩:=port_cnt (d:=dflt y105) hx (fun i hi=>df.fac.net.2 i hi) b.2.1.2.2.length (Nat.le_refl _);have hall:=all_getD (p:=fun x=>x==1) hD.2 (i:=t) (by
  unfold driveN;rw[p1]; omega)
 have h1:(driveN b.2.1.1.length b.2.1.2.2.length b.2.1.2.1.length (insOf b.2.1) (prtOf b.2.1)).getD t 0=1:=beq_iff_eq.1 hall;have h2:=p2 t (by omega);unfold driveN at h1;rw[h1] at h2;have h3:(plcs b.2.1).length=offs (insOf b.2.1) b.2.1.1.length+b.2.1.2.2.length:=places_len _ _ _ _;rw[h3];exact Int.ofNat.inj h2.symm
theorem r122(b:Y34)(hw:wf y34 b)(hb:blockOk b=true){t:Nat}(ht:t<b.2.2.length):u122 b.2.1 (t:Int)=some (drvV b t)/\0<=drvV b t/\(drvV b t).toNat < (plcs b.2.1).length:=by
 have df:=df_of (block_design hb).1;have hl:=df.len;obtain⟨i,h1,h2,h3,h4⟩:=drv_one (drv_cnt hb ht);have hv:drvV b t=(i:Int):=h4;refine⟨?_,by omega,by omega⟩;unfold u122;rw[r124 b.2.1 hw.2.1 df.fac.ni14 df.fac.np8 df.pin,vS,gP ⟨rfl,trivial⟩,lE];have key:=idx_some (n:=(plcs b.2.1).length) (by omega) (drvB (plcOf b.2.1) t) (F:=u122L1 (plcs b.2.1) (t:Int)) (fun g j hj=>by
  have e3:((j:Int)).toNat=j:=rfl;refine(if_pos (by simpa using hj)).trans ?_;rw[e3,gP ⟨oo,hj,(fun _=>oo),(fun _=>hj),trivial⟩,gP ⟨oo,trivial⟩];rfl) (fun g=>aE)
 refine key.trans ?_;rw[find_first h1 h2 (fun j hj=>by rw[h3 j (by omega)]; exact decide_eq_false (by omega)),hv]
theorem arc_facts{c:Y163}(h:cellOk isArcS c=true){j:Nat}(hj:j<c.2.2.2.1.length):isArcS c.2.2.1.length (pinOf c) (arcOf c j)=true:=by
 have h:cellB isArcS _ _ _ _ _ _ _ _ _=true:=h;unfold cellB arcsB at h;simp only[ba,dq] at h;have:=not_any.1 h.1.1.1.2.2 j hj;rw[Bool.or_eq_false_iff,Bool.not_eq_false'] at this;exact this.1
theorem arc_comb{n:Nat}{p:Nat->DPin}{a:DArc}(h:isArcS n p a=true)(hk:a.1<=3):((a.1=1/\(a.2.2.2.1=1∨a.2.2.2.1=2∨a.2.2.2.1=3))∨a.1=2∨a.1=3)/\areTables a.2.2.2.2.1 true=true/\areTables a.2.2.2.2.2 true=true:=by
 unfold isArcS at h;simp only[ba] at h;obtain⟨_,h⟩:=h;by_cases h1:a.1=1
 ·rw[if_pos h1] at h;simp only[ba] at h;have:=inB_iff.1 h.1.1.2;exact⟨.inl ⟨h1,by omega⟩,h.1.2,h.2⟩
 rw[if_neg h1] at h;by_cases h2:a.1=2∨a.1=3
 ·rw[if_pos h2] at h;simp only[ba] at h;exact⟨.inr h2,h.1.2,h.2⟩
 rw[if_neg h2] at h;by_cases h3:a.1=4∨a.1=5
 ·omega
 ·rw[if_neg h3] at h; cases h
theorem trans_none{k s:Int}(h:3<k):transV k s=[]:=by
 unfold transV;rw[if_neg (by rw[beq_iff_eq]; omega),if_neg (by rw[beq_iff_eq]; omega),if_pos (by rw[bne_iff_ne]; omega)]
theorem trans_kind{k s:Int}(h:0 < (transV k s).length):k=1∨k=2∨k=3:=by
 unfold transV at h;by_cases h2:(k==2)=true
 ·exact .inr (.inl (beq_iff_eq.1 h2))
 by_cases h3:(k==3)=true
 ·exact .inr (.inr (beq_iff_eq.1 h3))
 by_cases h1:(k != 1)=true
 ·rw[if_neg h2,if_neg h3,if_pos h1] at h;cases h
 ·exact .inl (by simpa using h1)
def cellF(b:Y34)(i:Nat)(s:List DLink):List DLink:=s++cellLinksD (offs (insOf b.2.1) i) (arcOf (celI b i)) (celI b i).2.2.2.1.length
theorem cellF_fold(b:Y34):∀n,fN (cellF b) n []=(fN (instLV b) n (0,[])).2
 | 0=>rfl
 | n+1=>by
   show cellF b n (fN (cellF b) n [])=(fN (instLV b) n (0,[])).2++cellLinksD (fN (instLV b) n (0,[])).1 (arcOf (celI b n)) (celI b n).2.2.2.1.length;have h1:(fN (instLV b) n (0,[])).1=(offs (insOf b.2.1) n:Int):=instLF_fst (fun _=>rfl) n;rw[cellF_fold b n,h1]; rfl
theorem sink_place{b:Y34}(df:DF b.1 b.2.1){t:Int}{k:Nat}(hk:k < (sinksV b.2.1 t).length):0<=(sinksV b.2.1 t).getD k 0/\(sinksV b.2.1 t).getD k 0<=1000:=by
 have:=sinksV_at hk;have:=df.len;omega
theorem r59(b:Y34)(hw:wf y34 b)(hb:blockOk b=true):u59 b=some (lV b):=by
 obtain⟨hd0,hlen,hwire⟩:=block_design hb;have df:=df_of hd0;have hd:=hw.2.1;have h14:=df.fac.ni14;have h30:=df.fac.nn30;have hpl:=df.len;unfold u59;refine(lF (n:=b.2.1.1.length) (by omega) (fun(i:Nat) (s:List DLink)=>((i:Int),s)) (cellF b) (fun i s=>s.length<=32*i) (J:=u59J0 b) (F:=u59L1 b) (fun g i s hi hI=>?_) (fun i s hi hI=>?_) (fun g s _=>aE) [] (Nat.le_refl _)).trans ?_
 ·have hI:s.length<=32*i:=hI;have e3:((i:Int)).toNat=i:=rfl;obtain⟨x1,x2,x3⟩:=inst_cell' df hi;obtain⟨c1,c2,c3,c4⟩:=cell_arcs x2;have hfind:=fun k hk=>r121 b.2.1 hd df (i:=i) (k:=k) hi hk;refine(if_pos (by simpa using hi)).trans ?_;rw[e3,gP ⟨oo,x1,trivial⟩,lE];refine(lF (n:=(celI b i).2.2.2.1.length) (by omega) (fun(j:Nat) (z:List DLink)=>((j:Int),z)) (carcF (offs (insOf b.2.1) i) (arcOf (celI b i))) (fun j z=>z.length<=s.length+4*j) (J:=u59J2 (i:Int) g) (F:=u59L3 (celI b i) b (i:Int) g) (fun g' j z hj hz=>?_) (fun j z hj hz=>?_) (fun g' z _=>aE) s (Nat.le_refl _)).trans ?_
  ·have hz:z.length<=s.length+4*j:=hz;have e4:((j:Int)).toNat=j:=rfl;obtain⟨a1,a2,a3,a4⟩:=c4 j hj;have ha:=arc_facts x2 hj;have j4:∀v,u59J4 (j:Int) g' v=g' (((j+1:Nat):Int),v):=fun v=>gP ⟨oo,trivial⟩;refine(if_pos (by simpa using hj)).trans ?_;rw[e4,gP ⟨oo,trivial⟩];show(if decide ((arcOf (celI b i) j).1<=3)=true then _ else _)=g' (((j+1:Nat):Int),carcF (offs (insOf b.2.1) i) (arcOf (celI b i)) j z);by_cases hk:(arcOf (celI b i) j).1<=3
   ·refine(if_pos (decide_eq_true hk)).trans ?_;obtain⟨k1,k2,k3⟩:=arc_comb ha hk;obtain⟨A,hA⟩:∃A:Nat,(arcOf (celI b i) j).2.1=(A:Int):=⟨(arcOf (celI b i) j).2.1.toNat,by omega⟩;obtain⟨B,hB⟩:∃B:Nat,(arcOf (celI b i) j).2.2.1=(B:Int):=⟨(arcOf (celI b i) j).2.2.1.toNat,by omega⟩;obtain⟨fA,lA⟩:=hfind A (by omega);obtain⟨fB,lB⟩:=hfind B (by omega);have hs:=r120 (arcOf (celI b i) j) z ((offs (insOf b.2.1) i+A:Nat):Int) ((offs (insOf b.2.1) i+B:Nat):Int) (j:Int) (by omega) (by omega) (by omega);have ee:=arc_eq k1 (offs (insOf b.2.1) i:Int) (A:Int) (B:Int) (j:Int) z;rw[<- Int.natCast_add,<- Int.natCast_add] at ee;rw[ee] at hs;show gd (ix (j:Int) (celI b i).2.2.2.1.length/\ix (j:Int) (celI b i).2.2.2.1.length/\(u121 b.2.1 (i:Int) (arcOf (celI b i) j).2.1).isSome=true/\ix (j:Int) (celI b i).2.2.2.1.length/\(u121 b.2.1 (i:Int) (arcOf (celI b i) j).2.2.1).isSome=true/\(u120 z (arcOf (celI b i) j) (vl (u121 b.2.1 (i:Int) (arcOf (celI b i) j).2.1)) (vl (u121 b.2.1 (i:Int) (arcOf (celI b i) j).2.2.1)) (j:Int)).isSome=true/\True) (lt (vl (u120 z (arcOf (celI b i) j) (vl (u121 b.2.1 (i:Int) (arcOf (celI b i) j).2.1)) (vl (u121 b.2.1 (i:Int) (arcOf (celI b i) j).2.2.1)) (j:Int))) fun v=>u59J4 (j:Int) g' v)=_;rw[hA,hB,fA,fB,vS,vS,hs,vS,gP ⟨oo,oo,rfl,oo,rfl,rfl,trivial⟩,lE,j4];unfold carcF;rw[hA,hB]
   ·refine(if_neg (by simpa using hk)).trans ?_;rw[j4];unfold carcF;rw[trans_none (by omega)];rfl
  ·have hz:z.length<=s.length+4*j:=hz;have:=carcF_len (offs (insOf b.2.1) i) (arcOf (celI b i)) j z;omega
  ·rw[carcF_app];exact gP ⟨oo,trivial⟩
 ·have hI:s.length<=32*i:=hI;obtain⟨x1,x2,x3⟩:=inst_cell' df hi;have c3:=(cell_arcs x2).2.2.1;have:=cellLinksD_len (offs (insOf b.2.1) i) (arcOf (celI b i)) (celI b i).2.2.2.1.length;unfold cellF;rw[List.length_append];omega
 ·have hcl:(fN (cellF b) b.2.1.1.length []).length<=500:=by
   have:=instLV_in df b.2.1.1.length (Nat.le_refl _);rw[cellF_fold];omega
  have hcv:fN (cellF b) b.2.1.1.length []=clinksV b:=cellF_fold b _;unfold lV;rw[hcv] at hcl ⊢;generalize clinksV b=z at hcl ⊢;unfold u59J0;rw[hlen];refine lF (n:=b.2.1.2.1.length) (by omega) (fun(i:Nat) (s:List DLink)=>((i:Int),s)) (netLF (drvV b) (fun i=>sinksV b.2.1 i)) (fun i s=>s.length<=500+160*i) (J:=fun s=>some s) (F:=u59L6 b) (fun g i s hi hI=>?_) (fun i s hi hI=>?_) (fun g s _=>aE) z hcl
  ·have hI:s.length<=500+160*i:=hI;have hi':i<b.2.2.length:=by omega
   have hs78:=(net_ok hb hi').s78;obtain⟨d1,d2,d3⟩:=r122 b hw hb hi';have es:u71 b.2.1 (i:Int)=some (sinksV b.2.1 i):=r71 b.2.1 hd df _;refine(if_pos (by simpa using hi)).trans ?_;rw[d1,vS,gP ⟨rfl,trivial⟩,lE,es,vS,gP ⟨rfl,trivial⟩,lE];refine(lF (n:=(sinksV b.2.1 i).length) (by omega) (fun(k:Nat) (y:List DLink)=>((k:Int),y)) (wsinkF (drvV b i) (sinksV b.2.1 i)) (fun k y=>y.length=s.length+2*k) (J:=u59J7 (i:Int) g) (F:=u59L8 (drvV b i) (sinksV b.2.1 i) (i:Int) g) (fun g8 k y hk hy=>?_) (fun k y hk hy=>?_) (fun g8 y _=>aE) s rfl).trans ?_
   ·have hy:y.length=s.length+2*k:=hy;have e4:((k:Int)).toNat=k:=rfl;have hsp:=sink_place df hk;have p1:=r123 y (drvV b i) ((sinksV b.2.1 i).getD k 0) 0 0 2 (k:Int) (by omega) hsp oo oo (by omega);have p2:=r123 (y++[(2*drvV b i+0,2*(sinksV b.2.1 i).getD k 0+0,2,(k:Int))]) (drvV b i) ((sinksV b.2.1 i).getD k 0) 1 1 2 (k:Int) (by omega) hsp oo oo (by rw[List.length_append]; show y.length+1<=_; omega);refine(if_pos (by simpa using hk)).trans ?_;rw[e4,p1,vS,gP ⟨oo,hk,rfl,trivial⟩,lE,p2,vS,gP ⟨oo,hk,rfl,trivial⟩,lE];exact gP ⟨oo,trivial⟩
   ·have hy:y.length=s.length+2*k:=hy;rw[wsinkF_len,hy]; omega
   ·exact gP ⟨oo,trivial⟩
  ·have hI:s.length<=500+160*i:=hI;have hs78:=(net_ok hb (show i<b.2.2.length by omega)).s78;unfold netLF;rw[wsink_len];show s.length+2*(sinksV b.2.1 i).length<=_;omega
theorem links_len{b:Y34}(hb:blockOk b=true):(lV b).length<=6000:=by
 have df:=df_of (block_design hb).1;have h14:=df.fac.ni14;have h1:=instLV_in df b.2.1.1.length (Nat.le_refl _);have h2:=netL_len (drvV b) (fun i=>sinksV b.2.1 i) (clinksV b) (n:=b.2.2.length) (c:=78) (fun i hi=>(net_ok hb hi).s78) b.2.2.length (Nat.le_refl _);have h3:=(block_design hb).2.1;have h30:=df.fac.nn30;have h4:(clinksV b).length=(fN (instLV b) b.2.1.1.length (0,[])).2.length:=rfl;unfold lV;omega
theorem link_is{b:Y34}{l:DLink}(h:l∈lV b):(∃i j t,i<b.2.1.1.length/\j < (celI b i).2.2.2.1.length/\t < (transV (arcOf (celI b i) j).1 (arcOf (celI b i) j).2.2.2.1).length/\l=cLink (offs (insOf b.2.1) i:Int) (arcOf (celI b i) j) j t) ∨
  ∃i k t,i<b.2.2.length/\k < (sinksV b.2.1 i).length/\t<2/\l=wLink (drvV b i) ((sinksV b.2.1 i).getD k 0) k t:=by
 rcases netLF_mem _ h with h | h
 ·exact .inl (instLF_mem (fun _=>rfl) _ h)
 ·exact .inr h
section
variable (b:Y34)
end
def hasB(l:List Int)(x:Int):Bool:=(List.range l.length).any fun j=>l.getD j 0==x
section
variable {b:Y34}
end
section
variable {b:Y34}
end
section
variable {b:Y34}
end
theorem wf9{v:Y34×Y152}(h:wfA (R54 v)):wf y34 v.1:=⟨h.1,⟨h.2.1,h.2.2.1,h.2.2.2.1⟩,h.2.2.2.2.1⟩
section
variable [Alw]
end
section
variable {b:Y34}
end
section
variable {b:Y34}
end
theorem wf_nil{e:Ty}:wf (.sl e) []:=⟨Nat.zero_le _,fun _ h=>nomatch h⟩
structure OGood(M N:Nat)(fr to:Nat->Nat)(lv:Nat->Bool)(out:List Nat):Prop where
 nd:out.Nodup
 lt:∀v∈out,v<N
 bef:∀i,i<M->lv i=true->∀q,q<out.length->out.getD q 0=to i->∃p,p<q/\out.getD p 0=fr i
theorem three{n:Int}(h0:0<=n)(h1:n<3)(a b c:Int):[a,b,c].getD n.toNat 0=a∨[a,b,c].getD n.toNat 0=b∨[a,b,c].getD n.toNat 0=c:=by
 have:n=0∨n=1∨n=2:=by omega
 rcases this with rfl | rfl | rfl
 ·exact .inl rfl
 ·exact .inr (.inl rfl)
 ·exact .inr (.inr rfl)
theorem corS_of{n:ByteArray}{a b c d:Int}(h1 : -10000<=a/\a<=10000)(h2 : -10000<=b/\b<=10000)(h3 : -10000<=c/\c<=10000)(h4 : -10000<=d/\d<=10000):corS (n,a,b,c,d):=⟨h1,h2,h3,h4⟩
theorem cor_ok{s:Y152}(h:Sd s):∃r,u89 s=some r/\(Sd r.2/\corS r.1):=by
 obtain⟨v0,s0,e0,hs0,a0,b0,-⟩:=nxt_ok (n:=3) h (by omega);have b0:=b0 (by omega);obtain⟨v1,s1,e1,hs1,a1,b1,-⟩:=nxt_ok (n:=20) hs0 (by omega);have b1:=b1 (by omega);obtain⟨v2,s2,e2,hs2,a2,b2,-⟩:=nxt_ok (n:=20) hs1 (by omega);have b2:=b2 (by omega);obtain⟨v3,s3,e3,hs3,a3,b3,-⟩:=nxt_ok (n:=60) hs2 (by omega);have b3:=b3 (by omega);obtain⟨v4,s4,e4,hs4,a4,b4,-⟩:=nxt_ok (n:=40) hs3 (by omega);have b4:=b4 (by omega);obtain⟨v5,s5,e5,hs5,a5,b5,-⟩:=nxt_ok (n:=30) hs4 (by omega);obtain⟨v6,s6,e6,hs6,a6,b6,-⟩:=nxt_ok (n:=3) hs5 (by omega);have b6:=b6 (by omega);obtain⟨v7,s7,e7,hs7,a7,b7,-⟩:=nxt_ok (n:=2) hs5 (by omega);have b7:=b7 (by omega);have t6:=three a6 b6 99 100 (-1);unfold u89;simp only[e0,e1,e2,vS,Option.isSome_some];refine gd_ex ⟨trivial,⟨a0,by simp; omega⟩,by simp; omega,trivial,oo,oo,trivial,oo,oo,trivial⟩ (lt_ex ?_);dsimp only;simp only[e3,vS,Option.isSome_some];refine gd_ex ⟨trivial,oo,oo,trivial⟩ (lt_ex ?_);dsimp only;simp only[e4,vS,Option.isSome_some];refine gd_ex ⟨trivial,oo,oo,trivial⟩ (lt_ex ?_);dsimp only;simp only[e5,vS,Option.isSome_some];refine gd_ex ⟨trivial,trivial⟩ (lt_ex ?_);dsimp only;split
 ·exact gd_ex ⟨oo,trivial⟩ ⟨_,rfl,hs5,corS_of oo oo oo oo⟩
 split
 ·simp only[e6,vS,Option.isSome_some];refine gd_ex ⟨trivial,⟨a6,by simp; omega⟩,by simp; omega,trivial⟩ (lt_ex ?_);dsimp only;exact⟨_,rfl,hs6,corS_of oo oo oo oo⟩
 split
 ·simp only[e7,vS,Option.isSome_some];refine gd_ex ⟨trivial,oo,trivial⟩ (lt_ex ?_);exact⟨_,rfl,hs7,corS_of oo oo oo oo⟩
 split
 ·exact⟨_,rfl,hs5,corS_of oo oo oo oo⟩
 ·exact⟨_,rfl,hs5,corS_of oo oo oo oo⟩
theorem slew_ok{s:Y152}(h:Sd s):∃r,u90 s=some r/\Sd r.2:=by
 obtain⟨v0,s0,e0,hs0,a0,b0,-⟩:=nxt_ok (n:=24) h (by omega);obtain⟨v1,s1,e1,hs1,a1,b1,-⟩:=nxt_ok (n:=3) hs0 (by omega);have b1:=b1 (by omega);obtain⟨v2,s2,e2,hs2,-,-,-⟩:=nxt_ok (n:=60) hs0 (by omega);unfold u90;simp only[e0,vS,Option.isSome_some];refine gd_ex ⟨trivial,trivial⟩ (lt_ex ?_);dsimp only;split
 ·simp only[e1,vS,Option.isSome_some];exact gd_ex ⟨trivial,⟨a1,by simp; omega⟩,by simp; omega,trivial⟩ (lt_ex ⟨_,rfl,hs1⟩)
 ·simp only[e2,vS,Option.isSome_some];exact gd_ex ⟨trivial,trivial⟩ (lt_ex ⟨_,rfl,hs2⟩)
theorem mode_ok{s:Y152}(h:Sd s):∃r,u91 s=some r/\Sd r.2:=by
 obtain⟨v0,s0,e0,hs0,a0,b0,-⟩:=nxt_ok (n:=24) h (by omega);obtain⟨v1,s1,e1,hs1,a1,b1,-⟩:=nxt_ok (n:=2) hs0 (by omega);have b1:=b1 (by omega);unfold u91;simp only[e0,vS,Option.isSome_some];refine gd_ex ⟨trivial,trivial⟩ (lt_ex ?_);dsimp only;split
 ·simp only[e1,vS,Option.isSome_some];exact gd_ex ⟨trivial,oo,oo,trivial⟩ (lt_ex ⟨_,rfl,hs1⟩)
 ·simp only[e1,vS,Option.isSome_some];exact gd_ex ⟨trivial,trivial⟩ (lt_ex ⟨_,rfl,hs1⟩)
theorem linkJ_ok{s:Y152}(h:Sd s){n:Int}(h0:n<=9223372036854775807):∃r,u101J0 s n=some r/\Sd r.2:=by
 obtain⟨v,s0,e0,hs0,-,-,-⟩:=nxt_ok (n:=16) h (by omega);obtain⟨q,s1,e1,hs1,qa,qb,-⟩:=nxt_ok (n:=2) hs0 (by omega);have qb:=qb (by omega);obtain⟨q2,s2,e2,hs2,-,-,-⟩:=nxt_ok (n:=n) hs0 h0;unfold u101J0;simp only[e0,vS,Option.isSome_some];refine gd_ex ⟨trivial,trivial⟩ (lt_ex ?_);dsimp only;split
 ·simp only[e1,vS,Option.isSome_some];exact gd_ex ⟨trivial,⟨qa,by simp; omega⟩,by simp; omega,trivial⟩ (lt_ex ⟨_,rfl,hs1⟩)
 ·simp only[e2,vS,Option.isSome_some];exact gd_ex ⟨trivial,trivial⟩ (lt_ex ⟨_,rfl,hs2⟩)
theorem link_ok{s:Y152}(h:Sd s){b:Y34}(hw:wf y34 b)(hm:cnt y34 b<=20000):∃r,u101 s b=some r/\Sd r.2:=by
 unfold u101;simp only[r23 b hw (Nat.le_trans hm (by decide)),vS,Option.isSome_some];cases hb:blockOk b with
 | false =>
   refine gd_ex ⟨trivial,trivial⟩ ?_;rw[if_neg (by decide)];exact linkJ_ok h (by omega)
 | true =>
   refine gd_ex ⟨trivial,trivial⟩ ?_;have hM:=links_len hb;rw[if_pos rfl];simp only[r59 b hw hb,vS,Option.isSome_some];exact gd_ex ⟨trivial,trivial⟩ (lt_ex (linkJ_ok h (by omega)))
section
variable [Alw]
theorem dlink_ok{c:List Int}(h:wf (.sl (.int .u8)) c):u46 c=some ():=by
 obtain⟨s,e,hs⟩:=from_ok h;refine u_of ?_;unfold u46;simp only[e,vS,Option.isSome_some];refine gd_ex ⟨trivial,trivial⟩ (lt_ex ?_);refine gd_ex ⟨trivial,hs.1⟩ (alp_ex ?_);intro v1 ⟨⟨t1,t2⟩,hw,hz⟩;obtain⟨q1,e1,h1,hc⟩:=cor_ok (s:=Z54 v1) (Sd_of hz t1);obtain⟨q2,e2,h2⟩:=link_ok (s:=q1.2) (b:=v1.1) h1 (wf9 hw) t2;obtain⟨q3,e3,h3⟩:=slew_ok (s:=q2.2) h2;obtain⟨q4,e4,h4⟩:=mode_ok (s:=q3.2) h3;refine u_of (gd_ex trivial ?_);simp only[e1,e2,e3,e4,vS,Option.isSome_some];exact gd_ex ⟨trivial,trivial,trivial,trivial,trivial⟩ (lt_ex (gd_ex ⟨t2,hc⟩ ⟨_,rfl,trivial⟩))
theorem k46:K46:=e46 k54 fun x hw _=>dlink_ok hw.1
end
end Go.Proofs.YtphnknndgfgepaaGreatDoor
end
section
namespace Go.Proofs.YtphnknndgfgepaaGreatDoor
open Go Go.Proofs Go.Proofs.Xv Go.Proofs.Xl Go.Proofs.Xd
theorem r1622(a b m:Int)(h : -1000000000000000000<=a)(h':a<=1000000000000000000)(hb:0<b):u162 a b m=some (divV a b m)/\u156 a b m=some (divV a b m):=by
 have t1:a.tdiv b<=1000000000000000000 /\ -1000000000000000000<=a.tdiv b:=by
  have h1:(a.tdiv b).natAbs<=a.natAbs:=by
   rw[Int.natAbs_tdiv];exact Nat.div_le_self _ _
  omega
 have g1:in64 (a.tdiv b-1)/\True:=⟨oo,trivial⟩;have g2:in64 (a.tdiv b+1)/\True:=⟨oo,trivial⟩;unfold u162 u156 divV;rw[gP (V:=0<b/\0<b/\True) ⟨hb,hb,trivial⟩,gP (V:=0<b/\True) ⟨hb,trivial⟩,gP (V:=0<b/\True) ⟨hb,trivial⟩,gP g1,gP g2,Bool.and_comm (m==0),Bool.and_comm (m==1)];by_cases c1:(decide (a.tmod b<0)&&m==0)=true
 ·rw[if_pos c1,if_pos c1]; exact⟨rfl,rfl⟩
 ·by_cases c2:(decide (0<a.tmod b)&&m==1)=true
  ·rw[if_neg c1,if_pos c2,if_neg c1,if_pos c2]; exact⟨rfl,rfl⟩
  ·rw[if_neg c1,if_neg c2,if_neg c1,if_neg c2]; exact⟨rfl,rfl⟩
end Go.Proofs.YtphnknndgfgepaaGreatDoor
end
